/-
  Contracts and plain laws, joined: part 9.
-/
import Derived.Test.YtpoobcnmhnbdlaaP17
import Derived.Test.YtpoobcnmhnbdlaaP13
import Derived.Shelf.SlicesE.Clone
import Derived.Ground.SlgnProg
namespace Go.Proofs.Ytpoobcnmhnbdlaa
open Go.ChangeShapes Go.WideShapes Go.ChangeAt Go.RowKit
set_option linter.unusedVariables false
set_option linter.unusedSimpArgs false
set_option maxRecDepth 100000
set_option maxHeartbeats 4000000
theorem nE {d:DictionaryD} {k:Nat} {b:Int} {x:aC} (hb:b=iV d k) (hx:d.costs[k]? =some x) (h: ¬0<x.num):b=iV d (k+1):=aFN hb (by rw [vE,aY hx,decide_eq_false h];rfl)
theorem nF {d:DictionaryD} {k:Nat} {b:Int} {x:aC} (hb:b=iV d k) (hx:d.costs[k]? =some x) (h:0<x.num) (h2:b<0):(k:Int)=iV d (k+1):=aDq hb (by rw [vE,aY hx,decide_eq_true h,decide_eq_true h2];rfl)
theorem kX {d:DictionaryD} {k:Nat} {b y z:Int} {x:aC} (hb:b=iV d k) (hx:d.costs[k]? =some x) (h:0<x.num) (hy:d.others[k]? =some y) (hz:d.others[b.toNat]? =some z) (h2:y<z):(k:Int)=iV d (k+1):=aDq hb (by rw [vE,aY hx,aY hy,aY hz,decide_eq_true h,decide_eq_true h2,Bool.or_true];rfl)
theorem nG {d:DictionaryD} {k:Nat} {b y z:Int} {x:aC} (hb:b=iV d k) (hx:d.costs[k]? =some x) (h1: ¬b<0) (hy:d.others[k]? =some y) (hz:d.others[b.toNat]? =some z) (h2: ¬y<z):b=iV d (k+1):=aFN hb (by rw [vE,aY hx,aY hy,aY hz,decide_eq_false h1,decide_eq_false h2,Bool.or_false,Bool.and_false])
theorem aCk {d:DictionaryD} (h:cB d=false):iC d= -1:=by rw [iC,if_neg (by rw [h];decide)]
theorem wW {d:DictionaryD} (h:cB d=true):iC d=eC d:=by rw [iC,if_pos h]
theorem tY {d:DictionaryD} {k:Nat} {b:Int} (hb:b=iV d k) (h:d.others.length=k):eC d=b:=by rw [eC,h,hb]
abbrev vG (d:DictionaryD):Prop:=gF Try.prog 30 [.agg [.sl 3 1 (d.basic.map aG),.sl 3 1 (d.others.map aG),.sl 29 1 (d.table.map aD),.sl 28 2 (d.limits.map aA),.sl 28 2 (d.costs.map aA),.int .i64 d.value.num,.int .i64 d.value.den]] (vI (eC d)) []
theorem aDw (d:DictionaryD) (hd:cB d=true):vG d:=by
 refine cT dR bK Try.func30 (by kernel_rfl) (.len d.costs.length<| .loop (Nat × Int) (Q2 Nat Int) [3,4,5,9,10,11,12,13,14,15,16,17,18,19,20,21,22,23,24,25,26,27,28,29,30,31,32,33,34,35] [500] (fun yy0=>[(9,vI (yy0.1:Int)),(3,vI yy0.2)]) (fun yy0=>[]) (fun yy0=>yy0.1≤d.others.length∧yy0.2=iV d yy0.1) (fun yy0=>d.others.length - yy0.1) (fun yy0=> .br (.elem _ aA d.costs (fun e12=> .br (.lit<| .lit<| .br (.back []) (.elem _ aG d.others (fun e24=> .elem _ aG d.others (fun e29=> .lit<| .lit<| .lit<| .lit<| .lit<| .br (.back []) (.back []))))) (.back []))) (.fin []))) (p:=(d.basic.map aG).length≤9223372036854775807→(d.others.map aG).length≤9223372036854775807→(d.table.map aD).length≤9223372036854775807→(d.limits.map aA).length≤9223372036854775807→(d.costs.map aA).length≤9223372036854775807→Lm aA d.costs∧((∃(k:Nat) (b:Int),(0:Int)=(k:Int)∧(-1:Int)=b∧k≤d.others.length∧b=iV d k)∧ ∀(k:Nat) (b:Int),(k≤d.others.length∧b=iV d k)→((decide ((k:Int)<((d.costs.length:Nat):Int)))=true→0≤(k:Int)∧Em aA d.costs k fun e12=>((decide ((0:Int)<e12.num))=true→((decide (b<(0:Int)))=true→dN ((k:Int)+(1:Int))∧ ∃(k' :Nat) (b' :Int),((k:Int)+(1:Int))=(k' :Int)∧(k:Int)=b' ∧(k' ≤d.others.length∧b' =iV d k')∧d.others.length - k' <d.others.length - k)∧((decide (b<(0:Int)))=false→0≤(k:Int)∧Em aG d.others k fun e24=>0≤b∧Em aG d.others ((b).toNat) fun e29=>((decide (e24<e29))=true→dN ((k:Int)+(1:Int))∧ ∃(k' :Nat) (b' :Int),((k:Int)+(1:Int))=(k' :Int)∧(k:Int)=b' ∧(k' ≤d.others.length∧b' =iV d k')∧d.others.length - k' <d.others.length - k)∧((decide (e24<e29))=false→dN ((k:Int)+(1:Int))∧ ∃(k' :Nat) (b' :Int),((k:Int)+(1:Int))=(k' :Int)∧b=b' ∧(k' ≤d.others.length∧b' =iV d k')∧d.others.length - k' <d.others.length - k)))∧((decide ((0:Int)<e12.num))=false→dN ((k:Int)+(1:Int))∧ ∃(k' :Nat) (b' :Int),((k:Int)+(1:Int))=(k' :Int)∧b=b' ∧(k' ≤d.others.length∧b' =iV d k')∧d.others.length - k' <d.others.length - k))∧((decide ((k:Int)<((d.costs.length:Nat):Int)))=false→b=(eC d)∧True))) (by kernel_rfl) ?_
 intro n0 n1 n2 n3 n4
 simp only [List.length_map] at n0 n1 n2 n3 n4
 obtain ⟨b1,b2,b3,b4,b5,b6,b7,b8⟩:=fR hd
 refine ⟨List.length_map _,⟨0,-1,rfl,rfl,Nat.zero_le _,rfl⟩,fun k b ⟨hk,hb⟩=>?_⟩
 refine ⟨fun c0=>?_,fun c0=>?_⟩
 ·replace c0:=yq c0
  have eb:=tD d k
  refine ⟨by omega,rfl,by omega,fun e12 h12=>?_⟩
  refine ⟨fun g17=>?_,fun g17=>?_⟩
  ·replace g17:=yq g17
   refine ⟨fun g20=>?_,fun g20=>?_⟩
   ·replace g20:=yq g20
    refine ⟨⟨by omega,by omega⟩,?_⟩
    exact ⟨k+1,(k:Int),rfl,rfl,⟨by omega,by first | exact nE hb h12 g17 | exact nF hb h12 g17 g20 | exact kX hb h12 g17 h24 h29 c1 | exact nG hb h12 g20 h24 h29 c1⟩,by omega⟩
   ·replace g20:=nq g20
    refine ⟨by omega,rfl,by omega,fun e24 h24=>?_⟩
    refine ⟨by omega,rfl,by omega,fun e29 h29=>?_⟩
    refine ⟨fun c1=>?_,fun c1=>?_⟩
    ·replace c1:=yq c1
     refine ⟨⟨by omega,by omega⟩,?_⟩
     exact ⟨k+1,(k:Int),rfl,rfl,⟨by omega,by first | exact nE hb h12 g17 | exact nF hb h12 g17 g20 | exact kX hb h12 g17 h24 h29 c1 | exact nG hb h12 g20 h24 h29 c1⟩,by omega⟩
    ·replace c1:=nq c1
     refine ⟨⟨by omega,by omega⟩,?_⟩
     exact ⟨k+1,b,rfl,rfl,⟨by omega,by first | exact nE hb h12 g17 | exact nF hb h12 g17 g20 | exact kX hb h12 g17 h24 h29 c1 | exact nG hb h12 g20 h24 h29 c1⟩,by omega⟩
  ·replace g17:=nq g17
   refine ⟨⟨by omega,by omega⟩,?_⟩
   exact ⟨k+1,b,rfl,rfl,⟨by omega,by first | exact nE hb h12 g17 | exact nF hb h12 g17 g20 | exact kX hb h12 g17 h24 h29 c1 | exact nG hb h12 g20 h24 h29 c1⟩,by omega⟩
 ·replace c0:=nq c0
  refine ⟨?_,trivial⟩
  ·first | (rw [aCk c0];done) | (rw [tY hb (by omega)];done) | (rw [wW c0,tY hb (by omega)];done)
abbrev aAl (d:DictionaryD):Prop:=gF Try.prog 24 [.agg [.sl 3 1 (d.basic.map aG),.sl 3 1 (d.others.map aG),.sl 29 1 (d.table.map aD),.sl 28 2 (d.limits.map aA),.sl 28 2 (d.costs.map aA),.int .i64 d.value.num,.int .i64 d.value.den]] (vI (iC d)) []
theorem aHf (d:DictionaryD) (h0:d.basic.length≤1048576) (h1:d.others.length≤1048576):aAl d:=by
 refine cT dR bK Try.func24 (by kernel_rfl) (.call (vB (cB d)) []<| .br (.fin []) (.loop (Nat × Int) (Q2 Nat Int) [3,4,8,9,10,11,12,13,14,15,16,17,18,19,20,21,22,23,24,25,26,27,28,29,30,31,32,33,34,35,36,37,38,39] [] (fun yy0=>[(4,vI (yy0.1:Int)),(3,vI yy0.2)]) (fun yy0=>[]) (fun yy0=>yy0.1≤d.others.length∧yy0.2=iV d yy0.1) (fun yy0=>d.others.length - yy0.1) (fun yy0=> .len d.others.length<| .br (.elem _ aA d.costs (fun e18=> .br (.lit<| .lit<| .br (.back []) (.elem _ aG d.others (fun e29=> .elem _ aG d.others (fun e34=> .lit<| .lit<| .lit<| .lit<| .lit<| .br (.back []) (.back []))))) (.back []))) (.fin [])))) (p:=(d.basic.map aG).length≤9223372036854775807→(d.others.map aG).length≤9223372036854775807→(d.table.map aD).length≤9223372036854775807→(d.limits.map aA).length≤9223372036854775807→(d.costs.map aA).length≤9223372036854775807→qX d∧(((!(cB d))=true→(-1:Int)=(iC d)∧True)∧((!(cB d))=false→(∃(k:Nat) (b:Int),(0:Int)=(k:Int)∧(-1:Int)=b∧k≤d.others.length∧b=iV d k)∧ ∀(k:Nat) (b:Int),(k≤d.others.length∧b=iV d k)→Lm aG d.others∧(((decide ((k:Int)<((d.others.length:Nat):Int)))=true→0≤(k:Int)∧Em aA d.costs k fun e18=>((decide ((0:Int)<e18.num))=true→((decide (b<(0:Int)))=true→dN ((k:Int)+(1:Int))∧ ∃(k' :Nat) (b' :Int),((k:Int)+(1:Int))=(k' :Int)∧(k:Int)=b' ∧(k' ≤d.others.length∧b' =iV d k')∧d.others.length - k' <d.others.length - k)∧((decide (b<(0:Int)))=false→0≤(k:Int)∧Em aG d.others k fun e29=>0≤b∧Em aG d.others ((b).toNat) fun e34=>((decide (e29<e34))=true→dN ((k:Int)+(1:Int))∧ ∃(k' :Nat) (b' :Int),((k:Int)+(1:Int))=(k' :Int)∧(k:Int)=b' ∧(k' ≤d.others.length∧b' =iV d k')∧d.others.length - k' <d.others.length - k)∧((decide (e29<e34))=false→dN ((k:Int)+(1:Int))∧ ∃(k' :Nat) (b' :Int),((k:Int)+(1:Int))=(k' :Int)∧b=b' ∧(k' ≤d.others.length∧b' =iV d k')∧d.others.length - k' <d.others.length - k)))∧((decide ((0:Int)<e18.num))=false→dN ((k:Int)+(1:Int))∧ ∃(k' :Nat) (b' :Int),((k:Int)+(1:Int))=(k' :Int)∧b=b' ∧(k' ≤d.others.length∧b' =iV d k')∧d.others.length - k' <d.others.length - k))∧((decide ((k:Int)<((d.others.length:Nat):Int)))=false→b=(iC d)∧True))))) (by kernel_rfl) ?_
 intro n0 n1 n2 n3 n4
 simp only [List.length_map] at n0 n1 n2 n3 n4
 refine ⟨aAk d (by omega) (by omega),fun c0=>?_,fun c0=>?_⟩
 ·replace c0:=nt c0
  refine ⟨?_,trivial⟩
  ·first | (rw [aCk c0];done) | (rw [tY hb (by omega)];done) | (rw [wW c0,tY hb (by omega)];done)
 ·replace c0:=nf c0
  have hd:cB d=true:=c0
  obtain ⟨b1,b2,b3,b4,b5,b6,b7,b8⟩:=fR hd
  refine ⟨⟨0,-1,rfl,rfl,Nat.zero_le _,rfl⟩,fun k b ⟨hk,hb⟩=>?_⟩
  refine ⟨List.length_map _,fun c1=>?_,fun c1=>?_⟩
  ·replace c1:=yq c1
   have eb:=tD d k
   refine ⟨by omega,rfl,by omega,fun e18 h18=>?_⟩
   refine ⟨fun g22=>?_,fun g22=>?_⟩
   ·replace g22:=yq g22
    refine ⟨fun g25=>?_,fun g25=>?_⟩
    ·replace g25:=yq g25
     refine ⟨⟨by omega,by omega⟩,?_⟩
     exact ⟨k+1,(k:Int),rfl,rfl,⟨by omega,by first | exact nE hb h18 g22 | exact nF hb h18 g22 g25 | exact kX hb h18 g22 h29 h34 c2 | exact nG hb h18 g25 h29 h34 c2⟩,by omega⟩
    ·replace g25:=nq g25
     refine ⟨by omega,rfl,by omega,fun e29 h29=>?_⟩
     refine ⟨by omega,rfl,by omega,fun e34 h34=>?_⟩
     refine ⟨fun c2=>?_,fun c2=>?_⟩
     ·replace c2:=yq c2
      refine ⟨⟨by omega,by omega⟩,?_⟩
      exact ⟨k+1,(k:Int),rfl,rfl,⟨by omega,by first | exact nE hb h18 g22 | exact nF hb h18 g22 g25 | exact kX hb h18 g22 h29 h34 c2 | exact nG hb h18 g25 h29 h34 c2⟩,by omega⟩
     ·replace c2:=nq c2
      refine ⟨⟨by omega,by omega⟩,?_⟩
      exact ⟨k+1,b,rfl,rfl,⟨by omega,by first | exact nE hb h18 g22 | exact nF hb h18 g22 g25 | exact kX hb h18 g22 h29 h34 c2 | exact nG hb h18 g25 h29 h34 c2⟩,by omega⟩
   ·replace g22:=nq g22
    refine ⟨⟨by omega,by omega⟩,?_⟩
    exact ⟨k+1,b,rfl,rfl,⟨by omega,by first | exact nE hb h18 g22 | exact nF hb h18 g22 g25 | exact kX hb h18 g22 h29 h34 c2 | exact nG hb h18 g25 h29 h34 c2⟩,by omega⟩
  ·replace c1:=nq c1
   refine ⟨?_,trivial⟩
   ·first | (rw [aCk c0];done) | (rw [tY hb (by omega)];done) | (rw [wW c0,tY hb (by omega)];done)
theorem aN {d:DictionaryD} {i j:Nat} {r:List aC} {x:aC} (hr:d.table[i]? =some r) (hx:r[j]? =some x):gI d i j=x:=by rw [gI,aY hr,aY hx]
theorem iW {d:DictionaryD} {j n k:Nat} {b:Int} {l x:aC} {r:List aC} (hk:k<n) (hr:d.table[k]? =some r) (hx:r[j]? =some x) (h:x.num≤0):eH d j (n - k) k b l=eH d j (n - (k+1)) (k+1) b l:=aEc hk (by rw [aN hr hx];exact h)
theorem kL {d:DictionaryD} {j n k:Nat} {b:Int} {l x m:aC} {r:List aC} (hk:k<n) (hr:d.table[k]? =some r) (hx:r[j]? =some x) (h: ¬x.num≤0) (hm:d.limits[k]? =some m) (h2:(aQ m x).2=false):eH d j (n - k) k b l= -1:=aGF hk (by rw [aN hr hx];exact h) (by rw [aN hr hx,aY hm];exact h2)
theorem dH {d:DictionaryD} {j n k:Nat} {b:Int} {l x m:aC} {r:List aC} (hk:k<n) (hr:d.table[k]? =some r) (hx:r[j]? =some x) (h: ¬x.num≤0) (hm:d.limits[k]? =some m) (h2:(aQ m x).2=true) (h3:kQ d b (cG (aQ m x).1 l) k=true):eH d j (n - k) k b l=eH d j (n - (k+1)) (k+1) (k:Int) (aQ m x).1:=by
 have e:=aGG (d:=d) (j:=j) (b:=b) (l:=l) hk (by rw [aN hr hx];exact h) (by rw [aN hr hx,aY hm];exact h2) (by rw [aN hr hx,aY hm];exact h3)
 rw [e,aN hr hx,aY hm]
theorem gG {d:DictionaryD} {j n k:Nat} {b:Int} {l x m:aC} {r:List aC} (hk:k<n) (hr:d.table[k]? =some r) (hx:r[j]? =some x) (h: ¬x.num≤0) (hm:d.limits[k]? =some m) (h2:(aQ m x).2=true) (h3:kQ d b (cG (aQ m x).1 l) k=false):eH d j (n - k) k b l=eH d j (n - (k+1)) (k+1) b l:=aH9 hk (by rw [aN hr hx];exact h) (by rw [aN hr hx,aY hm];exact h2) (by rw [aN hr hx,aY hm];exact h3)
theorem rN {d:DictionaryD} {b c:Int} {k:Nat} (h:b<0):kQ d b c k=true:=by rw [kQ,decide_eq_true h];rfl
theorem rO {d:DictionaryD} {b c:Int} {k:Nat} (h:c<0):kQ d b c k=true:=by rw [kQ,decide_eq_true h];simp
theorem rP {d:DictionaryD} {b c y z:Int} {k:Nat} (h:c=0) (hy:d.basic[k]? =some y) (hz:d.basic[b.toNat]? =some z) (h2:y<z):kQ d b c k=true:=by rw [kQ,decide_eq_true h,aY hy,aY hz,decide_eq_true h2];simp
theorem rQ {d:DictionaryD} {b c:Int} {k:Nat} (h: ¬b<0) (h1: ¬c<0) (h2: ¬c=0):kQ d b c k=false:=by rw [kQ,decide_eq_false h,decide_eq_false h1,decide_eq_false h2];rfl
theorem rR {d:DictionaryD} {b c y z:Int} {k:Nat} (h: ¬b<0) (h1: ¬c<0) (hy:d.basic[k]? =some y) (hz:d.basic[b.toNat]? =some z) (h2: ¬y<z):kQ d b c k=false:=by rw [kQ,decide_eq_false h,decide_eq_false h1,aY hy,aY hz,decide_eq_false h2];simp
theorem gY {d:DictionaryD} {j k:Nat} {b:Int} {l:aC} (h:d.basic.length≤k) (hv:eH d j (d.basic.length - k) k b l=fJ d j):fJ d j=b:=by rw [←hv,Nat.sub_eq_zero_of_le h,eH]
theorem iL {d:DictionaryD} {j:Int} (h:cB d=true) (hj:0≤j∧j<d.others.length):lH d j=fJ d j.toNat:=by rw [lH,if_pos ⟨h,hj⟩]
theorem tZ {d:DictionaryD} {j:Int} (h:cB d=false):lH d j= -1:=by rw [lH,if_neg (by rw [h];simp)]
theorem qG {d:DictionaryD} {j:Int} (h: ¬(0≤j∧j<d.others.length)):lH d j= -1:=by rw [lH,if_neg (fun q=>h q.2)]
abbrev aAm (d:DictionaryD) (j:Int):Prop:=gF Try.prog 31 [.agg [.sl 3 1 (d.basic.map aG),.sl 3 1 (d.others.map aG),.sl 29 1 (d.table.map aD),.sl 28 2 (d.limits.map aA),.sl 28 2 (d.costs.map aA),.int .i64 d.value.num,.int .i64 d.value.den],.one (.int .i64 j)] (vI (fJ d j.toNat)) []
theorem aHg (d:DictionaryD) (j:Int) (hd:cB d=true) (hj:0≤j∧j<d.others.length):aAm d j:=by
 refine cT dR bK Try.func31 (by kernel_rfl) (.len d.basic.length<| .loop (Nat × Int × Int × Int) (Q4 Nat Int Int Int) [5,7,8,9,10,15,16,17,18,19,20,21,22,23,24,25,26,27,28,29,30,31,32,33,34,35,36,37,38,39,40,41,42,43,44,45,46,47,48,49,50,51,52,53,54,55,56,57,58,59,60,61,62,63,64,65,66,67,68,69,70,71,72,73,74,75] [600,800] (fun yy0=>[(15,vI (yy0.1:Int)),(5,vI yy0.2.1)]) (fun yy0=>[(600,some (.box 28 [vI yy0.2.2.1,vI yy0.2.2.2]))]) (fun yy0=>yy0.1≤d.basic.length∧(-1≤yy0.2.1∧yy0.2.1<yy0.1)∧eH d j.toNat (d.basic.length - yy0.1) yy0.1 yy0.2.1 ⟨yy0.2.2.1,yy0.2.2.2⟩=fJ d j.toNat) (fun yy0=>d.basic.length - yy0.1) (fun yy0=> .br (.elem _ aD d.table (fun e21=> .elem _ aA e21 (fun e24=> .br (.back [(600,600)]) (.elem _ aA d.limits (fun e32=> .elem _ aD d.table (fun e37=> .elem _ aA e37 (fun e40=>dA (qT e32 e40)<| .br (.fin []) (.call (vI (cG ((aQ e32 e40).1) (⟨yy0.2.2.1,yy0.2.2.2⟩:aC))) []<| .br (.back [(600,600)]) (.lit<| .lit<| .br (.back [(600,600)]) (.lit<| .lit<| .br (.elem _ aG d.basic (fun e63=> .elem _ aG d.basic (fun e68=> .lit<| .lit<| .lit<| .lit<| .lit<| .br (.back [(600,600)]) (.back [(600,600)])))) (.back [(600,600)]))))))))))) (.fin []))) (p:=(d.basic.map aG).length≤9223372036854775807→(d.others.map aG).length≤9223372036854775807→(d.table.map aD).length≤9223372036854775807→(d.limits.map aA).length≤9223372036854775807→(d.costs.map aA).length≤9223372036854775807→Lm aG d.basic∧((∃(k:Nat) (b:Int) (ln:Int) (ld:Int),(0:Int)=(k:Int)∧(-1:Int)=b∧(0:Int)=ln∧(0:Int)=ld∧k≤d.basic.length∧(-1≤b∧b<k)∧eH d j.toNat (d.basic.length - k) k b ⟨ln,ld⟩=fJ d j.toNat)∧ ∀(k:Nat) (b:Int) (ln:Int) (ld:Int),(k≤d.basic.length∧(-1≤b∧b<k)∧eH d j.toNat (d.basic.length - k) k b ⟨ln,ld⟩=fJ d j.toNat)→((decide ((k:Int)<((d.basic.length:Nat):Int)))=true→0≤(k:Int)∧Em aD d.table k fun e21=>0≤j∧Em aA e21 ((j).toNat) fun e24=>((decide (e24.num≤(0:Int)))=true→dN ((k:Int)+(1:Int))∧ ∃(k' :Nat) (b' :Int) (ln' :Int) (ld' :Int),((k:Int)+(1:Int))=(k' :Int)∧b=b' ∧ln=ln' ∧ld=ld' ∧(k' ≤d.basic.length∧(-1≤b' ∧b' <k')∧eH d j.toNat (d.basic.length - k') k' b' ⟨ln',ld'⟩=fJ d j.toNat)∧d.basic.length - k' <d.basic.length - k)∧((decide (e24.num≤(0:Int)))=false→0≤(k:Int)∧Em aA d.limits k fun e32=>0≤(k:Int)∧Em aD d.table k fun e37=>0≤j∧Em aA e37 ((j).toNat) fun e40=>uZ e32 e40∧(((!((aQ e32 e40).2))=true→(-1:Int)=(fJ d j.toNat)∧True)∧((!((aQ e32 e40).2))=false→aAc ((aQ e32 e40).1) (⟨ln,ld⟩:aC)∧(((decide (b<(0:Int)))=true→dN ((k:Int)+(1:Int))∧ ∃(k' :Nat) (b' :Int) (ln' :Int) (ld' :Int),((k:Int)+(1:Int))=(k' :Int)∧(k:Int)=b' ∧(((aQ e32 e40).1).num)=ln' ∧(((aQ e32 e40).1).den)=ld' ∧(k' ≤d.basic.length∧(-1≤b' ∧b' <k')∧eH d j.toNat (d.basic.length - k') k' b' ⟨ln',ld'⟩=fJ d j.toNat)∧d.basic.length - k' <d.basic.length - k)∧((decide (b<(0:Int)))=false→((decide ((cG ((aQ e32 e40).1) (⟨ln,ld⟩:aC))<(0:Int)))=true→dN ((k:Int)+(1:Int))∧ ∃(k' :Nat) (b' :Int) (ln' :Int) (ld' :Int),((k:Int)+(1:Int))=(k' :Int)∧(k:Int)=b' ∧(((aQ e32 e40).1).num)=ln' ∧(((aQ e32 e40).1).den)=ld' ∧(k' ≤d.basic.length∧(-1≤b' ∧b' <k')∧eH d j.toNat (d.basic.length - k') k' b' ⟨ln',ld'⟩=fJ d j.toNat)∧d.basic.length - k' <d.basic.length - k)∧((decide ((cG ((aQ e32 e40).1) (⟨ln,ld⟩:aC))<(0:Int)))=false→((decide ((cG ((aQ e32 e40).1) (⟨ln,ld⟩:aC))=(0:Int)))=true→0≤(k:Int)∧Em aG d.basic k fun e63=>0≤b∧Em aG d.basic ((b).toNat) fun e68=>((decide (e63<e68))=true→dN ((k:Int)+(1:Int))∧ ∃(k' :Nat) (b' :Int) (ln' :Int) (ld' :Int),((k:Int)+(1:Int))=(k' :Int)∧(k:Int)=b' ∧(((aQ e32 e40).1).num)=ln' ∧(((aQ e32 e40).1).den)=ld' ∧(k' ≤d.basic.length∧(-1≤b' ∧b' <k')∧eH d j.toNat (d.basic.length - k') k' b' ⟨ln',ld'⟩=fJ d j.toNat)∧d.basic.length - k' <d.basic.length - k)∧((decide (e63<e68))=false→dN ((k:Int)+(1:Int))∧ ∃(k' :Nat) (b' :Int) (ln' :Int) (ld' :Int),((k:Int)+(1:Int))=(k' :Int)∧b=b' ∧ln=ln' ∧ld=ld' ∧(k' ≤d.basic.length∧(-1≤b' ∧b' <k')∧eH d j.toNat (d.basic.length - k') k' b' ⟨ln',ld'⟩=fJ d j.toNat)∧d.basic.length - k' <d.basic.length - k))∧((decide ((cG ((aQ e32 e40).1) (⟨ln,ld⟩:aC))=(0:Int)))=false→dN ((k:Int)+(1:Int))∧ ∃(k' :Nat) (b' :Int) (ln' :Int) (ld' :Int),((k:Int)+(1:Int))=(k' :Int)∧b=b' ∧ln=ln' ∧ld=ld' ∧(k' ≤d.basic.length∧(-1≤b' ∧b' <k')∧eH d j.toNat (d.basic.length - k') k' b' ⟨ln',ld'⟩=fJ d j.toNat)∧d.basic.length - k' <d.basic.length - k))))))))∧((decide ((k:Int)<((d.basic.length:Nat):Int)))=false→b=(fJ d j.toNat)∧True))) (by kernel_rfl) ?_
 intro n0 n1 n2 n3 n4
 simp only [List.length_map] at n0 n1 n2 n3 n4
 obtain ⟨b1,b2,b3,b4,b5,b6,b7,b8⟩:=fR hd
 refine ⟨List.length_map _,⟨0,-1,0,0,rfl,rfl,rfl,rfl,Nat.zero_le _,by omega,rfl⟩,fun k b ln ld ⟨hk,hb,hv⟩=>?_⟩
 refine ⟨fun c0=>?_,fun c0=>?_⟩
 ·replace c0:=yq c0
  refine ⟨by omega,rfl,by omega,fun e21 h21=>?_⟩
  have hrl:=(b5 _ (List.mem_of_getElem? h21)).1
  refine ⟨by omega,rfl,by omega,fun e24 h24=>?_⟩
  refine ⟨fun c1=>?_,fun c1=>?_⟩
  ·replace c1:=yq c1
   refine ⟨⟨by omega,by omega⟩,?_⟩
   exact ⟨k+1,b,ln,ld,rfl,rfl,rfl,rfl,⟨by omega,by omega,by first | exact (iW (by omega) h21 h24 c1).symm.trans hv | exact (dH (by omega) h21 h24 c1 h32 c2 (rN g52)).symm.trans hv | exact (dH (by omega) h21 h24 c1 h32 c2 (rO g56)).symm.trans hv | exact (dH (by omega) h21 h24 c1 h32 c2 (rP g59 h63 h68 c3)).symm.trans hv | exact (gG (by omega) h21 h24 c1 h32 c2 (rQ g52 g56 g59)).symm.trans hv | exact (gG (by omega) h21 h24 c1 h32 c2 (rR g52 g56 h63 h68 c3)).symm.trans hv⟩,by omega⟩
  ·replace c1:=nq c1
   refine ⟨by omega,rfl,by omega,fun e32 h32=>?_⟩
   refine ⟨by omega,rfl,by omega,fun e37 h37=>?_⟩
   obtain rfl:=dE h21 h37
   refine ⟨by omega,rfl,by omega,fun e40 h40=>?_⟩
   obtain rfl:=dE h24 h40
   refine ⟨aDg e32 e40,fun c2=>?_,fun c2=>?_⟩
   ·replace c2:=nt c2
    refine ⟨?_,trivial⟩
    ·first | (rw [tZ g15];done) | (rw [qG (by omega)];done) | (rw [gY (by omega) hv];done) | (rw [iL hd hj,gY (by omega) hv];done) | (rw [←hv,kL (by omega) h21 h24 c1 h32 c2];done) | (rw [iL hd hj,←hv,kL (by omega) h21 h24 c1 h32 c2];done)
   ·replace c2:=nf c2
    refine ⟨aH2 ((aQ e32 e40).1) (⟨ln,ld⟩:aC),fun g52=>?_,fun g52=>?_⟩
    ·replace g52:=yq g52
     refine ⟨⟨by omega,by omega⟩,?_⟩
     exact ⟨k+1,(k:Int),((aQ e32 e40).1).num,((aQ e32 e40).1).den,rfl,rfl,rfl,rfl,⟨by omega,by omega,by first | exact (iW (by omega) h21 h24 c1).symm.trans hv | exact (dH (by omega) h21 h24 c1 h32 c2 (rN g52)).symm.trans hv | exact (dH (by omega) h21 h24 c1 h32 c2 (rO g56)).symm.trans hv | exact (dH (by omega) h21 h24 c1 h32 c2 (rP g59 h63 h68 c3)).symm.trans hv | exact (gG (by omega) h21 h24 c1 h32 c2 (rQ g52 g56 g59)).symm.trans hv | exact (gG (by omega) h21 h24 c1 h32 c2 (rR g52 g56 h63 h68 c3)).symm.trans hv⟩,by omega⟩
    ·replace g52:=nq g52
     refine ⟨fun g56=>?_,fun g56=>?_⟩
     ·replace g56:=yq g56
      refine ⟨⟨by omega,by omega⟩,?_⟩
      exact ⟨k+1,(k:Int),((aQ e32 e40).1).num,((aQ e32 e40).1).den,rfl,rfl,rfl,rfl,⟨by omega,by omega,by first | exact (iW (by omega) h21 h24 c1).symm.trans hv | exact (dH (by omega) h21 h24 c1 h32 c2 (rN g52)).symm.trans hv | exact (dH (by omega) h21 h24 c1 h32 c2 (rO g56)).symm.trans hv | exact (dH (by omega) h21 h24 c1 h32 c2 (rP g59 h63 h68 c3)).symm.trans hv | exact (gG (by omega) h21 h24 c1 h32 c2 (rQ g52 g56 g59)).symm.trans hv | exact (gG (by omega) h21 h24 c1 h32 c2 (rR g52 g56 h63 h68 c3)).symm.trans hv⟩,by omega⟩
     ·replace g56:=nq g56
      refine ⟨fun g59=>?_,fun g59=>?_⟩
      ·replace g59:=yq g59
       refine ⟨by omega,rfl,by omega,fun e63 h63=>?_⟩
       refine ⟨by omega,rfl,by omega,fun e68 h68=>?_⟩
       refine ⟨fun c3=>?_,fun c3=>?_⟩
       ·replace c3:=yq c3
        refine ⟨⟨by omega,by omega⟩,?_⟩
        exact ⟨k+1,(k:Int),((aQ e32 e40).1).num,((aQ e32 e40).1).den,rfl,rfl,rfl,rfl,⟨by omega,by omega,by first | exact (iW (by omega) h21 h24 c1).symm.trans hv | exact (dH (by omega) h21 h24 c1 h32 c2 (rN g52)).symm.trans hv | exact (dH (by omega) h21 h24 c1 h32 c2 (rO g56)).symm.trans hv | exact (dH (by omega) h21 h24 c1 h32 c2 (rP g59 h63 h68 c3)).symm.trans hv | exact (gG (by omega) h21 h24 c1 h32 c2 (rQ g52 g56 g59)).symm.trans hv | exact (gG (by omega) h21 h24 c1 h32 c2 (rR g52 g56 h63 h68 c3)).symm.trans hv⟩,by omega⟩
       ·replace c3:=nq c3
        refine ⟨⟨by omega,by omega⟩,?_⟩
        exact ⟨k+1,b,ln,ld,rfl,rfl,rfl,rfl,⟨by omega,by omega,by first | exact (iW (by omega) h21 h24 c1).symm.trans hv | exact (dH (by omega) h21 h24 c1 h32 c2 (rN g52)).symm.trans hv | exact (dH (by omega) h21 h24 c1 h32 c2 (rO g56)).symm.trans hv | exact (dH (by omega) h21 h24 c1 h32 c2 (rP g59 h63 h68 c3)).symm.trans hv | exact (gG (by omega) h21 h24 c1 h32 c2 (rQ g52 g56 g59)).symm.trans hv | exact (gG (by omega) h21 h24 c1 h32 c2 (rR g52 g56 h63 h68 c3)).symm.trans hv⟩,by omega⟩
      ·replace g59:=nq g59
       refine ⟨⟨by omega,by omega⟩,?_⟩
       exact ⟨k+1,b,ln,ld,rfl,rfl,rfl,rfl,⟨by omega,by omega,by first | exact (iW (by omega) h21 h24 c1).symm.trans hv | exact (dH (by omega) h21 h24 c1 h32 c2 (rN g52)).symm.trans hv | exact (dH (by omega) h21 h24 c1 h32 c2 (rO g56)).symm.trans hv | exact (dH (by omega) h21 h24 c1 h32 c2 (rP g59 h63 h68 c3)).symm.trans hv | exact (gG (by omega) h21 h24 c1 h32 c2 (rQ g52 g56 g59)).symm.trans hv | exact (gG (by omega) h21 h24 c1 h32 c2 (rR g52 g56 h63 h68 c3)).symm.trans hv⟩,by omega⟩
 ·replace c0:=nq c0
  refine ⟨?_,trivial⟩
  ·first | (rw [tZ g15];done) | (rw [qG (by omega)];done) | (rw [gY (by omega) hv];done) | (rw [iL hd hj,gY (by omega) hv];done) | (rw [←hv,kL (by omega) h21 h24 c1 h32 c2];done) | (rw [iL hd hj,←hv,kL (by omega) h21 h24 c1 h32 c2];done)
abbrev aAn (d:DictionaryD) (j:Int):Prop:=gF Try.prog 26 [.agg [.sl 3 1 (d.basic.map aG),.sl 3 1 (d.others.map aG),.sl 29 1 (d.table.map aD),.sl 28 2 (d.limits.map aA),.sl 28 2 (d.costs.map aA),.int .i64 d.value.num,.int .i64 d.value.den],.one (.int .i64 j)] (vI (lH d j)) []
theorem aHh (d:DictionaryD) (j:Int) (h0:d.basic.length≤1048576) (h1:d.others.length≤1048576):aAn d j:=by
 refine cT dR bK Try.func26 (by kernel_rfl) (.call (vB (cB d)) []<| .br (.fin []) (.len d.others.length<| .call (vB (decide ((0:Int)≤j∧j≤(((d.others.length:Nat):Int) - (1:Int))))) []<| .lit<| .lit<| .br (.fin []) (.loop (Nat × Int × Int × Int) (Q4 Nat Int Int Int) [5,7,8,9,10,24,25,26,27,28,29,30,31,32,33,34,35,36,37,38,39,40,41,42,43,44,45,46,47,48,49,50,51,52,53,54,55,56,57,58,59,60,61,62,63,64,65,66,67,68,69,70,71,72,73,74,75,76,77,78,79,80,81,82,83,84,85,86,87] [600,800] (fun yy0=>[(7,vI (yy0.1:Int)),(5,vI yy0.2.1)]) (fun yy0=>[(600,some (.box 28 [vI yy0.2.2.1,vI yy0.2.2.2]))]) (fun yy0=>yy0.1≤d.basic.length∧(-1≤yy0.2.1∧yy0.2.1<yy0.1)∧eH d j.toNat (d.basic.length - yy0.1) yy0.1 yy0.2.1 ⟨yy0.2.2.1,yy0.2.2.2⟩=fJ d j.toNat) (fun yy0=>d.basic.length - yy0.1) (fun yy0=> .len d.basic.length<| .br (.elem _ aD d.table (fun e34=> .elem _ aA e34 (fun e37=> .br (.back [(600,600)]) (.elem _ aA d.limits (fun e45=> .elem _ aD d.table (fun e50=> .elem _ aA e50 (fun e53=>dA (mE e45 e53)<| .br (.fin []) (.call (vI (cG ((aQ e45 e53).1) (⟨yy0.2.2.1,yy0.2.2.2⟩:aC))) []<| .br (.back [(600,600)]) (.lit<| .lit<| .br (.back [(600,600)]) (.lit<| .lit<| .br (.elem _ aG d.basic (fun e76=> .elem _ aG d.basic (fun e81=> .lit<| .lit<| .lit<| .lit<| .lit<| .br (.back [(600,600)]) (.back [(600,600)])))) (.back [(600,600)]))))))))))) (.fin []))))) (p:=(d.basic.map aG).length≤9223372036854775807→(d.others.map aG).length≤9223372036854775807→(d.table.map aD).length≤9223372036854775807→(d.limits.map aA).length≤9223372036854775807→(d.costs.map aA).length≤9223372036854775807→qX d∧(((!(cB d))=true→(-1:Int)=(lH d j)∧True)∧((!(cB d))=false→Lm aG d.others∧(dN (((d.others.length:Nat):Int) - (1:Int))∧(iJ j (0:Int) (((d.others.length:Nat):Int) - (1:Int))∧(((!(decide ((0:Int)≤j∧j≤(((d.others.length:Nat):Int) - (1:Int)))))=true→(-1:Int)=(lH d j)∧True)∧((!(decide ((0:Int)≤j∧j≤(((d.others.length:Nat):Int) - (1:Int)))))=false→(∃(k:Nat) (b:Int) (ln:Int) (ld:Int),(0:Int)=(k:Int)∧(-1:Int)=b∧(0:Int)=ln∧(0:Int)=ld∧k≤d.basic.length∧(-1≤b∧b<k)∧eH d j.toNat (d.basic.length - k) k b ⟨ln,ld⟩=fJ d j.toNat)∧ ∀(k:Nat) (b:Int) (ln:Int) (ld:Int),(k≤d.basic.length∧(-1≤b∧b<k)∧eH d j.toNat (d.basic.length - k) k b ⟨ln,ld⟩=fJ d j.toNat)→Lm aG d.basic∧(((decide ((k:Int)<((d.basic.length:Nat):Int)))=true→0≤(k:Int)∧Em aD d.table k fun e34=>0≤j∧Em aA e34 ((j).toNat) fun e37=>((decide (e37.num≤(0:Int)))=true→dN ((k:Int)+(1:Int))∧ ∃(k' :Nat) (b' :Int) (ln' :Int) (ld' :Int),((k:Int)+(1:Int))=(k' :Int)∧b=b' ∧ln=ln' ∧ld=ld' ∧(k' ≤d.basic.length∧(-1≤b' ∧b' <k')∧eH d j.toNat (d.basic.length - k') k' b' ⟨ln',ld'⟩=fJ d j.toNat)∧d.basic.length - k' <d.basic.length - k)∧((decide (e37.num≤(0:Int)))=false→0≤(k:Int)∧Em aA d.limits k fun e45=>0≤(k:Int)∧Em aD d.table k fun e50=>0≤j∧Em aA e50 ((j).toNat) fun e53=>oL e45 e53∧(((!((aQ e45 e53).2))=true→(-1:Int)=(lH d j)∧True)∧((!((aQ e45 e53).2))=false→aAd ((aQ e45 e53).1) (⟨ln,ld⟩:aC)∧(((decide (b<(0:Int)))=true→dN ((k:Int)+(1:Int))∧ ∃(k' :Nat) (b' :Int) (ln' :Int) (ld' :Int),((k:Int)+(1:Int))=(k' :Int)∧(k:Int)=b' ∧(((aQ e45 e53).1).num)=ln' ∧(((aQ e45 e53).1).den)=ld' ∧(k' ≤d.basic.length∧(-1≤b' ∧b' <k')∧eH d j.toNat (d.basic.length - k') k' b' ⟨ln',ld'⟩=fJ d j.toNat)∧d.basic.length - k' <d.basic.length - k)∧((decide (b<(0:Int)))=false→((decide ((cG ((aQ e45 e53).1) (⟨ln,ld⟩:aC))<(0:Int)))=true→dN ((k:Int)+(1:Int))∧ ∃(k' :Nat) (b' :Int) (ln' :Int) (ld' :Int),((k:Int)+(1:Int))=(k' :Int)∧(k:Int)=b' ∧(((aQ e45 e53).1).num)=ln' ∧(((aQ e45 e53).1).den)=ld' ∧(k' ≤d.basic.length∧(-1≤b' ∧b' <k')∧eH d j.toNat (d.basic.length - k') k' b' ⟨ln',ld'⟩=fJ d j.toNat)∧d.basic.length - k' <d.basic.length - k)∧((decide ((cG ((aQ e45 e53).1) (⟨ln,ld⟩:aC))<(0:Int)))=false→((decide ((cG ((aQ e45 e53).1) (⟨ln,ld⟩:aC))=(0:Int)))=true→0≤(k:Int)∧Em aG d.basic k fun e76=>0≤b∧Em aG d.basic ((b).toNat) fun e81=>((decide (e76<e81))=true→dN ((k:Int)+(1:Int))∧ ∃(k' :Nat) (b' :Int) (ln' :Int) (ld' :Int),((k:Int)+(1:Int))=(k' :Int)∧(k:Int)=b' ∧(((aQ e45 e53).1).num)=ln' ∧(((aQ e45 e53).1).den)=ld' ∧(k' ≤d.basic.length∧(-1≤b' ∧b' <k')∧eH d j.toNat (d.basic.length - k') k' b' ⟨ln',ld'⟩=fJ d j.toNat)∧d.basic.length - k' <d.basic.length - k)∧((decide (e76<e81))=false→dN ((k:Int)+(1:Int))∧ ∃(k' :Nat) (b' :Int) (ln' :Int) (ld' :Int),((k:Int)+(1:Int))=(k' :Int)∧b=b' ∧ln=ln' ∧ld=ld' ∧(k' ≤d.basic.length∧(-1≤b' ∧b' <k')∧eH d j.toNat (d.basic.length - k') k' b' ⟨ln',ld'⟩=fJ d j.toNat)∧d.basic.length - k' <d.basic.length - k))∧((decide ((cG ((aQ e45 e53).1) (⟨ln,ld⟩:aC))=(0:Int)))=false→dN ((k:Int)+(1:Int))∧ ∃(k' :Nat) (b' :Int) (ln' :Int) (ld' :Int),((k:Int)+(1:Int))=(k' :Int)∧b=b' ∧ln=ln' ∧ld=ld' ∧(k' ≤d.basic.length∧(-1≤b' ∧b' <k')∧eH d j.toNat (d.basic.length - k') k' b' ⟨ln',ld'⟩=fJ d j.toNat)∧d.basic.length - k' <d.basic.length - k))))))))∧((decide ((k:Int)<((d.basic.length:Nat):Int)))=false→b=(lH d j)∧True))))))))) (by kernel_rfl) ?_
 intro n0 n1 n2 n3 n4
 simp only [List.length_map] at n0 n1 n2 n3 n4
 refine ⟨aAk d (by omega) (by omega),fun g15=>?_,fun g15=>?_⟩
 ·replace g15:=nt g15
  refine ⟨?_,trivial⟩
  ·first | (rw [tZ g15];done) | (rw [qG (by omega)];done) | (rw [gY (by omega) hv];done) | (rw [iL hd hj,gY (by omega) hv];done) | (rw [←hv,kL (by omega) h34 h37 c2 h45 c3];done) | (rw [iL hd hj,←hv,kL (by omega) h34 h37 c2 h45 c3];done)
 ·replace g15:=nf g15
  refine ⟨List.length_map _,⟨by omega,by omega⟩,mL _ _ _,fun c0=>?_,fun c0=>?_⟩
  ·replace c0:=nq (nt c0)
   refine ⟨?_,trivial⟩
   ·first | (rw [tZ g15];done) | (rw [qG (by omega)];done) | (rw [gY (by omega) hv];done) | (rw [iL hd hj,gY (by omega) hv];done) | (rw [←hv,kL (by omega) h34 h37 c2 h45 c3];done) | (rw [iL hd hj,←hv,kL (by omega) h34 h37 c2 h45 c3];done)
  ·replace c0:=yq (nf c0)
   have hd:cB d=true:=g15
   have hj:0≤j∧j<d.others.length:=by omega
   obtain ⟨b1,b2,b3,b4,b5,b6,b7,b8⟩:=fR hd
   refine ⟨⟨0,-1,0,0,rfl,rfl,rfl,rfl,Nat.zero_le _,by omega,rfl⟩,fun k b ln ld ⟨hk,hb,hv⟩=>?_⟩
   refine ⟨List.length_map _,fun c1=>?_,fun c1=>?_⟩
   ·replace c1:=yq c1
    refine ⟨by omega,rfl,by omega,fun e34 h34=>?_⟩
    have hrl:=(b5 _ (List.mem_of_getElem? h34)).1
    refine ⟨by omega,rfl,by omega,fun e37 h37=>?_⟩
    refine ⟨fun c2=>?_,fun c2=>?_⟩
    ·replace c2:=yq c2
     refine ⟨⟨by omega,by omega⟩,?_⟩
     exact ⟨k+1,b,ln,ld,rfl,rfl,rfl,rfl,⟨by omega,by omega,by first | exact (iW (by omega) h34 h37 c2).symm.trans hv | exact (dH (by omega) h34 h37 c2 h45 c3 (rN g65)).symm.trans hv | exact (dH (by omega) h34 h37 c2 h45 c3 (rO g69)).symm.trans hv | exact (dH (by omega) h34 h37 c2 h45 c3 (rP g72 h76 h81 c4)).symm.trans hv | exact (gG (by omega) h34 h37 c2 h45 c3 (rQ g65 g69 g72)).symm.trans hv | exact (gG (by omega) h34 h37 c2 h45 c3 (rR g65 g69 h76 h81 c4)).symm.trans hv⟩,by omega⟩
    ·replace c2:=nq c2
     refine ⟨by omega,rfl,by omega,fun e45 h45=>?_⟩
     refine ⟨by omega,rfl,by omega,fun e50 h50=>?_⟩
     obtain rfl:=dE h34 h50
     refine ⟨by omega,rfl,by omega,fun e53 h53=>?_⟩
     obtain rfl:=dE h37 h53
     refine ⟨wT e45 e53,fun c3=>?_,fun c3=>?_⟩
     ·replace c3:=nt c3
      refine ⟨?_,trivial⟩
      ·first | (rw [tZ g15];done) | (rw [qG (by omega)];done) | (rw [gY (by omega) hv];done) | (rw [iL hd hj,gY (by omega) hv];done) | (rw [←hv,kL (by omega) h34 h37 c2 h45 c3];done) | (rw [iL hd hj,←hv,kL (by omega) h34 h37 c2 h45 c3];done)
     ·replace c3:=nf c3
      refine ⟨aH3 ((aQ e45 e53).1) (⟨ln,ld⟩:aC),fun g65=>?_,fun g65=>?_⟩
      ·replace g65:=yq g65
       refine ⟨⟨by omega,by omega⟩,?_⟩
       exact ⟨k+1,(k:Int),((aQ e45 e53).1).num,((aQ e45 e53).1).den,rfl,rfl,rfl,rfl,⟨by omega,by omega,by first | exact (iW (by omega) h34 h37 c2).symm.trans hv | exact (dH (by omega) h34 h37 c2 h45 c3 (rN g65)).symm.trans hv | exact (dH (by omega) h34 h37 c2 h45 c3 (rO g69)).symm.trans hv | exact (dH (by omega) h34 h37 c2 h45 c3 (rP g72 h76 h81 c4)).symm.trans hv | exact (gG (by omega) h34 h37 c2 h45 c3 (rQ g65 g69 g72)).symm.trans hv | exact (gG (by omega) h34 h37 c2 h45 c3 (rR g65 g69 h76 h81 c4)).symm.trans hv⟩,by omega⟩
      ·replace g65:=nq g65
       refine ⟨fun g69=>?_,fun g69=>?_⟩
       ·replace g69:=yq g69
        refine ⟨⟨by omega,by omega⟩,?_⟩
        exact ⟨k+1,(k:Int),((aQ e45 e53).1).num,((aQ e45 e53).1).den,rfl,rfl,rfl,rfl,⟨by omega,by omega,by first | exact (iW (by omega) h34 h37 c2).symm.trans hv | exact (dH (by omega) h34 h37 c2 h45 c3 (rN g65)).symm.trans hv | exact (dH (by omega) h34 h37 c2 h45 c3 (rO g69)).symm.trans hv | exact (dH (by omega) h34 h37 c2 h45 c3 (rP g72 h76 h81 c4)).symm.trans hv | exact (gG (by omega) h34 h37 c2 h45 c3 (rQ g65 g69 g72)).symm.trans hv | exact (gG (by omega) h34 h37 c2 h45 c3 (rR g65 g69 h76 h81 c4)).symm.trans hv⟩,by omega⟩
       ·replace g69:=nq g69
        refine ⟨fun g72=>?_,fun g72=>?_⟩
        ·replace g72:=yq g72
         refine ⟨by omega,rfl,by omega,fun e76 h76=>?_⟩
         refine ⟨by omega,rfl,by omega,fun e81 h81=>?_⟩
         refine ⟨fun c4=>?_,fun c4=>?_⟩
         ·replace c4:=yq c4
          refine ⟨⟨by omega,by omega⟩,?_⟩
          exact ⟨k+1,(k:Int),((aQ e45 e53).1).num,((aQ e45 e53).1).den,rfl,rfl,rfl,rfl,⟨by omega,by omega,by first | exact (iW (by omega) h34 h37 c2).symm.trans hv | exact (dH (by omega) h34 h37 c2 h45 c3 (rN g65)).symm.trans hv | exact (dH (by omega) h34 h37 c2 h45 c3 (rO g69)).symm.trans hv | exact (dH (by omega) h34 h37 c2 h45 c3 (rP g72 h76 h81 c4)).symm.trans hv | exact (gG (by omega) h34 h37 c2 h45 c3 (rQ g65 g69 g72)).symm.trans hv | exact (gG (by omega) h34 h37 c2 h45 c3 (rR g65 g69 h76 h81 c4)).symm.trans hv⟩,by omega⟩
         ·replace c4:=nq c4
          refine ⟨⟨by omega,by omega⟩,?_⟩
          exact ⟨k+1,b,ln,ld,rfl,rfl,rfl,rfl,⟨by omega,by omega,by first | exact (iW (by omega) h34 h37 c2).symm.trans hv | exact (dH (by omega) h34 h37 c2 h45 c3 (rN g65)).symm.trans hv | exact (dH (by omega) h34 h37 c2 h45 c3 (rO g69)).symm.trans hv | exact (dH (by omega) h34 h37 c2 h45 c3 (rP g72 h76 h81 c4)).symm.trans hv | exact (gG (by omega) h34 h37 c2 h45 c3 (rQ g65 g69 g72)).symm.trans hv | exact (gG (by omega) h34 h37 c2 h45 c3 (rR g65 g69 h76 h81 c4)).symm.trans hv⟩,by omega⟩
        ·replace g72:=nq g72
         refine ⟨⟨by omega,by omega⟩,?_⟩
         exact ⟨k+1,b,ln,ld,rfl,rfl,rfl,rfl,⟨by omega,by omega,by first | exact (iW (by omega) h34 h37 c2).symm.trans hv | exact (dH (by omega) h34 h37 c2 h45 c3 (rN g65)).symm.trans hv | exact (dH (by omega) h34 h37 c2 h45 c3 (rO g69)).symm.trans hv | exact (dH (by omega) h34 h37 c2 h45 c3 (rP g72 h76 h81 c4)).symm.trans hv | exact (gG (by omega) h34 h37 c2 h45 c3 (rQ g65 g69 g72)).symm.trans hv | exact (gG (by omega) h34 h37 c2 h45 c3 (rR g65 g69 h76 h81 c4)).symm.trans hv⟩,by omega⟩
   ·replace c1:=nq c1
    refine ⟨?_,trivial⟩
    ·first | (rw [tZ g15];done) | (rw [qG (by omega)];done) | (rw [gY (by omega) hv];done) | (rw [iL hd hj,gY (by omega) hv];done) | (rw [←hv,kL (by omega) h34 h37 c2 h45 c3];done) | (rw [iL hd hj,←hv,kL (by omega) h34 h37 c2 h45 c3];done)
theorem fH (d:DictionaryD) (i j k:Nat):eU d i j (k+1)=eU d i j k++[(aBV d i j k).1]:=by simp [eU,List.range_succ]
theorem fI (d:DictionaryD) (i j k:Nat):dU d i j (k+1)=(dU d i j k&&(aBV d i j k).2):=by simp [dU,List.range_succ]
theorem nI {d:DictionaryD} {i j k:Nat} {x a:aC} (ha:gI d i j=a) (hx:gI d i k=x) (h: ¬k=j):aBV d i j k=aQ x a:=by rw [aBV,if_neg h,ha,hx]
theorem nJ {d:DictionaryD} {i j k:Nat} {a:aC} (ha:gI d i j=a) (h:k=j):aBV d i j k=aQ (aJ 1) a:=by rw [aBV,if_pos h,ha];rfl
theorem cI (l p:List aC) (j k:Nat):dX l p j (k+1)=dX l p j k++[(chX l (l.getD j zR) p j k).1]:=by simp [dX,List.range_succ]
theorem cY (l p:List aC) (j k:Nat):eO l p j (k+1)=(eO l p j k&&(chX l (l.getD j zR) p j k).2):=by simp [eO,List.range_succ]
theorem jF {l p:List aC} {j k:Nat} {x c y:aC} (h: ¬k=j) (hx:l[k]? =some x) (hc:l[j]? =some c) (hy:p[k]? =some y):chX l (l.getD j zR) p j k=aU x c y:=by rw [chX,if_neg h,aY hx,aY hc,aY hy]
theorem jG {l p:List aC} {j k:Nat} {c y:aC} (h:k=j) (hc:l[j]? =some c) (hy:p[k]? =some y):chX l (l.getD j zR) p j k=aU (aJ 0) c y:=by rw [chX,if_pos h,aY hc,aY hy];rfl
theorem iO (d:DictionaryD) (i j k:Nat):fW d i j (k+1)=fW d i j k++[wV d i j k]:=by simp [fW,List.range_succ]
theorem iP (d:DictionaryD) (i j k:Nat):gD d i j (k+1)=gD d i j k++[yV d i j k]:=by simp [gD,List.range_succ]
theorem iQ (d:DictionaryD) (i j k:Nat):fK d i j (k+1)=(fK d i j k&&aCh d i j k):=by simp [fK,List.range_succ]
theorem uA {F R C L f g:Bool} (h1:f=(F&&R)) (h2:g=(f&&C)):(g&&L)=(F&&(R&&(C&&L))):=by subst h1;subst h2;cases F<;>cases R<;>cases C<;>rfl
theorem aCK {d:DictionaryD} {i j r:Nat} (h:r=i):wV d i j r=eU d i j d.others.length∧yV d i j r=(dP d i j).1∧aCh d i j r=true:=by rw [wV,yV,aCh,if_pos h,if_pos h,if_pos h];exact ⟨rfl,rfl,rfl⟩
theorem aHi {d:DictionaryD} {i j r:Nat} {p:List aC} {x c l:aC} {row:List aC} (h: ¬r=i) (hp:p=eU d i j d.others.length) (hr:d.table[r]? =some row) (hc:row[j]? =some c) (hx:d.limits[r]? =some x) (hl:(dP d i j).1=l):wV d i j r=dX row p j d.others.length∧yV d i j r=(aU x c l).1∧aCh d i j r=(eO row p j d.others.length&&(aU x c l).2):=by
 rw [wV,yV,aCh,if_neg h,if_neg h,if_neg h,aHa,aN hr hc,aY hx,aY hr,hl,←hp]
 exact ⟨rfl,rfl,rfl⟩
theorem aI {d:DictionaryD} {i j:Int} (h: ¬((0≤i∧i<d.basic.length)∧0≤j∧j<d.others.length)):aW d i j=(tF,false):=by rw [aW,if_neg (fun q=>h q.2)]
theorem aM {d:DictionaryD} {i j:Int} (h:cB d=false):aW d i j=(tF,false):=by rw [aW,if_neg (by rw [h];simp)]
theorem aB {d:DictionaryD} {i j:Int} (h: ¬((gI d i.toNat j.toNat).num≠0∧kG d i.toNat j.toNat=true∧(tE d i.toNat j.toNat).2=true)):aW d i j=(tF,false):=by
 rw [aW]
 split
 ·rw [eA,if_neg h]
 ·rfl
theorem aDx {d:DictionaryD} {i j:Int} (h:cB d=true) (hi:0≤i∧i<d.basic.length) (hj:0≤j∧j<d.others.length) (h1:(gI d i.toNat j.toNat).num≠0) (h2:kG d i.toNat j.toNat=true) (h3:(tE d i.toNat j.toNat).2=true):aW d i j=(aH d i.toNat j.toNat,true):=by rw [aW,if_pos ⟨h,hi,hj⟩,eA,if_pos ⟨h1,h2,h3⟩]
theorem aAo {d:DictionaryD} {i j:Nat} (h:cB d=true) (hj:j<d.others.length) (hl:(dP d i j).2=true):tE d i j=((cN d.value (bR (d.costs.getD j zR) (dP d i j).1).1).1,(bR (d.costs.getD j zR) (dP d i j).1).2&&(cN d.value (bR (d.costs.getD j zR) (dP d i j).1).1).2):=by
 obtain ⟨_,_,_,_,_,_,b7,b8⟩:=fR h
 exact aEd b8 (vF b7 hj) (tX hl)
theorem aGK {α:Type} {l:List α} {i:Nat} {x:α} (h:l[i]? =some x):l.set i x=l:=by
 obtain ⟨hi,rfl⟩:=List.getElem?_eq_some_iff.1 h
 simp
theorem aAp {p:Nat→Bool} {k n:Nat} (hk:k≤n) (h:(List.range k).all p=false):(List.range n).all p=false:=by
 cases e:(List.range n).all p with
 | false=>rfl
 | true=>
   rw [List.all_eq_true] at e
   have:(List.range k).all p=true:=List.all_eq_true.2 fun x hx=>e x (List.mem_range.2 (by have:=List.mem_range.1 hx;omega))
   rw [this] at h;cases h
theorem aL {d:DictionaryD} {i j r k:Nat} {p:List aC} {f g:Bool} (hf:f=((dU d i j d.others.length&&(dP d i j).2)&&fK d i j r)) (hr:r≤d.basic.length) (hp:p=eU d i j d.others.length) (hg:g=(f&&eO d.costs p j k)) (hk:k≤d.others.length) (h:g=false):kG d i j=false:=by
 rw [kG,aFO,←hp]
 subst hf
 rw [hg] at h
 simp only [Bool.and_eq_false_iff] at h ⊢
 rcases h with (h | h) | h
 ·exact .inl (.inl h)
 ·exact .inl (.inr (aAp hr h))
 ·exact .inr (aAp hk h)
theorem aCL {d:DictionaryD} {i j r k:Nat} {p:List aC} {f g:Bool} (hf:f=((dU d i j d.others.length&&(dP d i j).2)&&fK d i j r)) (hr:r=d.basic.length) (hp:p=eU d i j d.others.length) (hg:g=(f&&eO d.costs p j k)) (hk:k=d.others.length) (h:g=true):kG d i j=true:=by
 rw [kG,aFO,←hp,←hr,←hf,←hk,←hg,h]
theorem aO {d:DictionaryD} {i j r:Nat} {f:Bool} (hf:f=((dU d i j d.others.length&&(dP d i j).2)&&fK d i j r)) (hr:r≤d.basic.length) (h:f=false):kG d i j=false:=by
 subst hf
 rw [kG]
 simp only [Bool.and_eq_false_iff] at h ⊢
 rcases h with h | h
 ·exact .inl (.inl h)
 ·exact .inl (.inr (aAp hr h))
theorem aP {d:DictionaryD} {i j:Nat} (h:dU d i j d.others.length=false):kG d i j=false:=by
 rw [kG,h];rfl
theorem aCM {d:DictionaryD} {i j:Nat} (h:kG d i j=true):(dP d i j).2=true:=by
 simp only [kG,Bool.and_eq_true] at h
 exact h.1.1.2
theorem aE {d:DictionaryD} {i j:Nat} (hi:i<d.basic.length):(fW d i j d.basic.length).set i (eU d i j d.others.length)=fW d i j d.basic.length:=aGK (by simp [fW,hi,wV])
abbrev gJ (a:aC) (b:aC) (c:aC):AV × List (Nat × Rs):=(.tup [.agg [vI (((aU a b c).1).num),vI (((aU a b c).1).den)],vB ((aU a b c).2)],[])
abbrev iD (a:aC) (b:aC) (c:aC):Prop:=gF Try.prog 48 [.agg [.int .i64 a.num,.int .i64 a.den],.agg [.int .i64 b.num,.int .i64 b.den],.agg [.int .i64 c.num,.int .i64 c.den]] (gJ a b c).1 (gJ a b c).2
theorem kY (a b c:aC):iD a b c:=by
 refine cT dR bK Try.func48 (by kernel_rfl) (.br (.fin []) (.lit<| .lit<| .lit<| .br (.fin []) (dA (oK b c)<| dA (vC a ((bR b c).1))<| .br (.fin []) (.fin [])))) (p:=((decide (b.num=(0:Int)))=true→a.num=(((aU a b c).1).num)∧a.den=(((aU a b c).1).den)∧(true)=((aU a b c).2)∧True)∧((decide (b.num=(0:Int)))=false→((decide (c.num=(0:Int)))=true→a.num=(((aU a b c).1).num)∧a.den=(((aU a b c).1).den)∧(true)=((aU a b c).2)∧True)∧((decide (c.num=(0:Int)))=false→qV b c∧(aAb a ((bR b c).1)∧((((bR b c).2)=true→(((fZ a ((bR b c).1)).1).num)=(((aU a b c).1).num)∧(((fZ a ((bR b c).1)).1).den)=(((aU a b c).1).den)∧((fZ a ((bR b c).1)).2)=((aU a b c).2)∧True)∧(((bR b c).2)=false→(((fZ a ((bR b c).1)).1).num)=(((aU a b c).1).num)∧(((fZ a ((bR b c).1)).1).den)=(((aU a b c).1).den)∧(false)=((aU a b c).2)∧True)))))) (by kernel_rfl) ?_
 refine ⟨fun g15=>?_,fun g15=>?_⟩
 ·replace g15:=yq g15
  refine ⟨?_,?_,?_,trivial⟩
  ·first | (rw [aU,if_pos (.inl (by first | exact g15 | assumption))]<;>rfl) | (rw [aU,if_pos (.inr c0)]<;>rfl) | (rw [aU,if_neg (by rintro (q | q);exact g15 q;exact c0 q)];simp [*];done) | (rw [aU,if_neg (by rintro (q | q);exact g15 q;exact c0 q)]<;>rfl)
  ·first | (rw [aU,if_pos (.inl (by first | exact g15 | assumption))]<;>rfl) | (rw [aU,if_pos (.inr c0)]<;>rfl) | (rw [aU,if_neg (by rintro (q | q);exact g15 q;exact c0 q)];simp [*];done) | (rw [aU,if_neg (by rintro (q | q);exact g15 q;exact c0 q)]<;>rfl)
  ·first | (rw [aU,if_pos (.inl (by first | exact g15 | assumption))]<;>rfl) | (rw [aU,if_pos (.inr c0)]<;>rfl) | (rw [aU,if_neg (by rintro (q | q);exact g15 q;exact c0 q)];simp [*];done) | (rw [aU,if_neg (by rintro (q | q);exact g15 q;exact c0 q)]<;>rfl)
 ·replace g15:=nq g15
  refine ⟨fun c0=>?_,fun c0=>?_⟩
  ·replace c0:=yq c0
   refine ⟨?_,?_,?_,trivial⟩
   ·first | (rw [aU,if_pos (.inl (by first | exact g15 | assumption))]<;>rfl) | (rw [aU,if_pos (.inr c0)]<;>rfl) | (rw [aU,if_neg (by rintro (q | q);exact g15 q;exact c0 q)];simp [*];done) | (rw [aU,if_neg (by rintro (q | q);exact g15 q;exact c0 q)]<;>rfl)
   ·first | (rw [aU,if_pos (.inl (by first | exact g15 | assumption))]<;>rfl) | (rw [aU,if_pos (.inr c0)]<;>rfl) | (rw [aU,if_neg (by rintro (q | q);exact g15 q;exact c0 q)];simp [*];done) | (rw [aU,if_neg (by rintro (q | q);exact g15 q;exact c0 q)]<;>rfl)
   ·first | (rw [aU,if_pos (.inl (by first | exact g15 | assumption))]<;>rfl) | (rw [aU,if_pos (.inr c0)]<;>rfl) | (rw [aU,if_neg (by rintro (q | q);exact g15 q;exact c0 q)];simp [*];done) | (rw [aU,if_neg (by rintro (q | q);exact g15 q;exact c0 q)]<;>rfl)
  ·replace c0:=nq c0
   refine ⟨aAa b c,aH1 a ((bR b c).1),fun g35=>?_,fun g35=>?_⟩
   ·refine ⟨?_,?_,?_,trivial⟩
    ·first | (rw [aU,if_pos (.inl (by first | exact g15 | assumption))]<;>rfl) | (rw [aU,if_pos (.inr c0)]<;>rfl) | (rw [aU,if_neg (by rintro (q | q);exact g15 q;exact c0 q)];simp [*];done) | (rw [aU,if_neg (by rintro (q | q);exact g15 q;exact c0 q)]<;>rfl)
    ·first | (rw [aU,if_pos (.inl (by first | exact g15 | assumption))]<;>rfl) | (rw [aU,if_pos (.inr c0)]<;>rfl) | (rw [aU,if_neg (by rintro (q | q);exact g15 q;exact c0 q)];simp [*];done) | (rw [aU,if_neg (by rintro (q | q);exact g15 q;exact c0 q)]<;>rfl)
    ·first | (rw [aU,if_pos (.inl (by first | exact g15 | assumption))]<;>rfl) | (rw [aU,if_pos (.inr c0)]<;>rfl) | (rw [aU,if_neg (by rintro (q | q);exact g15 q;exact c0 q)];simp [*];done) | (rw [aU,if_neg (by rintro (q | q);exact g15 q;exact c0 q)]<;>rfl)
   ·refine ⟨?_,?_,?_,trivial⟩
    ·first | (rw [aU,if_pos (.inl (by first | exact g15 | assumption))]<;>rfl) | (rw [aU,if_pos (.inr c0)]<;>rfl) | (rw [aU,if_neg (by rintro (q | q);exact g15 q;exact c0 q)];simp [*];done) | (rw [aU,if_neg (by rintro (q | q);exact g15 q;exact c0 q)]<;>rfl)
    ·first | (rw [aU,if_pos (.inl (by first | exact g15 | assumption))]<;>rfl) | (rw [aU,if_pos (.inr c0)]<;>rfl) | (rw [aU,if_neg (by rintro (q | q);exact g15 q;exact c0 q)];simp [*];done) | (rw [aU,if_neg (by rintro (q | q);exact g15 q;exact c0 q)]<;>rfl)
    ·first | (rw [aU,if_pos (.inl (by first | exact g15 | assumption))]<;>rfl) | (rw [aU,if_pos (.inr c0)]<;>rfl) | (rw [aU,if_neg (by rintro (q | q);exact g15 q;exact c0 q)];simp [*];done) | (rw [aU,if_neg (by rintro (q | q);exact g15 q;exact c0 q)]<;>rfl)
end Go.Proofs.Ytpoobcnmhnbdlaa
namespace Go.Proofs
open Go.Shelf
namespace Ytpoobcnmhnbdlaa
def Try.cloneRats_ren : Go.Shelf.Ren := ⟨fun | 41 => 67 | n => n, fun | 22 => 29 | 23 => 28 | 4 => 4 | n => n, fun | n => n⟩
theorem Try.cloneRats : Go.Proofs.SlLaysE0.n41 Try.prog Try.cloneRats_ren := {
  mixed := by kernel_rfl
  f41 := ⟨Try.f67.name, by decide, Try.func67.trans (congrArg some (by kernel_rfl))⟩
  t4 := Try.underlying4
  a4 := Try.isAgg4
  z4 := Try.sizeOf4
  v4 := Try.zeroValue4
  t22 := Try.underlying29
  a22 := Try.isAgg29
  z22 := Try.sizeOf29
  v22 := Try.zeroValue29 }
end Ytpoobcnmhnbdlaa
end Go.Proofs
namespace Go.Proofs.Ytpoobcnmhnbdlaa
open Go.ChangeShapes Go.WideShapes Go.ChangeAt Go.RowKit
set_option linter.unusedVariables false
section
variable {P:Program}
theorem aGL {f:FuncId} {args:List Ar} {e k:Nat} {xs:List (List bN)} (hc:iT P f=true) (h: ∀A w (vs:Array Value),(∀b,A b→b<w.heap.size)→nM A w args vs.toList→Calls P f vs w (fun en w' => ∃(v:Value) (F:List Nat),en= .returned v∧nH w' (.sl e k xs) v F∧F.Nodup∧(∀g∈F,w.heap.size≤g)∧Below w.heap.size w w' ∧ ∀g∈F,g<w'.heap.size)):
 gF P f args (.own 0) [(0,.arr e k true xs)]:=by
 refine ⟨hc,fun A w vs hA ha=>(h A w vs hA ha).mono fun en w' ⟨v,F,he,ho,hn,hg,hb,hlt⟩=>?_⟩
 unfold nH at ho
 obtain ⟨css,Fs,r1,r2,r3⟩:=ho
 have hpl:(⟨v,v.ownBlock.toList,Fs.flatten⟩:Pl).F=F:=by unfold Pl.F;exact r2.symm
 refine ⟨v,fun _=>False,fun x=>if x=0 then some ⟨v,v.ownBlock.toList,Fs.flatten⟩ else none,he,hb,by simp,by simp,fun x r hx=>?_,fun x hx=>?_,fun x x' pl pl' hne hx hx' g hg hg' =>?_,fun x pl hx=>?_,fun x pl hx g hg' =>?_,?_⟩
 ·simp only [bA] at hx
  split at hx
  ·rename_i e1
   injection hx with hx
   subst hx
   exact ⟨_,if_pos e1,⟨css,Fs,r1,rfl,rfl,r3⟩⟩
  ·cases hx
 ·simp only [bA] at hx
  split at hx
  ·cases hx
  ·rename_i e1;exact if_neg e1
 ·simp only at hx hx'
  split at hx
  ·split at hx'
   ·subst_vars;exact hne rfl
   ·cases hx'
  ·cases hx
 ·simp only at hx
  split at hx
  ·injection hx with hx
   subst hx
   rw [hpl];exact hn
  ·cases hx
 ·simp only at hx
  split at hx
  ·injection hx with hx
   subst hx
   rw [hpl] at hg'
   exact ⟨hg g hg',hlt g hg'⟩
  ·cases hx
 ·unfold aF
  intro pl hp
  simp only [if_true,Option.some.injEq] at hp
  subst hp;rfl
end
def aIu (x:aC):List Value:=[.int .i64 x.num,.int .i64 x.den]
theorem yW {K:Nat→Prop} {w:World}: ∀{l:List aC} {css:List (List Value)},eE K w 2 (l.map aA) css→css=l.map aIu
 | [],css,h=>h
 | x::l,css,⟨c,css',e,h1,h2,h3⟩=>by
   subst e
   obtain ⟨v,vs,e1,m1,v2,vs2,e2,m2,m3⟩:=h2
   unfold gT at m1 m2
   rw [yW h3,e1,e2,m1,m2,show vs2= [] from m3];rfl
theorem aCN {w:World}: ∀(l:List aC),cM w 2 (l.map aA) (l.map aIu) (l.map fun _=>[])
 | []=>by unfold cM;exact ⟨rfl,rfl⟩
 | x::l=>by
   rw [List.map_cons,List.map_cons,List.map_cons]
   unfold cM
   refine ⟨_,_,_,_,rfl,rfl,rfl,?_,aCN l⟩
   have h1:nH w (.int .i64 x.num) (.int .i64 x.num) []:=by unfold nH;exact ⟨rfl,rfl⟩
   have h2:nH w (.int .i64 x.den) (.int .i64 x.den) []:=by unfold nH;exact ⟨rfl,rfl⟩
   exact kV (F1:=[]) (F2:=[]) h1 (kV (F1:=[]) (F2:=[]) h2 aDP)
theorem aDy: ∀l:List aC,(l.map aIu).flatten.length=l.length*2
 | []=>rfl
 | x::l=>by simp only [List.map_cons,List.flatten_cons,List.length_append,List.length_cons,aDy l,aIu,List.length_nil];omega
theorem vH (l:List aC) (h0:0<l.length) (hl:l.length≤1048576):gF Try.prog 67 [.one (.sl 28 2 (l.map aA))] (.own 0) [(0,.arr 28 2 true (l.map aA))]:=
 aGL (by kernel_rfl) fun A w vs hA ha=>by
  obtain ⟨v,vs',e,hv,hv2⟩:=ha
  simp only [aF2] at hv
  unfold gT at hv
  obtain ⟨a,c,rfl,h1,h2,h3⟩:=hv
  obtain ⟨css,hr,hne⟩:=fS.vals h3
  obtain ⟨b,off,rfl,hcell⟩:=hne (by intro q;rw [List.map_eq_nil_iff] at q;rw [q] at h0;exact absurd h0 (Nat.lt_irrefl 0))
  have ev:vs= #[.slice (some ⟨b,off,none⟩) (l.map aA).length c]:=by apply Array.ext';rw [e,show vs' = [] from hv2]
  have hcs:=yW hr
  have hone:=uO hr
  have hlen:css.flatten.length=(l.map aA).length*2:=by
   rw [hcs,aDy,List.length_map]
  rw [ev]
  have hT:fL Try.prog 28=some (true,2,16,.agg #[.int .i64 0,.int .i64 0]):=by kernel_rfl
  have hI:=fM hT w
  refine (AnyE.slices_Clone Try.cloneRats _ _ 2 16 hI.2.2.2.2.2.1 hI.2.2.2.2.2.2.2 hI.2.2.2.2.2.2.1 hI.2.2.2.2.1 rfl (by omega) (fun w=>(fM hT w).2.1) b off _ c css.flatten w hlen (by simp [maxLen];omega) (by simp;omega) (fun j u hj=>by have:=hcell j u hj;rwa [Nat.add_zero] at this) hone).mono fun e w' ⟨v',he,ho,_,hb⟩=>?_
  refine ⟨v',v'.ownBlock.toList,he,?_,?_,fun g hg=>(qK ho g hg).1,hb,fun g hg=>(qK ho g hg).2⟩
  ·unfold nH
   refine ⟨css,l.map fun _=>[],xJ ho (fun g hg=>Nat.zero_le g),?_,?_⟩
   ·simp
   ·rw [hcs];exact aCN l
  ·cases v'.ownBlock<;>simp
end Go.Proofs.Ytpoobcnmhnbdlaa
