/-
  Contracts and plain laws, joined: part 16.
-/
import Derived.Test.YtlidmoeecphbmaaGreates14
import Derived.Test.YtlidmoeecphbmaaGreates3
namespace Go.Proofs.YtlidmoeecphbmaaGreat
open Go.ChangeShapes Go.WideShapes Go.ChangeAt Go.RowKit
set_option linter.unusedVariables false
set_option linter.unusedSimpArgs false
set_option maxRecDepth 100000
set_option maxHeartbeats 4000000
abbrev aGW (n:Int):AV × List (Nat × Rs):=(.own 0,[(0,.arr 91 1 true ((aCV n).map aE))])
abbrev aPV (n:Int):Prop:=Cn 158 [.one (.int .i64 n)] (aGW n).1 (aGW n).2
theorem aTv (n:Int):aPV n:=by
 refine cq Tryz.func158 (.call (vB (decide (1<=n/\n<=4))) []<| .br (.fin []) (.loop (Nat × (List (List Int))) (Q2 Nat (List (List Int))) ([6,16]++rg 18 14) [400,1600,2800,3000,3102] (fun yy0=>[(6,vI (yy0.1:Int))]) (fun yy0=>[(400,some (.box 92 [.own 1600])),(1600,some (.arr 91 1 true (yy0.2.map aE)))]) (fun yy0=>(yy0.1:Int)<=n/\yy0.2=zO (iG (dP n)) (hdI n) (dP n) yy0.1/\yy0.2.length<=yy0.1) (fun yy0=>n.toNat - yy0.1) (fun yy0=> .br (fN (oU (((1:Int)*2^(Int.toNat n)) - 1) ([cL .andNot .i64 (((1:Int)*2^(Int.toNat n)) - 1) ((1:Int)*2^yy0.1)]:List Int) ([((1:Int)*2^(Int.toNat n)) - 1]:List Int) yy0.2) [(0,400),(1,1600)]<| .back [(400,400),(1600,3102)]) (.loop (Nat × (List (List Int))) (Q2 Nat (List (List Int))) ([7,8,9]++rg 32 49) [400,1600,7000,7900,8002] (fun yy1=>[(7,vI (yy1.1:Int))]) (fun yy1=>[(400,some (.box 92 [.own 1600])),(1600,some (.arr 91 1 true (yy1.2.map aE)))]) (fun yy1=>(yy1.1:Int)<=n/\yy1.2=zO (iG (dP n)) (hdI n) (dP n) n.toNat++elI (iG (dP n)) (2^n.toNat) n.toNat yy1.1/\yy1.2.length<=4+yy1.1*64) (fun yy1=>n.toNat - yy1.1) (fun yy1=> .br (.loop (Nat × (List (List Int))) (Q2 Nat (List (List Int))) ([8,9]++rg 39 42) [400,1600,7000,7900,8002] (fun yy2=>[(8,vI ((yy1.1+1+yy2.1:Nat):Int))]) (fun yy2=>[(400,some (.box 92 [.own 1600])),(1600,some (.arr 91 1 true (yy2.2.map aE)))]) (fun yy2=>((yy1.1+1+yy2.1:Nat):Int)<=n/\yy2.2=zO (iG (dP n)) (hdI n) (dP n) n.toNat++elI (iG (dP n)) (2^n.toNat) n.toNat yy1.1++elJ (iG (dP n)) (2^n.toNat) yy1.1 yy2.1/\yy2.2.length<=4+yy1.1*64+yy2.1*16) (fun yy2=>n.toNat - (yy1.1+1+yy2.1)) (fun yy2=> .br (.loop (Nat × (List (List Int))) (Q2 Nat (List (List Int))) ([9]++rg 44 37) [400,1600,7000,7900,8002] (fun yy3=>[(9,vI (yy3.1:Int))]) (fun yy3=>[(400,some (.box 92 [.own 1600])),(1600,some (.arr 91 1 true (yy3.2.map aE)))]) (fun yy3=>yy3.1<=2^n.toNat/\yy3.2=zO (iG (dP n)) (hdI n) (dP n) n.toNat++elI (iG (dP n)) (2^n.toNat) n.toNat yy1.1++elJ (iG (dP n)) (2^n.toNat) yy1.1 yy2.1++elS (iG (dP n)) yy1.1 (yy1.1+1+yy2.1) yy3.1/\yy3.2.length<=4+yy1.1*64+yy2.1*16+yy3.1) (fun yy3=>2^n.toNat - yy3.1) (fun yy3=> .br (.br (.lit<| .lit<| .lit<| .lit<| .lit<| .br (fN (oU (((1:Int)*2^(Int.toNat n)) - 1) ([(yy3.1:Int),cL .or .i64 (cL .or .i64 (yy3.1:Int) ((1:Int)*2^yy1.1)) ((1:Int)*2^(yy1.1+1+yy2.1))]:List Int) ([cL .or .i64 (yy3.1:Int) ((1:Int)*2^yy1.1),cL .or .i64 (yy3.1:Int) ((1:Int)*2^(yy1.1+1+yy2.1))]:List Int) yy3.2) [(0,400),(1,1600)]<| .back [(400,400),(1600,8002)]) (.back [(400,400),(1600,1600)])) (.back [(400,400),(1600,1600)])) (.back [(400,400),(1600,1600)]))) (.back [(400,400),(1600,1600)]))) (.fin [(0,1600)])))))) (p:=kT n (1:Int) (4:Int)/\Nb (1<=n/\n<=4) ([]=(aCV n).map aE/\True) ((0<=n/\n<=64)/\(bK ((1:Int)*2^(Int.toNat n))/\(bK (((1:Int)*2^(Int.toNat n)) - 1)/\((∃(i:Nat) (o0:List (List Int)),0=(i:Int)/\[]=o0.map aE/\(i:Int)<=n/\o0=zO (iG (dP n)) (hdI n) (dP n) i/\o0.length<=i)/\ ∀(i:Nat) (o0:List (List Int)),((i:Int)<=n/\o0=zO (iG (dP n)) (hdI n) (dP n) i/\o0.length<=i)->Br ((i:Int)<n) ((0<=(i:Int)/\(i:Int)<=64)/\bK ((1:Int)*2^i)/\aBM (((1:Int)*2^(Int.toNat n)) - 1) ([cL .andNot .i64 (((1:Int)*2^(Int.toNat n)) - 1) ((1:Int)*2^i)]:List Int) ([((1:Int)*2^(Int.toNat n)) - 1]:List Int) o0/\[[.int .i64 (cL .andNot .i64 (((1:Int)*2^(Int.toNat n)) - 1) ((1:Int)*2^i))]]=([cL .andNot .i64 (((1:Int)*2^(Int.toNat n)) - 1) ((1:Int)*2^i)]:List Int).map intD/\[[.int .i64 (((1:Int)*2^(Int.toNat n)) - 1)]]=([((1:Int)*2^(Int.toNat n)) - 1]:List Int).map intD/\(((1:Int)*2^(Int.toNat n)) - 1)=(((1:Int)*2^(Int.toNat n)) - 1)/\o0.map aE=o0.map aE/\bK ((i:Int)+1)/\ ∃(i' :Nat) (o0' :List (List Int)),((i:Int)+1)=(i' :Int)/\(o0++[iG (((1:Int)*2^(Int.toNat n)) - 1) ([cL .andNot .i64 (((1:Int)*2^(Int.toNat n)) - 1) ((1:Int)*2^i)]:List Int) ([((1:Int)*2^(Int.toNat n)) - 1]:List Int)]).map aE=o0'.map aE/\((i' :Int)<=n/\o0' =zO (iG (dP n)) (hdI n) (dP n) i' /\o0'.length<=i')/\n.toNat - i' <n.toNat - i) ((∃(i:Nat) (o1:List (List Int)),0=(i:Int)/\o0.map aE=o1.map aE/\(i:Int)<=n/\o1=zO (iG (dP n)) (hdI n) (dP n) n.toNat++elI (iG (dP n)) (2^n.toNat) n.toNat i/\o1.length<=4+i*64)/\ ∀(i:Nat) (o1:List (List Int)),((i:Int)<=n/\o1=zO (iG (dP n)) (hdI n) (dP n) n.toNat++elI (iG (dP n)) (2^n.toNat) n.toNat i/\o1.length<=4+i*64)->Br ((i:Int)<n) (bK ((i:Int)+1)/\((∃(j:Nat) (o2:List (List Int)),((i:Int)+1)=((i+1+j:Nat):Int)/\o1.map aE=o2.map aE/\((i+1+j:Nat):Int)<=n/\o2=zO (iG (dP n)) (hdI n) (dP n) n.toNat++elI (iG (dP n)) (2^n.toNat) n.toNat i++elJ (iG (dP n)) (2^n.toNat) i j/\o2.length<=4+i*64+j*16)/\ ∀(j:Nat) (o2:List (List Int)),(((i+1+j:Nat):Int)<=n/\o2=zO (iG (dP n)) (hdI n) (dP n) n.toNat++elI (iG (dP n)) (2^n.toNat) n.toNat i++elJ (iG (dP n)) (2^n.toNat) i j/\o2.length<=4+i*64+j*16)->Br (((i+1+j:Nat):Int)<n) ((∃(s:Nat) (o3:List (List Int)),0=(s:Int)/\o2.map aE=o3.map aE/\s<=2^n.toNat/\o3=zO (iG (dP n)) (hdI n) (dP n) n.toNat++elI (iG (dP n)) (2^n.toNat) n.toNat i++elJ (iG (dP n)) (2^n.toNat) i j++elS (iG (dP n)) i (i+1+j) s/\o3.length<=4+i*64+j*16+s)/\ ∀(s:Nat) (o3:List (List Int)),(s<=2^n.toNat/\o3=zO (iG (dP n)) (hdI n) (dP n) n.toNat++elI (iG (dP n)) (2^n.toNat) n.toNat i++elJ (iG (dP n)) (2^n.toNat) i j++elS (iG (dP n)) i (i+1+j) s/\o3.length<=4+i*64+j*16+s)->Br ((s:Int)<=(((1:Int)*2^(Int.toNat n)) - 1)) ((0<=(i:Int)/\(i:Int)<=64)/\Br ((cL .and .i64 ((s:Int)/2^i) (1:Int))=0) ((0<=((i+1+j:Nat):Int)/\((i+1+j:Nat):Int)<=64)/\Br ((cL .and .i64 ((s:Int)/2^(i+1+j)) (1:Int))=0) ((0<=(i:Int)/\(i:Int)<=64)/\bK ((1:Int)*2^i)/\(0<=((i+1+j:Nat):Int)/\((i+1+j:Nat):Int)<=64)/\bK ((1:Int)*2^(i+1+j))/\(0<=(i:Int)/\(i:Int)<=64)/\bK ((1:Int)*2^i)/\(0<=((i+1+j:Nat):Int)/\((i+1+j:Nat):Int)<=64)/\bK ((1:Int)*2^(i+1+j))/\aBM (((1:Int)*2^(Int.toNat n)) - 1) ([(s:Int),cL .or .i64 (cL .or .i64 (s:Int) ((1:Int)*2^i)) ((1:Int)*2^(i+1+j))]:List Int) ([cL .or .i64 (s:Int) ((1:Int)*2^i),cL .or .i64 (s:Int) ((1:Int)*2^(i+1+j))]:List Int) o3/\[[.int .i64 (s:Int)],[.int .i64 (cL .or .i64 (cL .or .i64 (s:Int) ((1:Int)*2^i)) ((1:Int)*2^(i+1+j)))]]=([(s:Int),cL .or .i64 (cL .or .i64 (s:Int) ((1:Int)*2^i)) ((1:Int)*2^(i+1+j))]:List Int).map intD/\[[.int .i64 (cL .or .i64 (s:Int) ((1:Int)*2^i))],[.int .i64 (cL .or .i64 (s:Int) ((1:Int)*2^(i+1+j)))]]=([cL .or .i64 (s:Int) ((1:Int)*2^i),cL .or .i64 (s:Int) ((1:Int)*2^(i+1+j))]:List Int).map intD/\(((1:Int)*2^(Int.toNat n)) - 1)=(((1:Int)*2^(Int.toNat n)) - 1)/\o3.map aE=o3.map aE/\bK ((s:Int)+1)/\ ∃(s' :Nat) (o3' :List (List Int)),((s:Int)+1)=(s' :Int)/\(o3++[iG (((1:Int)*2^(Int.toNat n)) - 1) ([(s:Int),cL .or .i64 (cL .or .i64 (s:Int) ((1:Int)*2^i)) ((1:Int)*2^(i+1+j))]:List Int) ([cL .or .i64 (s:Int) ((1:Int)*2^i),cL .or .i64 (s:Int) ((1:Int)*2^(i+1+j))]:List Int)]).map aE=o3'.map aE/\(s' <=2^n.toNat/\o3' =zO (iG (dP n)) (hdI n) (dP n) n.toNat++elI (iG (dP n)) (2^n.toNat) n.toNat i++elJ (iG (dP n)) (2^n.toNat) i j++elS (iG (dP n)) i (i+1+j) s' /\o3'.length<=4+i*64+j*16+s')/\2^n.toNat - s' <2^n.toNat - s) (bK ((s:Int)+1)/\ ∃(s' :Nat) (o3' :List (List Int)),((s:Int)+1)=(s' :Int)/\o3.map aE=o3'.map aE/\(s' <=2^n.toNat/\o3' =zO (iG (dP n)) (hdI n) (dP n) n.toNat++elI (iG (dP n)) (2^n.toNat) n.toNat i++elJ (iG (dP n)) (2^n.toNat) i j++elS (iG (dP n)) i (i+1+j) s' /\o3'.length<=4+i*64+j*16+s')/\2^n.toNat - s' <2^n.toNat - s)) (bK ((s:Int)+1)/\ ∃(s' :Nat) (o3' :List (List Int)),((s:Int)+1)=(s' :Int)/\o3.map aE=o3'.map aE/\(s' <=2^n.toNat/\o3' =zO (iG (dP n)) (hdI n) (dP n) n.toNat++elI (iG (dP n)) (2^n.toNat) n.toNat i++elJ (iG (dP n)) (2^n.toNat) i j++elS (iG (dP n)) i (i+1+j) s' /\o3'.length<=4+i*64+j*16+s')/\2^n.toNat - s' <2^n.toNat - s)) (bK (((i+1+j:Nat):Int)+1)/\ ∃(j' :Nat) (o2' :List (List Int)),(((i+1+j:Nat):Int)+1)=((i+1+j' :Nat):Int)/\o3.map aE=o2'.map aE/\(((i+1+j' :Nat):Int)<=n/\o2' =zO (iG (dP n)) (hdI n) (dP n) n.toNat++elI (iG (dP n)) (2^n.toNat) n.toNat i++elJ (iG (dP n)) (2^n.toNat) i j' /\o2'.length<=4+i*64+j' *16)/\n.toNat - (i+1+j')<n.toNat - (i+1+j))) (bK ((i:Int)+1)/\ ∃(i' :Nat) (o1' :List (List Int)),((i:Int)+1)=(i' :Int)/\o2.map aE=o1'.map aE/\((i' :Int)<=n/\o1' =zO (iG (dP n)) (hdI n) (dP n) n.toNat++elI (iG (dP n)) (2^n.toNat) n.toNat i' /\o1'.length<=4+i' *64)/\n.toNat - i' <n.toNat - i))) (o1.map aE=(aCV n).map aE/\True))))))) (by kernel_rfl) ?_;refine⟨pJ _ _ _,dn (fun c0=>?_) fun c0=>?_⟩
 ·apply et1
  ·(rw[aCV,if_neg (by omega)]<;>rfl)
 ·obtain⟨b1,b2,b3⟩:=aCB (n:=n) (by omega);have hal:dP n=1*2^n.toNat - 1:=rfl;refine⟨⟨by omega,by omega⟩,by exact gC (by omega),by exact⟨by omega,by omega⟩,⟨0,([]:List (List Int)),rfl,rfl,by omega,rfl,aDB _⟩,fun i o0 ⟨hi,ho,hL⟩=>?_⟩;refine dd (fun c1=>?_) fun c1=>?_
  ·have hh:=bAY (i:=i) (n:=n) (by omega) (by omega);have hw:=aSO (n:=n) (i:=i) (by omega) (by omega);unfold hdI at hh;refine⟨⟨by omega,by omega⟩,by exact gC (by omega),aMH _ ([cL .andNot .i64 (((1:Int)*2^(Int.toNat n)) - 1) ((1:Int)*2^i)]:List Int) ([((1:Int)*2^(Int.toNat n)) - 1]:List Int) _ (by omega) (by exact aQx (by omega)) (by exact aQx (by omega)) (by omega) (by simp) (by simp),rfl,rfl,rfl,rfl,by exact⟨by omega,by omega⟩,?_⟩;exact⟨i+1,_,rfl,rfl,⟨by omega,by rw[ho];rfl,by simp;omega⟩,by omega⟩
  ·refine⟨⟨0,o0,rfl,rfl,by omega,by rw[ho,show i=n.toNat by omega];simp[elI],by omega⟩,fun i o1 ⟨hi1,ho1,hL1⟩=>?_⟩;refine dd (fun c2=>?_) fun c2=>?_
   ·refine⟨by exact⟨by omega,by omega⟩,⟨0,o1,by rfl,by rfl,by omega,by rw[ho1];simp[elJ],by omega⟩,fun j o2 ⟨hj,ho2,hL2⟩=>?_⟩;refine dd (fun c3=>?_) fun c3=>?_
    ·refine⟨⟨0,o2,rfl,rfl,aDB _,by rw[ho2];simp[elS],by omega⟩,fun s o3 ⟨hs,ho3,hL3⟩=>?_⟩;refine dd (fun c4=>?_) fun c4=>?_
     ·refine⟨⟨by omega,by omega⟩,dd (fun g54=>?_) fun g54=>?_⟩
      ·refine⟨⟨by omega,by omega⟩,dd (fun c5=>?_) fun c5=>?_⟩
       ·obtain⟨v1,v2⟩:=aNZ (n:=n.toNat) (i:=i) (j:=i+1+j) (s:=s) (by omega) (by omega) (by omega) (by omega);obtain⟨v3,v4⟩:=aNZ (n:=n.toNat) (i:=i+1+j) (j:=i) (s:=s) (by omega) (by omega) (by omega) (by omega);refine⟨⟨by omega,by omega⟩,by exact gC (by omega),⟨by omega,by omega⟩,by exact gC (by omega),⟨by omega,by omega⟩,by exact gC (by omega),⟨by omega,by omega⟩,by exact gC (by omega),aMH _ ([(s:Int),cL .or .i64 (cL .or .i64 (s:Int) ((1:Int)*2^i)) ((1:Int)*2^(i+1+j))]:List Int) ([cL .or .i64 (s:Int) ((1:Int)*2^i),cL .or .i64 (s:Int) ((1:Int)*2^(i+1+j))]:List Int) _ (by omega) (by exact aYe (by omega) (by omega)) (by exact aYe (by omega) (by omega)) (by omega) (by simp) (by simp),rfl,rfl,rfl,rfl,by exact⟨by omega,by omega⟩,?_⟩;exact⟨s+1,_,rfl,rfl,⟨by omega,by (rw[ho3,elS,if_pos ⟨decide_eq_true g54,decide_eq_true c5⟩];simp only[aMd];done),by (simp;omega)⟩,by omega⟩
       ·refine⟨by exact⟨by omega,by omega⟩,?_⟩;exact⟨s+1,_,rfl,rfl,⟨by omega,by (rw[ho3,elS,if_neg (by rintro⟨q1,q2⟩;simp only[aMG,aUa] at q1 q2;contradiction),aZC]),by omega⟩,by omega⟩
      ·refine⟨by exact⟨by omega,by omega⟩,?_⟩;exact⟨s+1,_,rfl,rfl,⟨by omega,by (rw[ho3,elS,if_neg (by rintro⟨q1,q2⟩;simp only[aMG,aUa] at q1 q2;contradiction),aZC]),by omega⟩,by omega⟩
     ·refine⟨by exact⟨by omega,by omega⟩,?_⟩;exact⟨j+1,_,by rfl,by rfl,⟨by omega,by rw[ho3,show s=2^n.toNat by omega,elJ,<-aMd],by omega⟩,by omega⟩
    ·refine⟨by exact⟨by omega,by omega⟩,?_⟩;exact⟨i+1,_,rfl,rfl,⟨by omega,by rw[ho2,show j=n.toNat - (i+1) by omega,elI,aMd],by omega⟩,by omega⟩
   ·apply et1
    ·(rw[ho1,show i=n.toNat by omega,aCV,if_pos (by omega)];rfl)
def aDI (n:Nat)(s:ByteArray):ByteArray:=if h:n=0 then s else aDI (n/10) (zL [IntKind.u8.wrap (48+Int.tmod (n:Int) 10)]++s)
 termination_by n
 decreasing_by omega
def bE (k:Int):ByteArray:=if k<=0 then ⟨#[109,48]⟩ else (⟨#[109]⟩:ByteArray)++aDI k.toNat ⟨#[]⟩
theorem aTw (s:ByteArray):aDI 0 s=s:=by rw[aDI];simp
theorem aWb {n:Nat}(h:0<n)(s:ByteArray):aDI n s=aDI (n/10) (zL [IntKind.u8.wrap (48+Int.tmod (n:Int) 10)]++s):=by rw[aDI,dif_neg (by omega)]
theorem aJP (l:List Int):(zL l).size=l.length:=by simp[zL,ByteArray.size]
def aWc (k:Int)(_:Int):Int:=k
def aBQ (_:Int):Nat:=1
theorem pK {α:Type}{s c:α->Nat}(h: ∀x,s x<=4+5*c x): ∀l:List α,bU s l<=5*aAG c l
 | []=>by simp[bU,aAG]
 | a::l=>by
   have h1:=h a;have h2:=pK h l;simp only[bU,aAG,aLz,List.sum_cons,aQP] at*;omega
theorem aE6 {α:Type}{s:α->Nat}(h: ∀x,s x<=4): ∀l:List α,bU s l<=5*l.length
 | []=>by simp[bU]
 | a::l=>by
   have h1:=h a;have h2:=aE6 h l;simp only[bU,aLz,List.sum_cons,aQP] at*;omega
theorem aQz {α:Type}{s c:α->Nat}(h: ∀x,s x<=4+5*c x)(l:List α)(k:Nat)(hk:k<=l.length):bU s (l.take k)<=5*(k+bU c (l.take k)):=by
 have:=pK h (l.take k);unfold aAG at this;rw[aXg,Nat.min_eq_left hk] at this;exact this
theorem bAZ {α:Type}{s:α->Nat}(h: ∀x,s x<=4)(l:List α)(k:Nat)(hk:k<=l.length):bU s (l.take k)<=5*k:=by
 have:=aE6 h (l.take k);rw[aXg,Nat.min_eq_left hk] at this;exact this
abbrev qM (k:Int):Prop:=Cn 111 [.one (.int .i64 k)] (.p none (.str (bE k))) []
theorem aCD (k:Int)(hk:k<=4611686018427387904):qM k:=by
 refine cq Tryz.func111 (.br (.fin []) (.loop (Nat × ByteArray) (Q2 Nat ByteArray) ([0,3]++rg 6 12) [1200] (fun yy0=>[(0,vI (yy0.1:Int)),(3,.p none (.str yy0.2))]) (fun yy0=>[]) (fun yy0=>yy0.1<=4611686018427387904/\yy0.2.size+yy0.1<=4611686018427387904/\aDI yy0.1 yy0.2=aDI k.toNat ⟨#[]⟩) (fun yy0=>yy0.1) (fun yy0=> .br (.bytes [IntKind.u8.wrap ((48:Int)+(Int.tmod (yy0.1:Int) (10:Int)))]<| .back []) (.fin [])))) (p:=Br (k<=0) ((⟨#[109,48]⟩:ByteArray)=(bE k)/\True) ((∃(n:Nat) (s:ByteArray),k=(n:Int)/\(⟨#[]⟩:ByteArray)=s/\n<=4611686018427387904/\s.size+n<=4611686018427387904/\aDI n s=aDI k.toNat ⟨#[]⟩)/\ ∀(n:Nat) (s:ByteArray),(n<=4611686018427387904/\s.size+n<=4611686018427387904/\aDI n s=aDI k.toNat ⟨#[]⟩)->Br (0<(n:Int)) ((10:Int)≠0/\bK ((48:Int)+(Int.tmod (n:Int) (10:Int)))/\[[.int .u8 (IntKind.u8.wrap ((48:Int)+(Int.tmod (n:Int) (10:Int))))]]= [IntKind.u8.wrap ((48:Int)+(Int.tmod (n:Int) (10:Int)))].map byD/\(zL [IntKind.u8.wrap ((48:Int)+(Int.tmod (n:Int) (10:Int)))]).size+s.size<=9223372036854775807/\(10:Int)≠0/\bK (Int.tdiv (n:Int) (10:Int))/\ ∃(n' :Nat) (s' :ByteArray),(Int.tdiv (n:Int) (10:Int))=(n' :Int)/\((zL [IntKind.u8.wrap ((48:Int)+(Int.tmod (n:Int) (10:Int)))])++s)=s' /\(n' <=4611686018427387904/\s'.size+n' <=4611686018427387904/\aDI n' s' =aDI k.toNat ⟨#[]⟩)/\n' <n) ((⟨#[109]⟩:ByteArray).size+s.size<=9223372036854775807/\((⟨#[109]⟩:ByteArray)++s)=(bE k)/\True))) (by kernel_rfl) ?_;refine dd (fun c0=>?_) fun c0=>?_
 ·apply et1
  ·(rw[bE,if_pos c0];done)
 ·obtain⟨n0,rfl⟩:=Int.eq_ofNat_of_zero_le (show 0<=k by omega);refine⟨⟨n0,(⟨#[]⟩:ByteArray),rfl,rfl,by omega,by simp[ByteArray.size];omega,by simp⟩,fun n s ⟨hn,hs,hm⟩=>?_⟩;refine dd (fun c1=>?_) fun c1=>?_
  ·have hd:=aWb (n:=n) (by omega) s;have htm:Int.tmod (n:Int) 10=((n%10:Nat):Int):=rfl;have htd:Int.tdiv (n:Int) 10=((n/10:Nat):Int):=rfl;refine⟨by omega,⟨by omega,by omega⟩,rfl,by (simp only[aJP,aQP,List.length_nil];omega),by omega,⟨by omega,by omega⟩,?_⟩;exact⟨n/10,(zL [IntKind.u8.wrap ((48:Int)+(Int.tmod (n:Int) (10:Int)))])++s,rfl,rfl,⟨by omega,by rw[ByteArray.size_append,aJP];simp;omega,by rw[<-hd];exact hm⟩,by omega⟩
  ·refine⟨by (show 1+s.size<=_;omega),?_,trivial⟩
   ·(rw[bE,if_neg c0];rw[show n=0 from by omega,aTw] at hm;rw[hm])
def dQ (k:Int)(l:List Int):List Int:=rG aWc aBQ k l
def dI (l:List Int):Nat:=bU aBQ l
theorem mE (l:List Int):dI l<=5*cD l:=aE6 (fun _=>by simp[aBQ]) l
def iR (k:Int)(l:List (List Int)):List (List Int):=rG dQ dI k l
def lS (l:List (List Int)):Nat:=bU dI l
theorem xA (l:List (List Int)):lS l<=5*cM l:=pK (fun y=>by have:=mE y;omega) l
def aE7 (k:Int)(x:aV):aV:=⟨bE (k),k+1,iR (k+1+1) x.rows⟩
def kK (x:aV):Nat:=1+1+lS x.rows
theorem aJQ (x:aV):kK x<=4+5*fF x:=by
 have:=xA x.rows;unfold kK fF;omega
def aHK (k:Int)(l:List aV):List aV:=rG aE7 kK k l
def yZ (l:List aV):Nat:=bU kK l
theorem aDJ (l:List aV):yZ l<=5*jS l:=pK aJQ l
def zA (k:Int)(x:aX):aX:=⟨aHK (k) x.tables⟩
def dK (x:aX):Nat:=yZ x.tables
theorem aCW (x:aX):dK x<=5*bM x:=by
 have:=aDJ x.tables;unfold dK bM;omega
def aJR (k:Int)(x:bX):bX:=⟨bE (k),dQ (k+1) x.vars⟩
def mY (x:bX):Nat:=1+dI x.vars
theorem aMM (x:bX):mY x<=4+5*iK x:=by
 have:=mE x.vars;unfold mY iK;omega
def aN0 (k:Int)(l:List bX):List bX:=rG aJR mY k l
def aDK (l:List bX):Nat:=bU mY l
theorem aFY (l:List bX):aDK l<=5*jY l:=pK aMM l
def aSP (k:Int)(x:QueryD):QueryD:=⟨x.variableCount,aN0 (k) x.atoms⟩
def aCE (x:QueryD):Nat:=aDK x.atoms
theorem aRA (x:QueryD):aCE x<=5*iO x:=by
 have:=aFY x.atoms;unfold aCE iO;omega
def pL (k:Int)(x:aI):aI:=⟨dQ (k) x.columns,iR (k+((dI x.columns:Nat):Int)) x.values,dQ (k+((dI x.columns:Nat):Int)+((lS x.values:Nat):Int)) x.counts⟩
def eA (x:aI):Nat:=dI x.columns+lS x.values+dI x.counts
theorem zQ (x:aI):eA x<=4+5*bP x:=by
 have:=mE x.columns;have:=xA x.values;have:=mE x.counts;unfold eA bP;omega
def lT (k:Int)(l:List aI):List aI:=rG pL eA k l
def lU (l:List aI):Nat:=bU eA l
theorem sF (l:List aI):lU l<=5*dB l:=pK zQ l
def pM (k:Int)(x:aD):aD:=⟨bE (k),k+1,k+1+1,lT (k+1+1+1) x.groups⟩
def eB (x:aD):Nat:=1+1+1+lU x.groups
theorem zS (x:aD):eB x<=4+5*bD x:=by
 have:=sF x.groups;unfold eB bD;omega
def sU (k:Int)(l:List aD):List aD:=rG pM eB k l
def lV (l:List aD):Nat:=bU eB l
theorem sG (l:List aD):lV l<=5*dM l:=pK zS l
def vM (k:Int)(x:cA):cA:=⟨x.version,sU (k) x.tables⟩
def dW (x:cA):Nat:=lV x.tables
theorem aBR (x:cA):dW x<=5*bS x:=by
 have:=sG x.tables;unfold dW bS;omega
def pN (k:Int)(x:aR):aR:=⟨bE (k),dQ (k+1) x.src,k+1+((dI x.src:Nat):Int)⟩
def eC (x:aR):Nat:=1+dI x.src+1
theorem zT (x:aR):eC x<=4+5*cG x:=by
 have:=mE x.src;unfold eC cG;omega
def sV (k:Int)(l:List aR):List aR:=rG pN eC k l
def fJ (l:List aR):Nat:=bU eC l
theorem sH (l:List aR):fJ l<=5*cC l:=pK zT l
def sB (k:Int)(x:aP):aP:=⟨bE (k),k+1,bE (k+1+1),k+1+1+1⟩
def eO (x:aP):Nat:=1+1+1+1
theorem aBS (x:aP):eO x<=4+5*cU x:=by
 unfold eO cU;omega
def vN (k:Int)(l:List aP):List aP:=rG sB eO k l
def mZ (l:List aP):Nat:=bU eO l
theorem uC (l:List aP):mZ l<=5*cR l:=pK aBS l
def vO (k:Int)(x:StoreD):StoreD:=⟨zA (k) x.database,vM (k+((dK x.database:Nat):Int)) x.catalogue,sV (k+((dK x.database:Nat):Int)+((dW x.catalogue:Nat):Int)) x.dependencies,vN (k+((dK x.database:Nat):Int)+((dW x.catalogue:Nat):Int)+((fJ x.dependencies:Nat):Int)) x.inclusions⟩
def rD (x:StoreD):Nat:=dK x.database+dW x.catalogue+fJ x.dependencies+mZ x.inclusions
theorem aRB (x:StoreD):rD x<=5*dZ x:=by
 have:=aCW x.database;have:=aBR x.catalogue;have:=sH x.dependencies;have:=uC x.inclusions;unfold rD dZ;omega
def nA (k:Int)(x:aB):aB:=⟨k,k+1⟩
def dL (x:aB):Nat:=1+1
theorem wC (x:aB):dL x<=4+5*wP x:=by
 unfold dL wP;omega
def fA (k:Int)(l:List aB):List aB:=rG nA dL k l
def cJ (l:List aB):Nat:=bU dL l
theorem jD (l:List aB):cJ l<=5*jL l:=aE6 (fun x=>by have:=wC x;simpa [wP] using this) l
def fR (k:Int)(x:gQ):gQ:=⟨x.value,fA (k) x.primal,fA (k+((cJ x.primal:Nat):Int)) x.dual⟩
def eU (x:gQ):Nat:=cJ x.primal+cJ x.dual
theorem aKe (x:gQ):eU x<=5*nF x:=by
 have:=jD x.primal;have:=jD x.dual;unfold eU nF;omega
end Go.Proofs.YtlidmoeecphbmaaGreat
