/-
  Contracts and plain laws, joined: part 16.
-/
import Derived.Test.YtlidmoeecphbmaaGreateb14
import Derived.Test.YtlidmoeecphbmaaGreateb3
import Derived.Test.YtlidmoeecphbmaaGreateb13
namespace Go.Proofs.YtlidmoeecphbmaaGreat
open Go.ChangeShapes Go.WideShapes Go.ChangeAt Go.RowKit
set_option linter.unusedVariables false
set_option linter.unusedSimpArgs false
set_option maxRecDepth 100000
set_option maxHeartbeats 4000000
abbrev aEd (n:Int):AV × List (Nat × Rs):=(.own 0,[(0,.arr 91 1 true ((aAr n).map aC))])
abbrev aNR (n:Int):Prop:=Cn 158 [.one (.int .i64 n)] (aEd n).1 (aEd n).2
theorem aRj (n:Int):aNR n:=by
 refine cq Tryz.func158 (.call (vB (decide (1<=n/\n<=4))) []<| .br (.fin []) (.loop (Nat × (List (List Int))) (Q2 Nat (List (List Int))) ([6,16]++rg 18 14) [400,1600,2800,3000,3102] (fun yy0=>[(6,vI (yy0.1:Int))]) (fun yy0=>[(400,some (.box 92 [.own 1600])),(1600,some (.arr 91 1 true (yy0.2.map aC)))]) (fun yy0=>(yy0.1:Int)<=n/\yy0.2=wJ (gO (dE n)) (hdI n) (dE n) yy0.1/\yy0.2.length<=yy0.1) (fun yy0=>n.toNat - yy0.1) (fun yy0=> .br (oD (mW (((1:Int)*2^(Int.toNat n)) - 1) ([cD .andNot .i64 (((1:Int)*2^(Int.toNat n)) - 1) ((1:Int)*2^yy0.1)]:List Int) ([((1:Int)*2^(Int.toNat n)) - 1]:List Int) yy0.2) [(0,400),(1,1600)]<| .back [(400,400),(1600,3102)]) (.loop (Nat × (List (List Int))) (Q2 Nat (List (List Int))) ([7,8,9]++rg 32 49) [400,1600,7000,7900,8002] (fun yy1=>[(7,vI (yy1.1:Int))]) (fun yy1=>[(400,some (.box 92 [.own 1600])),(1600,some (.arr 91 1 true (yy1.2.map aC)))]) (fun yy1=>(yy1.1:Int)<=n/\yy1.2=wJ (gO (dE n)) (hdI n) (dE n) n.toNat++elI (gO (dE n)) (2^n.toNat) n.toNat yy1.1/\yy1.2.length<=4+yy1.1*64) (fun yy1=>n.toNat - yy1.1) (fun yy1=> .br (.loop (Nat × (List (List Int))) (Q2 Nat (List (List Int))) ([8,9]++rg 39 42) [400,1600,7000,7900,8002] (fun yy2=>[(8,vI ((yy1.1+1+yy2.1:Nat):Int))]) (fun yy2=>[(400,some (.box 92 [.own 1600])),(1600,some (.arr 91 1 true (yy2.2.map aC)))]) (fun yy2=>((yy1.1+1+yy2.1:Nat):Int)<=n/\yy2.2=wJ (gO (dE n)) (hdI n) (dE n) n.toNat++elI (gO (dE n)) (2^n.toNat) n.toNat yy1.1++elJ (gO (dE n)) (2^n.toNat) yy1.1 yy2.1/\yy2.2.length<=4+yy1.1*64+yy2.1*16) (fun yy2=>n.toNat - (yy1.1+1+yy2.1)) (fun yy2=> .br (.loop (Nat × (List (List Int))) (Q2 Nat (List (List Int))) ([9]++rg 44 37) [400,1600,7000,7900,8002] (fun yy3=>[(9,vI (yy3.1:Int))]) (fun yy3=>[(400,some (.box 92 [.own 1600])),(1600,some (.arr 91 1 true (yy3.2.map aC)))]) (fun yy3=>yy3.1<=2^n.toNat/\yy3.2=wJ (gO (dE n)) (hdI n) (dE n) n.toNat++elI (gO (dE n)) (2^n.toNat) n.toNat yy1.1++elJ (gO (dE n)) (2^n.toNat) yy1.1 yy2.1++elS (gO (dE n)) yy1.1 (yy1.1+1+yy2.1) yy3.1/\yy3.2.length<=4+yy1.1*64+yy2.1*16+yy3.1) (fun yy3=>2^n.toNat - yy3.1) (fun yy3=> .br (.br (.lit<| .lit<| .lit<| .lit<| .lit<| .br (oD (mW (((1:Int)*2^(Int.toNat n)) - 1) ([(yy3.1:Int),cD .or .i64 (cD .or .i64 (yy3.1:Int) ((1:Int)*2^yy1.1)) ((1:Int)*2^(yy1.1+1+yy2.1))]:List Int) ([cD .or .i64 (yy3.1:Int) ((1:Int)*2^yy1.1),cD .or .i64 (yy3.1:Int) ((1:Int)*2^(yy1.1+1+yy2.1))]:List Int) yy3.2) [(0,400),(1,1600)]<| .back [(400,400),(1600,8002)]) (.back [(400,400),(1600,1600)])) (.back [(400,400),(1600,1600)])) (.back [(400,400),(1600,1600)]))) (.back [(400,400),(1600,1600)]))) (.fin [(0,1600)])))))) (p:=jL n (1:Int) (4:Int)/\Nb (1<=n/\n<=4) ([]=(aAr n).map aC/\True) ((0<=n/\n<=64)/\(bK ((1:Int)*2^(Int.toNat n))/\(bK (((1:Int)*2^(Int.toNat n)) - 1)/\((∃(i:Nat) (o0:List (List Int)),0=(i:Int)/\[]=o0.map aC/\(i:Int)<=n/\o0=wJ (gO (dE n)) (hdI n) (dE n) i/\o0.length<=i)/\ ∀(i:Nat) (o0:List (List Int)),((i:Int)<=n/\o0=wJ (gO (dE n)) (hdI n) (dE n) i/\o0.length<=i)->Br ((i:Int)<n) ((0<=(i:Int)/\(i:Int)<=64)/\bK ((1:Int)*2^i)/\zL (((1:Int)*2^(Int.toNat n)) - 1) ([cD .andNot .i64 (((1:Int)*2^(Int.toNat n)) - 1) ((1:Int)*2^i)]:List Int) ([((1:Int)*2^(Int.toNat n)) - 1]:List Int) o0/\[[.int .i64 (cD .andNot .i64 (((1:Int)*2^(Int.toNat n)) - 1) ((1:Int)*2^i))]]=([cD .andNot .i64 (((1:Int)*2^(Int.toNat n)) - 1) ((1:Int)*2^i)]:List Int).map intD/\[[.int .i64 (((1:Int)*2^(Int.toNat n)) - 1)]]=([((1:Int)*2^(Int.toNat n)) - 1]:List Int).map intD/\(((1:Int)*2^(Int.toNat n)) - 1)=(((1:Int)*2^(Int.toNat n)) - 1)/\o0.map aC=o0.map aC/\bK ((i:Int)+1)/\ ∃(i' :Nat) (o0' :List (List Int)),((i:Int)+1)=(i' :Int)/\(o0++[gO (((1:Int)*2^(Int.toNat n)) - 1) ([cD .andNot .i64 (((1:Int)*2^(Int.toNat n)) - 1) ((1:Int)*2^i)]:List Int) ([((1:Int)*2^(Int.toNat n)) - 1]:List Int)]).map aC=o0'.map aC/\((i' :Int)<=n/\o0' =wJ (gO (dE n)) (hdI n) (dE n) i' /\o0'.length<=i')/\n.toNat - i' <n.toNat - i) ((∃(i:Nat) (o1:List (List Int)),0=(i:Int)/\o0.map aC=o1.map aC/\(i:Int)<=n/\o1=wJ (gO (dE n)) (hdI n) (dE n) n.toNat++elI (gO (dE n)) (2^n.toNat) n.toNat i/\o1.length<=4+i*64)/\ ∀(i:Nat) (o1:List (List Int)),((i:Int)<=n/\o1=wJ (gO (dE n)) (hdI n) (dE n) n.toNat++elI (gO (dE n)) (2^n.toNat) n.toNat i/\o1.length<=4+i*64)->Br ((i:Int)<n) (bK ((i:Int)+1)/\((∃(j:Nat) (o2:List (List Int)),((i:Int)+1)=((i+1+j:Nat):Int)/\o1.map aC=o2.map aC/\((i+1+j:Nat):Int)<=n/\o2=wJ (gO (dE n)) (hdI n) (dE n) n.toNat++elI (gO (dE n)) (2^n.toNat) n.toNat i++elJ (gO (dE n)) (2^n.toNat) i j/\o2.length<=4+i*64+j*16)/\ ∀(j:Nat) (o2:List (List Int)),(((i+1+j:Nat):Int)<=n/\o2=wJ (gO (dE n)) (hdI n) (dE n) n.toNat++elI (gO (dE n)) (2^n.toNat) n.toNat i++elJ (gO (dE n)) (2^n.toNat) i j/\o2.length<=4+i*64+j*16)->Br (((i+1+j:Nat):Int)<n) ((∃(s:Nat) (o3:List (List Int)),0=(s:Int)/\o2.map aC=o3.map aC/\s<=2^n.toNat/\o3=wJ (gO (dE n)) (hdI n) (dE n) n.toNat++elI (gO (dE n)) (2^n.toNat) n.toNat i++elJ (gO (dE n)) (2^n.toNat) i j++elS (gO (dE n)) i (i+1+j) s/\o3.length<=4+i*64+j*16+s)/\ ∀(s:Nat) (o3:List (List Int)),(s<=2^n.toNat/\o3=wJ (gO (dE n)) (hdI n) (dE n) n.toNat++elI (gO (dE n)) (2^n.toNat) n.toNat i++elJ (gO (dE n)) (2^n.toNat) i j++elS (gO (dE n)) i (i+1+j) s/\o3.length<=4+i*64+j*16+s)->Br ((s:Int)<=(((1:Int)*2^(Int.toNat n)) - 1)) ((0<=(i:Int)/\(i:Int)<=64)/\Br ((cD .and .i64 ((s:Int)/2^i) (1:Int))=0) ((0<=((i+1+j:Nat):Int)/\((i+1+j:Nat):Int)<=64)/\Br ((cD .and .i64 ((s:Int)/2^(i+1+j)) (1:Int))=0) ((0<=(i:Int)/\(i:Int)<=64)/\bK ((1:Int)*2^i)/\(0<=((i+1+j:Nat):Int)/\((i+1+j:Nat):Int)<=64)/\bK ((1:Int)*2^(i+1+j))/\(0<=(i:Int)/\(i:Int)<=64)/\bK ((1:Int)*2^i)/\(0<=((i+1+j:Nat):Int)/\((i+1+j:Nat):Int)<=64)/\bK ((1:Int)*2^(i+1+j))/\zL (((1:Int)*2^(Int.toNat n)) - 1) ([(s:Int),cD .or .i64 (cD .or .i64 (s:Int) ((1:Int)*2^i)) ((1:Int)*2^(i+1+j))]:List Int) ([cD .or .i64 (s:Int) ((1:Int)*2^i),cD .or .i64 (s:Int) ((1:Int)*2^(i+1+j))]:List Int) o3/\[[.int .i64 (s:Int)],[.int .i64 (cD .or .i64 (cD .or .i64 (s:Int) ((1:Int)*2^i)) ((1:Int)*2^(i+1+j)))]]=([(s:Int),cD .or .i64 (cD .or .i64 (s:Int) ((1:Int)*2^i)) ((1:Int)*2^(i+1+j))]:List Int).map intD/\[[.int .i64 (cD .or .i64 (s:Int) ((1:Int)*2^i))],[.int .i64 (cD .or .i64 (s:Int) ((1:Int)*2^(i+1+j)))]]=([cD .or .i64 (s:Int) ((1:Int)*2^i),cD .or .i64 (s:Int) ((1:Int)*2^(i+1+j))]:List Int).map intD/\(((1:Int)*2^(Int.toNat n)) - 1)=(((1:Int)*2^(Int.toNat n)) - 1)/\o3.map aC=o3.map aC/\bK ((s:Int)+1)/\ ∃(s' :Nat) (o3' :List (List Int)),((s:Int)+1)=(s' :Int)/\(o3++[gO (((1:Int)*2^(Int.toNat n)) - 1) ([(s:Int),cD .or .i64 (cD .or .i64 (s:Int) ((1:Int)*2^i)) ((1:Int)*2^(i+1+j))]:List Int) ([cD .or .i64 (s:Int) ((1:Int)*2^i),cD .or .i64 (s:Int) ((1:Int)*2^(i+1+j))]:List Int)]).map aC=o3'.map aC/\(s' <=2^n.toNat/\o3' =wJ (gO (dE n)) (hdI n) (dE n) n.toNat++elI (gO (dE n)) (2^n.toNat) n.toNat i++elJ (gO (dE n)) (2^n.toNat) i j++elS (gO (dE n)) i (i+1+j) s' /\o3'.length<=4+i*64+j*16+s')/\2^n.toNat - s' <2^n.toNat - s) (bK ((s:Int)+1)/\ ∃(s' :Nat) (o3' :List (List Int)),((s:Int)+1)=(s' :Int)/\o3.map aC=o3'.map aC/\(s' <=2^n.toNat/\o3' =wJ (gO (dE n)) (hdI n) (dE n) n.toNat++elI (gO (dE n)) (2^n.toNat) n.toNat i++elJ (gO (dE n)) (2^n.toNat) i j++elS (gO (dE n)) i (i+1+j) s' /\o3'.length<=4+i*64+j*16+s')/\2^n.toNat - s' <2^n.toNat - s)) (bK ((s:Int)+1)/\ ∃(s' :Nat) (o3' :List (List Int)),((s:Int)+1)=(s' :Int)/\o3.map aC=o3'.map aC/\(s' <=2^n.toNat/\o3' =wJ (gO (dE n)) (hdI n) (dE n) n.toNat++elI (gO (dE n)) (2^n.toNat) n.toNat i++elJ (gO (dE n)) (2^n.toNat) i j++elS (gO (dE n)) i (i+1+j) s' /\o3'.length<=4+i*64+j*16+s')/\2^n.toNat - s' <2^n.toNat - s)) (bK (((i+1+j:Nat):Int)+1)/\ ∃(j' :Nat) (o2' :List (List Int)),(((i+1+j:Nat):Int)+1)=((i+1+j' :Nat):Int)/\o3.map aC=o2'.map aC/\(((i+1+j' :Nat):Int)<=n/\o2' =wJ (gO (dE n)) (hdI n) (dE n) n.toNat++elI (gO (dE n)) (2^n.toNat) n.toNat i++elJ (gO (dE n)) (2^n.toNat) i j' /\o2'.length<=4+i*64+j' *16)/\n.toNat - (i+1+j')<n.toNat - (i+1+j))) (bK ((i:Int)+1)/\ ∃(i' :Nat) (o1' :List (List Int)),((i:Int)+1)=(i' :Int)/\o2.map aC=o1'.map aC/\((i' :Int)<=n/\o1' =wJ (gO (dE n)) (hdI n) (dE n) n.toNat++elI (gO (dE n)) (2^n.toNat) n.toNat i' /\o1'.length<=4+i' *64)/\n.toNat - i' <n.toNat - i))) (o1.map aC=(aAr n).map aC/\True))))))) (by kernel_rfl) ?_;refine⟨nL _ _ _,dn (fun c0=>?_) fun c0=>?_⟩
 ·apply et1
  ·(rw[aAr,if_neg (by omega)]<;>rfl)
 ·obtain⟨b1,b2,b3⟩:=aA9 (n:=n) (by omega);have hal:dE n=1*2^n.toNat - 1:=rfl;refine⟨⟨by omega,by omega⟩,by exact fI (by omega),by exact⟨by omega,by omega⟩,⟨0,([]:List (List Int)),rfl,rfl,by omega,rfl,aCC _⟩,fun i o0 ⟨hi,ho,hL⟩=>?_⟩;refine dd (fun c1=>?_) fun c1=>?_
  ·have hh:=aYJ (i:=i) (n:=n) (by omega) (by omega);have hw:=aQE (n:=n) (i:=i) (by omega) (by omega);unfold hdI at hh;refine⟨⟨by omega,by omega⟩,by exact fI (by omega),aKL _ ([cD .andNot .i64 (((1:Int)*2^(Int.toNat n)) - 1) ((1:Int)*2^i)]:List Int) ([((1:Int)*2^(Int.toNat n)) - 1]:List Int) _ (by omega) (by exact aOr (by omega)) (by exact aOr (by omega)) (by omega) (by simp) (by simp),rfl,rfl,rfl,rfl,by exact⟨by omega,by omega⟩,?_⟩;exact⟨i+1,_,rfl,rfl,⟨by omega,by rw[ho];rfl,by simp;omega⟩,by omega⟩
  ·refine⟨⟨0,o0,rfl,rfl,by omega,by rw[ho,show i=n.toNat by omega];simp[elI],by omega⟩,fun i o1 ⟨hi1,ho1,hL1⟩=>?_⟩;refine dd (fun c2=>?_) fun c2=>?_
   ·refine⟨by exact⟨by omega,by omega⟩,⟨0,o1,by rfl,by rfl,by omega,by rw[ho1];simp[elJ],by omega⟩,fun j o2 ⟨hj,ho2,hL2⟩=>?_⟩;refine dd (fun c3=>?_) fun c3=>?_
    ·refine⟨⟨0,o2,rfl,rfl,aCC _,by rw[ho2];simp[elS],by omega⟩,fun s o3 ⟨hs,ho3,hL3⟩=>?_⟩;refine dd (fun c4=>?_) fun c4=>?_
     ·refine⟨⟨by omega,by omega⟩,dd (fun g54=>?_) fun g54=>?_⟩
      ·refine⟨⟨by omega,by omega⟩,dd (fun c5=>?_) fun c5=>?_⟩
       ·obtain⟨v1,v2⟩:=aLY (n:=n.toNat) (i:=i) (j:=i+1+j) (s:=s) (by omega) (by omega) (by omega) (by omega);obtain⟨v3,v4⟩:=aLY (n:=n.toNat) (i:=i+1+j) (j:=i) (s:=s) (by omega) (by omega) (by omega) (by omega);refine⟨⟨by omega,by omega⟩,by exact fI (by omega),⟨by omega,by omega⟩,by exact fI (by omega),⟨by omega,by omega⟩,by exact fI (by omega),⟨by omega,by omega⟩,by exact fI (by omega),aKL _ ([(s:Int),cD .or .i64 (cD .or .i64 (s:Int) ((1:Int)*2^i)) ((1:Int)*2^(i+1+j))]:List Int) ([cD .or .i64 (s:Int) ((1:Int)*2^i),cD .or .i64 (s:Int) ((1:Int)*2^(i+1+j))]:List Int) _ (by omega) (by exact aWY (by omega) (by omega)) (by exact aWY (by omega) (by omega)) (by omega) (by simp) (by simp),rfl,rfl,rfl,rfl,by exact⟨by omega,by omega⟩,?_⟩;exact⟨s+1,_,rfl,rfl,⟨by omega,by (rw[ho3,elS,if_pos ⟨decide_eq_true g54,decide_eq_true c5⟩];simp only[aLV];done),by (simp;omega)⟩,by omega⟩
       ·refine⟨by exact⟨by omega,by omega⟩,?_⟩;exact⟨s+1,_,rfl,rfl,⟨by omega,by (rw[ho3,elS,if_neg (by rintro⟨q1,q2⟩;simp only[aKK,aTb] at q1 q2;contradiction),aWr]),by omega⟩,by omega⟩
      ·refine⟨by exact⟨by omega,by omega⟩,?_⟩;exact⟨s+1,_,rfl,rfl,⟨by omega,by (rw[ho3,elS,if_neg (by rintro⟨q1,q2⟩;simp only[aKK,aTb] at q1 q2;contradiction),aWr]),by omega⟩,by omega⟩
     ·refine⟨by exact⟨by omega,by omega⟩,?_⟩;exact⟨j+1,_,by rfl,by rfl,⟨by omega,by rw[ho3,show s=2^n.toNat by omega,elJ,<-aLV],by omega⟩,by omega⟩
    ·refine⟨by exact⟨by omega,by omega⟩,?_⟩;exact⟨i+1,_,rfl,rfl,⟨by omega,by rw[ho2,show j=n.toNat - (i+1) by omega,elI,aLV],by omega⟩,by omega⟩
   ·apply et1
    ·(rw[ho1,show i=n.toNat by omega,aAr,if_pos (by omega)];rfl)
theorem aH4 (n:Int):cO (aAr n)<=1000:=by
 by_cases h:1<=n/\n<=4
 ·have:n=1\/n=2\/n=3\/n=4:=by omega
  rcases this with rfl | rfl | rfl | rfl<;>decide+kernel
 rw[aAr,if_neg h];decide
def okC (n:Int)(c:aI):Bool:=decide (1<=c.dst/\c.dst<=1*2^n.toNat - 1)&&(decide (0<=c.src)&&(decide (cD .and .i64 c.src c.dst=c.src)&&decide (¬c.src=c.dst)))
theorem aU0 {n:Int}{c:aI}(h:okC n c=true):(1<=c.dst/\c.dst<=1*2^n.toNat - 1)/\0<=c.src/\cD .and .i64 c.src c.dst=c.src/\ ¬c.src=c.dst:=by
 simpa only [okC,aB4,aTb] using h
theorem aOt {n:Int}{c:aI}(h:(1<=c.dst/\c.dst<=1*2^n.toNat - 1)/\0<=c.src/\cD .and .i64 c.src c.dst=c.src/\ ¬c.src=c.dst):okC n c=true:=by
 simpa only [okC,aB4,aTb] using h
theorem vV {n:Int}{c:aI}(h: ¬((1<=c.dst/\c.dst<=1*2^n.toNat - 1)/\0<=c.src/\cD .and .i64 c.src c.dst=c.src/\ ¬c.src=c.dst)):okC n c=false:=by
 cases e:okC n c with
 | false=>rfl
 | true=>exact absurd (aU0 e) h
theorem aBb {a c:Int}(h0:0<=a)(hc:0<=c)(ha:a<=9223372036854775807)(hc2:c<=9223372036854775807):cD .and .i64 a c<=c:=by
 obtain⟨m,rfl⟩:=Int.eq_ofNat_of_zero_le h0;obtain⟨k,rfl⟩:=Int.eq_ofNat_of_zero_le hc;have e1:(BitVec.ofInt 64 (m:Int)).toNat=m:=by simp;omega
 have e2:(BitVec.ofInt 64 (k:Int)).toNat=k:=by simp;omega
 have hle:m&&&k<=k:=Nat.and_le_right;unfold cD;show IntKind.i64.wrap ((BitVec.ofInt 64 (m:Int)&&&BitVec.ofInt 64 (k:Int)).toNat:Nat)<=_;rw[BitVec.toNat_and,e1,e2,IntWalk.i64_in _ ⟨by omega,by omega⟩];omega
def nM (n:Int)(c:aI):List Int:=eI (dE n) [c.dst] [c.src]
def wX (n:Int)(l:List aI):bU:=⟨eI (dE n) [dE n] [],dI n++l.map (nM n),List.replicate (dI n).length 0++l.map (·.bits)⟩
def dM (l:List aI)(n:Int):bU × Bool:=if (1<=n/\n<=4)/\l.all (okC n)=true/\cQ (wX n l)=true then (wX n l,true) else (nF,false)
theorem aNS {l:List aI}{n:Int}(h1:1<=n/\n<=4)(h2:l.all (okC n)=true)(h3:cQ (wX n l)=true):dM l n=(wX n l,true):=by rw[dM,if_pos ⟨h1,h2,h3⟩]
theorem aU1 {l:List aI}{n:Int}(h1: ¬(1<=n/\n<=4)):dM l n=(nF,false):=by rw[dM,if_neg (fun h=>h1 h.1)]
theorem vW {l:List aI}{n:Int}{k:Nat}{c:aI}(h:l[k]? =some c)(hc:okC n c=false):dM l n=(nF,false):=by
 rw[dM,if_neg (fun q=>by have:=eJ h hc;rw[q.2.1] at this;cases this)]
theorem aOu {l:List aI}{n:Int}(h:cQ (wX n l)=false):dM l n=(nF,false):=by
 rw[dM,if_neg (fun q=>by rw[q.2.2] at h;cases h)]
theorem tX {l:List aI}{n:Int}(h:64<l.length):dM l n=(nF,false):=aOu (lI (fun q=>by
 have:(wX n l).rows.length=(dI n).length+l.length:=by simp[wX]
 omega))
theorem aU2 (al:Int)(p m:List Int):(eI al p m).length=al.toNat:=by
 have h: ∀(v:Int) (q:List Int) (r:List Int),(q.foldl (nR v) r).length=r.length:=by
  intro v q
  induction q with
  | nil=>intro r;rfl
  | cons s q ih=>
    intro r;rw[List.foldl_cons,ih];unfold nR;split
    ·simp
    rfl
 rw[eI,h,h,aYQ]
theorem aOv {n:Int}{c:aI}(hd:0<c.dst)(hs:0<c.src):nM n c=((List.replicate (dE n).toNat (0:Int)).set (c.dst - 1).toNat 1).set (c.src - 1).toNat (-1):=by
 show nR (-1) (nR 1 _ c.dst) c.src=_;rw[tW hd,tW hs]
theorem aOw {n:Int}{c:aI}(hd:0<c.dst)(hs: ¬0<c.src):nM n c=(List.replicate (dE n).toNat (0:Int)).set (c.dst - 1).toNat 1:=by
 show nR (-1) (nR 1 _ c.dst) c.src=_;rw[tW hd,aLX hs]
theorem aLZ {n:Int}(h:0<dE n):eI (dE n) [dE n] []=(List.replicate (dE n).toNat (0:Int)).set (dE n - 1).toNat 1:=by
 show nR 1 _ (dE n)=_;rw[tW h]
theorem aKQ (n:Int):(dI n).length<=1000:=by
 have h:=aH4 n;have h2:=fD (aAr n);rw[<-aLW];omega
theorem aEe {α:Type}{ct:α->Nat}{m:Nat}: ∀{l:List α},(∀x∈l,ct x<=m)->eZ ct l<=l.length*m
 | [],_=>by simp[eZ]
 | a::l,h=>by
   have h1:=h a (by simp);have h2:=aEe (l:=l) fun x hx=>h x (by simp[hx]);simp only[eZ,aKT,List.sum_cons,aPS,Nat.add_mul,Nat.one_mul] at*;omega
theorem aL0 {p:bU}(h:cQ p=true):yA p<=2000:=by
 obtain⟨h1,h2,h3,h4,h5⟩:=mI h
 have hs:eZ cC p.rows<=p.rows.length*15:=aEe fun r hr=>by
  have:=(h4 r (by simp[hr])).1;have e:cC r=r.length:=rfl;omega
 have e1:yA p=cC p.objective+cO p.rows+cC p.limits:=rfl;have e2:cC p.objective=p.objective.length:=rfl;have e3:cC p.limits=p.limits.length:=rfl;have e4:cO p.rows=p.rows.length+eZ cC p.rows:=rfl;omega
theorem aOx (l:List aI)(n:Int):yA (dM l n).1<=2000:=by
 unfold dM;split
 ·rename_i h;exact aL0 h.2.2
 decide
theorem aU3 {n:Int}{l:List aI}(hn:1<=n/\n<=4): ∀r∈dI n++l.map (nM n),r.length<=1048576:=by
 intro r hr;rcases aI1.1 hr with h | h
 ·have h1:=aH4 n;rw[aLW] at h1;obtain⟨k,hk⟩:=List.getElem?_of_mem h;have h2:=aAX hk;have e:cC r=r.length:=rfl;omega
 obtain⟨c,_,rfl⟩:=aON.1 h;rw[nM,aU2];obtain⟨b1,b2,b3⟩:=aA9 hn;have hal:dE n=1*2^n.toNat - 1:=rfl;omega
theorem aU4 {n d:Int}:Int.gcd (-n) (-d)=Int.gcd n d:=by simp[Int.gcd]
theorem tB {n d:Int}(h:0<d):bO n d=if cV (n.tdiv (Int.gcd n d)) (d.tdiv (Int.gcd n d))=true then (n.tdiv (Int.gcd n d),d.tdiv (Int.gcd n d),true) else (0,0,false):=aRf h rfl
theorem zP {n d:Int}(h:d<0):bO n d=if cV ((-n).tdiv (Int.gcd (-n) (-d))) ((-d).tdiv (Int.gcd (-n) (-d)))=true then ((-n).tdiv (Int.gcd (-n) (-d)),(-d).tdiv (Int.gcd (-n) (-d)),true) else (0,0,false):=aRg h rfl
theorem aNT {n:Int}:iI (bO n 0)=(⟨0,0⟩,false):=by rw[mH];rfl
theorem aL1 {n d:Int}(h:0<d)(c:bA ⟨n.tdiv (Int.gcd n d),d.tdiv (Int.gcd n d)⟩=true):iI (bO n d)=(⟨n.tdiv (Int.gcd n d),d.tdiv (Int.gcd n d)⟩,true):=by
 rw[tB h,if_pos (show cV _ _=true from c)];rfl
theorem aH5 {n d:Int}(h:0<d)(c:bA ⟨n.tdiv (Int.gcd n d),d.tdiv (Int.gcd n d)⟩=false):iI (bO n d)=(⟨0,0⟩,false):=by
 rw[tB h,if_neg (by rw[show cV _ _=false from c];simp)];rfl
theorem aL2 {n d:Int}(h:d<0)(c:bA ⟨(-n).tdiv (Int.gcd (-n) (-d)),(-d).tdiv (Int.gcd (-n) (-d))⟩=true):iI (bO n d)=(⟨(-n).tdiv (Int.gcd (-n) (-d)),(-d).tdiv (Int.gcd (-n) (-d))⟩,true):=by
 rw[zP h,if_pos (show cV _ _=true from c)];rfl
theorem aH6 {n d:Int}(h:d<0)(c:bA ⟨(-n).tdiv (Int.gcd (-n) (-d)),(-d).tdiv (Int.gcd (-n) (-d))⟩=false):iI (bO n d)=(⟨0,0⟩,false):=by
 rw[zP h,if_neg (by rw[show cV _ _=false from c];simp)];rfl
theorem kQ {n g:Int}(hn: -9223372036854775807<=n/\n<=9223372036854775807):bK (n.tdiv g):=by have:=aUU n g hn;exact⟨by omega,by omega⟩
abbrev tY (n:Int)(d:Int):AV × List (Nat × Rs):=(.tup [.agg [vI ((iI (bO n d)).1.num),vI ((iI (bO n d)).1.den)],vB ((iI (bO n d)).2)],[])
abbrev aAb (n:Int)(d:Int):Prop:=Cn 212 [.one (.int .i64 n),.one (.int .i64 d)] (tY n d).1 (tY n d).2
theorem aL3 (n d:Int)(hn: -9223372036854775807<=n/\n<=9223372036854775807)(hd: -9223372036854775807<=d/\d<=9223372036854775807):aAb n d:=by
 refine cq Tryz.func212 (.br (.fin []) (.lit<| .lit<| .lit<| .lit<| .br (.lit<| .lit<| .lit<| .lit<| .br (.fin []) (.lit<| .lit<| .lit<| .lit<| .br (.fin []) (.br (.call (vI ((Int.gcd (-n) (-d):Nat):Int)) []<| .call (vB (bA (⟨Int.tdiv (-n) ((Int.gcd (-n) (-d):Nat):Int),Int.tdiv (-d) ((Int.gcd (-n) (-d):Nat):Int)⟩:aB))) []<| .br (.fin []) (.fin [])) (.call (vI ((Int.gcd n d:Nat):Int)) []<| .call (vB (bA (⟨Int.tdiv n ((Int.gcd n d:Nat):Int),Int.tdiv d ((Int.gcd n d:Nat):Int)⟩:aB))) []<| .br (.fin []) (.fin []))))) (.lit<| .lit<| .lit<| .lit<| .lit<| .lit<| .lit<| .lit<| .lit<| .br (.fin []) (.br (.call (vI ((Int.gcd (-n) (-d):Nat):Int)) []<| .call (vB (bA (⟨Int.tdiv (-n) ((Int.gcd (-n) (-d):Nat):Int),Int.tdiv (-d) ((Int.gcd (-n) (-d):Nat):Int)⟩:aB))) []<| .br (.fin []) (.fin [])) (.call (vI ((Int.gcd n d:Nat):Int)) []<| .call (vB (bA (⟨Int.tdiv n ((Int.gcd n d:Nat):Int),Int.tdiv d ((Int.gcd n d:Nat):Int)⟩:aB))) []<| .br (.fin []) (.fin [])))))) (p:=Br (d=0) (0=((iI (bO n d)).1.num)/\0=((iI (bO n d)).1.den)/\(false)=((iI (bO n d)).2)/\True) (bK (-n)/\Br (n=(-n)) (Nb (n=0) (0=((iI (bO n d)).1.num)/\0=((iI (bO n d)).1.den)/\(false)=((iI (bO n d)).2)/\True) (bK (-d)/\Br (d=(-d)) (0=((iI (bO n d)).1.num)/\0=((iI (bO n d)).1.den)/\(false)=((iI (bO n d)).2)/\True) (Br (d<0) (bK (-n)/\bK (-d)/\oL (-n) (-d)/\((Int.gcd (-n) (-d):Nat):Int)≠0/\bK (Int.tdiv (-n) ((Int.gcd (-n) (-d):Nat):Int))/\((Int.gcd (-n) (-d):Nat):Int)≠0/\bK (Int.tdiv (-d) ((Int.gcd (-n) (-d):Nat):Int))/\gF (⟨Int.tdiv (-n) ((Int.gcd (-n) (-d):Nat):Int),Int.tdiv (-d) ((Int.gcd (-n) (-d):Nat):Int)⟩:aB)/\Nr (bA (⟨Int.tdiv (-n) ((Int.gcd (-n) (-d):Nat):Int),Int.tdiv (-d) ((Int.gcd (-n) (-d):Nat):Int)⟩:aB)) (0=((iI (bO n d)).1.num)/\0=((iI (bO n d)).1.den)/\(false)=((iI (bO n d)).2)/\True) ((Int.tdiv (-n) ((Int.gcd (-n) (-d):Nat):Int))=((iI (bO n d)).1.num)/\(Int.tdiv (-d) ((Int.gcd (-n) (-d):Nat):Int))=((iI (bO n d)).1.den)/\(true)=((iI (bO n d)).2)/\True)) (oL n d/\((Int.gcd n d:Nat):Int)≠0/\bK (Int.tdiv n ((Int.gcd n d:Nat):Int))/\((Int.gcd n d:Nat):Int)≠0/\bK (Int.tdiv d ((Int.gcd n d:Nat):Int))/\gF (⟨Int.tdiv n ((Int.gcd n d:Nat):Int),Int.tdiv d ((Int.gcd n d:Nat):Int)⟩:aB)/\Nr (bA (⟨Int.tdiv n ((Int.gcd n d:Nat):Int),Int.tdiv d ((Int.gcd n d:Nat):Int)⟩:aB)) (0=((iI (bO n d)).1.num)/\0=((iI (bO n d)).1.den)/\(false)=((iI (bO n d)).2)/\True) ((Int.tdiv n ((Int.gcd n d:Nat):Int))=((iI (bO n d)).1.num)/\(Int.tdiv d ((Int.gcd n d:Nat):Int))=((iI (bO n d)).1.den)/\(true)=((iI (bO n d)).2)/\True))))) (bK (-d)/\Br (d=(-d)) (0=((iI (bO n d)).1.num)/\0=((iI (bO n d)).1.den)/\(false)=((iI (bO n d)).2)/\True) (Br (d<0) (bK (-n)/\bK (-d)/\oL (-n) (-d)/\((Int.gcd (-n) (-d):Nat):Int)≠0/\bK (Int.tdiv (-n) ((Int.gcd (-n) (-d):Nat):Int))/\((Int.gcd (-n) (-d):Nat):Int)≠0/\bK (Int.tdiv (-d) ((Int.gcd (-n) (-d):Nat):Int))/\gF (⟨Int.tdiv (-n) ((Int.gcd (-n) (-d):Nat):Int),Int.tdiv (-d) ((Int.gcd (-n) (-d):Nat):Int)⟩:aB)/\Nr (bA (⟨Int.tdiv (-n) ((Int.gcd (-n) (-d):Nat):Int),Int.tdiv (-d) ((Int.gcd (-n) (-d):Nat):Int)⟩:aB)) (0=((iI (bO n d)).1.num)/\0=((iI (bO n d)).1.den)/\(false)=((iI (bO n d)).2)/\True) ((Int.tdiv (-n) ((Int.gcd (-n) (-d):Nat):Int))=((iI (bO n d)).1.num)/\(Int.tdiv (-d) ((Int.gcd (-n) (-d):Nat):Int))=((iI (bO n d)).1.den)/\(true)=((iI (bO n d)).2)/\True)) (oL n d/\((Int.gcd n d:Nat):Int)≠0/\bK (Int.tdiv n ((Int.gcd n d:Nat):Int))/\((Int.gcd n d:Nat):Int)≠0/\bK (Int.tdiv d ((Int.gcd n d:Nat):Int))/\gF (⟨Int.tdiv n ((Int.gcd n d:Nat):Int),Int.tdiv d ((Int.gcd n d:Nat):Int)⟩:aB)/\Nr (bA (⟨Int.tdiv n ((Int.gcd n d:Nat):Int),Int.tdiv d ((Int.gcd n d:Nat):Int)⟩:aB)) (0=((iI (bO n d)).1.num)/\0=((iI (bO n d)).1.den)/\(false)=((iI (bO n d)).2)/\True) ((Int.tdiv n ((Int.gcd n d:Nat):Int))=((iI (bO n d)).1.num)/\(Int.tdiv d ((Int.gcd n d:Nat):Int))=((iI (bO n d)).1.den)/\(true)=((iI (bO n d)).2)/\True)))))) (by kernel_rfl) ?_;refine dd (fun g10=>?_) fun g10=>?_
 ·apply et3<;>((subst g10;rw[aNT]<;>rfl))
 ·refine⟨by exact⟨by omega,by omega⟩,dd (fun g15=>?_) fun g15=>?_⟩
  ·refine dn (fun g20=>?_) fun g20=>?_
   ·apply et3<;>((exfalso;omega))
   ·refine⟨by exact⟨by omega,by omega⟩,dd (fun c0=>?_) fun c0=>?_⟩
    ·apply et3<;>((exfalso;omega))
    ·refine dd (fun c1=>?_) fun c1=>?_
     ·have q1:((Int.gcd (-n) (-d):Nat):Int)≠0:=by have:=lY (n:= -n) (d:= -d) (by omega);omega
      have q2:((Int.gcd ((Int.natAbs (-n):Nat):Int) (-d):Nat):Int)≠0:=by rw[fR];have:=lY (n:= -n) (d:= -d) (by omega);omega
      refine⟨by exact⟨by omega,by omega⟩,by exact⟨by omega,by omega⟩,zJ _ _ (by omega) (by omega),by omega,by exact kQ (by omega),by omega,by exact kQ (by omega),kP (⟨Int.tdiv (-n) ((Int.gcd (-n) (-d):Nat):Int),Int.tdiv (-d) ((Int.gcd (-n) (-d):Nat):Int)⟩:aB),dm (fun c2=>?_) fun c2=>?_⟩
      ·apply et3<;>((rw[aH6 (by omega) c2]<;>rfl))
      ·apply et3<;>((rw[aL2 (by omega) c2]<;>rfl))
     ·have q1:((Int.gcd n d:Nat):Int)≠0:=by have:=lY (n:=n) (d:=d) (by omega);omega
      have q2:((Int.gcd ((Int.natAbs n:Nat):Int) d:Nat):Int)≠0:=by rw[fR];have:=lY (n:=n) (d:=d) (by omega);omega
      refine⟨zJ _ _ (by omega) (by omega),by omega,by exact kQ hn,by omega,by exact kQ (by omega),kP (⟨Int.tdiv n ((Int.gcd n d:Nat):Int),Int.tdiv d ((Int.gcd n d:Nat):Int)⟩:aB),dm (fun c2=>?_) fun c2=>?_⟩
      ·apply et3<;>((rw[aH5 (by omega) c2]<;>rfl))
      ·apply et3<;>((rw[aL1 (by omega) c2]<;>rfl))
  ·refine⟨by exact⟨by omega,by omega⟩,dd (fun c0=>?_) fun c0=>?_⟩
   ·apply et3<;>((exfalso;omega))
   ·refine dd (fun c1=>?_) fun c1=>?_
    ·have q1:((Int.gcd (-n) (-d):Nat):Int)≠0:=by have:=lY (n:= -n) (d:= -d) (by omega);omega
     have q2:((Int.gcd ((Int.natAbs (-n):Nat):Int) (-d):Nat):Int)≠0:=by rw[fR];have:=lY (n:= -n) (d:= -d) (by omega);omega
     refine⟨by exact⟨by omega,by omega⟩,by exact⟨by omega,by omega⟩,zJ _ _ (by omega) (by omega),by omega,by exact kQ (by omega),by omega,by exact kQ (by omega),kP (⟨Int.tdiv (-n) ((Int.gcd (-n) (-d):Nat):Int),Int.tdiv (-d) ((Int.gcd (-n) (-d):Nat):Int)⟩:aB),dm (fun c2=>?_) fun c2=>?_⟩
     ·apply et3<;>((rw[aH6 (by omega) c2]<;>rfl))
     ·apply et3<;>((rw[aL2 (by omega) c2]<;>rfl))
    ·have q1:((Int.gcd n d:Nat):Int)≠0:=by have:=lY (n:=n) (d:=d) (by omega);omega
     have q2:((Int.gcd ((Int.natAbs n:Nat):Int) d:Nat):Int)≠0:=by rw[fR];have:=lY (n:=n) (d:=d) (by omega);omega
     refine⟨zJ _ _ (by omega) (by omega),by omega,by exact kQ hn,by omega,by exact kQ (by omega),kP (⟨Int.tdiv n ((Int.gcd n d:Nat):Int),Int.tdiv d ((Int.gcd n d:Nat):Int)⟩:aB),dm (fun c2=>?_) fun c2=>?_⟩
     ·apply et3<;>((rw[aH5 (by omega) c2]<;>rfl))
     ·apply et3<;>((rw[aL1 (by omega) c2]<;>rfl))
abbrev qO (n:Int)(d:Int):AV × List (Nat × Rs):=(.tup [.agg [vI ((iI (bO n d)).1.num),vI ((iI (bO n d)).1.den)],vB ((iI (bO n d)).2)],[])
abbrev tZ (n:Int)(d:Int):Prop:=Cn 202 [.one (.int .i64 n),.one (.int .i64 d)] (qO n d).1 (qO n d).2
theorem aF1 (n d:Int)(hn: -9223372036854775807<=n/\n<=9223372036854775807)(hd: -9223372036854775807<=d/\d<=9223372036854775807):tZ n d:=by
 refine cq Tryz.func202 (.br (.fin []) (.lit<| .lit<| .br (.fin []) (.lit<| .lit<| .br (.fin []) (.br (.call (vI (((-n).natAbs:Nat):Int)) []<| .call (vI ((Int.gcd (((-n).natAbs:Nat):Int) (-d):Nat):Int)) []<| .call (vB (bA (⟨Int.tdiv (-n) ((Int.gcd (((-n).natAbs:Nat):Int) (-d):Nat):Int),Int.tdiv (-d) ((Int.gcd (((-n).natAbs:Nat):Int) (-d):Nat):Int)⟩:aB))) []<| .br (.fin []) (.fin [])) (.call (vI (n.natAbs:Int)) []<| .call (vI ((Int.gcd (n.natAbs:Int) d:Nat):Int)) []<| .call (vB (bA (⟨Int.tdiv n ((Int.gcd (n.natAbs:Int) d:Nat):Int),Int.tdiv d ((Int.gcd (n.natAbs:Int) d:Nat):Int)⟩:aB))) []<| .br (.fin []) (.fin [])))))) (p:=Br (d=0) (0=((iI (bO n d)).1.num)/\0=((iI (bO n d)).1.den)/\(false)=((iI (bO n d)).2)/\True) (Br (n<(-9223372036854775807:Int)) (0=((iI (bO n d)).1.num)/\0=((iI (bO n d)).1.den)/\(false)=((iI (bO n d)).2)/\True) (Br (d<(-9223372036854775807:Int)) (0=((iI (bO n d)).1.num)/\0=((iI (bO n d)).1.den)/\(false)=((iI (bO n d)).2)/\True) (Br (d<0) (bK (-n)/\bK (-d)/\vT (-n)/\vS (((-n).natAbs:Nat):Int) (-d)/\((Int.gcd (((-n).natAbs:Nat):Int) (-d):Nat):Int)≠0/\bK (Int.tdiv (-n) ((Int.gcd (((-n).natAbs:Nat):Int) (-d):Nat):Int))/\((Int.gcd (((-n).natAbs:Nat):Int) (-d):Nat):Int)≠0/\bK (Int.tdiv (-d) ((Int.gcd (((-n).natAbs:Nat):Int) (-d):Nat):Int))/\fE (⟨Int.tdiv (-n) ((Int.gcd (((-n).natAbs:Nat):Int) (-d):Nat):Int),Int.tdiv (-d) ((Int.gcd (((-n).natAbs:Nat):Int) (-d):Nat):Int)⟩:aB)/\Nr (bA (⟨Int.tdiv (-n) ((Int.gcd (((-n).natAbs:Nat):Int) (-d):Nat):Int),Int.tdiv (-d) ((Int.gcd (((-n).natAbs:Nat):Int) (-d):Nat):Int)⟩:aB)) (0=((iI (bO n d)).1.num)/\0=((iI (bO n d)).1.den)/\(false)=((iI (bO n d)).2)/\True) ((Int.tdiv (-n) ((Int.gcd (((-n).natAbs:Nat):Int) (-d):Nat):Int))=((iI (bO n d)).1.num)/\(Int.tdiv (-d) ((Int.gcd (((-n).natAbs:Nat):Int) (-d):Nat):Int))=((iI (bO n d)).1.den)/\(true)=((iI (bO n d)).2)/\True)) (vT n/\vS (n.natAbs:Int) d/\((Int.gcd (n.natAbs:Int) d:Nat):Int)≠0/\bK (Int.tdiv n ((Int.gcd (n.natAbs:Int) d:Nat):Int))/\((Int.gcd (n.natAbs:Int) d:Nat):Int)≠0/\bK (Int.tdiv d ((Int.gcd (n.natAbs:Int) d:Nat):Int))/\fE (⟨Int.tdiv n ((Int.gcd (n.natAbs:Int) d:Nat):Int),Int.tdiv d ((Int.gcd (n.natAbs:Int) d:Nat):Int)⟩:aB)/\Nr (bA (⟨Int.tdiv n ((Int.gcd (n.natAbs:Int) d:Nat):Int),Int.tdiv d ((Int.gcd (n.natAbs:Int) d:Nat):Int)⟩:aB)) (0=((iI (bO n d)).1.num)/\0=((iI (bO n d)).1.den)/\(false)=((iI (bO n d)).2)/\True) ((Int.tdiv n ((Int.gcd (n.natAbs:Int) d:Nat):Int))=((iI (bO n d)).1.num)/\(Int.tdiv d ((Int.gcd (n.natAbs:Int) d:Nat):Int))=((iI (bO n d)).1.den)/\(true)=((iI (bO n d)).2)/\True)))))) (by kernel_rfl) ?_;refine dd (fun g10=>?_) fun g10=>?_
 ·apply et3<;>((try simp only[fR] at*);(subst g10;rw[aNT]<;>rfl))
 ·refine dd (fun g14=>?_) fun g14=>?_
  ·apply et3<;>((try simp only[fR] at*);(exfalso;omega))
  ·refine dd (fun c0=>?_) fun c0=>?_
   ·apply et3<;>((try simp only[fR] at*);(exfalso;omega))
   ·refine dd (fun c1=>?_) fun c1=>?_
    ·have q1:((Int.gcd (-n) (-d):Nat):Int)≠0:=by have:=lY (n:= -n) (d:= -d) (by omega);omega
     have q2:((Int.gcd ((Int.natAbs (-n):Nat):Int) (-d):Nat):Int)≠0:=by rw[fR];have:=lY (n:= -n) (d:= -d) (by omega);omega
     refine⟨by exact⟨by omega,by omega⟩,by exact⟨by omega,by omega⟩,aHY _ (by omega),aHX _ _ (by omega) (by omega),by omega,by exact kQ (by omega),by omega,by exact kQ (by omega),jC (⟨Int.tdiv (-n) ((Int.gcd (((-n).natAbs:Nat):Int) (-d):Nat):Int),Int.tdiv (-d) ((Int.gcd (((-n).natAbs:Nat):Int) (-d):Nat):Int)⟩:aB),dm (fun c2=>?_) fun c2=>?_⟩
     ·apply et3<;>((try simp only[fR] at*);(rw[aH6 (by omega) c2]<;>rfl))
     ·apply et3<;>((try simp only[fR] at*);(rw[aL2 (by omega) c2]<;>rfl))
    ·have q1:((Int.gcd n d:Nat):Int)≠0:=by have:=lY (n:=n) (d:=d) (by omega);omega
     have q2:((Int.gcd ((Int.natAbs n:Nat):Int) d:Nat):Int)≠0:=by rw[fR];have:=lY (n:=n) (d:=d) (by omega);omega
     refine⟨aHY _ (by omega),aHX _ _ (by omega) (by omega),by omega,by exact kQ hn,by omega,by exact kQ (by omega),jC (⟨Int.tdiv n ((Int.gcd (n.natAbs:Int) d:Nat):Int),Int.tdiv d ((Int.gcd (n.natAbs:Int) d:Nat):Int)⟩:aB),dm (fun c2=>?_) fun c2=>?_⟩
     ·apply et3<;>((try simp only[fR] at*);(rw[aH5 (by omega) c2]<;>rfl))
     ·apply et3<;>((try simp only[fR] at*);(rw[aL1 (by omega) c2]<;>rfl))
end Go.Proofs.YtlidmoeecphbmaaGreat
