/-
  Contracts and plain laws, joined: part 16.
-/
import Derived.Test.YtlidmoeecphbmaaGreatez14
import Derived.Test.YtlidmoeecphbmaaGreatez3
import Derived.Test.YtlidmoeecphbmaaGreatez13
namespace Go.Proofs.YtlidmoeecphbmaaGreat
open Go.ChangeShapes Go.WideShapes Go.ChangeAt Go.RowKit
set_option linter.unusedVariables false
set_option linter.unusedSimpArgs false
set_option maxRecDepth 100000
set_option maxHeartbeats 4000000
abbrev aEy (n:Int):AV × List (Nat × Rs):=(.own 0,[(0,.arr 91 1 true ((aBK n).map aC))])
abbrev aNt (n:Int):Prop:=Cn 158 [.one (.int .i64 n)] (aEy n).1 (aEy n).2
theorem aSW (n:Int):aNt n:=by
 refine cq Tryz.func158 (.call (vB (decide (1<=n/\n<=4))) []<| .br (.fin []) (.loop (Nat × (List (List Int))) (Q2 Nat (List (List Int))) ([6,16]++rg 18 14) [400,1600,2800,3000,3102] (fun yy0=>[(6,vI (yy0.1:Int))]) (fun yy0=>[(400,some (.box 92 [.own 1600])),(1600,some (.arr 91 1 true (yy0.2.map aC)))]) (fun yy0=>(yy0.1:Int)<=n/\yy0.2=wX (gQ (dG n)) (hdI n) (dG n) yy0.1/\yy0.2.length<=yy0.1) (fun yy0=>n.toNat - yy0.1) (fun yy0=> .br (oI (nC (((1:Int)*2^(Int.toNat n)) - 1) ([cH .andNot .i64 (((1:Int)*2^(Int.toNat n)) - 1) ((1:Int)*2^yy0.1)]:List Int) ([((1:Int)*2^(Int.toNat n)) - 1]:List Int) yy0.2) [(0,400),(1,1600)]<| .back [(400,400),(1600,3102)]) (.loop (Nat × (List (List Int))) (Q2 Nat (List (List Int))) ([7,8,9]++rg 32 49) [400,1600,7000,7900,8002] (fun yy1=>[(7,vI (yy1.1:Int))]) (fun yy1=>[(400,some (.box 92 [.own 1600])),(1600,some (.arr 91 1 true (yy1.2.map aC)))]) (fun yy1=>(yy1.1:Int)<=n/\yy1.2=wX (gQ (dG n)) (hdI n) (dG n) n.toNat++elI (gQ (dG n)) (2^n.toNat) n.toNat yy1.1/\yy1.2.length<=4+yy1.1*64) (fun yy1=>n.toNat - yy1.1) (fun yy1=> .br (.loop (Nat × (List (List Int))) (Q2 Nat (List (List Int))) ([8,9]++rg 39 42) [400,1600,7000,7900,8002] (fun yy2=>[(8,vI ((yy1.1+1+yy2.1:Nat):Int))]) (fun yy2=>[(400,some (.box 92 [.own 1600])),(1600,some (.arr 91 1 true (yy2.2.map aC)))]) (fun yy2=>((yy1.1+1+yy2.1:Nat):Int)<=n/\yy2.2=wX (gQ (dG n)) (hdI n) (dG n) n.toNat++elI (gQ (dG n)) (2^n.toNat) n.toNat yy1.1++elJ (gQ (dG n)) (2^n.toNat) yy1.1 yy2.1/\yy2.2.length<=4+yy1.1*64+yy2.1*16) (fun yy2=>n.toNat - (yy1.1+1+yy2.1)) (fun yy2=> .br (.loop (Nat × (List (List Int))) (Q2 Nat (List (List Int))) ([9]++rg 44 37) [400,1600,7000,7900,8002] (fun yy3=>[(9,vI (yy3.1:Int))]) (fun yy3=>[(400,some (.box 92 [.own 1600])),(1600,some (.arr 91 1 true (yy3.2.map aC)))]) (fun yy3=>yy3.1<=2^n.toNat/\yy3.2=wX (gQ (dG n)) (hdI n) (dG n) n.toNat++elI (gQ (dG n)) (2^n.toNat) n.toNat yy1.1++elJ (gQ (dG n)) (2^n.toNat) yy1.1 yy2.1++elS (gQ (dG n)) yy1.1 (yy1.1+1+yy2.1) yy3.1/\yy3.2.length<=4+yy1.1*64+yy2.1*16+yy3.1) (fun yy3=>2^n.toNat - yy3.1) (fun yy3=> .br (.br (.lit<| .lit<| .lit<| .lit<| .lit<| .br (oI (nC (((1:Int)*2^(Int.toNat n)) - 1) ([(yy3.1:Int),cH .or .i64 (cH .or .i64 (yy3.1:Int) ((1:Int)*2^yy1.1)) ((1:Int)*2^(yy1.1+1+yy2.1))]:List Int) ([cH .or .i64 (yy3.1:Int) ((1:Int)*2^yy1.1),cH .or .i64 (yy3.1:Int) ((1:Int)*2^(yy1.1+1+yy2.1))]:List Int) yy3.2) [(0,400),(1,1600)]<| .back [(400,400),(1600,8002)]) (.back [(400,400),(1600,1600)])) (.back [(400,400),(1600,1600)])) (.back [(400,400),(1600,1600)]))) (.back [(400,400),(1600,1600)]))) (.fin [(0,1600)])))))) (p:=jR n (1:Int) (4:Int)/\Nb (1<=n/\n<=4) ([]=(aBK n).map aC/\True) ((0<=n/\n<=64)/\(bJ ((1:Int)*2^(Int.toNat n))/\(bJ (((1:Int)*2^(Int.toNat n)) - 1)/\((∃(i:Nat) (o0:List (List Int)),0=(i:Int)/\[]=o0.map aC/\(i:Int)<=n/\o0=wX (gQ (dG n)) (hdI n) (dG n) i/\o0.length<=i)/\ ∀(i:Nat) (o0:List (List Int)),((i:Int)<=n/\o0=wX (gQ (dG n)) (hdI n) (dG n) i/\o0.length<=i)->Br ((i:Int)<n) ((0<=(i:Int)/\(i:Int)<=64)/\bJ ((1:Int)*2^i)/\aAB (((1:Int)*2^(Int.toNat n)) - 1) ([cH .andNot .i64 (((1:Int)*2^(Int.toNat n)) - 1) ((1:Int)*2^i)]:List Int) ([((1:Int)*2^(Int.toNat n)) - 1]:List Int) o0/\[[.int .i64 (cH .andNot .i64 (((1:Int)*2^(Int.toNat n)) - 1) ((1:Int)*2^i))]]=([cH .andNot .i64 (((1:Int)*2^(Int.toNat n)) - 1) ((1:Int)*2^i)]:List Int).map intD/\[[.int .i64 (((1:Int)*2^(Int.toNat n)) - 1)]]=([((1:Int)*2^(Int.toNat n)) - 1]:List Int).map intD/\(((1:Int)*2^(Int.toNat n)) - 1)=(((1:Int)*2^(Int.toNat n)) - 1)/\o0.map aC=o0.map aC/\bJ ((i:Int)+1)/\ ∃(i' :Nat) (o0' :List (List Int)),((i:Int)+1)=(i' :Int)/\(o0++[gQ (((1:Int)*2^(Int.toNat n)) - 1) ([cH .andNot .i64 (((1:Int)*2^(Int.toNat n)) - 1) ((1:Int)*2^i)]:List Int) ([((1:Int)*2^(Int.toNat n)) - 1]:List Int)]).map aC=o0'.map aC/\((i' :Int)<=n/\o0' =wX (gQ (dG n)) (hdI n) (dG n) i' /\o0'.length<=i')/\n.toNat - i' <n.toNat - i) ((∃(i:Nat) (o1:List (List Int)),0=(i:Int)/\o0.map aC=o1.map aC/\(i:Int)<=n/\o1=wX (gQ (dG n)) (hdI n) (dG n) n.toNat++elI (gQ (dG n)) (2^n.toNat) n.toNat i/\o1.length<=4+i*64)/\ ∀(i:Nat) (o1:List (List Int)),((i:Int)<=n/\o1=wX (gQ (dG n)) (hdI n) (dG n) n.toNat++elI (gQ (dG n)) (2^n.toNat) n.toNat i/\o1.length<=4+i*64)->Br ((i:Int)<n) (bJ ((i:Int)+1)/\((∃(j:Nat) (o2:List (List Int)),((i:Int)+1)=((i+1+j:Nat):Int)/\o1.map aC=o2.map aC/\((i+1+j:Nat):Int)<=n/\o2=wX (gQ (dG n)) (hdI n) (dG n) n.toNat++elI (gQ (dG n)) (2^n.toNat) n.toNat i++elJ (gQ (dG n)) (2^n.toNat) i j/\o2.length<=4+i*64+j*16)/\ ∀(j:Nat) (o2:List (List Int)),(((i+1+j:Nat):Int)<=n/\o2=wX (gQ (dG n)) (hdI n) (dG n) n.toNat++elI (gQ (dG n)) (2^n.toNat) n.toNat i++elJ (gQ (dG n)) (2^n.toNat) i j/\o2.length<=4+i*64+j*16)->Br (((i+1+j:Nat):Int)<n) ((∃(s:Nat) (o3:List (List Int)),0=(s:Int)/\o2.map aC=o3.map aC/\s<=2^n.toNat/\o3=wX (gQ (dG n)) (hdI n) (dG n) n.toNat++elI (gQ (dG n)) (2^n.toNat) n.toNat i++elJ (gQ (dG n)) (2^n.toNat) i j++elS (gQ (dG n)) i (i+1+j) s/\o3.length<=4+i*64+j*16+s)/\ ∀(s:Nat) (o3:List (List Int)),(s<=2^n.toNat/\o3=wX (gQ (dG n)) (hdI n) (dG n) n.toNat++elI (gQ (dG n)) (2^n.toNat) n.toNat i++elJ (gQ (dG n)) (2^n.toNat) i j++elS (gQ (dG n)) i (i+1+j) s/\o3.length<=4+i*64+j*16+s)->Br ((s:Int)<=(((1:Int)*2^(Int.toNat n)) - 1)) ((0<=(i:Int)/\(i:Int)<=64)/\Br ((cH .and .i64 ((s:Int)/2^i) (1:Int))=0) ((0<=((i+1+j:Nat):Int)/\((i+1+j:Nat):Int)<=64)/\Br ((cH .and .i64 ((s:Int)/2^(i+1+j)) (1:Int))=0) ((0<=(i:Int)/\(i:Int)<=64)/\bJ ((1:Int)*2^i)/\(0<=((i+1+j:Nat):Int)/\((i+1+j:Nat):Int)<=64)/\bJ ((1:Int)*2^(i+1+j))/\(0<=(i:Int)/\(i:Int)<=64)/\bJ ((1:Int)*2^i)/\(0<=((i+1+j:Nat):Int)/\((i+1+j:Nat):Int)<=64)/\bJ ((1:Int)*2^(i+1+j))/\aAB (((1:Int)*2^(Int.toNat n)) - 1) ([(s:Int),cH .or .i64 (cH .or .i64 (s:Int) ((1:Int)*2^i)) ((1:Int)*2^(i+1+j))]:List Int) ([cH .or .i64 (s:Int) ((1:Int)*2^i),cH .or .i64 (s:Int) ((1:Int)*2^(i+1+j))]:List Int) o3/\[[.int .i64 (s:Int)],[.int .i64 (cH .or .i64 (cH .or .i64 (s:Int) ((1:Int)*2^i)) ((1:Int)*2^(i+1+j)))]]=([(s:Int),cH .or .i64 (cH .or .i64 (s:Int) ((1:Int)*2^i)) ((1:Int)*2^(i+1+j))]:List Int).map intD/\[[.int .i64 (cH .or .i64 (s:Int) ((1:Int)*2^i))],[.int .i64 (cH .or .i64 (s:Int) ((1:Int)*2^(i+1+j)))]]=([cH .or .i64 (s:Int) ((1:Int)*2^i),cH .or .i64 (s:Int) ((1:Int)*2^(i+1+j))]:List Int).map intD/\(((1:Int)*2^(Int.toNat n)) - 1)=(((1:Int)*2^(Int.toNat n)) - 1)/\o3.map aC=o3.map aC/\bJ ((s:Int)+1)/\ ∃(s' :Nat) (o3' :List (List Int)),((s:Int)+1)=(s' :Int)/\(o3++[gQ (((1:Int)*2^(Int.toNat n)) - 1) ([(s:Int),cH .or .i64 (cH .or .i64 (s:Int) ((1:Int)*2^i)) ((1:Int)*2^(i+1+j))]:List Int) ([cH .or .i64 (s:Int) ((1:Int)*2^i),cH .or .i64 (s:Int) ((1:Int)*2^(i+1+j))]:List Int)]).map aC=o3'.map aC/\(s' <=2^n.toNat/\o3' =wX (gQ (dG n)) (hdI n) (dG n) n.toNat++elI (gQ (dG n)) (2^n.toNat) n.toNat i++elJ (gQ (dG n)) (2^n.toNat) i j++elS (gQ (dG n)) i (i+1+j) s' /\o3'.length<=4+i*64+j*16+s')/\2^n.toNat - s' <2^n.toNat - s) (bJ ((s:Int)+1)/\ ∃(s' :Nat) (o3' :List (List Int)),((s:Int)+1)=(s' :Int)/\o3.map aC=o3'.map aC/\(s' <=2^n.toNat/\o3' =wX (gQ (dG n)) (hdI n) (dG n) n.toNat++elI (gQ (dG n)) (2^n.toNat) n.toNat i++elJ (gQ (dG n)) (2^n.toNat) i j++elS (gQ (dG n)) i (i+1+j) s' /\o3'.length<=4+i*64+j*16+s')/\2^n.toNat - s' <2^n.toNat - s)) (bJ ((s:Int)+1)/\ ∃(s' :Nat) (o3' :List (List Int)),((s:Int)+1)=(s' :Int)/\o3.map aC=o3'.map aC/\(s' <=2^n.toNat/\o3' =wX (gQ (dG n)) (hdI n) (dG n) n.toNat++elI (gQ (dG n)) (2^n.toNat) n.toNat i++elJ (gQ (dG n)) (2^n.toNat) i j++elS (gQ (dG n)) i (i+1+j) s' /\o3'.length<=4+i*64+j*16+s')/\2^n.toNat - s' <2^n.toNat - s)) (bJ (((i+1+j:Nat):Int)+1)/\ ∃(j' :Nat) (o2' :List (List Int)),(((i+1+j:Nat):Int)+1)=((i+1+j' :Nat):Int)/\o3.map aC=o2'.map aC/\(((i+1+j' :Nat):Int)<=n/\o2' =wX (gQ (dG n)) (hdI n) (dG n) n.toNat++elI (gQ (dG n)) (2^n.toNat) n.toNat i++elJ (gQ (dG n)) (2^n.toNat) i j' /\o2'.length<=4+i*64+j' *16)/\n.toNat - (i+1+j')<n.toNat - (i+1+j))) (bJ ((i:Int)+1)/\ ∃(i' :Nat) (o1' :List (List Int)),((i:Int)+1)=(i' :Int)/\o2.map aC=o1'.map aC/\((i' :Int)<=n/\o1' =wX (gQ (dG n)) (hdI n) (dG n) n.toNat++elI (gQ (dG n)) (2^n.toNat) n.toNat i' /\o1'.length<=4+i' *64)/\n.toNat - i' <n.toNat - i))) (o1.map aC=(aBK n).map aC/\True))))))) (by kernel_rfl) ?_;refine⟨nQ _ _ _,dn (fun c0=>?_) fun c0=>?_⟩
 ·apply et1
  ·(rw[aBK,if_neg (by omega)]<;>rfl)
 ·obtain⟨b1,b2,b3⟩:=aAr (n:=n) (by omega);have hal:dG n=1*2^n.toNat - 1:=rfl;refine⟨⟨by omega,by omega⟩,by exact fM (by omega),by exact⟨by omega,by omega⟩,⟨0,([]:List (List Int)),rfl,rfl,by omega,rfl,aBn _⟩,fun i o0 ⟨hi,ho,hL⟩=>?_⟩;refine dd (fun c1=>?_) fun c1=>?_
  ·have hh:=aYy (i:=i) (n:=n) (by omega) (by omega);have hw:=aQk (n:=n) (i:=i) (by omega) (by omega);unfold hdI at hh;refine⟨⟨by omega,by omega⟩,by exact fM (by omega),aKd _ ([cH .andNot .i64 (((1:Int)*2^(Int.toNat n)) - 1) ((1:Int)*2^i)]:List Int) ([((1:Int)*2^(Int.toNat n)) - 1]:List Int) _ (by omega) (by exact aP5 (by omega)) (by exact aP5 (by omega)) (by omega) (by simp) (by simp),rfl,rfl,rfl,rfl,by exact⟨by omega,by omega⟩,?_⟩;exact⟨i+1,_,rfl,rfl,⟨by omega,by rw[ho];rfl,by simp;omega⟩,by omega⟩
  ·refine⟨⟨0,o0,rfl,rfl,by omega,by rw[ho,show i=n.toNat by omega];simp[elI],by omega⟩,fun i o1 ⟨hi1,ho1,hL1⟩=>?_⟩;refine dd (fun c2=>?_) fun c2=>?_
   ·refine⟨by exact⟨by omega,by omega⟩,⟨0,o1,by rfl,by rfl,by omega,by rw[ho1];simp[elJ],by omega⟩,fun j o2 ⟨hj,ho2,hL2⟩=>?_⟩;refine dd (fun c3=>?_) fun c3=>?_
    ·refine⟨⟨0,o2,rfl,rfl,aBn _,by rw[ho2];simp[elS],by omega⟩,fun s o3 ⟨hs,ho3,hL3⟩=>?_⟩;refine dd (fun c4=>?_) fun c4=>?_
     ·refine⟨⟨by omega,by omega⟩,dd (fun g54=>?_) fun g54=>?_⟩
      ·refine⟨⟨by omega,by omega⟩,dd (fun c5=>?_) fun c5=>?_⟩
       ·obtain⟨v1,v2⟩:=aLw (n:=n.toNat) (i:=i) (j:=i+1+j) (s:=s) (by omega) (by omega) (by omega) (by omega);obtain⟨v3,v4⟩:=aLw (n:=n.toNat) (i:=i+1+j) (j:=i) (s:=s) (by omega) (by omega) (by omega) (by omega);refine⟨⟨by omega,by omega⟩,by exact fM (by omega),⟨by omega,by omega⟩,by exact fM (by omega),⟨by omega,by omega⟩,by exact fM (by omega),⟨by omega,by omega⟩,by exact fM (by omega),aKd _ ([(s:Int),cH .or .i64 (cH .or .i64 (s:Int) ((1:Int)*2^i)) ((1:Int)*2^(i+1+j))]:List Int) ([cH .or .i64 (s:Int) ((1:Int)*2^i),cH .or .i64 (s:Int) ((1:Int)*2^(i+1+j))]:List Int) _ (by omega) (by exact aXJ (by omega) (by omega)) (by exact aXJ (by omega) (by omega)) (by omega) (by simp) (by simp),rfl,rfl,rfl,rfl,by exact⟨by omega,by omega⟩,?_⟩;exact⟨s+1,_,rfl,rfl,⟨by omega,by (rw[ho3,elS,if_pos ⟨decide_eq_true g54,decide_eq_true c5⟩];simp only[aNG];done),by (simp;omega)⟩,by omega⟩
       ·refine⟨by exact⟨by omega,by omega⟩,?_⟩;exact⟨s+1,_,rfl,rfl,⟨by omega,by (rw[ho3,elS,if_neg (by rintro⟨q1,q2⟩;simp only[aKc,aWB] at q1 q2;contradiction),aXf]),by omega⟩,by omega⟩
      ·refine⟨by exact⟨by omega,by omega⟩,?_⟩;exact⟨s+1,_,rfl,rfl,⟨by omega,by (rw[ho3,elS,if_neg (by rintro⟨q1,q2⟩;simp only[aKc,aWB] at q1 q2;contradiction),aXf]),by omega⟩,by omega⟩
     ·refine⟨by exact⟨by omega,by omega⟩,?_⟩;exact⟨j+1,_,by rfl,by rfl,⟨by omega,by rw[ho3,show s=2^n.toNat by omega,elJ,<-aNG],by omega⟩,by omega⟩
    ·refine⟨by exact⟨by omega,by omega⟩,?_⟩;exact⟨i+1,_,rfl,rfl,⟨by omega,by rw[ho2,show j=n.toNat - (i+1) by omega,elI,aNG],by omega⟩,by omega⟩
   ·apply et1
    ·(rw[ho1,show i=n.toNat by omega,aBK,if_pos (by omega)];rfl)
theorem aHq (n:Int):cR (aBK n)<=1000:=by
 by_cases h:1<=n/\n<=4
 ·have:n=1\/n=2\/n=3\/n=4:=by omega
  rcases this with rfl | rfl | rfl | rfl<;>decide+kernel
 rw[aBK,if_neg h];decide
def okC (n:Int)(c:aI):Bool:=decide (1<=c.dst/\c.dst<=1*2^n.toNat - 1)&&(decide (0<=c.src)&&(decide (cH .and .i64 c.src c.dst=c.src)&&decide (¬c.src=c.dst)))
theorem aVE {n:Int}{c:aI}(h:okC n c=true):(1<=c.dst/\c.dst<=1*2^n.toNat - 1)/\0<=c.src/\cH .and .i64 c.src c.dst=c.src/\ ¬c.src=c.dst:=by
 simpa only [okC,aBH,aWB] using h
theorem aP7 {n:Int}{c:aI}(h:(1<=c.dst/\c.dst<=1*2^n.toNat - 1)/\0<=c.src/\cH .and .i64 c.src c.dst=c.src/\ ¬c.src=c.dst):okC n c=true:=by
 simpa only [okC,aBH,aWB] using h
theorem wJ {n:Int}{c:aI}(h: ¬((1<=c.dst/\c.dst<=1*2^n.toNat - 1)/\0<=c.src/\cH .and .i64 c.src c.dst=c.src/\ ¬c.src=c.dst)):okC n c=false:=by
 cases e:okC n c with
 | false=>rfl
 | true=>exact absurd (aVE e) h
theorem aBw {a c:Int}(h0:0<=a)(hc:0<=c)(ha:a<=9223372036854775807)(hc2:c<=9223372036854775807):cH .and .i64 a c<=c:=by
 obtain⟨m,rfl⟩:=Int.eq_ofNat_of_zero_le h0;obtain⟨k,rfl⟩:=Int.eq_ofNat_of_zero_le hc;have e1:(BitVec.ofInt 64 (m:Int)).toNat=m:=by simp;omega
 have e2:(BitVec.ofInt 64 (k:Int)).toNat=k:=by simp;omega
 have hle:m&&&k<=k:=Nat.and_le_right;unfold cH;show IntKind.i64.wrap ((BitVec.ofInt 64 (m:Int)&&&BitVec.ofInt 64 (k:Int)).toNat:Nat)<=_;rw[BitVec.toNat_and,e1,e2,IntWalk.i64_in _ ⟨by omega,by omega⟩];omega
def nR (n:Int)(c:aI):List Int:=eJ (dG n) [c.dst] [c.src]
def xL (n:Int)(l:List aI):bV:=⟨eJ (dG n) [dG n] [],dK n++l.map (nR n),List.replicate (dK n).length 0++l.map (·.bits)⟩
def dP (l:List aI)(n:Int):bV × Bool:=if (1<=n/\n<=4)/\l.all (okC n)=true/\cS (xL n l)=true then (xL n l,true) else (nL,false)
theorem aNu {l:List aI}{n:Int}(h1:1<=n/\n<=4)(h2:l.all (okC n)=true)(h3:cS (xL n l)=true):dP l n=(xL n l,true):=by rw[dP,if_pos ⟨h1,h2,h3⟩]
theorem aVF {l:List aI}{n:Int}(h1: ¬(1<=n/\n<=4)):dP l n=(nL,false):=by rw[dP,if_neg (fun h=>h1 h.1)]
theorem wK {l:List aI}{n:Int}{k:Nat}{c:aI}(h:l[k]? =some c)(hc:okC n c=false):dP l n=(nL,false):=by
 rw[dP,if_neg (fun q=>by have:=eL h hc;rw[q.2.1] at this;cases this)]
theorem aP8 {l:List aI}{n:Int}(h:cS (xL n l)=false):dP l n=(nL,false):=by
 rw[dP,if_neg (fun q=>by rw[q.2.2] at h;cases h)]
theorem uJ {l:List aI}{n:Int}(h:64<l.length):dP l n=(nL,false):=aP8 (lN (fun q=>by
 have:(xL n l).rows.length=(dK n).length+l.length:=by simp[xL]
 omega))
theorem aVG (al:Int)(p m:List Int):(eJ al p m).length=al.toNat:=by
 have h: ∀(v:Int) (q:List Int) (r:List Int),(q.foldl (nW v) r).length=r.length:=by
  intro v q
  induction q with
  | nil=>intro r;rfl
  | cons s q ih=>
    intro r;rw[List.foldl_cons,ih];unfold nW;split
    ·simp
    rfl
 rw[eJ,h,h,aZI]
theorem aP9 {n:Int}{c:aI}(hd:0<c.dst)(hs:0<c.src):nR n c=((List.replicate (dG n).toNat (0:Int)).set (c.dst - 1).toNat 1).set (c.src - 1).toNat (-1):=by
 show nW (-1) (nW 1 _ c.dst) c.src=_;rw[uI hd,uI hs]
theorem aPa {n:Int}{c:aI}(hd:0<c.dst)(hs: ¬0<c.src):nR n c=(List.replicate (dG n).toNat (0:Int)).set (c.dst - 1).toNat 1:=by
 show nW (-1) (nW 1 _ c.dst) c.src=_;rw[uI hd,aLv hs]
theorem aLx {n:Int}(h:0<dG n):eJ (dG n) [dG n] []=(List.replicate (dG n).toNat (0:Int)).set (dG n - 1).toNat 1:=by
 show nW 1 _ (dG n)=_;rw[uI h]
theorem aKi (n:Int):(dK n).length<=1000:=by
 have h:=aHq n;have h2:=fH (aBK n);rw[<-aLu];omega
theorem aEz {α:Type}{ct:α->Nat}{m:Nat}: ∀{l:List α},(∀x∈l,ct x<=m)->fD ct l<=l.length*m
 | [],_=>by simp[fD]
 | a::l,h=>by
   have h1:=h a (by simp);have h2:=aEz (l:=l) fun x hx=>h x (by simp[hx]);simp only[fD,aLL,List.sum_cons,aSt,Nat.add_mul,Nat.one_mul] at*;omega
theorem aLy {p:bV}(h:cS p=true):yO p<=2000:=by
 obtain⟨h1,h2,h3,h4,h5⟩:=mO h
 have hs:fD cE p.rows<=p.rows.length*15:=aEz fun r hr=>by
  have:=(h4 r (by simp[hr])).1;have e:cE r=r.length:=rfl;omega
 have e1:yO p=cE p.objective+cR p.rows+cE p.limits:=rfl;have e2:cE p.objective=p.objective.length:=rfl;have e3:cE p.limits=p.limits.length:=rfl;have e4:cR p.rows=p.rows.length+fD cE p.rows:=rfl;omega
theorem aPb (l:List aI)(n:Int):yO (dP l n).1<=2000:=by
 unfold dP;split
 ·rename_i h;exact aLy h.2.2
 decide
theorem aVH {n:Int}{l:List aI}(hn:1<=n/\n<=4): ∀r∈dK n++l.map (nR n),r.length<=1048576:=by
 intro r hr;rcases aIv.1 hr with h | h
 ·have h1:=aHq n;rw[aLu] at h1;obtain⟨k,hk⟩:=List.getElem?_of_mem h;have h2:=aAe hk;have e:cE r=r.length:=rfl;omega
 obtain⟨c,_,rfl⟩:=aPy.1 h;rw[nR,aVG];obtain⟨b1,b2,b3⟩:=aAr hn;have hal:dG n=1*2^n.toNat - 1:=rfl;omega
theorem aVI {n d:Int}:Int.gcd (-n) (-d)=Int.gcd n d:=by simp[Int.gcd]
theorem tL {n d:Int}(h:0<d):bO n d=if cJ (n.tdiv (Int.gcd n d)) (d.tdiv (Int.gcd n d))=true then (n.tdiv (Int.gcd n d),d.tdiv (Int.gcd n d),true) else (0,0,false):=aSS h rfl
theorem aAF {n d:Int}(h:d<0):bO n d=if cJ ((-n).tdiv (Int.gcd (-n) (-d))) ((-d).tdiv (Int.gcd (-n) (-d)))=true then ((-n).tdiv (Int.gcd (-n) (-d)),(-d).tdiv (Int.gcd (-n) (-d)),true) else (0,0,false):=aST h rfl
theorem aNv {n:Int}:iM (bO n 0)=(⟨0,0⟩,false):=by rw[mN];rfl
theorem aLz {n d:Int}(h:0<d)(c:aW ⟨n.tdiv (Int.gcd n d),d.tdiv (Int.gcd n d)⟩=true):iM (bO n d)=(⟨n.tdiv (Int.gcd n d),d.tdiv (Int.gcd n d)⟩,true):=by
 rw[tL h,if_pos (show cJ _ _=true from c)];rfl
theorem aHr {n d:Int}(h:0<d)(c:aW ⟨n.tdiv (Int.gcd n d),d.tdiv (Int.gcd n d)⟩=false):iM (bO n d)=(⟨0,0⟩,false):=by
 rw[tL h,if_neg (by rw[show cJ _ _=false from c];simp)];rfl
theorem aMA {n d:Int}(h:d<0)(c:aW ⟨(-n).tdiv (Int.gcd (-n) (-d)),(-d).tdiv (Int.gcd (-n) (-d))⟩=true):iM (bO n d)=(⟨(-n).tdiv (Int.gcd (-n) (-d)),(-d).tdiv (Int.gcd (-n) (-d))⟩,true):=by
 rw[aAF h,if_pos (show cJ _ _=true from c)];rfl
theorem aHs {n d:Int}(h:d<0)(c:aW ⟨(-n).tdiv (Int.gcd (-n) (-d)),(-d).tdiv (Int.gcd (-n) (-d))⟩=false):iM (bO n d)=(⟨0,0⟩,false):=by
 rw[aAF h,if_neg (by rw[show cJ _ _=false from c];simp)];rfl
theorem kS {n g:Int}(hn: -9223372036854775807<=n/\n<=9223372036854775807):bJ (n.tdiv g):=by have:=aUy n g hn;exact⟨by omega,by omega⟩
abbrev uK (n:Int)(d:Int):AV × List (Nat × Rs):=(.tup [.agg [vI ((iM (bO n d)).1.num),vI ((iM (bO n d)).1.den)],vB ((iM (bO n d)).2)],[])
abbrev aAt (n:Int)(d:Int):Prop:=Cn 212 [.one (.int .i64 n),.one (.int .i64 d)] (uK n d).1 (uK n d).2
theorem aMB (n d:Int)(hn: -9223372036854775807<=n/\n<=9223372036854775807)(hd: -9223372036854775807<=d/\d<=9223372036854775807):aAt n d:=by
 refine cq Tryz.func212 (.br (.fin []) (.lit<| .lit<| .lit<| .lit<| .br (.lit<| .lit<| .lit<| .lit<| .br (.fin []) (.lit<| .lit<| .lit<| .lit<| .br (.fin []) (.br (.call (vI ((Int.gcd (-n) (-d):Nat):Int)) []<| .call (vB (aW (⟨Int.tdiv (-n) ((Int.gcd (-n) (-d):Nat):Int),Int.tdiv (-d) ((Int.gcd (-n) (-d):Nat):Int)⟩:aB))) []<| .br (.fin []) (.fin [])) (.call (vI ((Int.gcd n d:Nat):Int)) []<| .call (vB (aW (⟨Int.tdiv n ((Int.gcd n d:Nat):Int),Int.tdiv d ((Int.gcd n d:Nat):Int)⟩:aB))) []<| .br (.fin []) (.fin []))))) (.lit<| .lit<| .lit<| .lit<| .lit<| .lit<| .lit<| .lit<| .lit<| .br (.fin []) (.br (.call (vI ((Int.gcd (-n) (-d):Nat):Int)) []<| .call (vB (aW (⟨Int.tdiv (-n) ((Int.gcd (-n) (-d):Nat):Int),Int.tdiv (-d) ((Int.gcd (-n) (-d):Nat):Int)⟩:aB))) []<| .br (.fin []) (.fin [])) (.call (vI ((Int.gcd n d:Nat):Int)) []<| .call (vB (aW (⟨Int.tdiv n ((Int.gcd n d:Nat):Int),Int.tdiv d ((Int.gcd n d:Nat):Int)⟩:aB))) []<| .br (.fin []) (.fin [])))))) (p:=Br (d=0) (0=((iM (bO n d)).1.num)/\0=((iM (bO n d)).1.den)/\(false)=((iM (bO n d)).2)/\True) (bJ (-n)/\Br (n=(-n)) (Nb (n=0) (0=((iM (bO n d)).1.num)/\0=((iM (bO n d)).1.den)/\(false)=((iM (bO n d)).2)/\True) (bJ (-d)/\Br (d=(-d)) (0=((iM (bO n d)).1.num)/\0=((iM (bO n d)).1.den)/\(false)=((iM (bO n d)).2)/\True) (Br (d<0) (bJ (-n)/\bJ (-d)/\oQ (-n) (-d)/\((Int.gcd (-n) (-d):Nat):Int)≠0/\bJ (Int.tdiv (-n) ((Int.gcd (-n) (-d):Nat):Int))/\((Int.gcd (-n) (-d):Nat):Int)≠0/\bJ (Int.tdiv (-d) ((Int.gcd (-n) (-d):Nat):Int))/\fI (⟨Int.tdiv (-n) ((Int.gcd (-n) (-d):Nat):Int),Int.tdiv (-d) ((Int.gcd (-n) (-d):Nat):Int)⟩:aB)/\Nr (aW (⟨Int.tdiv (-n) ((Int.gcd (-n) (-d):Nat):Int),Int.tdiv (-d) ((Int.gcd (-n) (-d):Nat):Int)⟩:aB)) (0=((iM (bO n d)).1.num)/\0=((iM (bO n d)).1.den)/\(false)=((iM (bO n d)).2)/\True) ((Int.tdiv (-n) ((Int.gcd (-n) (-d):Nat):Int))=((iM (bO n d)).1.num)/\(Int.tdiv (-d) ((Int.gcd (-n) (-d):Nat):Int))=((iM (bO n d)).1.den)/\(true)=((iM (bO n d)).2)/\True)) (oQ n d/\((Int.gcd n d:Nat):Int)≠0/\bJ (Int.tdiv n ((Int.gcd n d:Nat):Int))/\((Int.gcd n d:Nat):Int)≠0/\bJ (Int.tdiv d ((Int.gcd n d:Nat):Int))/\fI (⟨Int.tdiv n ((Int.gcd n d:Nat):Int),Int.tdiv d ((Int.gcd n d:Nat):Int)⟩:aB)/\Nr (aW (⟨Int.tdiv n ((Int.gcd n d:Nat):Int),Int.tdiv d ((Int.gcd n d:Nat):Int)⟩:aB)) (0=((iM (bO n d)).1.num)/\0=((iM (bO n d)).1.den)/\(false)=((iM (bO n d)).2)/\True) ((Int.tdiv n ((Int.gcd n d:Nat):Int))=((iM (bO n d)).1.num)/\(Int.tdiv d ((Int.gcd n d:Nat):Int))=((iM (bO n d)).1.den)/\(true)=((iM (bO n d)).2)/\True))))) (bJ (-d)/\Br (d=(-d)) (0=((iM (bO n d)).1.num)/\0=((iM (bO n d)).1.den)/\(false)=((iM (bO n d)).2)/\True) (Br (d<0) (bJ (-n)/\bJ (-d)/\oQ (-n) (-d)/\((Int.gcd (-n) (-d):Nat):Int)≠0/\bJ (Int.tdiv (-n) ((Int.gcd (-n) (-d):Nat):Int))/\((Int.gcd (-n) (-d):Nat):Int)≠0/\bJ (Int.tdiv (-d) ((Int.gcd (-n) (-d):Nat):Int))/\fI (⟨Int.tdiv (-n) ((Int.gcd (-n) (-d):Nat):Int),Int.tdiv (-d) ((Int.gcd (-n) (-d):Nat):Int)⟩:aB)/\Nr (aW (⟨Int.tdiv (-n) ((Int.gcd (-n) (-d):Nat):Int),Int.tdiv (-d) ((Int.gcd (-n) (-d):Nat):Int)⟩:aB)) (0=((iM (bO n d)).1.num)/\0=((iM (bO n d)).1.den)/\(false)=((iM (bO n d)).2)/\True) ((Int.tdiv (-n) ((Int.gcd (-n) (-d):Nat):Int))=((iM (bO n d)).1.num)/\(Int.tdiv (-d) ((Int.gcd (-n) (-d):Nat):Int))=((iM (bO n d)).1.den)/\(true)=((iM (bO n d)).2)/\True)) (oQ n d/\((Int.gcd n d:Nat):Int)≠0/\bJ (Int.tdiv n ((Int.gcd n d:Nat):Int))/\((Int.gcd n d:Nat):Int)≠0/\bJ (Int.tdiv d ((Int.gcd n d:Nat):Int))/\fI (⟨Int.tdiv n ((Int.gcd n d:Nat):Int),Int.tdiv d ((Int.gcd n d:Nat):Int)⟩:aB)/\Nr (aW (⟨Int.tdiv n ((Int.gcd n d:Nat):Int),Int.tdiv d ((Int.gcd n d:Nat):Int)⟩:aB)) (0=((iM (bO n d)).1.num)/\0=((iM (bO n d)).1.den)/\(false)=((iM (bO n d)).2)/\True) ((Int.tdiv n ((Int.gcd n d:Nat):Int))=((iM (bO n d)).1.num)/\(Int.tdiv d ((Int.gcd n d:Nat):Int))=((iM (bO n d)).1.den)/\(true)=((iM (bO n d)).2)/\True)))))) (by kernel_rfl) ?_;refine dd (fun g10=>?_) fun g10=>?_
 ·apply et3<;>((subst g10;rw[aNv]<;>rfl))
 ·refine⟨by exact⟨by omega,by omega⟩,dd (fun g15=>?_) fun g15=>?_⟩
  ·refine dn (fun g20=>?_) fun g20=>?_
   ·apply et3<;>((exfalso;omega))
   ·refine⟨by exact⟨by omega,by omega⟩,dd (fun c0=>?_) fun c0=>?_⟩
    ·apply et3<;>((exfalso;omega))
    ·refine dd (fun c1=>?_) fun c1=>?_
     ·have q1:((Int.gcd (-n) (-d):Nat):Int)≠0:=by have:=mE (n:= -n) (d:= -d) (by omega);omega
      have q2:((Int.gcd ((Int.natAbs (-n):Nat):Int) (-d):Nat):Int)≠0:=by rw[fW];have:=mE (n:= -n) (d:= -d) (by omega);omega
      refine⟨by exact⟨by omega,by omega⟩,by exact⟨by omega,by omega⟩,zZ _ _ (by omega) (by omega),by omega,by exact kS (by omega),by omega,by exact kS (by omega),jI (⟨Int.tdiv (-n) ((Int.gcd (-n) (-d):Nat):Int),Int.tdiv (-d) ((Int.gcd (-n) (-d):Nat):Int)⟩:aB),dm (fun c2=>?_) fun c2=>?_⟩
      ·apply et3<;>((rw[aHs (by omega) c2]<;>rfl))
      ·apply et3<;>((rw[aMA (by omega) c2]<;>rfl))
     ·have q1:((Int.gcd n d:Nat):Int)≠0:=by have:=mE (n:=n) (d:=d) (by omega);omega
      have q2:((Int.gcd ((Int.natAbs n:Nat):Int) d:Nat):Int)≠0:=by rw[fW];have:=mE (n:=n) (d:=d) (by omega);omega
      refine⟨zZ _ _ (by omega) (by omega),by omega,by exact kS hn,by omega,by exact kS (by omega),jI (⟨Int.tdiv n ((Int.gcd n d:Nat):Int),Int.tdiv d ((Int.gcd n d:Nat):Int)⟩:aB),dm (fun c2=>?_) fun c2=>?_⟩
      ·apply et3<;>((rw[aHr (by omega) c2]<;>rfl))
      ·apply et3<;>((rw[aLz (by omega) c2]<;>rfl))
  ·refine⟨by exact⟨by omega,by omega⟩,dd (fun c0=>?_) fun c0=>?_⟩
   ·apply et3<;>((exfalso;omega))
   ·refine dd (fun c1=>?_) fun c1=>?_
    ·have q1:((Int.gcd (-n) (-d):Nat):Int)≠0:=by have:=mE (n:= -n) (d:= -d) (by omega);omega
     have q2:((Int.gcd ((Int.natAbs (-n):Nat):Int) (-d):Nat):Int)≠0:=by rw[fW];have:=mE (n:= -n) (d:= -d) (by omega);omega
     refine⟨by exact⟨by omega,by omega⟩,by exact⟨by omega,by omega⟩,zZ _ _ (by omega) (by omega),by omega,by exact kS (by omega),by omega,by exact kS (by omega),jI (⟨Int.tdiv (-n) ((Int.gcd (-n) (-d):Nat):Int),Int.tdiv (-d) ((Int.gcd (-n) (-d):Nat):Int)⟩:aB),dm (fun c2=>?_) fun c2=>?_⟩
     ·apply et3<;>((rw[aHs (by omega) c2]<;>rfl))
     ·apply et3<;>((rw[aMA (by omega) c2]<;>rfl))
    ·have q1:((Int.gcd n d:Nat):Int)≠0:=by have:=mE (n:=n) (d:=d) (by omega);omega
     have q2:((Int.gcd ((Int.natAbs n:Nat):Int) d:Nat):Int)≠0:=by rw[fW];have:=mE (n:=n) (d:=d) (by omega);omega
     refine⟨zZ _ _ (by omega) (by omega),by omega,by exact kS hn,by omega,by exact kS (by omega),jI (⟨Int.tdiv n ((Int.gcd n d:Nat):Int),Int.tdiv d ((Int.gcd n d:Nat):Int)⟩:aB),dm (fun c2=>?_) fun c2=>?_⟩
     ·apply et3<;>((rw[aHr (by omega) c2]<;>rfl))
     ·apply et3<;>((rw[aLz (by omega) c2]<;>rfl))
abbrev qZ (n:Int)(d:Int):AV × List (Nat × Rs):=(.tup [.agg [vI ((iM (bO n d)).1.num),vI ((iM (bO n d)).1.den)],vB ((iM (bO n d)).2)],[])
abbrev uL (n:Int)(d:Int):Prop:=Cn 202 [.one (.int .i64 n),.one (.int .i64 d)] (qZ n d).1 (qZ n d).2
theorem aFm (n d:Int)(hn: -9223372036854775807<=n/\n<=9223372036854775807)(hd: -9223372036854775807<=d/\d<=9223372036854775807):uL n d:=by
 refine cq Tryz.func202 (.br (.fin []) (.lit<| .lit<| .br (.fin []) (.lit<| .lit<| .br (.fin []) (.br (.call (vI (((-n).natAbs:Nat):Int)) []<| .call (vI ((Int.gcd (((-n).natAbs:Nat):Int) (-d):Nat):Int)) []<| .call (vB (aW (⟨Int.tdiv (-n) ((Int.gcd (((-n).natAbs:Nat):Int) (-d):Nat):Int),Int.tdiv (-d) ((Int.gcd (((-n).natAbs:Nat):Int) (-d):Nat):Int)⟩:aB))) []<| .br (.fin []) (.fin [])) (.call (vI (n.natAbs:Int)) []<| .call (vI ((Int.gcd (n.natAbs:Int) d:Nat):Int)) []<| .call (vB (aW (⟨Int.tdiv n ((Int.gcd (n.natAbs:Int) d:Nat):Int),Int.tdiv d ((Int.gcd (n.natAbs:Int) d:Nat):Int)⟩:aB))) []<| .br (.fin []) (.fin [])))))) (p:=Br (d=0) (0=((iM (bO n d)).1.num)/\0=((iM (bO n d)).1.den)/\(false)=((iM (bO n d)).2)/\True) (Br (n<(-9223372036854775807:Int)) (0=((iM (bO n d)).1.num)/\0=((iM (bO n d)).1.den)/\(false)=((iM (bO n d)).2)/\True) (Br (d<(-9223372036854775807:Int)) (0=((iM (bO n d)).1.num)/\0=((iM (bO n d)).1.den)/\(false)=((iM (bO n d)).2)/\True) (Br (d<0) (bJ (-n)/\bJ (-d)/\wH (-n)/\wG (((-n).natAbs:Nat):Int) (-d)/\((Int.gcd (((-n).natAbs:Nat):Int) (-d):Nat):Int)≠0/\bJ (Int.tdiv (-n) ((Int.gcd (((-n).natAbs:Nat):Int) (-d):Nat):Int))/\((Int.gcd (((-n).natAbs:Nat):Int) (-d):Nat):Int)≠0/\bJ (Int.tdiv (-d) ((Int.gcd (((-n).natAbs:Nat):Int) (-d):Nat):Int))/\eQ (⟨Int.tdiv (-n) ((Int.gcd (((-n).natAbs:Nat):Int) (-d):Nat):Int),Int.tdiv (-d) ((Int.gcd (((-n).natAbs:Nat):Int) (-d):Nat):Int)⟩:aB)/\Nr (aW (⟨Int.tdiv (-n) ((Int.gcd (((-n).natAbs:Nat):Int) (-d):Nat):Int),Int.tdiv (-d) ((Int.gcd (((-n).natAbs:Nat):Int) (-d):Nat):Int)⟩:aB)) (0=((iM (bO n d)).1.num)/\0=((iM (bO n d)).1.den)/\(false)=((iM (bO n d)).2)/\True) ((Int.tdiv (-n) ((Int.gcd (((-n).natAbs:Nat):Int) (-d):Nat):Int))=((iM (bO n d)).1.num)/\(Int.tdiv (-d) ((Int.gcd (((-n).natAbs:Nat):Int) (-d):Nat):Int))=((iM (bO n d)).1.den)/\(true)=((iM (bO n d)).2)/\True)) (wH n/\wG (n.natAbs:Int) d/\((Int.gcd (n.natAbs:Int) d:Nat):Int)≠0/\bJ (Int.tdiv n ((Int.gcd (n.natAbs:Int) d:Nat):Int))/\((Int.gcd (n.natAbs:Int) d:Nat):Int)≠0/\bJ (Int.tdiv d ((Int.gcd (n.natAbs:Int) d:Nat):Int))/\eQ (⟨Int.tdiv n ((Int.gcd (n.natAbs:Int) d:Nat):Int),Int.tdiv d ((Int.gcd (n.natAbs:Int) d:Nat):Int)⟩:aB)/\Nr (aW (⟨Int.tdiv n ((Int.gcd (n.natAbs:Int) d:Nat):Int),Int.tdiv d ((Int.gcd (n.natAbs:Int) d:Nat):Int)⟩:aB)) (0=((iM (bO n d)).1.num)/\0=((iM (bO n d)).1.den)/\(false)=((iM (bO n d)).2)/\True) ((Int.tdiv n ((Int.gcd (n.natAbs:Int) d:Nat):Int))=((iM (bO n d)).1.num)/\(Int.tdiv d ((Int.gcd (n.natAbs:Int) d:Nat):Int))=((iM (bO n d)).1.den)/\(true)=((iM (bO n d)).2)/\True)))))) (by kernel_rfl) ?_;refine dd (fun g10=>?_) fun g10=>?_
 ·apply et3<;>((try simp only[fW] at*);(subst g10;rw[aNv]<;>rfl))
 ·refine dd (fun g14=>?_) fun g14=>?_
  ·apply et3<;>((try simp only[fW] at*);(exfalso;omega))
  ·refine dd (fun c0=>?_) fun c0=>?_
   ·apply et3<;>((try simp only[fW] at*);(exfalso;omega))
   ·refine dd (fun c1=>?_) fun c1=>?_
    ·have q1:((Int.gcd (-n) (-d):Nat):Int)≠0:=by have:=mE (n:= -n) (d:= -d) (by omega);omega
     have q2:((Int.gcd ((Int.natAbs (-n):Nat):Int) (-d):Nat):Int)≠0:=by rw[fW];have:=mE (n:= -n) (d:= -d) (by omega);omega
     refine⟨by exact⟨by omega,by omega⟩,by exact⟨by omega,by omega⟩,aHk _ (by omega),aHj _ _ (by omega) (by omega),by omega,by exact kS (by omega),by omega,by exact kS (by omega),iA (⟨Int.tdiv (-n) ((Int.gcd (((-n).natAbs:Nat):Int) (-d):Nat):Int),Int.tdiv (-d) ((Int.gcd (((-n).natAbs:Nat):Int) (-d):Nat):Int)⟩:aB),dm (fun c2=>?_) fun c2=>?_⟩
     ·apply et3<;>((try simp only[fW] at*);(rw[aHs (by omega) c2]<;>rfl))
     ·apply et3<;>((try simp only[fW] at*);(rw[aMA (by omega) c2]<;>rfl))
    ·have q1:((Int.gcd n d:Nat):Int)≠0:=by have:=mE (n:=n) (d:=d) (by omega);omega
     have q2:((Int.gcd ((Int.natAbs n:Nat):Int) d:Nat):Int)≠0:=by rw[fW];have:=mE (n:=n) (d:=d) (by omega);omega
     refine⟨aHk _ (by omega),aHj _ _ (by omega) (by omega),by omega,by exact kS hn,by omega,by exact kS (by omega),iA (⟨Int.tdiv n ((Int.gcd (n.natAbs:Int) d:Nat):Int),Int.tdiv d ((Int.gcd (n.natAbs:Int) d:Nat):Int)⟩:aB),dm (fun c2=>?_) fun c2=>?_⟩
     ·apply et3<;>((try simp only[fW] at*);(rw[aHr (by omega) c2]<;>rfl))
     ·apply et3<;>((try simp only[fW] at*);(rw[aLz (by omega) c2]<;>rfl))
end Go.Proofs.YtlidmoeecphbmaaGreat
