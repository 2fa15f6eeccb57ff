/-
  Contracts and plain laws, joined: part 9.
-/
import Derived.Test.YtlidmoeecphbmaaGreateb7
import Derived.Test.YtlidmoeecphbmaaGreateb3
import Derived.Test.YtlidmoeecphbmaaGreateb6
import Derived.Test.YtlidmoeecphbmaaGreateb5
namespace Go.Proofs.YtlidmoeecphbmaaGreat
open Go.ChangeShapes Go.WideShapes Go.ChangeAt Go.RowKit
set_option linter.unusedVariables false
set_option linter.unusedSimpArgs false
set_option maxRecDepth 100000
set_option maxHeartbeats 4000000
abbrev aEd (n:Int):AV × List (Nat × Rs):=(.own 0,[(0,.arr 91 1 true ((aAq n).map aC))])
abbrev aNM (n:Int):Prop:=cH Tryz.prog 158 [.one (.int .i64 n)] (aEd n).1 (aEd n).2
theorem aRd (n:Int):aNM n:=by
 refine aW bH aO Tryz.func158 (by kernel_rfl) (.call (vB (decide (1≤n∧n≤4))) []<| .br (.fin []) (.loop (Nat × (List (List Int))) (Q2 Nat (List (List Int))) ([6,16]++rg 18 14) [400,1600,2800,3000,3102] (fun yy0=>[(6,vI (yy0.1:Int))]) (fun yy0=>[(400,some (.box 92 [.own 1600])),(1600,some (.arr 91 1 true (yy0.2.map aC)))]) (fun yy0=>(yy0.1:Int)≤n∧yy0.2=wJ (gU (dJ n)) (hdI n) (dJ n) yy0.1∧yy0.2.length≤yy0.1) (fun yy0=>n.toNat - yy0.1) (fun yy0=> .br (oF (mW (((1:Int)*2^(Int.toNat n)) - 1) ([cI .andNot .i64 (((1:Int)*2^(Int.toNat n)) - 1) ((1:Int)*2^yy0.1)]:List Int) ([((1:Int)*2^(Int.toNat n)) - 1]:List Int) yy0.2) [(0,400),(1,1600)]<| .back [(400,400),(1600,3102)]) (.loop (Nat × (List (List Int))) (Q2 Nat (List (List Int))) ([7,8,9]++rg 32 49) [400,1600,7000,7900,8002] (fun yy1=>[(7,vI (yy1.1:Int))]) (fun yy1=>[(400,some (.box 92 [.own 1600])),(1600,some (.arr 91 1 true (yy1.2.map aC)))]) (fun yy1=>(yy1.1:Int)≤n∧yy1.2=wJ (gU (dJ n)) (hdI n) (dJ n) n.toNat++elI (gU (dJ n)) (2^n.toNat) n.toNat yy1.1∧yy1.2.length≤4+yy1.1*64) (fun yy1=>n.toNat - yy1.1) (fun yy1=> .br (.loop (Nat × (List (List Int))) (Q2 Nat (List (List Int))) ([8,9]++rg 39 42) [400,1600,7000,7900,8002] (fun yy2=>[(8,vI ((yy1.1+1+yy2.1:Nat):Int))]) (fun yy2=>[(400,some (.box 92 [.own 1600])),(1600,some (.arr 91 1 true (yy2.2.map aC)))]) (fun yy2=>((yy1.1+1+yy2.1:Nat):Int)≤n∧yy2.2=wJ (gU (dJ n)) (hdI n) (dJ n) n.toNat++elI (gU (dJ n)) (2^n.toNat) n.toNat yy1.1++elJ (gU (dJ n)) (2^n.toNat) yy1.1 yy2.1∧yy2.2.length≤4+yy1.1*64+yy2.1*16) (fun yy2=>n.toNat - (yy1.1+1+yy2.1)) (fun yy2=> .br (.loop (Nat × (List (List Int))) (Q2 Nat (List (List Int))) ([9]++rg 44 37) [400,1600,7000,7900,8002] (fun yy3=>[(9,vI (yy3.1:Int))]) (fun yy3=>[(400,some (.box 92 [.own 1600])),(1600,some (.arr 91 1 true (yy3.2.map aC)))]) (fun yy3=>yy3.1≤2^n.toNat∧yy3.2=wJ (gU (dJ n)) (hdI n) (dJ n) n.toNat++elI (gU (dJ n)) (2^n.toNat) n.toNat yy1.1++elJ (gU (dJ n)) (2^n.toNat) yy1.1 yy2.1++elS (gU (dJ n)) yy1.1 (yy1.1+1+yy2.1) yy3.1∧yy3.2.length≤4+yy1.1*64+yy2.1*16+yy3.1) (fun yy3=>2^n.toNat - yy3.1) (fun yy3=> .br (.br (.lit<| .lit<| .lit<| .lit<| .lit<| .br (oF (mW (((1:Int)*2^(Int.toNat n)) - 1) ([(yy3.1:Int),cI .or .i64 (cI .or .i64 (yy3.1:Int) ((1:Int)*2^yy1.1)) ((1:Int)*2^(yy1.1+1+yy2.1))]:List Int) ([cI .or .i64 (yy3.1:Int) ((1:Int)*2^yy1.1),cI .or .i64 (yy3.1:Int) ((1:Int)*2^(yy1.1+1+yy2.1))]:List Int) yy3.2) [(0,400),(1,1600)]<| .back [(400,400),(1600,8002)]) (.back [(400,400),(1600,1600)])) (.back [(400,400),(1600,1600)])) (.back [(400,400),(1600,1600)]))) (.back [(400,400),(1600,1600)]))) (.fin [(0,1600)])))))) (p:=jP n (1:Int) (4:Int)∧Nb (1≤n∧n≤4) ([]=(aAq n).map aC∧True) ((0≤n∧n≤64)∧(bO ((1:Int)*2^(Int.toNat n))∧(bO (((1:Int)*2^(Int.toNat n)) - 1)∧((∃(i:Nat) (o0:List (List Int)),0=(i:Int)∧[]=o0.map aC∧(i:Int)≤n∧o0=wJ (gU (dJ n)) (hdI n) (dJ n) i∧o0.length≤i)∧ ∀(i:Nat) (o0:List (List Int)),((i:Int)≤n∧o0=wJ (gU (dJ n)) (hdI n) (dJ n) i∧o0.length≤i)→Br ((i:Int)<n) ((0≤(i:Int)∧(i:Int)≤64)∧bO ((1:Int)*2^i)∧zK (((1:Int)*2^(Int.toNat n)) - 1) ([cI .andNot .i64 (((1:Int)*2^(Int.toNat n)) - 1) ((1:Int)*2^i)]:List Int) ([((1:Int)*2^(Int.toNat n)) - 1]:List Int) o0∧[[.int .i64 (cI .andNot .i64 (((1:Int)*2^(Int.toNat n)) - 1) ((1:Int)*2^i))]]=([cI .andNot .i64 (((1:Int)*2^(Int.toNat n)) - 1) ((1:Int)*2^i)]:List Int).map intD∧[[.int .i64 (((1:Int)*2^(Int.toNat n)) - 1)]]=([((1:Int)*2^(Int.toNat n)) - 1]:List Int).map intD∧(((1:Int)*2^(Int.toNat n)) - 1)=(((1:Int)*2^(Int.toNat n)) - 1)∧o0.map aC=o0.map aC∧bO ((i:Int)+1)∧ ∃(i' :Nat) (o0' :List (List Int)),((i:Int)+1)=(i' :Int)∧(o0++[gU (((1:Int)*2^(Int.toNat n)) - 1) ([cI .andNot .i64 (((1:Int)*2^(Int.toNat n)) - 1) ((1:Int)*2^i)]:List Int) ([((1:Int)*2^(Int.toNat n)) - 1]:List Int)]).map aC=o0'.map aC∧((i' :Int)≤n∧o0' =wJ (gU (dJ n)) (hdI n) (dJ n) i' ∧o0'.length≤i')∧n.toNat - i' <n.toNat - i) ((∃(i:Nat) (o1:List (List Int)),0=(i:Int)∧o0.map aC=o1.map aC∧(i:Int)≤n∧o1=wJ (gU (dJ n)) (hdI n) (dJ n) n.toNat++elI (gU (dJ n)) (2^n.toNat) n.toNat i∧o1.length≤4+i*64)∧ ∀(i:Nat) (o1:List (List Int)),((i:Int)≤n∧o1=wJ (gU (dJ n)) (hdI n) (dJ n) n.toNat++elI (gU (dJ n)) (2^n.toNat) n.toNat i∧o1.length≤4+i*64)→Br ((i:Int)<n) (bO ((i:Int)+1)∧((∃(j:Nat) (o2:List (List Int)),((i:Int)+1)=((i+1+j:Nat):Int)∧o1.map aC=o2.map aC∧((i+1+j:Nat):Int)≤n∧o2=wJ (gU (dJ n)) (hdI n) (dJ n) n.toNat++elI (gU (dJ n)) (2^n.toNat) n.toNat i++elJ (gU (dJ n)) (2^n.toNat) i j∧o2.length≤4+i*64+j*16)∧ ∀(j:Nat) (o2:List (List Int)),(((i+1+j:Nat):Int)≤n∧o2=wJ (gU (dJ n)) (hdI n) (dJ n) n.toNat++elI (gU (dJ n)) (2^n.toNat) n.toNat i++elJ (gU (dJ n)) (2^n.toNat) i j∧o2.length≤4+i*64+j*16)→Br (((i+1+j:Nat):Int)<n) ((∃(s:Nat) (o3:List (List Int)),0=(s:Int)∧o2.map aC=o3.map aC∧s≤2^n.toNat∧o3=wJ (gU (dJ n)) (hdI n) (dJ n) n.toNat++elI (gU (dJ n)) (2^n.toNat) n.toNat i++elJ (gU (dJ n)) (2^n.toNat) i j++elS (gU (dJ n)) i (i+1+j) s∧o3.length≤4+i*64+j*16+s)∧ ∀(s:Nat) (o3:List (List Int)),(s≤2^n.toNat∧o3=wJ (gU (dJ n)) (hdI n) (dJ n) n.toNat++elI (gU (dJ n)) (2^n.toNat) n.toNat i++elJ (gU (dJ n)) (2^n.toNat) i j++elS (gU (dJ n)) i (i+1+j) s∧o3.length≤4+i*64+j*16+s)→Br ((s:Int)≤(((1:Int)*2^(Int.toNat n)) - 1)) ((0≤(i:Int)∧(i:Int)≤64)∧Br ((cI .and .i64 ((s:Int)/2^i) (1:Int))=0) ((0≤((i+1+j:Nat):Int)∧((i+1+j:Nat):Int)≤64)∧Br ((cI .and .i64 ((s:Int)/2^(i+1+j)) (1:Int))=0) ((0≤(i:Int)∧(i:Int)≤64)∧bO ((1:Int)*2^i)∧(0≤((i+1+j:Nat):Int)∧((i+1+j:Nat):Int)≤64)∧bO ((1:Int)*2^(i+1+j))∧(0≤(i:Int)∧(i:Int)≤64)∧bO ((1:Int)*2^i)∧(0≤((i+1+j:Nat):Int)∧((i+1+j:Nat):Int)≤64)∧bO ((1:Int)*2^(i+1+j))∧zK (((1:Int)*2^(Int.toNat n)) - 1) ([(s:Int),cI .or .i64 (cI .or .i64 (s:Int) ((1:Int)*2^i)) ((1:Int)*2^(i+1+j))]:List Int) ([cI .or .i64 (s:Int) ((1:Int)*2^i),cI .or .i64 (s:Int) ((1:Int)*2^(i+1+j))]:List Int) o3∧[[.int .i64 (s:Int)],[.int .i64 (cI .or .i64 (cI .or .i64 (s:Int) ((1:Int)*2^i)) ((1:Int)*2^(i+1+j)))]]=([(s:Int),cI .or .i64 (cI .or .i64 (s:Int) ((1:Int)*2^i)) ((1:Int)*2^(i+1+j))]:List Int).map intD∧[[.int .i64 (cI .or .i64 (s:Int) ((1:Int)*2^i))],[.int .i64 (cI .or .i64 (s:Int) ((1:Int)*2^(i+1+j)))]]=([cI .or .i64 (s:Int) ((1:Int)*2^i),cI .or .i64 (s:Int) ((1:Int)*2^(i+1+j))]:List Int).map intD∧(((1:Int)*2^(Int.toNat n)) - 1)=(((1:Int)*2^(Int.toNat n)) - 1)∧o3.map aC=o3.map aC∧bO ((s:Int)+1)∧ ∃(s' :Nat) (o3' :List (List Int)),((s:Int)+1)=(s' :Int)∧(o3++[gU (((1:Int)*2^(Int.toNat n)) - 1) ([(s:Int),cI .or .i64 (cI .or .i64 (s:Int) ((1:Int)*2^i)) ((1:Int)*2^(i+1+j))]:List Int) ([cI .or .i64 (s:Int) ((1:Int)*2^i),cI .or .i64 (s:Int) ((1:Int)*2^(i+1+j))]:List Int)]).map aC=o3'.map aC∧(s' ≤2^n.toNat∧o3' =wJ (gU (dJ n)) (hdI n) (dJ n) n.toNat++elI (gU (dJ n)) (2^n.toNat) n.toNat i++elJ (gU (dJ n)) (2^n.toNat) i j++elS (gU (dJ n)) i (i+1+j) s' ∧o3'.length≤4+i*64+j*16+s')∧2^n.toNat - s' <2^n.toNat - s) (bO ((s:Int)+1)∧ ∃(s' :Nat) (o3' :List (List Int)),((s:Int)+1)=(s' :Int)∧o3.map aC=o3'.map aC∧(s' ≤2^n.toNat∧o3' =wJ (gU (dJ n)) (hdI n) (dJ n) n.toNat++elI (gU (dJ n)) (2^n.toNat) n.toNat i++elJ (gU (dJ n)) (2^n.toNat) i j++elS (gU (dJ n)) i (i+1+j) s' ∧o3'.length≤4+i*64+j*16+s')∧2^n.toNat - s' <2^n.toNat - s)) (bO ((s:Int)+1)∧ ∃(s' :Nat) (o3' :List (List Int)),((s:Int)+1)=(s' :Int)∧o3.map aC=o3'.map aC∧(s' ≤2^n.toNat∧o3' =wJ (gU (dJ n)) (hdI n) (dJ n) n.toNat++elI (gU (dJ n)) (2^n.toNat) n.toNat i++elJ (gU (dJ n)) (2^n.toNat) i j++elS (gU (dJ n)) i (i+1+j) s' ∧o3'.length≤4+i*64+j*16+s')∧2^n.toNat - s' <2^n.toNat - s)) (bO (((i+1+j:Nat):Int)+1)∧ ∃(j' :Nat) (o2' :List (List Int)),(((i+1+j:Nat):Int)+1)=((i+1+j' :Nat):Int)∧o3.map aC=o2'.map aC∧(((i+1+j' :Nat):Int)≤n∧o2' =wJ (gU (dJ n)) (hdI n) (dJ n) n.toNat++elI (gU (dJ n)) (2^n.toNat) n.toNat i++elJ (gU (dJ n)) (2^n.toNat) i j' ∧o2'.length≤4+i*64+j' *16)∧n.toNat - (i+1+j')<n.toNat - (i+1+j))) (bO ((i:Int)+1)∧ ∃(i' :Nat) (o1' :List (List Int)),((i:Int)+1)=(i' :Int)∧o2.map aC=o1'.map aC∧((i' :Int)≤n∧o1' =wJ (gU (dJ n)) (hdI n) (dJ n) n.toNat++elI (gU (dJ n)) (2^n.toNat) n.toNat i' ∧o1'.length≤4+i' *64)∧n.toNat - i' <n.toNat - i))) (o1.map aC=(aAq n).map aC∧True))))))) (by kernel_rfl) ?_
 refine⟨nO _ _ _,dn (fun c0=>?_) fun c0=>?_⟩
 ·refine⟨?_,trivial⟩
  ·(rw[aAq,if_neg (by omega)]<;>rfl)
 ·obtain⟨b1,b2,b3⟩:=aA8 (n:=n) (by omega)
  have hal:dJ n=1*2^n.toNat - 1:=rfl
  refine⟨⟨by omega,by omega⟩,by exact fM (by omega),by exact⟨by omega,by omega⟩,⟨0,([]:List (List Int)),rfl,rfl,by omega,rfl,Nat.zero_le _⟩,fun i o0 ⟨hi,ho,hL⟩=>?_⟩
  refine dd (fun c1=>?_) fun c1=>?_
  ·have hh:=aYC (i:=i) (n:=n) (by omega) (by omega)
   have hw:=aPx (n:=n) (i:=i) (by omega) (by omega)
   unfold hdI at hh
   refine⟨⟨by omega,by omega⟩,by exact fM (by omega),aKH _ ([cI .andNot .i64 (((1:Int)*2^(Int.toNat n)) - 1) ((1:Int)*2^i)]:List Int) ([((1:Int)*2^(Int.toNat n)) - 1]:List Int) _ (by omega) (by exact aOl (by omega)) (by exact aOl (by omega)) (by omega) (by simp) (by simp),rfl,rfl,rfl,rfl,by exact⟨by omega,by omega⟩,?_⟩
   exact⟨i+1,_,rfl,rfl,⟨by omega,by rw[ho];rfl,by simp;omega⟩,by omega⟩
  ·refine⟨⟨0,o0,rfl,rfl,by omega,by rw[ho,show i=n.toNat by omega];simp[elI],by omega⟩,fun i o1 ⟨hi1,ho1,hL1⟩=>?_⟩
   refine dd (fun c2=>?_) fun c2=>?_
   ·refine⟨by exact⟨by omega,by omega⟩,⟨0,o1,by rfl,by rfl,by omega,by rw[ho1];simp[elJ],by omega⟩,fun j o2 ⟨hj,ho2,hL2⟩=>?_⟩
    refine dd (fun c3=>?_) fun c3=>?_
    ·refine⟨⟨0,o2,rfl,rfl,Nat.zero_le _,by rw[ho2];simp[elS],by omega⟩,fun s o3 ⟨hs,ho3,hL3⟩=>?_⟩
     refine dd (fun c4=>?_) fun c4=>?_
     ·refine⟨⟨by omega,by omega⟩,dd (fun g54=>?_) fun g54=>?_⟩
      ·refine⟨⟨by omega,by omega⟩,dd (fun c5=>?_) fun c5=>?_⟩
       ·obtain⟨v1,v2⟩:=aLT (n:=n.toNat) (i:=i) (j:=i+1+j) (s:=s) (by omega) (by omega) (by omega) (by omega)
        obtain⟨v3,v4⟩:=aLT (n:=n.toNat) (i:=i+1+j) (j:=i) (s:=s) (by omega) (by omega) (by omega) (by omega)
        refine⟨⟨by omega,by omega⟩,by exact fM (by omega),⟨by omega,by omega⟩,by exact fM (by omega),⟨by omega,by omega⟩,by exact fM (by omega),⟨by omega,by omega⟩,by exact fM (by omega),aKH _ ([(s:Int),cI .or .i64 (cI .or .i64 (s:Int) ((1:Int)*2^i)) ((1:Int)*2^(i+1+j))]:List Int) ([cI .or .i64 (s:Int) ((1:Int)*2^i),cI .or .i64 (s:Int) ((1:Int)*2^(i+1+j))]:List Int) _ (by omega) (by exact aWT (by omega) (by omega)) (by exact aWT (by omega) (by omega)) (by omega) (by simp) (by simp),rfl,rfl,rfl,rfl,by exact⟨by omega,by omega⟩,?_⟩
        exact⟨s+1,_,rfl,rfl,⟨by omega,by (rw[ho3,elS,if_pos ⟨decide_eq_true g54,decide_eq_true c5⟩];simp only[List.append_assoc];done),by (simp;omega)⟩,by omega⟩
       ·refine⟨by exact⟨by omega,by omega⟩,?_⟩
        exact⟨s+1,_,rfl,rfl,⟨by omega,by (rw[ho3,elS,if_neg (by rintro⟨q1,q2⟩;simp only[aKG,decide_eq_true_eq] at q1 q2;contradiction),List.append_nil]),by omega⟩,by omega⟩
      ·refine⟨by exact⟨by omega,by omega⟩,?_⟩
       exact⟨s+1,_,rfl,rfl,⟨by omega,by (rw[ho3,elS,if_neg (by rintro⟨q1,q2⟩;simp only[aKG,decide_eq_true_eq] at q1 q2;contradiction),List.append_nil]),by omega⟩,by omega⟩
     ·refine⟨by exact⟨by omega,by omega⟩,?_⟩
      exact⟨j+1,_,by rfl,by rfl,⟨by omega,by rw[ho3,show s=2^n.toNat by omega,elJ,←List.append_assoc],by omega⟩,by omega⟩
    ·refine⟨by exact⟨by omega,by omega⟩,?_⟩
     exact⟨i+1,_,rfl,rfl,⟨by omega,by rw[ho2,show j=n.toNat - (i+1) by omega,elI,List.append_assoc],by omega⟩,by omega⟩
   ·refine⟨?_,trivial⟩
    ·(rw[ho1,show i=n.toNat by omega,aAq,if_pos (by omega)];rfl)
theorem aH4 (n:Int):cT (aAq n)≤1000:=by
 by_cases h:1≤n∧n≤4
 ·have:n=1∨n=2∨n=3∨n=4:=by omega
  rcases this with rfl | rfl | rfl | rfl<;>decide+kernel
 ·rw[aAq,if_neg h];decide
def okC (n:Int)(c:aH):Bool:=decide (1≤c.dst∧c.dst≤1*2^n.toNat - 1)&&(decide (0≤c.src)&&(decide (cI .and .i64 c.src c.dst=c.src)&&decide (¬c.src=c.dst)))
theorem aUW {n:Int}{c:aH}(h:okC n c=true):(1≤c.dst∧c.dst≤1*2^n.toNat - 1)∧0≤c.src∧cI .and .i64 c.src c.dst=c.src∧ ¬c.src=c.dst:=by
 simpa only [okC,Bool.and_eq_true,decide_eq_true_eq] using h
theorem aOn {n:Int}{c:aH}(h:(1≤c.dst∧c.dst≤1*2^n.toNat - 1)∧0≤c.src∧cI .and .i64 c.src c.dst=c.src∧ ¬c.src=c.dst):okC n c=true:=by
 simpa only [okC,Bool.and_eq_true,decide_eq_true_eq] using h
theorem vU {n:Int}{c:aH}(h: ¬((1≤c.dst∧c.dst≤1*2^n.toNat - 1)∧0≤c.src∧cI .and .i64 c.src c.dst=c.src∧ ¬c.src=c.dst)):okC n c=false:=by
 cases e:okC n c with
 | false=>rfl
 | true=>exact absurd (aUW e) h
theorem aB9 {a c:Int}(h0:0≤a)(hc:0≤c)(ha:a≤9223372036854775807)(hc2:c≤9223372036854775807):cI .and .i64 a c≤c:=by
 obtain⟨m,rfl⟩:=Int.eq_ofNat_of_zero_le h0
 obtain⟨k,rfl⟩:=Int.eq_ofNat_of_zero_le hc
 have e1:(BitVec.ofInt 64 (m:Int)).toNat=m:=by simp;omega
 have e2:(BitVec.ofInt 64 (k:Int)).toNat=k:=by simp;omega
 have hle:m&&&k≤k:=Nat.and_le_right
 unfold cI
 show IntKind.i64.wrap ((BitVec.ofInt 64 (m:Int)&&&BitVec.ofInt 64 (k:Int)).toNat:Nat)≤_
 rw[BitVec.toNat_and,e1,e2,IntWalk.i64_in _ ⟨by omega,by omega⟩]
 omega
def nP (n:Int)(c:aH):List Int:=eN (dJ n) [c.dst] [c.src]
def wW (n:Int)(l:List aH):bZ:=⟨eN (dJ n) [dJ n] [],dM n++l.map (nP n),List.replicate (dM n).length 0++l.map (·.bits)⟩
def dR (l:List aH)(n:Int):bZ × Bool:=if (1≤n∧n≤4)∧l.all (okC n)=true∧cV (wW n l)=true then (wW n l,true) else (nI,false)
theorem aNN {l:List aH}{n:Int}(h1:1≤n∧n≤4)(h2:l.all (okC n)=true)(h3:cV (wW n l)=true):dR l n=(wW n l,true):=by rw[dR,if_pos ⟨h1,h2,h3⟩]
theorem aUX {l:List aH}{n:Int}(h1: ¬(1≤n∧n≤4)):dR l n=(nI,false):=by rw[dR,if_neg (fun h=>h1 h.1)]
theorem vV {l:List aH}{n:Int}{k:Nat}{c:aH}(h:l[k]? =some c)(hc:okC n c=false):dR l n=(nI,false):=by
 rw[dR,if_neg (fun q=>by have:=eO h hc;rw[q.2.1] at this;cases this)]
theorem aOo {l:List aH}{n:Int}(h:cV (wW n l)=false):dR l n=(nI,false):=by
 rw[dR,if_neg (fun q=>by rw[q.2.2] at h;cases h)]
theorem tZ {l:List aH}{n:Int}(h:64<l.length):dR l n=(nI,false):=aOo (lM (fun q=>by
 have:(wW n l).rows.length=(dM n).length+l.length:=by simp[wW]
 omega))
theorem aUY (al:Int)(p m:List Int):(eN al p m).length=al.toNat:=by
 have h: ∀(v:Int) (q:List Int) (r:List Int),(q.foldl (nT v) r).length=r.length:=by
  intro v q
  induction q with
  | nil=>intro r;rfl
  | cons s q ih=>
    intro r
    rw[List.foldl_cons,ih]
    unfold nT
    split
    ·simp
    ·rfl
 rw[eN,h,h,List.length_replicate]
theorem aOp {n:Int}{c:aH}(hd:0<c.dst)(hs:0<c.src):nP n c=((List.replicate (dJ n).toNat (0:Int)).set (c.dst - 1).toNat 1).set (c.src - 1).toNat (-1):=by
 show nT (-1) (nT 1 _ c.dst) c.src=_
 rw[tY hd,tY hs]
theorem aOq {n:Int}{c:aH}(hd:0<c.dst)(hs: ¬0<c.src):nP n c=(List.replicate (dJ n).toNat (0:Int)).set (c.dst - 1).toNat 1:=by
 show nT (-1) (nT 1 _ c.dst) c.src=_
 rw[tY hd,aLS hs]
theorem aLU {n:Int}(h:0<dJ n):eN (dJ n) [dJ n] []=(List.replicate (dJ n).toNat (0:Int)).set (dJ n - 1).toNat 1:=by
 show nT 1 _ (dJ n)=_
 rw[tY h]
theorem aKM (n:Int):(dM n).length≤1000:=by
 have h:=aH4 n
 have h2:=fJ (aAq n)
 rw[←aLR];omega
theorem aEe {α:Type}{ct:α→Nat}{m:Nat}: ∀{l:List α},(∀x∈l,ct x≤m)→fE ct l≤l.length*m
 | [],_=>by simp[fE]
 | a::l,h=>by
   have h1:=h a (by simp)
   have h2:=aEe (l:=l) fun x hx=>h x (by simp[hx])
   simp only[fE,List.map_cons,List.sum_cons,List.length_cons,Nat.add_mul,Nat.one_mul] at*
   omega
theorem aLV {p:bZ}(h:cV p=true):xZ p≤2000:=by
 obtain⟨h1,h2,h3,h4,h5⟩:=mI h
 have hs:fE cG p.rows≤p.rows.length*15:=aEe fun r hr=>by
  have:=(h4 r (by simp[hr])).1
  have e:cG r=r.length:=rfl
  omega
 have e1:xZ p=cG p.objective+cT p.rows+cG p.limits:=rfl
 have e2:cG p.objective=p.objective.length:=rfl
 have e3:cG p.limits=p.limits.length:=rfl
 have e4:cT p.rows=p.rows.length+fE cG p.rows:=rfl
 omega
theorem aOr (l:List aH)(n:Int):xZ (dR l n).1≤2000:=by
 unfold dR
 split
 ·rename_i h;exact aLV h.2.2
 ·decide
theorem aUZ {n:Int}{l:List aH}(hn:1≤n∧n≤4): ∀r∈dM n++l.map (nP n),r.length≤1048576:=by
 intro r hr
 rcases List.mem_append.1 hr with h | h
 ·have h1:=aH4 n
  rw[aLR] at h1
  obtain⟨k,hk⟩:=List.getElem?_of_mem h
  have h2:=aAW hk
  have e:cG r=r.length:=rfl
  omega
 ·obtain⟨c,_,rfl⟩:=List.mem_map.1 h
  rw[nP,aUY]
  obtain⟨b1,b2,b3⟩:=aA8 hn
  have hal:dJ n=1*2^n.toNat - 1:=rfl
  omega
theorem aU0 {n d:Int}:Int.gcd (-n) (-d)=Int.gcd n d:=by simp[Int.gcd]
theorem tB {n d:Int}(h:0<d):bS n d=if dA (n.tdiv (Int.gcd n d)) (d.tdiv (Int.gcd n d))=true then (n.tdiv (Int.gcd n d),d.tdiv (Int.gcd n d),true) else (0,0,false):=aR9 h rfl
theorem zO {n d:Int}(h:d<0):bS n d=if dA ((-n).tdiv (Int.gcd (-n) (-d))) ((-d).tdiv (Int.gcd (-n) (-d)))=true then ((-n).tdiv (Int.gcd (-n) (-d)),(-d).tdiv (Int.gcd (-n) (-d)),true) else (0,0,false):=aRa h rfl
theorem aNO {n:Int}:iO (bS n 0)=(⟨0,0⟩,false):=by rw[mH];rfl
theorem aLW {n d:Int}(h:0<d)(c:bC ⟨n.tdiv (Int.gcd n d),d.tdiv (Int.gcd n d)⟩=true):iO (bS n d)=(⟨n.tdiv (Int.gcd n d),d.tdiv (Int.gcd n d)⟩,true):=by
 rw[tB h,if_pos (show dA _ _=true from c)];rfl
theorem aH5 {n d:Int}(h:0<d)(c:bC ⟨n.tdiv (Int.gcd n d),d.tdiv (Int.gcd n d)⟩=false):iO (bS n d)=(⟨0,0⟩,false):=by
 rw[tB h,if_neg (by rw[show dA _ _=false from c];simp)];rfl
theorem aLX {n d:Int}(h:d<0)(c:bC ⟨(-n).tdiv (Int.gcd (-n) (-d)),(-d).tdiv (Int.gcd (-n) (-d))⟩=true):iO (bS n d)=(⟨(-n).tdiv (Int.gcd (-n) (-d)),(-d).tdiv (Int.gcd (-n) (-d))⟩,true):=by
 rw[zO h,if_pos (show dA _ _=true from c)];rfl
theorem aH6 {n d:Int}(h:d<0)(c:bC ⟨(-n).tdiv (Int.gcd (-n) (-d)),(-d).tdiv (Int.gcd (-n) (-d))⟩=false):iO (bS n d)=(⟨0,0⟩,false):=by
 rw[zO h,if_neg (by rw[show dA _ _=false from c];simp)];rfl
theorem kT {n g:Int}(hn: -9223372036854775807≤n∧n≤9223372036854775807):bO (n.tdiv g):=by have:=aUQ n g hn;exact⟨by omega,by omega⟩
abbrev uA (n:Int)(d:Int):AV × List (Nat × Rs):=(.tup [.agg [vI ((iO (bS n d)).1.num),vI ((iO (bS n d)).1.den)],vB ((iO (bS n d)).2)],[])
abbrev aAa (n:Int)(d:Int):Prop:=cH Tryz.prog 212 [.one (.int .i64 n),.one (.int .i64 d)] (uA n d).1 (uA n d).2
theorem aLY (n d:Int)(hn: -9223372036854775807≤n∧n≤9223372036854775807)(hd: -9223372036854775807≤d∧d≤9223372036854775807):aAa n d:=by
 refine aW bH aO Tryz.func212 (by kernel_rfl) (.br (.fin []) (.lit<| .lit<| .lit<| .lit<| .br (.lit<| .lit<| .lit<| .lit<| .br (.fin []) (.lit<| .lit<| .lit<| .lit<| .br (.fin []) (.br (.call (vI ((Int.gcd (-n) (-d):Nat):Int)) []<| .call (vB (bC (⟨Int.tdiv (-n) ((Int.gcd (-n) (-d):Nat):Int),Int.tdiv (-d) ((Int.gcd (-n) (-d):Nat):Int)⟩:aB))) []<| .br (.fin []) (.fin [])) (.call (vI ((Int.gcd n d:Nat):Int)) []<| .call (vB (bC (⟨Int.tdiv n ((Int.gcd n d:Nat):Int),Int.tdiv d ((Int.gcd n d:Nat):Int)⟩:aB))) []<| .br (.fin []) (.fin []))))) (.lit<| .lit<| .lit<| .lit<| .lit<| .lit<| .lit<| .lit<| .lit<| .br (.fin []) (.br (.call (vI ((Int.gcd (-n) (-d):Nat):Int)) []<| .call (vB (bC (⟨Int.tdiv (-n) ((Int.gcd (-n) (-d):Nat):Int),Int.tdiv (-d) ((Int.gcd (-n) (-d):Nat):Int)⟩:aB))) []<| .br (.fin []) (.fin [])) (.call (vI ((Int.gcd n d:Nat):Int)) []<| .call (vB (bC (⟨Int.tdiv n ((Int.gcd n d:Nat):Int),Int.tdiv d ((Int.gcd n d:Nat):Int)⟩:aB))) []<| .br (.fin []) (.fin [])))))) (p:=Br (d=0) (0=((iO (bS n d)).1.num)∧0=((iO (bS n d)).1.den)∧(false)=((iO (bS n d)).2)∧True) (bO (-n)∧Br (n=(-n)) (Nb (n=0) (0=((iO (bS n d)).1.num)∧0=((iO (bS n d)).1.den)∧(false)=((iO (bS n d)).2)∧True) (bO (-d)∧Br (d=(-d)) (0=((iO (bS n d)).1.num)∧0=((iO (bS n d)).1.den)∧(false)=((iO (bS n d)).2)∧True) (Br (d<0) (bO (-n)∧bO (-d)∧oN (-n) (-d)∧((Int.gcd (-n) (-d):Nat):Int)≠0∧bO (Int.tdiv (-n) ((Int.gcd (-n) (-d):Nat):Int))∧((Int.gcd (-n) (-d):Nat):Int)≠0∧bO (Int.tdiv (-d) ((Int.gcd (-n) (-d):Nat):Int))∧gL (⟨Int.tdiv (-n) ((Int.gcd (-n) (-d):Nat):Int),Int.tdiv (-d) ((Int.gcd (-n) (-d):Nat):Int)⟩:aB)∧Nr (bC (⟨Int.tdiv (-n) ((Int.gcd (-n) (-d):Nat):Int),Int.tdiv (-d) ((Int.gcd (-n) (-d):Nat):Int)⟩:aB)) (0=((iO (bS n d)).1.num)∧0=((iO (bS n d)).1.den)∧(false)=((iO (bS n d)).2)∧True) ((Int.tdiv (-n) ((Int.gcd (-n) (-d):Nat):Int))=((iO (bS n d)).1.num)∧(Int.tdiv (-d) ((Int.gcd (-n) (-d):Nat):Int))=((iO (bS n d)).1.den)∧(true)=((iO (bS n d)).2)∧True)) (oN n d∧((Int.gcd n d:Nat):Int)≠0∧bO (Int.tdiv n ((Int.gcd n d:Nat):Int))∧((Int.gcd n d:Nat):Int)≠0∧bO (Int.tdiv d ((Int.gcd n d:Nat):Int))∧gL (⟨Int.tdiv n ((Int.gcd n d:Nat):Int),Int.tdiv d ((Int.gcd n d:Nat):Int)⟩:aB)∧Nr (bC (⟨Int.tdiv n ((Int.gcd n d:Nat):Int),Int.tdiv d ((Int.gcd n d:Nat):Int)⟩:aB)) (0=((iO (bS n d)).1.num)∧0=((iO (bS n d)).1.den)∧(false)=((iO (bS n d)).2)∧True) ((Int.tdiv n ((Int.gcd n d:Nat):Int))=((iO (bS n d)).1.num)∧(Int.tdiv d ((Int.gcd n d:Nat):Int))=((iO (bS n d)).1.den)∧(true)=((iO (bS n d)).2)∧True))))) (bO (-d)∧Br (d=(-d)) (0=((iO (bS n d)).1.num)∧0=((iO (bS n d)).1.den)∧(false)=((iO (bS n d)).2)∧True) (Br (d<0) (bO (-n)∧bO (-d)∧oN (-n) (-d)∧((Int.gcd (-n) (-d):Nat):Int)≠0∧bO (Int.tdiv (-n) ((Int.gcd (-n) (-d):Nat):Int))∧((Int.gcd (-n) (-d):Nat):Int)≠0∧bO (Int.tdiv (-d) ((Int.gcd (-n) (-d):Nat):Int))∧gL (⟨Int.tdiv (-n) ((Int.gcd (-n) (-d):Nat):Int),Int.tdiv (-d) ((Int.gcd (-n) (-d):Nat):Int)⟩:aB)∧Nr (bC (⟨Int.tdiv (-n) ((Int.gcd (-n) (-d):Nat):Int),Int.tdiv (-d) ((Int.gcd (-n) (-d):Nat):Int)⟩:aB)) (0=((iO (bS n d)).1.num)∧0=((iO (bS n d)).1.den)∧(false)=((iO (bS n d)).2)∧True) ((Int.tdiv (-n) ((Int.gcd (-n) (-d):Nat):Int))=((iO (bS n d)).1.num)∧(Int.tdiv (-d) ((Int.gcd (-n) (-d):Nat):Int))=((iO (bS n d)).1.den)∧(true)=((iO (bS n d)).2)∧True)) (oN n d∧((Int.gcd n d:Nat):Int)≠0∧bO (Int.tdiv n ((Int.gcd n d:Nat):Int))∧((Int.gcd n d:Nat):Int)≠0∧bO (Int.tdiv d ((Int.gcd n d:Nat):Int))∧gL (⟨Int.tdiv n ((Int.gcd n d:Nat):Int),Int.tdiv d ((Int.gcd n d:Nat):Int)⟩:aB)∧Nr (bC (⟨Int.tdiv n ((Int.gcd n d:Nat):Int),Int.tdiv d ((Int.gcd n d:Nat):Int)⟩:aB)) (0=((iO (bS n d)).1.num)∧0=((iO (bS n d)).1.den)∧(false)=((iO (bS n d)).2)∧True) ((Int.tdiv n ((Int.gcd n d:Nat):Int))=((iO (bS n d)).1.num)∧(Int.tdiv d ((Int.gcd n d:Nat):Int))=((iO (bS n d)).1.den)∧(true)=((iO (bS n d)).2)∧True)))))) (by kernel_rfl) ?_
 refine dd (fun g10=>?_) fun g10=>?_
 ·refine⟨?_,?_,?_,trivial⟩<;>((subst g10;rw[aNO]<;>rfl))
 ·refine⟨by exact⟨by omega,by omega⟩,dd (fun g15=>?_) fun g15=>?_⟩
  ·refine dn (fun g20=>?_) fun g20=>?_
   ·refine⟨?_,?_,?_,trivial⟩<;>((exfalso;omega))
   ·refine⟨by exact⟨by omega,by omega⟩,dd (fun c0=>?_) fun c0=>?_⟩
    ·refine⟨?_,?_,?_,trivial⟩<;>((exfalso;omega))
    ·refine dd (fun c1=>?_) fun c1=>?_
     ·have q1:((Int.gcd (-n) (-d):Nat):Int)≠0:=by have:=mA (n:= -n) (d:= -d) (by omega);omega
      have q2:((Int.gcd ((Int.natAbs (-n):Nat):Int) (-d):Nat):Int)≠0:=by rw[fV];have:=mA (n:= -n) (d:= -d) (by omega);omega
      refine⟨by exact⟨by omega,by omega⟩,by exact⟨by omega,by omega⟩,zI _ _ (by omega) (by omega),by omega,by exact kT (by omega),by omega,by exact kT (by omega),kS (⟨Int.tdiv (-n) ((Int.gcd (-n) (-d):Nat):Int),Int.tdiv (-d) ((Int.gcd (-n) (-d):Nat):Int)⟩:aB),dm (fun c2=>?_) fun c2=>?_⟩
      ·refine⟨?_,?_,?_,trivial⟩<;>((rw[aH6 (by omega) c2]<;>rfl))
      ·refine⟨?_,?_,?_,trivial⟩<;>((rw[aLX (by omega) c2]<;>rfl))
     ·have q1:((Int.gcd n d:Nat):Int)≠0:=by have:=mA (n:=n) (d:=d) (by omega);omega
      have q2:((Int.gcd ((Int.natAbs n:Nat):Int) d:Nat):Int)≠0:=by rw[fV];have:=mA (n:=n) (d:=d) (by omega);omega
      refine⟨zI _ _ (by omega) (by omega),by omega,by exact kT hn,by omega,by exact kT (by omega),kS (⟨Int.tdiv n ((Int.gcd n d:Nat):Int),Int.tdiv d ((Int.gcd n d:Nat):Int)⟩:aB),dm (fun c2=>?_) fun c2=>?_⟩
      ·refine⟨?_,?_,?_,trivial⟩<;>((rw[aH5 (by omega) c2]<;>rfl))
      ·refine⟨?_,?_,?_,trivial⟩<;>((rw[aLW (by omega) c2]<;>rfl))
  ·refine⟨by exact⟨by omega,by omega⟩,dd (fun c0=>?_) fun c0=>?_⟩
   ·refine⟨?_,?_,?_,trivial⟩<;>((exfalso;omega))
   ·refine dd (fun c1=>?_) fun c1=>?_
    ·have q1:((Int.gcd (-n) (-d):Nat):Int)≠0:=by have:=mA (n:= -n) (d:= -d) (by omega);omega
     have q2:((Int.gcd ((Int.natAbs (-n):Nat):Int) (-d):Nat):Int)≠0:=by rw[fV];have:=mA (n:= -n) (d:= -d) (by omega);omega
     refine⟨by exact⟨by omega,by omega⟩,by exact⟨by omega,by omega⟩,zI _ _ (by omega) (by omega),by omega,by exact kT (by omega),by omega,by exact kT (by omega),kS (⟨Int.tdiv (-n) ((Int.gcd (-n) (-d):Nat):Int),Int.tdiv (-d) ((Int.gcd (-n) (-d):Nat):Int)⟩:aB),dm (fun c2=>?_) fun c2=>?_⟩
     ·refine⟨?_,?_,?_,trivial⟩<;>((rw[aH6 (by omega) c2]<;>rfl))
     ·refine⟨?_,?_,?_,trivial⟩<;>((rw[aLX (by omega) c2]<;>rfl))
    ·have q1:((Int.gcd n d:Nat):Int)≠0:=by have:=mA (n:=n) (d:=d) (by omega);omega
     have q2:((Int.gcd ((Int.natAbs n:Nat):Int) d:Nat):Int)≠0:=by rw[fV];have:=mA (n:=n) (d:=d) (by omega);omega
     refine⟨zI _ _ (by omega) (by omega),by omega,by exact kT hn,by omega,by exact kT (by omega),kS (⟨Int.tdiv n ((Int.gcd n d:Nat):Int),Int.tdiv d ((Int.gcd n d:Nat):Int)⟩:aB),dm (fun c2=>?_) fun c2=>?_⟩
     ·refine⟨?_,?_,?_,trivial⟩<;>((rw[aH5 (by omega) c2]<;>rfl))
     ·refine⟨?_,?_,?_,trivial⟩<;>((rw[aLW (by omega) c2]<;>rfl))
abbrev qQ (n:Int)(d:Int):AV × List (Nat × Rs):=(.tup [.agg [vI ((iO (bS n d)).1.num),vI ((iO (bS n d)).1.den)],vB ((iO (bS n d)).2)],[])
abbrev uB (n:Int)(d:Int):Prop:=cH Tryz.prog 202 [.one (.int .i64 n),.one (.int .i64 d)] (qQ n d).1 (qQ n d).2
theorem aF1 (n d:Int)(hn: -9223372036854775807≤n∧n≤9223372036854775807)(hd: -9223372036854775807≤d∧d≤9223372036854775807):uB n d:=by
 refine aW bH aO Tryz.func202 (by kernel_rfl) (.br (.fin []) (.lit<| .lit<| .br (.fin []) (.lit<| .lit<| .br (.fin []) (.br (.call (vI (((-n).natAbs:Nat):Int)) []<| .call (vI ((Int.gcd (((-n).natAbs:Nat):Int) (-d):Nat):Int)) []<| .call (vB (bC (⟨Int.tdiv (-n) ((Int.gcd (((-n).natAbs:Nat):Int) (-d):Nat):Int),Int.tdiv (-d) ((Int.gcd (((-n).natAbs:Nat):Int) (-d):Nat):Int)⟩:aB))) []<| .br (.fin []) (.fin [])) (.call (vI (n.natAbs:Int)) []<| .call (vI ((Int.gcd (n.natAbs:Int) d:Nat):Int)) []<| .call (vB (bC (⟨Int.tdiv n ((Int.gcd (n.natAbs:Int) d:Nat):Int),Int.tdiv d ((Int.gcd (n.natAbs:Int) d:Nat):Int)⟩:aB))) []<| .br (.fin []) (.fin [])))))) (p:=Br (d=0) (0=((iO (bS n d)).1.num)∧0=((iO (bS n d)).1.den)∧(false)=((iO (bS n d)).2)∧True) (Br (n<(-9223372036854775807:Int)) (0=((iO (bS n d)).1.num)∧0=((iO (bS n d)).1.den)∧(false)=((iO (bS n d)).2)∧True) (Br (d<(-9223372036854775807:Int)) (0=((iO (bS n d)).1.num)∧0=((iO (bS n d)).1.den)∧(false)=((iO (bS n d)).2)∧True) (Br (d<0) (bO (-n)∧bO (-d)∧vS (-n)∧vR (((-n).natAbs:Nat):Int) (-d)∧((Int.gcd (((-n).natAbs:Nat):Int) (-d):Nat):Int)≠0∧bO (Int.tdiv (-n) ((Int.gcd (((-n).natAbs:Nat):Int) (-d):Nat):Int))∧((Int.gcd (((-n).natAbs:Nat):Int) (-d):Nat):Int)≠0∧bO (Int.tdiv (-d) ((Int.gcd (((-n).natAbs:Nat):Int) (-d):Nat):Int))∧fK (⟨Int.tdiv (-n) ((Int.gcd (((-n).natAbs:Nat):Int) (-d):Nat):Int),Int.tdiv (-d) ((Int.gcd (((-n).natAbs:Nat):Int) (-d):Nat):Int)⟩:aB)∧Nr (bC (⟨Int.tdiv (-n) ((Int.gcd (((-n).natAbs:Nat):Int) (-d):Nat):Int),Int.tdiv (-d) ((Int.gcd (((-n).natAbs:Nat):Int) (-d):Nat):Int)⟩:aB)) (0=((iO (bS n d)).1.num)∧0=((iO (bS n d)).1.den)∧(false)=((iO (bS n d)).2)∧True) ((Int.tdiv (-n) ((Int.gcd (((-n).natAbs:Nat):Int) (-d):Nat):Int))=((iO (bS n d)).1.num)∧(Int.tdiv (-d) ((Int.gcd (((-n).natAbs:Nat):Int) (-d):Nat):Int))=((iO (bS n d)).1.den)∧(true)=((iO (bS n d)).2)∧True)) (vS n∧vR (n.natAbs:Int) d∧((Int.gcd (n.natAbs:Int) d:Nat):Int)≠0∧bO (Int.tdiv n ((Int.gcd (n.natAbs:Int) d:Nat):Int))∧((Int.gcd (n.natAbs:Int) d:Nat):Int)≠0∧bO (Int.tdiv d ((Int.gcd (n.natAbs:Int) d:Nat):Int))∧fK (⟨Int.tdiv n ((Int.gcd (n.natAbs:Int) d:Nat):Int),Int.tdiv d ((Int.gcd (n.natAbs:Int) d:Nat):Int)⟩:aB)∧Nr (bC (⟨Int.tdiv n ((Int.gcd (n.natAbs:Int) d:Nat):Int),Int.tdiv d ((Int.gcd (n.natAbs:Int) d:Nat):Int)⟩:aB)) (0=((iO (bS n d)).1.num)∧0=((iO (bS n d)).1.den)∧(false)=((iO (bS n d)).2)∧True) ((Int.tdiv n ((Int.gcd (n.natAbs:Int) d:Nat):Int))=((iO (bS n d)).1.num)∧(Int.tdiv d ((Int.gcd (n.natAbs:Int) d:Nat):Int))=((iO (bS n d)).1.den)∧(true)=((iO (bS n d)).2)∧True)))))) (by kernel_rfl) ?_
 refine dd (fun g10=>?_) fun g10=>?_
 ·refine⟨?_,?_,?_,trivial⟩<;>((try simp only[fV] at*);(subst g10;rw[aNO]<;>rfl))
 ·refine dd (fun g14=>?_) fun g14=>?_
  ·refine⟨?_,?_,?_,trivial⟩<;>((try simp only[fV] at*);(exfalso;omega))
  ·refine dd (fun c0=>?_) fun c0=>?_
   ·refine⟨?_,?_,?_,trivial⟩<;>((try simp only[fV] at*);(exfalso;omega))
   ·refine dd (fun c1=>?_) fun c1=>?_
    ·have q1:((Int.gcd (-n) (-d):Nat):Int)≠0:=by have:=mA (n:= -n) (d:= -d) (by omega);omega
     have q2:((Int.gcd ((Int.natAbs (-n):Nat):Int) (-d):Nat):Int)≠0:=by rw[fV];have:=mA (n:= -n) (d:= -d) (by omega);omega
     refine⟨by exact⟨by omega,by omega⟩,by exact⟨by omega,by omega⟩,aHY _ (by omega),aHX _ _ (by omega) (by omega),by omega,by exact kT (by omega),by omega,by exact kT (by omega),jH (⟨Int.tdiv (-n) ((Int.gcd (((-n).natAbs:Nat):Int) (-d):Nat):Int),Int.tdiv (-d) ((Int.gcd (((-n).natAbs:Nat):Int) (-d):Nat):Int)⟩:aB),dm (fun c2=>?_) fun c2=>?_⟩
     ·refine⟨?_,?_,?_,trivial⟩<;>((try simp only[fV] at*);(rw[aH6 (by omega) c2]<;>rfl))
     ·refine⟨?_,?_,?_,trivial⟩<;>((try simp only[fV] at*);(rw[aLX (by omega) c2]<;>rfl))
    ·have q1:((Int.gcd n d:Nat):Int)≠0:=by have:=mA (n:=n) (d:=d) (by omega);omega
     have q2:((Int.gcd ((Int.natAbs n:Nat):Int) d:Nat):Int)≠0:=by rw[fV];have:=mA (n:=n) (d:=d) (by omega);omega
     refine⟨aHY _ (by omega),aHX _ _ (by omega) (by omega),by omega,by exact kT hn,by omega,by exact kT (by omega),jH (⟨Int.tdiv n ((Int.gcd (n.natAbs:Int) d:Nat):Int),Int.tdiv d ((Int.gcd (n.natAbs:Int) d:Nat):Int)⟩:aB),dm (fun c2=>?_) fun c2=>?_⟩
     ·refine⟨?_,?_,?_,trivial⟩<;>((try simp only[fV] at*);(rw[aH5 (by omega) c2]<;>rfl))
     ·refine⟨?_,?_,?_,trivial⟩<;>((try simp only[fV] at*);(rw[aLW (by omega) c2]<;>rfl))
abbrev aBa (a:aB)(b:aB):AV × List (Nat × Rs):=(.tup [.agg [vI ((fU a b).1.num),vI ((fU a b).1.den)],vB ((fU a b).2)],[])
abbrev aH7 (a:aB)(b:aB):Prop:=cH Tryz.prog 214 [.agg [.int .i64 a.num,.int .i64 a.den],.agg [.int .i64 b.num,.int .i64 b.den]] (aBa a b).1 (aBa a b).2
theorem aU1 (a b:aB):aH7 a b:=by
 refine aW bH aO Tryz.func214 (by kernel_rfl) (.call (vB (bC a)) []<| .br (.fin []) (.call (vB (bC b)) []<| .lit<| .lit<| .br (.fin []) (bL (uA ((a.num*b.den)+(b.num*a.den)) (a.den*b.den))<| .fin []))) (p:=gL a∧Nr (bC a) (0=((fU a b).1.num)∧0=((fU a b).1.den)∧(false)=((fU a b).2)∧True) (gL b∧Nr (bC b) (0=((fU a b).1.num)∧0=((fU a b).1.den)∧(false)=((fU a b).2)∧True) (bO (a.num*b.den)∧bO (b.num*a.den)∧bO ((a.num*b.den)+(b.num*a.den))∧bO (a.den*b.den)∧aAa ((a.num*b.den)+(b.num*a.den)) (a.den*b.den)∧(((iO (bS ((a.num*b.den)+(b.num*a.den)) (a.den*b.den))).1).num)=((fU a b).1.num)∧(((iO (bS ((a.num*b.den)+(b.num*a.den)) (a.den*b.den))).1).den)=((fU a b).1.den)∧((iO (bS ((a.num*b.den)+(b.num*a.den)) (a.den*b.den))).2)=((fU a b).2)∧True))) (by kernel_rfl) ?_
 refine⟨kS a,dm (fun g9=>?_) fun g9=>?_⟩
 ·refine⟨?_,?_,?_,trivial⟩<;>((rw[fU,aFX (.inl g9)];rfl))
 ·refine⟨kS b,dm (fun c0=>?_) fun c0=>?_⟩
  ·refine⟨?_,?_,?_,trivial⟩<;>((rw[fU,aFX (.inr c0)];rfl))
  ·have q1:=cS g9
   have q2:=cS c0
   have m1:=eY (x:=a.num) (y:=b.den) ⟨by omega,by omega⟩ ⟨by omega,by omega⟩
   have m2:=eY (x:=b.num) (y:=a.den) ⟨by omega,by omega⟩ ⟨by omega,by omega⟩
   have m3:=eY (x:=a.den) (y:=b.den) ⟨by omega,by omega⟩ ⟨by omega,by omega⟩
   have m4:=eY (x:=a.num) (y:=b.num) ⟨by omega,by omega⟩ ⟨by omega,by omega⟩
   have m5:=eY (x:=a.den) (y:=b.num) ⟨by omega,by omega⟩ ⟨by omega,by omega⟩
   refine⟨⟨by omega,by omega⟩,⟨by omega,by omega⟩,⟨by omega,by omega⟩,⟨by omega,by omega⟩,aLY _ _ (by omega) (by omega),?_,?_,?_,trivial⟩<;>((rw[fU,aHW g9 c0];done))
abbrev aBb (a:aB)(b:aB):AV × List (Nat × Rs):=(.tup [.agg [vI ((dS a b).1.num),vI ((dS a b).1.den)],vB ((dS a b).2)],[])
abbrev aH8 (a:aB)(b:aB):Prop:=cH Tryz.prog 213 [.agg [.int .i64 a.num,.int .i64 a.den],.agg [.int .i64 b.num,.int .i64 b.den]] (aBb a b).1 (aBb a b).2
theorem aU2 (a b:aB):aH8 a b:=by
 refine aW bH aO Tryz.func213 (by kernel_rfl) (.call (vB (bC a)) []<| .br (.fin []) (.call (vB (bC b)) []<| .lit<| .lit<| .br (.fin []) (bL (uA (a.num*b.num) (a.den*b.den))<| .fin []))) (p:=gL a∧Nr (bC a) (0=((dS a b).1.num)∧0=((dS a b).1.den)∧(false)=((dS a b).2)∧True) (gL b∧Nr (bC b) (0=((dS a b).1.num)∧0=((dS a b).1.den)∧(false)=((dS a b).2)∧True) (bO (a.num*b.num)∧bO (a.den*b.den)∧aAa (a.num*b.num) (a.den*b.den)∧(((iO (bS (a.num*b.num) (a.den*b.den))).1).num)=((dS a b).1.num)∧(((iO (bS (a.num*b.num) (a.den*b.den))).1).den)=((dS a b).1.den)∧((iO (bS (a.num*b.num) (a.den*b.den))).2)=((dS a b).2)∧True))) (by kernel_rfl) ?_
 refine⟨kS a,dm (fun g9=>?_) fun g9=>?_⟩
 ·refine⟨?_,?_,?_,trivial⟩<;>((rw[dS,aFY (.inl g9)];rfl))
 ·refine⟨kS b,dm (fun c0=>?_) fun c0=>?_⟩
  ·refine⟨?_,?_,?_,trivial⟩<;>((rw[dS,aFY (.inr c0)];rfl))
  ·have q1:=cS g9
   have q2:=cS c0
   have m1:=eY (x:=a.num) (y:=b.den) ⟨by omega,by omega⟩ ⟨by omega,by omega⟩
   have m2:=eY (x:=b.num) (y:=a.den) ⟨by omega,by omega⟩ ⟨by omega,by omega⟩
   have m3:=eY (x:=a.den) (y:=b.den) ⟨by omega,by omega⟩ ⟨by omega,by omega⟩
   have m4:=eY (x:=a.num) (y:=b.num) ⟨by omega,by omega⟩ ⟨by omega,by omega⟩
   have m5:=eY (x:=a.den) (y:=b.num) ⟨by omega,by omega⟩ ⟨by omega,by omega⟩
   refine⟨⟨by omega,by omega⟩,⟨by omega,by omega⟩,aLY _ _ (by omega) (by omega),?_,?_,?_,trivial⟩<;>((rw[dS,zF g9 c0];done))
abbrev vW (a:aB)(b:aB):AV × List (Nat × Rs):=(.tup [.agg [vI ((aY a b).1.num),vI ((aY a b).1.den)],vB ((aY a b).2)],[])
abbrev aBc (a:aB)(b:aB):Prop:=cH Tryz.prog 162 [.agg [.int .i64 a.num,.int .i64 a.den],.agg [.int .i64 b.num,.int .i64 b.den]] (vW a b).1 (vW a b).2
theorem aNP (a b:aB):aBc a b:=by
 refine aW bH aO Tryz.func162 (by kernel_rfl) (.call (vB (bC a)) []<| .br (.fin []) (.call (vB (bC b)) []<| .lit<| .lit<| .br (.fin []) (bL (uA (a.num*b.den) (a.den*b.num))<| .fin []))) (p:=gL a∧Nr (bC a) (0=((aY a b).1.num)∧0=((aY a b).1.den)∧(false)=((aY a b).2)∧True) (gL b∧Nr (bC b) (0=((aY a b).1.num)∧0=((aY a b).1.den)∧(false)=((aY a b).2)∧True) (bO (a.num*b.den)∧bO (a.den*b.num)∧aAa (a.num*b.den) (a.den*b.num)∧(((iO (bS (a.num*b.den) (a.den*b.num))).1).num)=((aY a b).1.num)∧(((iO (bS (a.num*b.den) (a.den*b.num))).1).den)=((aY a b).1.den)∧((iO (bS (a.num*b.den) (a.den*b.num))).2)=((aY a b).2)∧True))) (by kernel_rfl) ?_
 refine⟨kS a,dm (fun g9=>?_) fun g9=>?_⟩
 ·refine⟨?_,?_,?_,trivial⟩<;>((rw[aY,aFZ (.inl g9)];rfl))
 ·refine⟨kS b,dm (fun c0=>?_) fun c0=>?_⟩
  ·refine⟨?_,?_,?_,trivial⟩<;>((rw[aY,aFZ (.inr c0)];rfl))
  ·have q1:=cS g9
   have q2:=cS c0
   have m1:=eY (x:=a.num) (y:=b.den) ⟨by omega,by omega⟩ ⟨by omega,by omega⟩
   have m2:=eY (x:=b.num) (y:=a.den) ⟨by omega,by omega⟩ ⟨by omega,by omega⟩
   have m3:=eY (x:=a.den) (y:=b.den) ⟨by omega,by omega⟩ ⟨by omega,by omega⟩
   have m4:=eY (x:=a.num) (y:=b.num) ⟨by omega,by omega⟩ ⟨by omega,by omega⟩
   have m5:=eY (x:=a.den) (y:=b.num) ⟨by omega,by omega⟩ ⟨by omega,by omega⟩
   refine⟨⟨by omega,by omega⟩,⟨by omega,by omega⟩,aLY _ _ (by omega) (by omega),?_,?_,?_,trivial⟩<;>((rw[aY,zG g9 c0];done))
abbrev vX (a:aB)(b:aB):AV × List (Nat × Rs):=(.tup [.agg [vI ((fU a b).1.num),vI ((fU a b).1.den)],vB ((fU a b).2)],[])
abbrev aBd (a:aB)(b:aB):Prop:=cH Tryz.prog 153 [.agg [.int .i64 a.num,.int .i64 a.den],.agg [.int .i64 b.num,.int .i64 b.den]] (vX a b).1 (vX a b).2
theorem aNQ (a b:aB):aBd a b:=by
 refine aW bH aO Tryz.func153 (by kernel_rfl) (.call (vB (bC a)) []<| .br (.fin []) (.call (vB (bC b)) []<| .lit<| .lit<| .br (.fin []) (bL (qQ ((a.num*b.den)+(b.num*a.den)) (a.den*b.den))<| .fin []))) (p:=fK a∧Nr (bC a) (0=((fU a b).1.num)∧0=((fU a b).1.den)∧(false)=((fU a b).2)∧True) (fK b∧Nr (bC b) (0=((fU a b).1.num)∧0=((fU a b).1.den)∧(false)=((fU a b).2)∧True) (bO (a.num*b.den)∧bO (b.num*a.den)∧bO ((a.num*b.den)+(b.num*a.den))∧bO (a.den*b.den)∧uB ((a.num*b.den)+(b.num*a.den)) (a.den*b.den)∧(((iO (bS ((a.num*b.den)+(b.num*a.den)) (a.den*b.den))).1).num)=((fU a b).1.num)∧(((iO (bS ((a.num*b.den)+(b.num*a.den)) (a.den*b.den))).1).den)=((fU a b).1.den)∧((iO (bS ((a.num*b.den)+(b.num*a.den)) (a.den*b.den))).2)=((fU a b).2)∧True))) (by kernel_rfl) ?_
 refine⟨jH a,dm (fun g11=>?_) fun g11=>?_⟩
 ·refine⟨?_,?_,?_,trivial⟩<;>((rw[fU,aFX (.inl g11)];rfl))
 ·refine⟨jH b,dm (fun c0=>?_) fun c0=>?_⟩
  ·refine⟨?_,?_,?_,trivial⟩<;>((rw[fU,aFX (.inr c0)];rfl))
  ·have q1:=cS g11
   have q2:=cS c0
   have m1:=eY (x:=a.num) (y:=b.den) ⟨by omega,by omega⟩ ⟨by omega,by omega⟩
   have m2:=eY (x:=b.num) (y:=a.den) ⟨by omega,by omega⟩ ⟨by omega,by omega⟩
   have m3:=eY (x:=a.den) (y:=b.den) ⟨by omega,by omega⟩ ⟨by omega,by omega⟩
   have m4:=eY (x:=a.num) (y:=b.num) ⟨by omega,by omega⟩ ⟨by omega,by omega⟩
   have m5:=eY (x:=a.den) (y:=b.num) ⟨by omega,by omega⟩ ⟨by omega,by omega⟩
   refine⟨⟨by omega,by omega⟩,⟨by omega,by omega⟩,⟨by omega,by omega⟩,⟨by omega,by omega⟩,aF1 _ _ (by omega) (by omega),?_,?_,?_,trivial⟩<;>((rw[fU,aHW g11 c0];done))
abbrev rP (a:aB)(b:aB):AV × List (Nat × Rs):=(.tup [.agg [vI ((dS a b).1.num),vI ((dS a b).1.den)],vB ((dS a b).2)],[])
abbrev vY (a:aB)(b:aB):Prop:=cH Tryz.prog 152 [.agg [.int .i64 a.num,.int .i64 a.den],.agg [.int .i64 b.num,.int .i64 b.den]] (rP a b).1 (rP a b).2
theorem aH9 (a b:aB):vY a b:=by
 refine aW bH aO Tryz.func152 (by kernel_rfl) (.call (vB (bC a)) []<| .br (.fin []) (.call (vB (bC b)) []<| .lit<| .lit<| .br (.fin []) (bL (qQ (a.num*b.num) (a.den*b.den))<| .fin []))) (p:=fK a∧Nr (bC a) (0=((dS a b).1.num)∧0=((dS a b).1.den)∧(false)=((dS a b).2)∧True) (fK b∧Nr (bC b) (0=((dS a b).1.num)∧0=((dS a b).1.den)∧(false)=((dS a b).2)∧True) (bO (a.num*b.num)∧bO (a.den*b.den)∧uB (a.num*b.num) (a.den*b.den)∧(((iO (bS (a.num*b.num) (a.den*b.den))).1).num)=((dS a b).1.num)∧(((iO (bS (a.num*b.num) (a.den*b.den))).1).den)=((dS a b).1.den)∧((iO (bS (a.num*b.num) (a.den*b.den))).2)=((dS a b).2)∧True))) (by kernel_rfl) ?_
 refine⟨jH a,dm (fun g11=>?_) fun g11=>?_⟩
 ·refine⟨?_,?_,?_,trivial⟩<;>((rw[dS,aFY (.inl g11)];rfl))
 ·refine⟨jH b,dm (fun c0=>?_) fun c0=>?_⟩
  ·refine⟨?_,?_,?_,trivial⟩<;>((rw[dS,aFY (.inr c0)];rfl))
  ·have q1:=cS g11
   have q2:=cS c0
   have m1:=eY (x:=a.num) (y:=b.den) ⟨by omega,by omega⟩ ⟨by omega,by omega⟩
   have m2:=eY (x:=b.num) (y:=a.den) ⟨by omega,by omega⟩ ⟨by omega,by omega⟩
   have m3:=eY (x:=a.den) (y:=b.den) ⟨by omega,by omega⟩ ⟨by omega,by omega⟩
   have m4:=eY (x:=a.num) (y:=b.num) ⟨by omega,by omega⟩ ⟨by omega,by omega⟩
   have m5:=eY (x:=a.den) (y:=b.num) ⟨by omega,by omega⟩ ⟨by omega,by omega⟩
   refine⟨⟨by omega,by omega⟩,⟨by omega,by omega⟩,aF1 _ _ (by omega) (by omega),?_,?_,?_,trivial⟩<;>((rw[dS,zF g11 c0];done))
abbrev oO (a:aB)(b:aB):AV × List (Nat × Rs):=(.tup [.agg [vI ((aY a b).1.num),vI ((aY a b).1.den)],vB ((aY a b).2)],[])
abbrev rQ (a:aB)(b:aB):Prop:=cH Tryz.prog 149 [.agg [.int .i64 a.num,.int .i64 a.den],.agg [.int .i64 b.num,.int .i64 b.den]] (oO a b).1 (oO a b).2
theorem aCv (a b:aB):rQ a b:=by
 refine aW bH aO Tryz.func149 (by kernel_rfl) (.call (vB (bC a)) []<| .br (.fin []) (.call (vB (bC b)) []<| .lit<| .lit<| .br (.fin []) (.lit<| .lit<| .lit<| .br (.fin []) (bL (qQ (a.num*b.den) (a.den*b.num))<| .fin [])))) (p:=fK a∧Nr (bC a) (0=((aY a b).1.num)∧0=((aY a b).1.den)∧(false)=((aY a b).2)∧True) (fK b∧Nr (bC b) (0=((aY a b).1.num)∧0=((aY a b).1.den)∧(false)=((aY a b).2)∧True) (Br (b.num=0) (0=((aY a b).1.num)∧0=((aY a b).1.den)∧(false)=((aY a b).2)∧True) (bO (a.num*b.den)∧bO (a.den*b.num)∧uB (a.num*b.den) (a.den*b.num)∧(((iO (bS (a.num*b.den) (a.den*b.num))).1).num)=((aY a b).1.num)∧(((iO (bS (a.num*b.den) (a.den*b.num))).1).den)=((aY a b).1.den)∧((iO (bS (a.num*b.den) (a.den*b.num))).2)=((aY a b).2)∧True)))) (by kernel_rfl) ?_
 refine⟨jH a,dm (fun g11=>?_) fun g11=>?_⟩
 ·refine⟨?_,?_,?_,trivial⟩<;>((rw[aY,aFZ (.inl g11)];rfl))
 ·refine⟨jH b,dm (fun g16=>?_) fun g16=>?_⟩
  ·refine⟨?_,?_,?_,trivial⟩<;>((rw[aY,aFZ (.inr g16)];rfl))
  ·refine dd (fun c0=>?_) fun c0=>?_
   ·refine⟨?_,?_,?_,trivial⟩<;>((simp[aY,aRb,iO, *];done))
   ·have q1:=cS g11
    have q2:=cS g16
    have m1:=eY (x:=a.num) (y:=b.den) ⟨by omega,by omega⟩ ⟨by omega,by omega⟩
    have m2:=eY (x:=b.num) (y:=a.den) ⟨by omega,by omega⟩ ⟨by omega,by omega⟩
    have m3:=eY (x:=a.den) (y:=b.den) ⟨by omega,by omega⟩ ⟨by omega,by omega⟩
    have m4:=eY (x:=a.num) (y:=b.num) ⟨by omega,by omega⟩ ⟨by omega,by omega⟩
    have m5:=eY (x:=a.den) (y:=b.num) ⟨by omega,by omega⟩ ⟨by omega,by omega⟩
    refine⟨⟨by omega,by omega⟩,⟨by omega,by omega⟩,aF1 _ _ (by omega) (by omega),?_,?_,?_,trivial⟩<;>((rw[aY,zG g11 g16];done))
theorem rR {n d:Int}:dA (-n) d=dA n d:=by
 have e:Int.gcd (-n) d=Int.gcd n d:=by simp[Int.gcd]
 simp only[dA,e]
 congr 2
 simp only[eI]
 rw[Bool.eq_iff_iff];simp;omega
theorem aU3 {a b c d:Int}:aLO a b (-c) d=aLP a b c d:=by
 unfold aLO aLP
 rw[rR,Int.neg_mul,Int.sub_eq_add_neg]
abbrev aBe (a:aB)(b:aB):AV × List (Nat × Rs):=(.tup [.agg [vI ((nS a b).1.num),vI ((nS a b).1.den)],vB ((nS a b).2)],[])
abbrev aHa (a:aB)(b:aB):Prop:=cH Tryz.prog 203 [.agg [.int .i64 a.num,.int .i64 a.den],.agg [.int .i64 b.num,.int .i64 b.den]] (aBe a b).1 (aBe a b).2
theorem aU4 (a b:aB):aHa a b:=by
 refine aW bH aO Tryz.func203 (by kernel_rfl) (.call (vB (bC a)) []<| .br (.fin []) (.call (vB (bC b)) []<| .lit<| .lit<| .br (.fin []) (bL (qQ ((a.num*b.den) - (b.num*a.den)) (a.den*b.den))<| .fin []))) (p:=fK a∧Nr (bC a) (0=((nS a b).1.num)∧0=((nS a b).1.den)∧(false)=((nS a b).2)∧True) (fK b∧Nr (bC b) (0=((nS a b).1.num)∧0=((nS a b).1.den)∧(false)=((nS a b).2)∧True) (bO (a.num*b.den)∧bO (b.num*a.den)∧bO ((a.num*b.den) - (b.num*a.den))∧bO (a.den*b.den)∧uB ((a.num*b.den) - (b.num*a.den)) (a.den*b.den)∧(((iO (bS ((a.num*b.den) - (b.num*a.den)) (a.den*b.den))).1).num)=((nS a b).1.num)∧(((iO (bS ((a.num*b.den) - (b.num*a.den)) (a.den*b.den))).1).den)=((nS a b).1.den)∧((iO (bS ((a.num*b.den) - (b.num*a.den)) (a.den*b.den))).2)=((nS a b).2)∧True))) (by kernel_rfl) ?_
 refine⟨jH a,dm (fun g11=>?_) fun g11=>?_⟩
 ·refine⟨?_,?_,?_,trivial⟩<;>((rw[nS,aPu (.inl g11)];rfl))
 ·refine⟨jH b,dm (fun c0=>?_) fun c0=>?_⟩
  ·refine⟨?_,?_,?_,trivial⟩<;>((rw[nS,aPu (.inr c0)];rfl))
  ·have q1:=cS g11
   have q2:=cS c0
   have m1:=eY (x:=a.num) (y:=b.den) ⟨by omega,by omega⟩ ⟨by omega,by omega⟩
   have m2:=eY (x:=b.num) (y:=a.den) ⟨by omega,by omega⟩ ⟨by omega,by omega⟩
   have m3:=eY (x:=a.den) (y:=b.den) ⟨by omega,by omega⟩ ⟨by omega,by omega⟩
   have m4:=eY (x:=a.num) (y:=b.num) ⟨by omega,by omega⟩ ⟨by omega,by omega⟩
   have m5:=eY (x:=a.den) (y:=b.num) ⟨by omega,by omega⟩ ⟨by omega,by omega⟩
   refine⟨⟨by omega,by omega⟩,⟨by omega,by omega⟩,⟨by omega,by omega⟩,⟨by omega,by omega⟩,aF1 _ _ (by omega) (by omega),?_,?_,?_,trivial⟩<;>((rw[nS,aNJ g11 c0];done))
abbrev aHb (a:aB)(b:aB):Prop:=cH Tryz.prog 163 [.agg [.int .i64 a.num,.int .i64 a.den],.agg [.int .i64 b.num,.int .i64 b.den]] (vI (fB a b)) []
theorem aU5 (a b:aB):aHb a b:=by
 refine aW bH aO Tryz.func163 (by kernel_rfl) (.call (vB (bC a)) []<| .br (.fin []) (.call (vB (bC b)) []<| .lit<| .lit<| .br (.fin []) (.br (.fin []) (.br (.fin []) (.fin []))))) (p:=gL a∧Nr (bC a) (0=(fB a b)∧True) (gL b∧Nr (bC b) (0=(fB a b)∧True) (bO (a.num*b.den)∧bO (b.num*a.den)∧Br ((a.num*b.den)<(b.num*a.den)) ((-1:Int)=(fB a b)∧True) (Br ((b.num*a.den)<(a.num*b.den)) (1=(fB a b)∧True) (0=(fB a b)∧True))))) (by kernel_rfl) ?_
 refine⟨kS a,dm (fun g10=>?_) fun g10=>?_⟩
 ·refine⟨?_,trivial⟩
  ·(rw[fB,aF0 (.inl g10)];done)
 ·refine⟨kS b,dm (fun c0=>?_) fun c0=>?_⟩
  ·refine⟨?_,trivial⟩
   ·(rw[fB,aF0 (.inr c0)];done)
  ·have q1:=cS g10
   have q2:=cS c0
   have m1:=eY (x:=a.num) (y:=b.den) ⟨by omega,by omega⟩ ⟨by omega,by omega⟩
   have m2:=eY (x:=b.num) (y:=a.den) ⟨by omega,by omega⟩ ⟨by omega,by omega⟩
   have m3:=eY (x:=a.den) (y:=b.den) ⟨by omega,by omega⟩ ⟨by omega,by omega⟩
   have m4:=eY (x:=a.num) (y:=b.num) ⟨by omega,by omega⟩ ⟨by omega,by omega⟩
   have m5:=eY (x:=a.den) (y:=b.num) ⟨by omega,by omega⟩ ⟨by omega,by omega⟩
   refine⟨⟨by omega,by omega⟩,⟨by omega,by omega⟩,dd (fun c1=>?_) fun c1=>?_⟩
   ·refine⟨?_,trivial⟩
    ·(rw[fB,tX g10 c0];(rw[if_pos c1];done))
   ·refine dd (fun c2=>?_) fun c2=>?_
    ·refine⟨?_,trivial⟩
     ·(rw[fB,tX g10 c0];(rw[if_neg c1,if_pos c2];done))
    ·refine⟨?_,trivial⟩
     ·(rw[fB,tX g10 c0];(rw[if_neg c1,if_neg c2];done))
abbrev aHc (a:aB)(b:aB):Prop:=cH Tryz.prog 150 [.agg [.int .i64 a.num,.int .i64 a.den],.agg [.int .i64 b.num,.int .i64 b.den]] (vI (fB a b)) []
theorem aU6 (a b:aB):aHc a b:=by
 refine aW bH aO Tryz.func150 (by kernel_rfl) (.call (vB (bC a)) []<| .br (.fin []) (.call (vB (bC b)) []<| .lit<| .lit<| .br (.fin []) (.br (.fin []) (.br (.fin []) (.fin []))))) (p:=fK a∧Nr (bC a) (0=(fB a b)∧True) (fK b∧Nr (bC b) (0=(fB a b)∧True) (bO (a.num*b.den)∧bO (b.num*a.den)∧Br ((a.num*b.den)<(b.num*a.den)) ((-1:Int)=(fB a b)∧True) (Br ((b.num*a.den)<(a.num*b.den)) (1=(fB a b)∧True) (0=(fB a b)∧True))))) (by kernel_rfl) ?_
 refine⟨jH a,dm (fun g10=>?_) fun g10=>?_⟩
 ·refine⟨?_,trivial⟩
  ·(rw[fB,aF0 (.inl g10)];done)
 ·refine⟨jH b,dm (fun c0=>?_) fun c0=>?_⟩
  ·refine⟨?_,trivial⟩
   ·(rw[fB,aF0 (.inr c0)];done)
  ·have q1:=cS g10
   have q2:=cS c0
   have m1:=eY (x:=a.num) (y:=b.den) ⟨by omega,by omega⟩ ⟨by omega,by omega⟩
   have m2:=eY (x:=b.num) (y:=a.den) ⟨by omega,by omega⟩ ⟨by omega,by omega⟩
   have m3:=eY (x:=a.den) (y:=b.den) ⟨by omega,by omega⟩ ⟨by omega,by omega⟩
   have m4:=eY (x:=a.num) (y:=b.num) ⟨by omega,by omega⟩ ⟨by omega,by omega⟩
   have m5:=eY (x:=a.den) (y:=b.num) ⟨by omega,by omega⟩ ⟨by omega,by omega⟩
   refine⟨⟨by omega,by omega⟩,⟨by omega,by omega⟩,dd (fun c1=>?_) fun c1=>?_⟩
   ·refine⟨?_,trivial⟩
    ·(rw[fB,tX g10 c0];(rw[if_pos c1];done))
   ·refine dd (fun c2=>?_) fun c2=>?_
    ·refine⟨?_,trivial⟩
     ·(rw[fB,tX g10 c0];(rw[if_neg c1,if_pos c2];done))
    ·refine⟨?_,trivial⟩
     ·(rw[fB,tX g10 c0];(rw[if_neg c1,if_neg c2];done))
theorem bF {α:Type}{l:List α}{k:Nat}{x y:α}(h:l[k]? =some x):l.getD k y=x:=by simp[List.getD_eq_getElem?_getD,h]
def aN (n:Int):aB:=⟨n,1⟩
def zR:aB:=⟨0,0⟩
theorem aHd (m:Int)(l:List Int): ∀k,∃p,jS m l k=m4 p
 | 0=>⟨fun _=>false,by simp[jS,m4,b4]⟩
 | k+1=>by
   obtain⟨p,hp⟩:=aHd m l k
   rw[jS]
   split
   ·rename_i h
    exact⟨_,by rw[hp,aTq h.1.1]⟩
   ·exact⟨p,hp⟩
theorem aEf (m:Int)(l:List Int):0≤gF m l∧gF m l≤15:=by
 obtain⟨p,hp⟩:=aHd m l l.length
 rw[gF,hp]
 exact aTp p
theorem aEg: ∀(f b:Nat) (n:Int),0≤jY f b n∧jY f b n≤((b+f:Nat):Int)
 | 0,b,_=>by rw[jY];omega
 | f+1,b,n=>by
   have:=aEg f (b+1) n
   rw[jY]
   split<;>omega
theorem aOs (n:Int): -1≤pU n∧pU n≤12:=by
 have:=aEg 12 0 n
 unfold pU
 split<;>omega
theorem aOt {s:StoreD}{q:QueryD}{m:Int}{x:aH}(h:x∈dX s q m): -1≤x.bits∧x.bits≤12:=by
 unfold dX at h
 split at h
 ·rw[qcL,List.mem_flatMap] at h
  obtain⟨y,_,h⟩:=h
  rw[qcA] at h
  unfold lK at h
  split at h
  ·obtain⟨z,_,rfl⟩:=List.mem_map.1 h
   exact aOs _
  ·simp at h
 ·simp at h
theorem aNR {s:StoreD}{q:QueryD}{m:Int}(v:List Int):oG ((dX s q m).map (lY v)):=by
 intro x hx
 obtain⟨y,hy,rfl⟩:=List.mem_map.1 hx
 have h1:=aEf y.src v
 have h2:=aEf y.dst v
 have h3:=aOt hy
 refine⟨⟨?_,?_⟩,⟨?_,?_⟩,⟨?_,?_⟩⟩<;>(simp only[lY];omega)
def gA (s:StoreD)(q:QueryD)(m:Int):bZ × Bool:=if (dX s q m).length=0 then (nI,false) else dR ((dX s q m).map (lY (eE q m))) ((eE q m).length:Nat)
theorem aPy {s:StoreD}{q:QueryD}{m:Int}(h:(dX s q m).length=0):gA s q m=(nI,false):=by rw[gA,if_pos h]
theorem aNS {s:StoreD}{q:QueryD}{m:Int}(h: ¬(dX s q m).length=0):gA s q m=dR ((dX s q m).map (lY (eE q m))) ((eE q m).length:Nat):=by rw[gA,if_neg h]
theorem aOu (s:StoreD)(q:QueryD)(m:Int):xZ (gA s q m).1≤2000:=by
 unfold gA
 split
 ·decide
 ·exact aOr _ _
abbrev aBf (l:List aH)(n:Int):AV × List (Nat × Rs):=(.tup [.agg [.own 0,.own 1,.own 2],vB ((dR l n).2)],[(0,.arr 3 1 true ((dR l n).1.objective.map intD)),(1,.arr 91 1 true ((dR l n).1.rows.map aC)),(2,.arr 3 1 true ((dR l n).1.limits.map intD))])
abbrev aHe (l:List aH)(n:Int):Prop:=cH Tryz.prog 101 [.one (.sl 192 3 (l.map aE)),.one (.int .i64 n)] (aBf l n).1 (aBf l n).2
theorem aU7 (l:List aH)(n:Int)(hl:l.length≤1048576)(hf:oG l):aHe l n:=by
 refine aW bH aO Tryz.func101 (by kernel_rfl) (.call (vB (decide (1≤n∧n≤4))) []<| .br (.fin []) (.mk ((((1:Int)*2^(Int.toNat n)) - 1).toNat) [.int .i64 (0:Int)] ((List.replicate ((((1:Int)*2^(Int.toNat n)) - 1).toNat) (0:Int)).map intD)<| .call (.own 0) [(0,.arr 91 1 true ((dM n).map aC))]<| .len ((List.replicate ((((1:Int)*2^(Int.toNat n)) - 1).toNat) (0:Int)).length)<| .set Int intD (List.replicate ((((1:Int)*2^(Int.toNat n)) - 1).toNat) (0:Int)) (fun s5_5=>(1:Int)) (fun s5_5=> .len ((dM n).length)<| .mk ((dM n).length) [.int .i64 (0:Int)] ((List.replicate ((dM n).length) (0:Int)).map intD)<| .len l.length<| .loop (Nat × (List (List Int)) × (List Int)) (Q3 Nat (List (List Int)) (List Int)) ([9,10,21,22,29,31]++rg 35 31++rg 67 29) [700,900,2100,3100,6800,8500,8600,9200,9300] (fun yy0=>[(35,vI (yy0.1:Int))]) (fun yy0=>[(700,some (.box 94 [.own 1900,.own 2100,.own 3100])),(2100,some (.arr 91 1 true (yy0.2.1.map aC))),(3100,some (.arr 3 1 true (yy0.2.2.map intD)))]) (fun yy0=>yy0.1≤l.length∧yy0.2.1=dM n++(l.take yy0.1).map (nP n)∧yy0.2.2=List.replicate (dM n).length 0++(l.take yy0.1).map (·.bits)∧(l.take yy0.1).all (okC n)=true) (fun yy0=>l.length - yy0.1) (fun yy0=> .br (.elem _ aE l (fun e37=> .call (vB (decide (1≤e37.dst∧e37.dst≤(((1:Int)*2^(Int.toNat n)) - 1)))) []<| .br (.fin []) (.lit<| .lit<| .lit<| .br (.fin []) (.lit<| .lit<| .lit<| .lit<| .lit<| .lit<| .lit<| .lit<| .br (.fin []) (.lit<| .lit<| .lit<| .lit<| .lit<| .br (.fin []) (.mk ((((1:Int)*2^(Int.toNat n)) - 1).toNat) [.int .i64 (0:Int)] ((List.replicate ((((1:Int)*2^(Int.toNat n)) - 1).toNat) (0:Int)).map intD)<| .len ((List.replicate ((((1:Int)*2^(Int.toNat n)) - 1).toNat) (0:Int)).length)<| .set Int intD (List.replicate ((((1:Int)*2^(Int.toNat n)) - 1).toNat) (0:Int)) (fun s13_5=>(1:Int)) (fun s13_5=> .br (.len (((List.replicate ((((1:Int)*2^(Int.toNat n)) - 1).toNat) (0:Int)).set ((e37.dst - 1).toNat) (1:Int)).length)<| .set Int intD ((List.replicate ((((1:Int)*2^(Int.toNat n)) - 1).toNat) (0:Int)).set ((e37.dst - 1).toNat) (1:Int)) (fun s15_5=>(-1:Int)) (fun s15_5=> .appx (List Int) aC yy0.2.1 (((List.replicate ((((1:Int)*2^(Int.toNat n)) - 1).toNat) (0:Int)).set ((e37.dst - 1).toNat) (1:Int)).set ((e37.src - 1).toNat) (-1:Int))<| .app Int intD yy0.2.2 ([e37.bits]:List Int)<| .back [(700,700),(2100,8600),(3100,9300)])) (.appx (List Int) aC yy0.2.1 ((List.replicate ((((1:Int)*2^(Int.toNat n)) - 1).toNat) (0:Int)).set ((e37.dst - 1).toNat) (1:Int))<| .app Int intD yy0.2.2 ([e37.bits]:List Int)<| .back [(700,700),(2100,8600),(3100,9300)])))))))) (.call (vB (cV (⟨(List.replicate ((((1:Int)*2^(Int.toNat n)) - 1).toNat) (0:Int)).set (((((1:Int)*2^(Int.toNat n)) - 1) - 1).toNat) (1:Int),yy0.2.1,yy0.2.2⟩:bZ))) []<| .br (.fin []) (.fin [(0,1900),(1,2100),(2,3100)])))))) (p:=(l.map aE).length≤9223372036854775807→jP n (1:Int) (4:Int)∧Nb (1≤n∧n≤4) ((false)=((dR l n).2)∧[]=(dR l n).1.objective.map intD∧[]=(dR l n).1.rows.map aC∧[]=(dR l n).1.limits.map intD∧True) ((0≤n∧n≤64)∧(bO ((1:Int)*2^(Int.toNat n))∧(bO (((1:Int)*2^(Int.toNat n)) - 1)∧((((1:Int)*2^(Int.toNat n)) - 1)=(((((1:Int)*2^(Int.toNat n)) - 1).toNat:Nat):Int)∧(((1:Int)*2^(Int.toNat n)) - 1)=(((((1:Int)*2^(Int.toNat n)) - 1).toNat:Nat):Int)∧8*((((1:Int)*2^(Int.toNat n)) - 1).toNat)≤281474976710656∧((((1:Int)*2^(Int.toNat n)) - 1).toNat)≤9223372036854775807∧List.replicate ((((1:Int)*2^(Int.toNat n)) - 1).toNat) [.int .i64 (0:Int)]=(List.replicate ((((1:Int)*2^(Int.toNat n)) - 1).toNat) (0:Int)).map intD∧(cH Tryz.prog 158 [.one (.int .i64 n)] (.own 0) [(0,.arr 91 1 true ((dM n).map aC))]∧(bO ((((1:Int)*2^(Int.toNat n)) - 1) - 1)∧(0≤((((1:Int)*2^(Int.toNat n)) - 1) - 1)∧Lm intD (List.replicate ((((1:Int)*2^(Int.toNat n)) - 1).toNat) (0:Int))∧((((1:Int)*2^(Int.toNat n)) - 1) - 1)<(((List.replicate ((((1:Int)*2^(Int.toNat n)) - 1).toNat) (0:Int)).length:Nat):Int)∧((List.replicate ((((1:Int)*2^(Int.toNat n)) - 1).toNat) (0:Int)).map intD=(List.replicate ((((1:Int)*2^(Int.toNat n)) - 1).toNat) (0:Int)).map intD∧((((1:Int)*2^(Int.toNat n)) - 1) - 1).toNat<(List.replicate ((((1:Int)*2^(Int.toNat n)) - 1).toNat) (0:Int)).length∧ ∀s5_5,(List.replicate ((((1:Int)*2^(Int.toNat n)) - 1).toNat) (0:Int))[((((1:Int)*2^(Int.toNat n)) - 1) - 1).toNat]? =some s5_5→bW (intD s5_5)=true∧0+1≤(intD s5_5).length∧(intD s5_5).take 0++[.int .i64 (1:Int)]++(intD s5_5).drop (0+1)=intD (1:Int)∧(Lm aC (dM n)∧((((dM n).length:Nat):Int)=(((dM n).length:Nat):Int)∧(((dM n).length:Nat):Int)=(((dM n).length:Nat):Int)∧8*((dM n).length)≤281474976710656∧((dM n).length)≤9223372036854775807∧List.replicate ((dM n).length) [.int .i64 (0:Int)]=(List.replicate ((dM n).length) (0:Int)).map intD∧(Lm aE l∧((∃(k:Nat) (R:List (List Int)) (M:List Int),0=(k:Int)∧(dM n).map aC=R.map aC∧(List.replicate ((dM n).length) (0:Int)).map intD=M.map intD∧k≤l.length∧R=dM n++(l.take k).map (nP n)∧M=List.replicate (dM n).length 0++(l.take k).map (·.bits)∧(l.take k).all (okC n)=true)∧ ∀(k:Nat) (R:List (List Int)) (M:List Int),(k≤l.length∧R=dM n++(l.take k).map (nP n)∧M=List.replicate (dM n).length 0++(l.take k).map (·.bits)∧(l.take k).all (okC n)=true)→Br ((k:Int)<(l.length:Int)) (0≤(k:Int)∧Em aE l k fun e37=>jP e37.dst (1:Int) (((1:Int)*2^(Int.toNat n)) - 1)∧Nb (1≤e37.dst∧e37.dst≤(((1:Int)*2^(Int.toNat n)) - 1)) ((false)=((dR l n).2)∧[]=(dR l n).1.objective.map intD∧[]=(dR l n).1.rows.map aC∧[]=(dR l n).1.limits.map intD∧True) (Br (e37.src<0) ((false)=((dR l n).2)∧[]=(dR l n).1.objective.map intD∧[]=(dR l n).1.rows.map aC∧[]=(dR l n).1.limits.map intD∧True) (Nb ((cI .and .i64 e37.src e37.dst)=e37.src) ((false)=((dR l n).2)∧[]=(dR l n).1.objective.map intD∧[]=(dR l n).1.rows.map aC∧[]=(dR l n).1.limits.map intD∧True) (Br (e37.src=e37.dst) ((false)=((dR l n).2)∧[]=(dR l n).1.objective.map intD∧[]=(dR l n).1.rows.map aC∧[]=(dR l n).1.limits.map intD∧True) ((((1:Int)*2^(Int.toNat n)) - 1)=(((((1:Int)*2^(Int.toNat n)) - 1).toNat:Nat):Int)∧(((1:Int)*2^(Int.toNat n)) - 1)=(((((1:Int)*2^(Int.toNat n)) - 1).toNat:Nat):Int)∧8*((((1:Int)*2^(Int.toNat n)) - 1).toNat)≤281474976710656∧((((1:Int)*2^(Int.toNat n)) - 1).toNat)≤9223372036854775807∧List.replicate ((((1:Int)*2^(Int.toNat n)) - 1).toNat) [.int .i64 (0:Int)]=(List.replicate ((((1:Int)*2^(Int.toNat n)) - 1).toNat) (0:Int)).map intD∧(bO (e37.dst - 1)∧(0≤(e37.dst - 1)∧Lm intD (List.replicate ((((1:Int)*2^(Int.toNat n)) - 1).toNat) (0:Int))∧(e37.dst - 1)<(((List.replicate ((((1:Int)*2^(Int.toNat n)) - 1).toNat) (0:Int)).length:Nat):Int)∧((List.replicate ((((1:Int)*2^(Int.toNat n)) - 1).toNat) (0:Int)).map intD=(List.replicate ((((1:Int)*2^(Int.toNat n)) - 1).toNat) (0:Int)).map intD∧(e37.dst - 1).toNat<(List.replicate ((((1:Int)*2^(Int.toNat n)) - 1).toNat) (0:Int)).length∧ ∀s13_5,(List.replicate ((((1:Int)*2^(Int.toNat n)) - 1).toNat) (0:Int))[(e37.dst - 1).toNat]? =some s13_5→bW (intD s13_5)=true∧0+1≤(intD s13_5).length∧(intD s13_5).take 0++[.int .i64 (1:Int)]++(intD s13_5).drop (0+1)=intD (1:Int)∧Br (0<e37.src) (bO (e37.src - 1)∧(0≤(e37.src - 1)∧Lm intD ((List.replicate ((((1:Int)*2^(Int.toNat n)) - 1).toNat) (0:Int)).set ((e37.dst - 1).toNat) (1:Int))∧(e37.src - 1)<((((List.replicate ((((1:Int)*2^(Int.toNat n)) - 1).toNat) (0:Int)).set ((e37.dst - 1).toNat) (1:Int)).length:Nat):Int)∧(((List.replicate ((((1:Int)*2^(Int.toNat n)) - 1).toNat) (0:Int)).set ((e37.dst - 1).toNat) (1:Int)).map intD=((List.replicate ((((1:Int)*2^(Int.toNat n)) - 1).toNat) (0:Int)).set ((e37.dst - 1).toNat) (1:Int)).map intD∧(e37.src - 1).toNat<((List.replicate ((((1:Int)*2^(Int.toNat n)) - 1).toNat) (0:Int)).set ((e37.dst - 1).toNat) (1:Int)).length∧ ∀s15_5,((List.replicate ((((1:Int)*2^(Int.toNat n)) - 1).toNat) (0:Int)).set ((e37.dst - 1).toNat) (1:Int))[(e37.src - 1).toNat]? =some s15_5→bW (intD s15_5)=true∧0+1≤(intD s15_5).length∧(intD s15_5).take 0++[.int .i64 (-1:Int)]++(intD s15_5).drop (0+1)=intD (-1:Int)∧R.map aC=R.map aC∧(((List.replicate ((((1:Int)*2^(Int.toNat n)) - 1).toNat) (0:Int)).set ((e37.dst - 1).toNat) (1:Int)).set ((e37.src - 1).toNat) (-1:Int)).map intD=(((List.replicate ((((1:Int)*2^(Int.toNat n)) - 1).toNat) (0:Int)).set ((e37.dst - 1).toNat) (1:Int)).set ((e37.src - 1).toNat) (-1:Int)).map intD∧(R.length+1)*24≤140737488355328∧M.map intD=M.map intD∧[[.int .i64 e37.bits]]=([e37.bits]:List Int).map intD∧(∀x,bW (intD x)=true)∧(M.length+([e37.bits]:List Int).length)*8≤140737488355328∧bO ((k:Int)+1)∧ ∃(k' :Nat) (R' :List (List Int)) (M' :List Int),((k:Int)+1)=(k' :Int)∧(R++[((List.replicate ((((1:Int)*2^(Int.toNat n)) - 1).toNat) (0:Int)).set ((e37.dst - 1).toNat) (1:Int)).set ((e37.src - 1).toNat) (-1:Int)]).map aC=R'.map aC∧(M++[e37.bits]).map intD=M'.map intD∧(k' ≤l.length∧R' =dM n++(l.take k').map (nP n)∧M' =List.replicate (dM n).length 0++(l.take k').map (·.bits)∧(l.take k').all (okC n)=true)∧l.length - k' <l.length - k))) (R.map aC=R.map aC∧((List.replicate ((((1:Int)*2^(Int.toNat n)) - 1).toNat) (0:Int)).set ((e37.dst - 1).toNat) (1:Int)).map intD=((List.replicate ((((1:Int)*2^(Int.toNat n)) - 1).toNat) (0:Int)).set ((e37.dst - 1).toNat) (1:Int)).map intD∧(R.length+1)*24≤140737488355328∧M.map intD=M.map intD∧[[.int .i64 e37.bits]]=([e37.bits]:List Int).map intD∧(∀x,bW (intD x)=true)∧(M.length+([e37.bits]:List Int).length)*8≤140737488355328∧bO ((k:Int)+1)∧ ∃(k' :Nat) (R' :List (List Int)) (M' :List Int),((k:Int)+1)=(k' :Int)∧(R++[(List.replicate ((((1:Int)*2^(Int.toNat n)) - 1).toNat) (0:Int)).set ((e37.dst - 1).toNat) (1:Int)]).map aC=R'.map aC∧(M++[e37.bits]).map intD=M'.map intD∧(k' ≤l.length∧R' =dM n++(l.take k').map (nP n)∧M' =List.replicate (dM n).length 0++(l.take k').map (·.bits)∧(l.take k').all (okC n)=true)∧l.length - k' <l.length - k))))))))) (zM (⟨(List.replicate ((((1:Int)*2^(Int.toNat n)) - 1).toNat) (0:Int)).set (((((1:Int)*2^(Int.toNat n)) - 1) - 1).toNat) (1:Int),R,M⟩:bZ)∧Nr (cV (⟨(List.replicate ((((1:Int)*2^(Int.toNat n)) - 1).toNat) (0:Int)).set (((((1:Int)*2^(Int.toNat n)) - 1) - 1).toNat) (1:Int),R,M⟩:bZ)) ((false)=((dR l n).2)∧[]=(dR l n).1.objective.map intD∧[]=(dR l n).1.rows.map aC∧[]=(dR l n).1.limits.map intD∧True) ((true)=((dR l n).2)∧((List.replicate ((((1:Int)*2^(Int.toNat n)) - 1).toNat) (0:Int)).set (((((1:Int)*2^(Int.toNat n)) - 1) - 1).toNat) (1:Int)).map intD=(dR l n).1.objective.map intD∧R.map aC=(dR l n).1.rows.map aC∧M.map intD=(dR l n).1.limits.map intD∧True))))))))))))))) (by kernel_rfl) ?_
 intro n0
 simp only[List.length_map] at n0
 refine⟨nO _ _ _,dn (fun c0=>?_) fun c0=>?_⟩
 ·refine⟨?_,?_,?_,?_,trivial⟩<;>((rw[aUX (by omega)]<;>rfl))
 ·obtain⟨b1,b2,b3⟩:=aA8 (n:=n) (by omega)
  have hal:dJ n=1*2^n.toNat - 1:=rfl
  have hel:=aKM n
  refine⟨⟨by omega,by omega⟩,by exact fM (by omega),by exact⟨by omega,by omega⟩,by omega,by omega,by omega,by omega,by (rw[List.map_replicate];done),by rw[←aLR];exact aRd _,by exact⟨by omega,by omega⟩,by omega,List.length_map _,by (simp;omega),rfl,by (simp;omega),fun s5_5 hs5_5=>⟨rfl,Nat.le_of_ble_eq_true rfl,rfl,?_⟩⟩
  refine⟨List.length_map _,rfl,rfl,by omega,by omega,by (rw[List.map_replicate];done),List.length_map _,⟨0,dM n,List.replicate ((dM n).length) (0:Int),rfl,rfl,rfl,Nat.zero_le _,by simp,by simp,rfl⟩,fun k R M ⟨hk,hR,hM,ha⟩=>?_⟩
  refine dd (fun c1=>?_) fun c1=>?_
  ·refine⟨by omega,rfl,by omega,fun e37 h37=>?_⟩
   have hk2:=h37
   have hfc:=hf _ (List.mem_of_getElem? h37)
   have hfs:e37.src≤9223372036854775807:=hfc.1.2
   have hfd:e37.dst≤9223372036854775807:=hfc.2.1.2
   refine⟨nO _ _ _,dn (fun g44=>?_) fun g44=>?_⟩
   ·have hbad:okC n e37=false:=vU (by rintro⟨q1,q2,q3,q4⟩;omega)
    refine⟨?_,?_,?_,?_,trivial⟩<;>((rw[vV hk2 hbad]<;>rfl))
   ·refine dd (fun g49=>?_) fun g49=>?_
    ·have hbad:okC n e37=false:=vU (by rintro⟨q1,q2,q3,q4⟩;omega)
     refine⟨?_,?_,?_,?_,trivial⟩<;>((rw[vV hk2 hbad]<;>rfl))
    ·refine dn (fun g59=>?_) fun g59=>?_
     ·have hbad:okC n e37=false:=vU (by rintro⟨q1,q2,q3,q4⟩;omega)
      refine⟨?_,?_,?_,?_,trivial⟩<;>((rw[vV hk2 hbad]<;>rfl))
     ·refine dd (fun c2=>?_) fun c2=>?_
      ·have hbad:okC n e37=false:=vU (by rintro⟨q1,q2,q3,q4⟩;omega)
       refine⟨?_,?_,?_,?_,trivial⟩<;>((rw[vV hk2 hbad]<;>rfl))
      ·have hle:=aB9 (a:=e37.src) (c:=e37.dst) (by omega) (by omega) (by omega) (by omega)
       refine⟨by omega,by omega,by omega,by omega,by (rw[List.map_replicate];done),by exact⟨by omega,by omega⟩,by omega,List.length_map _,by (simp;omega),rfl,by (simp;omega),fun s13_5 hs13_5=>⟨rfl,Nat.le_of_ble_eq_true rfl,rfl,?_⟩⟩
       refine dd (fun c3=>?_) fun c3=>?_
       ·refine⟨by exact⟨by omega,by omega⟩,by omega,List.length_map _,by (simp;omega),rfl,by (simp;omega),fun s15_5 hs15_5=>⟨rfl,Nat.le_of_ble_eq_true rfl,rfl,?_⟩⟩
        refine⟨rfl,rfl,by (simp[hR,hM];omega),rfl,rfl,fun _=>rfl,by (simp[hR,hM];omega),?_⟩
        refine⟨by exact⟨by omega,by omega⟩,?_⟩
        exact⟨k+1,_,_,rfl,rfl,rfl,⟨by omega,by (rw[hR,bU hk2,List.map_append,List.append_assoc,List.map_cons,List.map_nil,aOp (by omega) c3];done),by rw[hM,bU hk2,List.map_append,List.append_assoc];rfl,cL hk2 ha (aOn ⟨by omega,by omega,by omega,by omega⟩)⟩,by omega⟩
       ·refine⟨rfl,rfl,by (simp[hR,hM];omega),rfl,rfl,fun _=>rfl,by (simp[hR,hM];omega),?_⟩
        refine⟨by exact⟨by omega,by omega⟩,?_⟩
        exact⟨k+1,_,_,rfl,rfl,rfl,⟨by omega,by (rw[hR,bU hk2,List.map_append,List.append_assoc,List.map_cons,List.map_nil,aOq (by omega) c3];done),by rw[hM,bU hk2,List.map_append,List.append_assoc];rfl,cL hk2 ha (aOn ⟨by omega,by omega,by omega,by omega⟩)⟩,by omega⟩
  ·have hkl:k=l.length:=by omega
   subst hkl
   rw[List.take_length] at hR hM ha
   have hrs: ∀r∈R,r.length≤1048576:=by rw[hR];exact aUZ (by omega)
   refine⟨aKK (⟨(List.replicate ((((1:Int)*2^(Int.toNat n)) - 1).toNat) (0:Int)).set (((((1:Int)*2^(Int.toNat n)) - 1) - 1).toNat) (1:Int),R,M⟩:bZ) (by assumption),dm (fun c4=>?_) fun c4=>?_⟩
   ·have hfin:dR l n=(nI,false):=aOo (by rw[←c4,wW,aLU (by omega),hR,hM])
    refine⟨?_,?_,?_,?_,trivial⟩<;>((rw[hfin]<;>rfl))
   ·have hfin:dR l n=(wW n l,true):=aNN (by omega) ha (by rw[←c4,wW,aLU (by omega),hR,hM])
    refine⟨?_,?_,?_,?_,trivial⟩<;>(first|(rw[hfin]<;>rfl)|(rw[hfin,wW,hR]<;>rfl)|(rw[hfin,wW,hM]<;>rfl)|(rw[hfin,wW,aLU (by omega)]<;>rfl))
abbrev aBg (l:List aH)(n:Int):AV × List (Nat × Rs):=(.tup [.agg [.own 0,.own 1,.own 2],vB ((dR l n).2)],[(0,.arr 3 1 true ((dR l n).1.objective.map intD)),(1,.arr 91 1 true ((dR l n).1.rows.map aC)),(2,.arr 3 1 true ((dR l n).1.limits.map intD))])
abbrev aHf (l:List aH)(n:Int):Prop:=cH Tryz.prog 92 [.one (.sl 192 3 (l.map aE)),.one (.int .i64 n)] (aBg l n).1 (aBg l n).2
theorem aU8 (l:List aH)(n:Int)(hl:l.length≤1048576)(hf:oG l):aHf l n:=by
 refine aW bH aO Tryz.func92 (by kernel_rfl) (.call (vB (decide (1≤n∧n≤4))) []<| .br (.fin []) (bL (mX n ([((1:Int)*2^(Int.toNat n)) - 1]:List Int) ([]:List Int))<| bL (zL n)<| .len ((dM n).length)<| .mk ((dM n).length) [.int .i64 (0:Int)] ((List.replicate ((dM n).length) (0:Int)).map intD)<| .loop (Nat × (List (List Int)) × (List Int)) (Q3 Nat (List (List Int)) (List Int)) ([8,22,23,25,27]++rg 29 60++rg 90 29) [700,2200,2700,9800,10400,10500,10600,10700,11600,11700] (fun yy0=>[(8,vI (yy0.1:Int))]) (fun yy0=>[(700,some (.box 94 [.own 2000,.own 2200,.own 2700])),(2200,some (.arr 91 1 true (yy0.2.1.map aC))),(2700,some (.arr 3 1 true (yy0.2.2.map intD)))]) (fun yy0=>yy0.1≤l.length∧yy0.2.1=dM n++(l.take yy0.1).map (nP n)∧yy0.2.2=List.replicate (dM n).length 0++(l.take yy0.1).map (·.bits)∧(l.take yy0.1).all (okC n)=true) (fun yy0=>l.length - yy0.1) (fun yy0=> .len l.length<| .br (.elem _ aE l (fun e37=> .call (vB (decide (1≤e37.dst∧e37.dst≤(((1:Int)*2^(Int.toNat n)) - 1)))) []<| .br (.fin []) (.elem _ aE l (fun e46=> .call (vB (decide (0≤e46.src∧e46.src≤(((1:Int)*2^(Int.toNat n)) - 1)))) []<| .lit<| .lit<| .br (.fin []) (.elem _ aE l (fun e56=> .elem _ aE l (fun e61=> .elem _ aE l (fun e67=> .lit<| .lit<| .lit<| .lit<| .br (.fin []) (.elem _ aE l (fun e75=> .elem _ aE l (fun e80=> .lit<| .lit<| .lit<| .lit<| .br (.fin []) (.lit<| .lit<| .br (.fin []) (.elem _ aE l (fun e95=> .elem _ aE l (fun e101=>bL (mX n ([e95.dst]:List Int) ([e101.src]:List Int))<| .appx (List Int) aC yy0.2.1 (eN (dJ n) ([e95.dst]:List Int) ([e101.src]:List Int))<| .elem _ aE l (fun e113=> .app Int intD yy0.2.2 ([e113.bits]:List Int)<| .back [(700,700),(2200,10700),(2700,11700)])))))))))))))))) (.call (vB (cV (⟨eN (dJ n) ([((1:Int)*2^(Int.toNat n)) - 1]:List Int) ([]:List Int),yy0.2.1,yy0.2.2⟩:bZ))) []<| .br (.fin []) (.fin [(0,2000),(1,2200),(2,2700)]))))) (p:=(l.map aE).length≤9223372036854775807→fC n (1:Int) (4:Int)∧Nb (1≤n∧n≤4) ((false)=((dR l n).2)∧[]=(dR l n).1.objective.map intD∧[]=(dR l n).1.rows.map aC∧[]=(dR l n).1.limits.map intD∧True) ((0≤n∧n≤64)∧(bO ((1:Int)*2^(Int.toNat n))∧(bO (((1:Int)*2^(Int.toNat n)) - 1)∧(pV n ([((1:Int)*2^(Int.toNat n)) - 1]:List Int) ([]:List Int)∧(aEb n∧(Lm aC (dM n)∧((((dM n).length:Nat):Int)=(((dM n).length:Nat):Int)∧(((dM n).length:Nat):Int)=(((dM n).length:Nat):Int)∧8*((dM n).length)≤281474976710656∧((dM n).length)≤9223372036854775807∧List.replicate ((dM n).length) [.int .i64 (0:Int)]=(List.replicate ((dM n).length) (0:Int)).map intD∧((∃(k:Nat) (R:List (List Int)) (M:List Int),0=(k:Int)∧(dM n).map aC=R.map aC∧(List.replicate ((dM n).length) (0:Int)).map intD=M.map intD∧k≤l.length∧R=dM n++(l.take k).map (nP n)∧M=List.replicate (dM n).length 0++(l.take k).map (·.bits)∧(l.take k).all (okC n)=true)∧ ∀(k:Nat) (R:List (List Int)) (M:List Int),(k≤l.length∧R=dM n++(l.take k).map (nP n)∧M=List.replicate (dM n).length 0++(l.take k).map (·.bits)∧(l.take k).all (okC n)=true)→Lm aE l∧Br ((k:Int)<(l.length:Int)) (0≤(k:Int)∧Em aE l k fun e37=>fC e37.dst (1:Int) (((1:Int)*2^(Int.toNat n)) - 1)∧Nb (1≤e37.dst∧e37.dst≤(((1:Int)*2^(Int.toNat n)) - 1)) ((false)=((dR l n).2)∧[]=(dR l n).1.objective.map intD∧[]=(dR l n).1.rows.map aC∧[]=(dR l n).1.limits.map intD∧True) (0≤(k:Int)∧Em aE l k fun e46=>fC e46.src (0:Int) (((1:Int)*2^(Int.toNat n)) - 1)∧Nb (0≤e46.src∧e46.src≤(((1:Int)*2^(Int.toNat n)) - 1)) ((false)=((dR l n).2)∧[]=(dR l n).1.objective.map intD∧[]=(dR l n).1.rows.map aC∧[]=(dR l n).1.limits.map intD∧True) (0≤(k:Int)∧Em aE l k fun e56=>0≤(k:Int)∧Em aE l k fun e61=>0≤(k:Int)∧Em aE l k fun e67=>Nb ((cI .and .i64 e56.src e61.dst)=e67.src) ((false)=((dR l n).2)∧[]=(dR l n).1.objective.map intD∧[]=(dR l n).1.rows.map aC∧[]=(dR l n).1.limits.map intD∧True) (0≤(k:Int)∧Em aE l k fun e75=>0≤(k:Int)∧Em aE l k fun e80=>Br (e75.src=e80.dst) ((false)=((dR l n).2)∧[]=(dR l n).1.objective.map intD∧[]=(dR l n).1.rows.map aC∧[]=(dR l n).1.limits.map intD∧True) (Br (64≤(k:Int)) ((false)=((dR l n).2)∧[]=(dR l n).1.objective.map intD∧[]=(dR l n).1.rows.map aC∧[]=(dR l n).1.limits.map intD∧True) (0≤(k:Int)∧Em aE l k fun e95=>0≤(k:Int)∧Em aE l k fun e101=>pV n ([e95.dst]:List Int) ([e101.src]:List Int)∧R.map aC=R.map aC∧(eN (dJ n) ([e95.dst]:List Int) ([e101.src]:List Int)).map intD=(eN (dJ n) ([e95.dst]:List Int) ([e101.src]:List Int)).map intD∧(R.length+1)*24≤140737488355328∧0≤(k:Int)∧Em aE l k fun e113=>M.map intD=M.map intD∧[[.int .i64 e113.bits]]=([e113.bits]:List Int).map intD∧(∀x,bW (intD x)=true)∧(M.length+([e113.bits]:List Int).length)*8≤140737488355328∧bO ((k:Int)+1)∧ ∃(k' :Nat) (R' :List (List Int)) (M' :List Int),((k:Int)+1)=(k' :Int)∧(R++[eN (dJ n) ([e95.dst]:List Int) ([e101.src]:List Int)]).map aC=R'.map aC∧(M++[e113.bits]).map intD=M'.map intD∧(k' ≤l.length∧R' =dM n++(l.take k').map (nP n)∧M' =List.replicate (dM n).length 0++(l.take k').map (·.bits)∧(l.take k').all (okC n)=true)∧l.length - k' <l.length - k)))))) (zN (⟨eN (dJ n) ([((1:Int)*2^(Int.toNat n)) - 1]:List Int) ([]:List Int),R,M⟩:bZ)∧Nr (cV (⟨eN (dJ n) ([((1:Int)*2^(Int.toNat n)) - 1]:List Int) ([]:List Int),R,M⟩:bZ)) ((false)=((dR l n).2)∧[]=(dR l n).1.objective.map intD∧[]=(dR l n).1.rows.map aC∧[]=(dR l n).1.limits.map intD∧True) ((true)=((dR l n).2)∧(eN (dJ n) ([((1:Int)*2^(Int.toNat n)) - 1]:List Int) ([]:List Int)).map intD=(dR l n).1.objective.map intD∧R.map aC=(dR l n).1.rows.map aC∧M.map intD=(dR l n).1.limits.map intD∧True))))))))))) (by kernel_rfl) ?_
 intro n0
 simp only[List.length_map] at n0
 refine⟨iU _ _ _,dn (fun c0=>?_) fun c0=>?_⟩
 ·refine⟨?_,?_,?_,?_,trivial⟩<;>((rw[aUX (by omega)]<;>rfl))
 ·obtain⟨b1,b2,b3⟩:=aA8 (n:=n) (by omega)
  have hal:dJ n=1*2^n.toNat - 1:=rfl
  have hel:=aKM n
  refine⟨⟨by omega,by omega⟩,by exact fM (by omega),by exact⟨by omega,by omega⟩,aA9 _ ([((1:Int)*2^(Int.toNat n)) - 1]:List Int) ([]:List Int) (by omega) (by exact aOl (by omega)) (by exact aYx) (by simp) (by simp),aRc _,List.length_map _,rfl,rfl,by omega,by omega,by (rw[List.map_replicate];done),⟨0,dM n,List.replicate ((dM n).length) (0:Int),rfl,rfl,rfl,Nat.zero_le _,by simp,by simp,rfl⟩,fun k R M ⟨hk,hR,hM,ha⟩=>?_⟩
  refine⟨List.length_map _,dd (fun c1=>?_) fun c1=>?_⟩
  ·refine⟨by omega,rfl,by omega,fun e37 h37=>?_⟩
   have hk2:=h37
   have hfc:=hf _ (List.mem_of_getElem? h37)
   have hfs:e37.src≤9223372036854775807:=hfc.1.2
   have hfd:e37.dst≤9223372036854775807:=hfc.2.1.2
   refine⟨iU _ _ _,dn (fun g43=>?_) fun g43=>?_⟩
   ·have hbad:okC n e37=false∨64≤k:=by by_cases hq:64≤k;(exact .inr hq);(refine .inl (vU ?_);rintro⟨q1,q2,q3,q4⟩;have:=aB9 (a:=e37.src) (c:=e37.dst) q2 (by omega) (by omega) (by omega);omega)
    refine⟨?_,?_,?_,?_,trivial⟩<;>((rcases hbad with hbad | hbad;(rw[vV hk2 hbad]<;>rfl);(rw[tZ (by have:=(List.getElem?_eq_some_iff.1 hk2).1;omega)]<;>rfl)))
   ·refine⟨by omega,rfl,by omega,fun e46 h46=>?_⟩
    obtain rfl:=(aZ hk2 h46).symm
    refine⟨iU _ _ _,dn (fun g53=>?_) fun g53=>?_⟩
    ·have hbad:okC n e37=false∨64≤k:=by by_cases hq:64≤k;(exact .inr hq);(refine .inl (vU ?_);rintro⟨q1,q2,q3,q4⟩;have:=aB9 (a:=e37.src) (c:=e37.dst) q2 (by omega) (by omega) (by omega);omega)
     refine⟨?_,?_,?_,?_,trivial⟩<;>((rcases hbad with hbad | hbad;(rw[vV hk2 hbad]<;>rfl);(rw[tZ (by have:=(List.getElem?_eq_some_iff.1 hk2).1;omega)]<;>rfl)))
    ·refine⟨by omega,rfl,by omega,fun e56 h56=>?_⟩
     obtain rfl:=(aZ hk2 h56).symm
     refine⟨by omega,rfl,by omega,fun e61 h61=>?_⟩
     obtain rfl:=(aZ hk2 h61).symm
     refine⟨by omega,rfl,by omega,fun e67 h67=>?_⟩
     obtain rfl:=(aZ hk2 h67).symm
     refine dn (fun g72=>?_) fun g72=>?_
     ·have hbad:okC n e37=false∨64≤k:=by by_cases hq:64≤k;(exact .inr hq);(refine .inl (vU ?_);rintro⟨q1,q2,q3,q4⟩;have:=aB9 (a:=e37.src) (c:=e37.dst) q2 (by omega) (by omega) (by omega);omega)
      refine⟨?_,?_,?_,?_,trivial⟩<;>((rcases hbad with hbad | hbad;(rw[vV hk2 hbad]<;>rfl);(rw[tZ (by have:=(List.getElem?_eq_some_iff.1 hk2).1;omega)]<;>rfl)))
     ·refine⟨by omega,rfl,by omega,fun e75 h75=>?_⟩
      obtain rfl:=(aZ hk2 h75).symm
      refine⟨by omega,rfl,by omega,fun e80 h80=>?_⟩
      obtain rfl:=(aZ hk2 h80).symm
      refine dd (fun g85=>?_) fun g85=>?_
      ·have hbad:okC n e37=false∨64≤k:=by by_cases hq:64≤k;(exact .inr hq);(refine .inl (vU ?_);rintro⟨q1,q2,q3,q4⟩;have:=aB9 (a:=e37.src) (c:=e37.dst) q2 (by omega) (by omega) (by omega);omega)
       refine⟨?_,?_,?_,?_,trivial⟩<;>((rcases hbad with hbad | hbad;(rw[vV hk2 hbad]<;>rfl);(rw[tZ (by have:=(List.getElem?_eq_some_iff.1 hk2).1;omega)]<;>rfl)))
      ·refine dd (fun c2=>?_) fun c2=>?_
       ·have hbad:okC n e37=false∨64≤k:=by by_cases hq:64≤k;(exact .inr hq);(refine .inl (vU ?_);rintro⟨q1,q2,q3,q4⟩;have:=aB9 (a:=e37.src) (c:=e37.dst) q2 (by omega) (by omega) (by omega);omega)
        refine⟨?_,?_,?_,?_,trivial⟩<;>((rcases hbad with hbad | hbad;(rw[vV hk2 hbad]<;>rfl);(rw[tZ (by have:=(List.getElem?_eq_some_iff.1 hk2).1;omega)]<;>rfl)))
       ·have hle:=aB9 (a:=e37.src) (c:=e37.dst) (by omega) (by omega) (by omega) (by omega)
        refine⟨by omega,rfl,by omega,fun e95 h95=>?_⟩
        have q95:=aZ hk2 h95
        have r95:e95.src=e37.src∧e95.dst=e37.dst∧e95.bits=e37.bits:=by rw[q95];exact⟨rfl,rfl,rfl⟩
        refine⟨by omega,rfl,by omega,fun e101 h101=>?_⟩
        have q101:=aZ hk2 h101
        have r101:e101.src=e37.src∧e101.dst=e37.dst∧e101.bits=e37.bits:=by rw[q101];exact⟨rfl,rfl,rfl⟩
        refine⟨aA9 _ ([e95.dst]:List Int) ([e101.src]:List Int) (by omega) (by exact aOl (by omega)) (by exact aOl (by omega)) (by simp) (by simp),rfl,rfl,by (simp[hR,hM];omega),by omega,rfl,by omega,fun e113 h113=>?_⟩
        have q113:=aZ hk2 h113
        have r113:e113.src=e37.src∧e113.dst=e37.dst∧e113.bits=e37.bits:=by rw[q113];exact⟨rfl,rfl,rfl⟩
        refine⟨rfl,rfl,fun _=>rfl,by (simp[hR,hM];omega),?_⟩
        refine⟨by exact⟨by omega,by omega⟩,?_⟩
        exact⟨k+1,_,_,rfl,rfl,rfl,⟨by omega,by rw[hR,bU hk2,List.map_append,List.append_assoc,r95.2.1,r101.1];rfl,by rw[hM,bU hk2,List.map_append,List.append_assoc,r113.2.2];rfl,cL hk2 ha (aOn ⟨by omega,by omega,by omega,by omega⟩)⟩,by omega⟩
  ·have hkl:k=l.length:=by omega
   subst hkl
   rw[List.take_length] at hR hM ha
   refine⟨aKL (⟨eN (dJ n) ([((1:Int)*2^(Int.toNat n)) - 1]:List Int) ([]:List Int),R,M⟩:bZ),dm (fun c3=>?_) fun c3=>?_⟩
   ·have hfin:dR l n=(nI,false):=aOo (by rw[←c3,wW,hR,hM])
    refine⟨?_,?_,?_,?_,trivial⟩<;>((rw[hfin]<;>rfl))
   ·have hfin:dR l n=(wW n l,true):=aNN (by omega) ha (by rw[←c3,wW,hR,hM])
    refine⟨?_,?_,?_,?_,trivial⟩<;>(first|(rw[hfin]<;>rfl)|(rw[hfin,wW,hR]<;>rfl)|(rw[hfin,wW,hM]<;>rfl))
theorem aWW (s:StoreD)(q:QueryD)(m:Int): ∀r∈(gA s q m).1.rows,r.length≤1048576:=by
 intro r hr
 have h1:=aOu s q m
 have e1:xZ (gA s q m).1=cG (gA s q m).1.objective+cT (gA s q m).1.rows+cG (gA s q m).1.limits:=rfl
 obtain⟨k,hk⟩:=List.getElem?_of_mem hr
 have h2:=aAW hk
 have e:cG r=r.length:=rfl
 omega
abbrev zP (s:StoreD)(q:QueryD)(m:Int):AV × List (Nat × Rs):=(.tup [.agg [.own 0,.own 1,.own 2],.own 3,vB ((gA s q m).2)],[(0,.arr 3 1 true ((gA s q m).1.objective.map intD)),(1,.arr 91 1 true ((gA s q m).1.rows.map aC)),(2,.arr 3 1 true ((gA s q m).1.limits.map intD)),(3,.arr 192 3 true ((dX s q m).map aE))])
abbrev aEh (s:StoreD)(q:QueryD)(m:Int):Prop:=cH Tryz.prog 47 [.agg [.sl 142 3 (s.database.tables.map aT),.int .i64 s.catalogue.version,.sl 88 4 (s.catalogue.tables.map aG),.sl 121 3 (s.dependencies.map aP),.sl 123 4 (s.inclusions.map aS)],.agg [.int .i64 q.variableCount,.sl 125 2 (q.atoms.map bM)],.one (.int .i64 m)] (zP s q m).1 (zP s q m).2
theorem aRe (s:StoreD)(q:QueryD)(m:Int)(hc:dT s≤1048576)(hcq:hY q≤1048576):aEh s q m:=by
 refine aW bH aO Tryz.func47 (by kernel_rfl) (bL (vP s q m)<| .len ((dX s q m).length)<| .br (.fin []) (bL (zB q m)<| bL (aB6 (dX s q m) (eE q m))<| .len ((eE q m).length)<| bL (aBf ((dX s q m).map (lY (eE q m))) (((eE q m).length:Nat):Int))<| .fin [(0,3000),(1,3001),(2,3002),(3,1600)])) (p:=(s.database.tables.map aT).length≤9223372036854775807→(s.catalogue.tables.map aG).length≤9223372036854775807→(s.dependencies.map aP).length≤9223372036854775807→(s.inclusions.map aS).length≤9223372036854775807→(q.atoms.map bM).length≤9223372036854775807→aCs s q m∧Lm aE (dX s q m)∧Br ((((dX s q m).length:Nat):Int)=0) ((false)=((gA s q m).2)∧[]=(gA s q m).1.objective.map intD∧[]=(gA s q m).1.rows.map aC∧[]=(gA s q m).1.limits.map intD∧[]=(dX s q m).map aE∧True) (aE6 q m∧aHZ (dX s q m) (eE q m)∧Lm intD (eE q m)∧aHe ((dX s q m).map (lY (eE q m))) (((eE q m).length:Nat):Int)∧((dR ((dX s q m).map (lY (eE q m))) (((eE q m).length:Nat):Int)).2)=((gA s q m).2)∧(((dR ((dX s q m).map (lY (eE q m))) (((eE q m).length:Nat):Int)).1).objective).map intD=(gA s q m).1.objective.map intD∧(((dR ((dX s q m).map (lY (eE q m))) (((eE q m).length:Nat):Int)).1).rows).map aC=(gA s q m).1.rows.map aC∧(((dR ((dX s q m).map (lY (eE q m))) (((eE q m).length:Nat):Int)).1).limits).map intD=(gA s q m).1.limits.map intD∧(dX s q m).map aE=(dX s q m).map aE∧True)) (by kernel_rfl) ?_
 intro n0 n1 n2 n3 n4
 simp only[List.length_map] at n0 n1 n2 n3 n4
 have hS:dT s=bR s.database+bX s.catalogue+cC s.dependencies+cU s.inclusions:=rfl
 have hI:=eC s.inclusions
 have hQ:hY q=jV q.atoms:=rfl
 have hql:=aKD s q m
 have hff:=aNR (s:=s) (q:=q) (m:=m) (eE q m)
 have hq28:((dX s q m).map (lY (eE q m))).length≤28:=by rw[List.length_map];exact hql
 refine⟨aOi s q m (by omega) (by omega),List.length_map _,dd (fun c0=>?_) fun c0=>?_⟩
 ·refine⟨?_,?_,?_,?_,?_,trivial⟩<;>(first|(rw[aPy (by omega)]<;>rfl)|(rw[List.eq_nil_of_length_eq_zero (show (dX s q m).length=0 by omega)];rfl))
 ·refine⟨aR4 _ m,aUR _ _ (by omega),List.length_map _,aU7 ((dX s q m).map (lY (eE q m))) (((eE q m).length:Nat):Int) (by omega) (by assumption),?_,?_,?_,?_,rfl,trivial⟩<;>((rw[aNS (by omega)]<;>rfl))
abbrev zQ (s:StoreD)(q:QueryD)(m:Int):AV × List (Nat × Rs):=(.tup [.agg [.own 0,.own 1,.own 2],vB ((gA s q m).2)],[(0,.arr 3 1 true ((gA s q m).1.objective.map intD)),(1,.arr 91 1 true ((gA s q m).1.rows.map aC)),(2,.arr 3 1 true ((gA s q m).1.limits.map intD))])
abbrev aEi (s:StoreD)(q:QueryD)(m:Int):Prop:=cH Tryz.prog 45 [.agg [.sl 142 3 (s.database.tables.map aT),.int .i64 s.catalogue.version,.sl 88 4 (s.catalogue.tables.map aG),.sl 121 3 (s.dependencies.map aP),.sl 123 4 (s.inclusions.map aS)],.agg [.int .i64 q.variableCount,.sl 125 2 (q.atoms.map bM)],.one (.int .i64 m)] (zQ s q m).1 (zQ s q m).2
theorem aRf (s:StoreD)(q:QueryD)(m:Int)(hc:dT s≤1048576)(hcq:hY q≤1048576):aEi s q m:=by
 refine aW bH aO Tryz.func45 (by kernel_rfl) (bL (vQ s q m)<| .len ((dX s q m).length)<| .br (.fin []) (bL (zC q m)<| bL (aB7 (dX s q m) (eE q m))<| .len ((eE q m).length)<| bL (aBg ((dX s q m).map (lY (eE q m))) (((eE q m).length:Nat):Int))<| .fin [(0,2900),(1,2901),(2,2902)])) (p:=(s.database.tables.map aT).length≤9223372036854775807→(s.catalogue.tables.map aG).length≤9223372036854775807→(s.dependencies.map aP).length≤9223372036854775807→(s.inclusions.map aS).length≤9223372036854775807→(q.atoms.map bM).length≤9223372036854775807→aCt s q m∧Lm aE (dX s q m)∧Br ((((dX s q m).length:Nat):Int)=0) ((false)=((gA s q m).2)∧[]=(gA s q m).1.objective.map intD∧[]=(gA s q m).1.rows.map aC∧[]=(gA s q m).1.limits.map intD∧True) (aE7 q m∧aH0 (dX s q m) (eE q m)∧Lm intD (eE q m)∧aHf ((dX s q m).map (lY (eE q m))) (((eE q m).length:Nat):Int)∧((dR ((dX s q m).map (lY (eE q m))) (((eE q m).length:Nat):Int)).2)=((gA s q m).2)∧(((dR ((dX s q m).map (lY (eE q m))) (((eE q m).length:Nat):Int)).1).objective).map intD=(gA s q m).1.objective.map intD∧(((dR ((dX s q m).map (lY (eE q m))) (((eE q m).length:Nat):Int)).1).rows).map aC=(gA s q m).1.rows.map aC∧(((dR ((dX s q m).map (lY (eE q m))) (((eE q m).length:Nat):Int)).1).limits).map intD=(gA s q m).1.limits.map intD∧True)) (by kernel_rfl) ?_
 intro n0 n1 n2 n3 n4
 simp only[List.length_map] at n0 n1 n2 n3 n4
 have hS:dT s=bR s.database+bX s.catalogue+cC s.dependencies+cU s.inclusions:=rfl
 have hI:=eC s.inclusions
 have hQ:hY q=jV q.atoms:=rfl
 have hql:=aKD s q m
 have hff:=aNR (s:=s) (q:=q) (m:=m) (eE q m)
 have hq28:((dX s q m).map (lY (eE q m))).length≤28:=by rw[List.length_map];exact hql
 refine⟨aOj s q m (by omega) (by omega),List.length_map _,dd (fun c0=>?_) fun c0=>?_⟩
 ·refine⟨?_,?_,?_,?_,trivial⟩<;>((rw[aPy (by omega)]<;>rfl))
 ·refine⟨aR5 _ m,aUS _ _ (by omega),List.length_map _,aU8 ((dX s q m).map (lY (eE q m))) (((eE q m).length:Nat):Int) (by omega) (by assumption),?_,?_,?_,?_,trivial⟩<;>((rw[aNS (by omega)]<;>rfl))
abbrev aAb (n:Int):Prop:=cH Tryz.prog 161 [.one (.int .i64 n)] (.agg [vI ((aN n).num),vI ((aN n).den)]) []
theorem aLZ (n:Int):aAb n:=by
 refine aW bH aO Tryz.func161 (by kernel_rfl) (.fin []) (p:=n=((aN n).num)∧1=((aN n).den)∧True) (by kernel_rfl) ?_
 refine⟨?_,?_,trivial⟩<;>(rfl)
abbrev jZ (n:Int):Prop:=cH Tryz.prog 96 [.one (.int .i64 n)] (.agg [vI ((aN n).num),vI ((aN n).den)]) []
theorem pB (n:Int):jZ n:=by
 refine aW bH aO Tryz.func96 (by kernel_rfl) (.fin []) (p:=n=((aN n).num)∧1=((aN n).den)∧True) (by kernel_rfl) ?_
 refine⟨?_,?_,trivial⟩<;>(rfl)
def dY (r:aB):aB:=⟨-r.num,r.den⟩
def aFE:aB:=⟨1,1⟩
def aIj:aB:=⟨0,1⟩
def bG (a b c:aB):aB × Bool:=if b.num=0∨c.num=0 then (a,true) else ((nS a (dS b c).1).1,(dS b c).2&&(nS a (dS b c).1).2)
theorem aNT (n d:Int):Int.gcd (-n) d=Int.gcd n d:=by simp[Int.gcd]
theorem aOv (n d:Int):bS (-n) d=(-(bS n d).1,(bS n d).2.1,(bS n d).2.2):=by
 rcases Int.lt_trichotomy d 0 with h | h | h
 ·rw[zO h,zO h,aNT (-n),Int.neg_tdiv,rR]
  split<;>rfl
 ·subst h;rw[mH,mH];rfl
 ·rw[tB h,tB h,aNT,Int.neg_tdiv,rR]
  split<;>rfl
theorem aBh (n d:Int):bS (-n) (-d)=bS n d:=by
 rcases Int.lt_trichotomy d 0 with h | h | h
 ·rw[zO h,tB (show 0< -d by omega)]
 ·subst h;rw[Int.neg_zero,mH,mH]
 ·rw[tB h,zO (show -d<0 by omega),Int.neg_neg,Int.neg_neg]
theorem aU9 {n d:Int}(h:(bS n d).2.2=true):dA (bS n d).1 (bS n d).2.1=true:=by
 rcases Int.lt_trichotomy d 0 with q | q | q
 ·rw[zO q] at*
  split at h
  ·rename_i hv;rw[if_pos hv];exact hv
  ·cases h
 ·subst q;rw[mH] at h;cases h
 ·rw[tB q] at*
  split at h
  ·rename_i hv;rw[if_pos hv];exact hv
  ·cases h
theorem aRg {n d:Int}(h:(bS n d).2.2=false):bS n d=(0,0,false):=by
 rcases Int.lt_trichotomy d 0 with q | q | q
 ·rw[zO q] at*
  split at h
  ·cases h
  ·rename_i hv;rw[if_neg hv]
 ·subst q;exact mH _
 ·rw[tB q] at*
  split at h
  ·cases h
  ·rename_i hv;rw[if_neg hv]
theorem aAc {n d:Int}(h:dA n d=true):bS n d=(n,d,true):=by
 obtain⟨h1,_,_,_,h2⟩:=aHU h
 rw[tB (by omega),h2]
 simp only[Int.cast_ofNat_Int,Int.tdiv_one]
 rw[if_pos h]
theorem aUa (b c:aB):dS (dY b) c=(dY (dS b c).1,(dS b c).2):=by
 simp only[dS,dY,aR8,rR]
 split
 ·rw[Int.neg_mul,aOv];rfl
 ·rfl
theorem aUb (a p:aB):fU a (dY p)=nS a p:=by
 simp only[fU,nS,dY,aU3]
theorem aRh (a b c:aB):(if (dY b).num=0∨c.num=0 then (a,true) else ((fU a (dS (dY b) c).1).1,(dS (dY b) c).2&&(fU a (dS (dY b) c).1).2))=bG a b c:=by
 rw[aUa,aUb,bG]
 have e:(dY b).num=0↔b.num=0:=by simp only[dY];omega
 simp only[e]
theorem aUc {q:Int × Int × Bool}{n d:Int}{p:Prop}[Decidable p](e:q=if p then bS n d else (0,0,false))(h:(iO q).2=true):bC (iO q).1=true:=by
 subst e
 split at h
 ·rename_i hp;rw[if_pos hp];exact aU9 h
 ·cases h
theorem aWX {a c:aB}(h:(nS a c).2=true):bC (nS a c).1=true:=aUc (q:=aLP a.num a.den c.num c.den) rfl h
theorem aWY {a c:aB}(h:(fU a c).2=true):bC (fU a c).1=true:=aUc (q:=aLO a.num a.den c.num c.den) rfl h
theorem aAd {a c:aB}(h:(aY a c).2=true):bC (aY a c).1=true:=aUc (q:=aIh a.num a.den c.num c.den) rfl h
theorem aNU {a c:aB}(h:(aY a c).2=false):(aY a c).1=⟨0,0⟩:=by
 unfold aY aIh at*
 split at h
 ·rename_i hp;rw[if_pos hp,aRg h];rfl
 ·rename_i hp;rw[if_neg hp];rfl
theorem aNV {a b c:aB}(ha:bC a=true)(h:(bG a b c).2=true):bC (bG a b c).1=true:=by
 unfold bG at*
 split at h
 ·rename_i hp;rw[if_pos hp];exact ha
 ·rename_i hp
  rw[if_neg hp]
  simp only[Bool.and_eq_true] at h
  exact aWX h.2
theorem aL0 {a:aB}(h:bC a=true)(h0:a.num≠0):aY aFE a=((if 0<a.num then ⟨a.den,a.num⟩ else ⟨-a.den,-a.num⟩),true):=by
 obtain⟨h1,h2,h3,h4,h5⟩:=cS h
 have v1:dA 1 1=true:=by decide
 rw[aY,show aIh aFE.num aFE.den a.num a.den=bS (1*a.den) (1*a.num) from zG v1 h,Int.one_mul,Int.one_mul]
 by_cases hp:0<a.num
 ·rw[if_pos hp,aAc (by simp only[dA,Int.gcd_comm a.den,h5,Bool.and_eq_true,decide_eq_true_eq,and_true];exact⟨pX (by omega) (by omega),pX (by omega) (by omega)⟩)];rfl
 ·rw[if_neg hp,←aBh,aAc (by
   have e:Int.gcd (-a.den) (-a.num)=1:=by rw[aU0,Int.gcd_comm];exact h5
   simp only[dA,e,Bool.and_eq_true,decide_eq_true_eq,and_true];exact⟨pX (by omega) (by omega),pX (by omega) (by omega)⟩)];rfl
theorem aWZ {c a:aB}(hc:bC c=true)(ha:bC a=true)(h0:a.num≠0):dS c (aY aFE a).1=aY c a:=by
 have hi:=aAd (show (aY aFE a).2=true by rw[aL0 ha h0])
 rw[aL0 ha h0] at*
 rw[aY,zG hc ha]
 split at hi
 ·rename_i hp
  rw[if_pos hp,dS,zF hc hi]
 ·rename_i hp
  rw[if_neg hp,dS,zF hc hi]
  simp only[Int.mul_neg]
  rw[aBh]
theorem zero_sub {x:aB}(h:bC x=true):nS aIj x=(dY x,true):=by
 have v:dA 0 1=true:=by decide
 rw[nS,show aLP aIj.num aIj.den x.num x.den=bS (0*x.den - x.num*1) (1*x.den) from aNJ v h]
 rw[Int.zero_mul,Int.mul_one,Int.one_mul,Int.zero_sub,aAc (by rw[rR];exact h)];rfl
theorem aKN {d:Int}(h:d≠0):bS 0 d=(0,1,true):=by
 have key: ∀e:Int,0<e→bS 0 e=(0,1,true):=fun e he=>by
  have hg:((Int.gcd 0 e:Nat):Int)=e:=by rw[Int.gcd_zero_left];omega
  rw[tB he,hg,Int.zero_tdiv,Int.tdiv_self (by omega)];rfl
 rcases Int.lt_or_gt_of_ne h with q | q
 ·rw[←aBh,Int.neg_zero];exact key _ (by omega)
 ·exact key _ q
theorem aUd {c a:aB}(hc:bC c=true)(ha:bC a=true)(h0:a.num≠0):bG aIj c (aY aFE a).1=(dY (aY c a).1,(aY c a).2):=by
 have hb:=cS hc
 have hba:=cS ha
 by_cases hz:c.num=0
 ·have hd:c.den*a.num≠0:=Int.mul_ne_zero (by omega) h0
  rw[bG,if_pos (.inl hz),aY,zG hc ha,hz,Int.zero_mul,aKN hd];rfl
 ·have hn: ¬(c.num=0∨(aY aFE a).1.num=0):=by
   rw[aL0 ha h0]
   rintro(q | q)
   ·exact hz q
   ·revert q;split
    ·show ¬a.den=0;omega
    ·show ¬ -a.den=0;omega
  rw[bG,if_neg hn,aWZ hc ha h0]
  cases e:(aY c a).2 with
  | true=>rw[zero_sub (aAd e)];rfl
  | false=>rw[aNU e];rfl
theorem aKO: ∀(r s:List Int),r.Nodup→(∀x∈r,x∈s)→s.length≤r.length→s.Perm r
 | [],s,_,_,h=>by
   have:s= []:=List.length_eq_zero_iff.1 (by simpa using h)
   rw[this]
 | a::r,s,hn,hs,hl=>by
   have ha:a∈s:=hs a (by simp)
   have p1:s.Perm (a::s.erase a):=List.perm_cons_erase ha
   have hn' :=List.nodup_cons.1 hn
   have:=aKO r (s.erase a) hn'.2 (fun x hx=>(List.mem_erase_of_ne (fun (e:x=a)=>hn'.1 (by rw[←e];exact hx))).2 (hs x (by simp[hx]))) (by
    rw[List.length_erase_of_mem ha]
    simp only[List.length_cons] at hl
    omega)
   exact p1.trans (this.cons a)
def isD (n x:Int):Bool:=decide (x=n)
def pY (l:List Int):Bool:=(List.range l.length).all fun (i:Nat)=>l.any (isD i)
abbrev upto (n:Nat):List Int:=(List.range n).map fun (i:Nat)=>(i:Int)
theorem aEj {l:List Int}(h:pY l=true):l.Perm (upto l.length):=by
 refine aKO _ _ ?_ ?_ (by simp)
 ·rw[List.Nodup,List.pairwise_map]
  exact List.nodup_range.imp fun hne he=>hne (by omega)
 ·intro x hx
  obtain⟨j,hj,rfl⟩:=List.mem_map.1 hx
  have:=List.all_eq_true.1 h j hj
  obtain⟨y,hy,e⟩:=List.any_eq_true.1 this
  rw[isD,decide_eq_true_eq] at e
  rwa [←e]
theorem aNW {l:List Int}(h:l.Perm (upto l.length)):pY l=true:=by
 refine List.all_eq_true.2 fun i hi=>?_
 have:(i:Int)∈l:=h.mem_iff.2 (List.mem_map.2 ⟨i,hi,rfl⟩)
 exact List.any_eq_true.2 ⟨_,this,by simp[isD]⟩
theorem aOw {l:List Int}(h:pY l=true){x:Int}(hx:x∈l):0≤x∧x<l.length:=by
 have:=(aEj h).mem_iff.1 hx
 obtain⟨j,hj,rfl⟩:=List.mem_map.1 this
 have:=List.mem_range.1 hj
 omega
def iC (l:List aB)(n:Int):Bool:=decide ((l.length:Int)=n)&&l.all bC
def dK (d:aJ):Bool:=decide ((d.basic.length:Int)≤64)&&(decide (1≤(d.others.length:Int)∧(d.others.length:Int)≤15)&&(decide ((d.table.length:Int)=d.basic.length)&&(pY (d.basic++d.others)&&(d.table.all (fun r=>iC r d.others.length)&&(iC d.limits d.basic.length&&(iC d.costs d.others.length&&bC d.value))))))
theorem aOx {d:aJ}(h:pY (d.basic++d.others)=false):dK d=false:=by simp only[dK,h,Bool.false_and,Bool.and_false]
theorem aHg {d:aJ}{k:Nat}{r:List aB}(h:d.table[k]? =some r)(hr:iC r d.others.length=false):dK d=false:=by
 have:d.table.all (fun r=>iC r d.others.length)=false:=eO h hr
 simp only[dK,this,Bool.false_and,Bool.and_false]
theorem aOy {d:aJ}(h:iC d.limits d.basic.length=false):dK d=false:=by simp only[dK,h,Bool.false_and,Bool.and_false]
theorem aNX {d:aJ}(h:iC d.costs d.others.length=false):dK d=false:=by simp only[dK,h,Bool.false_and,Bool.and_false]
theorem aNY {d:aJ}(h:(d.basic.length:Int)≤64∧(1≤(d.others.length:Int)∧(d.others.length:Int)≤15)∧(d.table.length:Int)=d.basic.length)(h1:pY (d.basic++d.others)=true)(h2:d.table.all (fun r=>iC r d.others.length)=true)(h3:iC d.limits d.basic.length=true)(h4:iC d.costs d.others.length=true)(h5:bC d.value=true):dK d=true:=by
 simp only[dK,h1,h2,h3,h4,h5,Bool.and_true,Bool.and_eq_true,decide_eq_true_eq]
 exact h
theorem aOz {l:List aB}{n:Int}(h: ¬(l.length:Int)=n):iC l n=false:=by simp only[iC,decide_eq_false h,Bool.false_and]
theorem aBi {l:List aB}{n:Int}(h:l.all bC=false):iC l n=false:=by simp only[iC,h,Bool.and_false]
theorem aDg {l:List aB}{n:Int}(h:(l.length:Int)=n)(h1:l.all bC=true):iC l n=true:=by simp only[iC,decide_eq_true h,h1,Bool.and_true]
theorem kK {l:List aB}{n:Nat}:iC l n=true↔l.length=n∧ ∀x∈l,bC x=true:=by
 simp only[iC,Bool.and_eq_true,decide_eq_true_eq,List.all_eq_true]
 constructor
 ·exact fun h=>⟨by omega,h.2⟩
 ·exact fun h=>⟨by omega,h.2⟩
theorem iN {d:aJ}(h:dK d=true):d.basic.length≤64∧(1≤d.others.length∧d.others.length≤15)∧d.table.length=d.basic.length∧pY (d.basic++d.others)=true∧(∀r∈d.table,r.length=d.others.length∧ ∀x∈r,bC x=true)∧(d.limits.length=d.basic.length∧ ∀x∈d.limits,bC x=true)∧(d.costs.length=d.others.length∧ ∀x∈d.costs,bC x=true)∧bC d.value=true:=by
 simp only[dK,Bool.and_eq_true,decide_eq_true_eq,List.all_eq_true (l:=d.table)] at h
 obtain⟨h1,h2,h3,h4,h5,h6,h7,h8⟩:=h
 exact⟨by omega,by omega,by omega,h4,fun r hr=>kK.1 (h5 r hr),kK.1 h6,kK.1 h7,h8⟩
theorem aKQ {d:aJ}(h:dK d=true):(∀x∈d.basic,0≤x∧x<d.basic.length+d.others.length)∧ ∀x∈d.others,0≤x∧x<d.basic.length+d.others.length:=by
 obtain⟨_,_,_,hp,_⟩:=iN h
 have key: ∀x∈d.basic++d.others,0≤x∧x<d.basic.length+d.others.length:=fun x hx=>by
  have:=aOw hp hx
  rw[List.length_append] at this
  omega
 exact⟨fun x hx=>key x (List.mem_append_left _ hx),fun x hx=>key x (List.mem_append_right _ hx)⟩
def aBj (d:aJ)(b:Int)(k:Nat):Bool:=decide (0<(d.costs.getD k zR).num)&&(decide (b<0) || decide (d.others.getD k 0<d.others.getD b.toNat 0))
def kU (d:aJ):Nat→Int
 | 0=> -1
 | k+1=>if aBj d (kU d k) k=true then (k:Int) else kU d k
def eZ (d:aJ):Int:=kU d d.others.length
theorem zS (d:aJ): ∀k:Nat,-1≤kU d k∧kU d k<k
 | 0=>by simp[kU]
 | k+1=>by
   have:=zS d k
   rw[kU]
   split<;>omega
theorem aNZ {d:aJ}{k:Nat}{b:Int}(hb:b=kU d k)(h:aBj d b k=true):(k:Int)=kU d (k+1):=by rw[kU,←hb,if_pos h]
theorem aPz {d:aJ}{k:Nat}{b:Int}(hb:b=kU d k)(h:aBj d b k=false):b=kU d (k+1):=by rw[kU,←hb,if_neg (by rw[h];decide)]
def kC (d:aJ):Int:=if dK d=true then eZ d else -1
def iL (d:aJ)(i j:Nat):aB:=(d.table.getD i []).getD j zR
def mJ (d:aJ)(b:Int)(c:Int)(k:Nat):Bool:=decide (b<0) || (decide (c<0) || (decide (c=0)&&decide (d.basic.getD k 0<d.basic.getD b.toNat 0)))
def eT (d:aJ)(j:Nat):Nat→Nat→Int→aB→Int
 | 0,_,b,_=>b
 | f+1,k,b,l=>if (iL d k j).num≤0 then eT d j f (k+1) b l else if (aY (d.limits.getD k zR) (iL d k j)).2=false then -1 else if mJ d b (fB (aY (d.limits.getD k zR) (iL d k j)).1 l) k=true then eT d j f (k+1) (k:Int) (aY (d.limits.getD k zR) (iL d k j)).1 else eT d j f (k+1) b l
def gM (d:aJ)(j:Nat):Int:=eT d j d.basic.length 0 (-1) zR
theorem aPA {d:aJ}{j n k:Nat}{b:Int}{l:aB}(hk:k<n)(h:(iL d k j).num≤0):eT d j (n - k) k b l=eT d j (n - (k+1)) (k+1) b l:=by
 rw[show n - k=(n - (k+1))+1 by omega,eT,if_pos h]
theorem aRi {d:aJ}{j n k:Nat}{b:Int}{l:aB}(hk:k<n)(h: ¬(iL d k j).num≤0)(h2:(aY (d.limits.getD k zR) (iL d k j)).2=false):eT d j (n - k) k b l= -1:=by
 rw[show n - k=(n - (k+1))+1 by omega,eT,if_neg h,if_pos h2]
theorem aRj {d:aJ}{j n k:Nat}{b:Int}{l:aB}(hk:k<n)(h: ¬(iL d k j).num≤0)(h2:(aY (d.limits.getD k zR) (iL d k j)).2=true)(h3:mJ d b (fB (aY (d.limits.getD k zR) (iL d k j)).1 l) k=true):eT d j (n - k) k b l=eT d j (n - (k+1)) (k+1) (k:Int) (aY (d.limits.getD k zR) (iL d k j)).1:=by
 rw[show n - k=(n - (k+1))+1 by omega,eT,if_neg h,if_neg (by rw[h2];decide),if_pos h3]
theorem aUe {d:aJ}{j n k:Nat}{b:Int}{l:aB}(hk:k<n)(h: ¬(iL d k j).num≤0)(h2:(aY (d.limits.getD k zR) (iL d k j)).2=true)(h3:mJ d b (fB (aY (d.limits.getD k zR) (iL d k j)).1 l) k=false):eT d j (n - k) k b l=eT d j (n - (k+1)) (k+1) b l:=by
 rw[show n - k=(n - (k+1))+1 by omega,eT,if_neg h,if_neg (by rw[h2];decide),if_neg (by rw[h3];decide)]
theorem aDh (d:aJ)(j:Nat): ∀(f k:Nat) (b:Int) (l:aB),-1≤b∧b<k→ -1≤eT d j f k b l∧eT d j f k b l<(k+f:Nat)
 | 0,k,b,l,h=>by rw[eT];omega
 | f+1,k,b,l,h=>by
   have h1:=aDh d j f (k+1) b l (by omega)
   have h2:=aDh d j f (k+1) (k:Int) (aY (d.limits.getD k zR) (iL d k j)).1 (by omega)
   rw[eT]
   split
   ·omega
   ·split
    ·omega
    ·split<;>omega
theorem aN0 (d:aJ)(j:Nat): -1≤gM d j∧gM d j<d.basic.length:=by
 have:=aDh d j d.basic.length 0 (-1) zR (by omega)
 rw[gM];omega
def oP (d:aJ)(j:Int):Int:=if dK d=true∧0≤j∧j<d.others.length then gM d j.toNat else -1
def aIk (d:aJ)(i j k:Nat):aB × Bool:=aY (if k=j then aFE else iL d i k) (iL d i j)
def fG (d:aJ)(i j n:Nat):List aB:=(List.range n).map fun k=>(aIk d i j k).1
def eH (d:aJ)(i j n:Nat):Bool:=(List.range n).all fun k=>(aIk d i j k).2
def eD (d:aJ)(i j:Nat):aB × Bool:=aY (d.limits.getD i zR) (iL d i j)
def chX (l:List aB)(c:aB)(p:List aB)(j k:Nat):aB × Bool:=bG (if k=j then aIj else l.getD k zR) c (p.getD k zR)
def eM (l:List aB)(p:List aB)(j n:Nat):List aB:=(List.range n).map fun k=>(chX l (l.getD j zR) p j k).1
def fL (l:List aB)(p:List aB)(j n:Nat):Bool:=(List.range n).all fun k=>(chX l (l.getD j zR) p j k).2
def aUf (d:aJ)(i j r:Nat):aB × Bool:=bG (d.limits.getD r zR) (iL d r j) (eD d i j).1
def aCw (d:aJ)(i j r:Nat):List aB:=if r=i then fG d i j d.others.length else eM (d.table.getD r []) (fG d i j d.others.length) j d.others.length
def aEk (d:aJ)(i j r:Nat):aB:=if r=i then (eD d i j).1 else (aUf d i j r).1
def aL1 (d:aJ)(i j r:Nat):Bool:=if r=i then true else fL (d.table.getD r []) (fG d i j d.others.length) j d.others.length&&(aUf d i j r).2
def gV (d:aJ)(i j n:Nat):List (List aB):=(List.range n).map (aCw d i j)
def iD (d:aJ)(i j n:Nat):List aB:=(List.range n).map (aEk d i j)
def gN (d:aJ)(i j n:Nat):Bool:=(List.range n).all (aL1 d i j)
def aPB (d:aJ)(i j:Nat):List aB:=eM d.costs (fG d i j d.others.length) j d.others.length
def aQA (d:aJ)(i j:Nat):Bool:=fL d.costs (fG d i j d.others.length) j d.others.length
def dV (a b c:aB):aB × Bool:=if b.num=0∨c.num=0 then (a,true) else ((fU a (dS b c).1).1,(dS b c).2&&(fU a (dS b c).1).2)
def zT (d:aJ)(i j:Nat):aB × Bool:=dV d.value (d.costs.getD j zR) (eD d i j).1
def lZ (d:aJ)(i j:Nat):Bool:=((eH d i j d.others.length&&(eD d i j).2)&&gN d i j d.basic.length)&&aQA d i j
def zU:aJ:=⟨[],[],[],[],[],⟨0,0⟩⟩
def rS (d:aJ)(i j:Nat):aJ:=⟨d.basic.set i (d.others.getD j 0),d.others.set j (d.basic.getD i 0),gV d i j d.basic.length,iD d i j d.basic.length,aPB d i j,(zT d i j).1⟩
def fN (d:aJ)(i j:Nat):aJ × Bool:=if (iL d i j).num≠0∧lZ d i j=true∧(zT d i j).2=true then (rS d i j,true) else (zU,false)
def bP (d:aJ)(i j:Int):aJ × Bool:=if dK d=true∧(0≤i∧i<d.basic.length)∧0≤j∧j<d.others.length then fN d i.toNat j.toNat else (zU,false)
theorem aKR (a b c:aB):dV a (dY b) c=bG a b c:=aRh a b c
theorem aUg {a b c:aB}(ha:bC a=true)(h:(dV a b c).2=true):bC (dV a b c).1=true:=by
 unfold dV at*
 split at h
 ·rename_i hp;rw[if_pos hp];exact ha
 ·rename_i hp
  rw[if_neg hp]
  simp only[Bool.and_eq_true] at h
  exact aWY h.2
theorem aW0 {a:aB}(h:bC a=true):fU a aIj=(a,true):=by
 have v:dA 0 1=true:=by decide
 rw[fU,show aLO a.num a.den aIj.num aIj.den=bS (a.num*1+0*a.den) (a.den*1) from aHW h v]
 rw[Int.zero_mul,Int.mul_one,Int.mul_one,Int.add_zero,aAc h];rfl
theorem aW1 {b c:aB}(hb:bC b=true)(hc:bC c=true)(h:b.num=0∨c.num=0):dS b c=(aIj,true):=by
 have h1:=cS hb
 have h2:=cS hc
 rw[dS,zF hb hc,show b.num*c.num=0 from Int.mul_eq_zero.2 h,aKN (Int.mul_ne_zero (by omega) (by omega))];rfl
theorem aPC {a b c:aB}(ha:bC a=true)(hb:bC b=true)(hc:bC c=true):dV a b c=((fU a (dS b c).1).1,(dS b c).2&&(fU a (dS b c).1).2):=by
 unfold dV
 split
 ·rename_i h
  rw[aW1 hb hc h,aW0 ha];rfl
 ·rfl
theorem aRk:bC aIj=true:=by decide
theorem aBk {l:List aB}{n k:Nat}(h:l.length=n∧ ∀x∈l,bC x=true)(hk:k<n):bC (l.getD k zR)=true:=by
 have hk' :k<l.length:=by omega
 rw[List.getD_eq_getElem?_getD,List.getElem?_eq_getElem hk']
 exact h.2 _ (List.getElem_mem hk')
theorem aPD (d:aJ)(i j n:Nat):(fG d i j n).length=n:=by simp[fG]
theorem aRl {d:aJ}{i j n:Nat}(h:eH d i j n=true): ∀x∈fG d i j n,bC x=true:=by
 intro x hx
 obtain⟨k,hk,rfl⟩:=List.mem_map.1 hx
 exact aAd (List.all_eq_true.1 h k hk)
theorem aN1 {l p:List aB}{j n:Nat}(hl:l.length=n∧ ∀x∈l,bC x=true)(h:fL l p j n=true): ∀x∈eM l p j n,bC x=true:=by
 intro x hx
 obtain⟨k,hk,rfl⟩:=List.mem_map.1 hx
 refine aNV ?_ (List.all_eq_true.1 h k hk)
 split
 ·exact aRk
 ·exact aBk hl (List.mem_range.1 hk)
theorem aUh {a b:List Int}{i j:Nat}{x y:Int}(hx:a[i]? =some x)(hy:b[j]? =some y):(a.set i y++b.set j x).Perm (a++b):=by
 obtain⟨hi,rfl⟩:=List.getElem?_eq_some_iff.1 hx
 obtain⟨hj,rfl⟩:=List.getElem?_eq_some_iff.1 hy
 have ea:a.set i b[j]=a.take i++b[j]::a.drop (i+1):=List.set_eq_take_append_cons_drop .. |>.trans (if_pos hi)
 have eb:b.set j a[i]=b.take j++a[i]::b.drop (j+1):=List.set_eq_take_append_cons_drop .. |>.trans (if_pos hj)
 have fa:a=a.take i++a[i]::a.drop (i+1):=by rw[←List.drop_eq_getElem_cons hi,List.take_append_drop]
 have fb:b=b.take j++b[j]::b.drop (j+1):=by rw[←List.drop_eq_getElem_cons hj,List.take_append_drop]
 rw[ea,eb]
 conv=>rhs;rw[fa,fb]
 rw[List.perm_iff_count]
 intro z
 simp only[List.count_append,List.count_cons]
 omega
theorem aW2 {d:aJ}{i j:Nat}(h:dK d=true)(hi:i<d.basic.length)(hj:j<d.others.length)(h1:lZ d i j=true)(h2:(zT d i j).2=true):dK (rS d i j)=true:=by
 obtain⟨b1,b2,b3,b4,b5,b6,b7,b8⟩:=iN h
 simp only[lZ,Bool.and_eq_true] at h1
 obtain⟨⟨⟨q1,q2⟩,q3⟩,q4⟩:=h1
 have hb:d.basic[i]? =some (d.basic.getD i 0):=by rw[List.getD_eq_getElem?_getD,List.getElem?_eq_getElem hi];rfl
 have hf:d.others[j]? =some (d.others.getD j 0):=by rw[List.getD_eq_getElem?_getD,List.getElem?_eq_getElem hj];rfl
 refine aNY ?_ ?_ ?_ ?_ ?_ ?_
 ·simp only[rS,List.length_set,gV,List.length_map,List.length_range];exact⟨by omega,by omega,trivial⟩
 ·refine aNW ?_
  have:=aUh hb hf
  exact(this.trans (aEj b4)).trans (by simp only[rS,List.length_append,List.length_set];exact .refl _)
 ·refine List.all_eq_true.2 fun r hr=>?_
  simp only[rS,List.length_set] at hr ⊢
  obtain⟨k,hk,rfl⟩:=List.mem_map.1 hr
  rw[List.mem_range] at hk
  have ok:=List.all_eq_true.1 q3 k (List.mem_range.2 hk)
  refine kK.2 ?_
  unfold aCw
  split
  ·exact⟨aPD _ _ _ _,aRl q1⟩
  ·rename_i hne
   rw[aL1,if_neg hne,Bool.and_eq_true] at ok
   have hk' :k<d.table.length:=by omega
   have hc:d.table.getD k []=d.table[k]:=by rw[List.getD_eq_getElem?_getD,List.getElem?_eq_getElem hk'];rfl
   exact⟨by simp[eM],aN1 (by rw[hc];exact b5 _ (List.getElem_mem hk')) ok.1⟩
 ·refine kK.2 ⟨by simp[rS,iD],fun x hx=>?_⟩
  obtain⟨k,hk,rfl⟩:=List.mem_map.1 hx
  rw[List.mem_range] at hk
  have ok:=List.all_eq_true.1 q3 k (List.mem_range.2 hk)
  unfold aEk
  split
  ·exact aAd q2
  ·rename_i hne
   rw[aL1,if_neg hne,Bool.and_eq_true] at ok
   exact aNV (aBk b6 hk) ok.2
 ·refine kK.2 ⟨by simp[rS,aPB,eM],?_⟩
  exact aN1 b7 q4
 ·exact aUg b8 h2
theorem aQB {d:aJ}{i j:Nat}(h:dK d=true)(hi:i<d.basic.length)(hj:j<d.others.length)(h1:(fN d i j).2=true):dK (fN d i j).1=true∧(fN d i j).1.basic.length=d.basic.length∧(fN d i j).1.others.length=d.others.length:=by
 unfold fN at*
 split at h1
 ·rename_i hp
  rw[if_pos hp]
  exact⟨aW2 h hi hj hp.2.1 hp.2.2,by simp[rS],by simp[rS]⟩
 ·cases h1
def kF (p:bZ):aJ:=⟨(List.range p.rows.length).map (fun (i:Nat)=>((p.objective.length+i:Nat):Int)),upto p.objective.length,p.rows.map (List.map aN),p.limits.map aN,p.objective.map aN,aN 0⟩
theorem sQ {n:Int}(h: -99≤n∧n≤99):bC (aN n)=true:=by
 have e:Int.gcd n 1=1:=by simp
 simp only[bC,aN,dA,e,Bool.and_eq_true,decide_eq_true_eq,and_true]
 exact⟨by decide,pX (by omega) (by omega)⟩
theorem aN2 {p:bZ}(h:cV p=true):dK (kF p)=true:=by
 obtain⟨b1,b2,b3,b4,b5⟩:=mI h
 refine aNY ?_ ?_ ?_ ?_ ?_ ?_
 ·simp only[kF,List.length_map,List.length_range];exact⟨by omega,by omega,trivial⟩
 ·refine List.all_eq_true.2 fun i hi=>?_
  rw[List.mem_range] at hi
  simp only[kF,List.length_append,List.length_map,List.length_range] at hi
  refine List.any_eq_true.2 ⟨(i:Int),?_,by simp[isD]⟩
  simp only[kF,List.mem_append,List.mem_map,List.mem_range]
  by_cases hn:i<p.objective.length
  ·exact .inr ⟨i,hn,rfl⟩
  ·exact .inl ⟨i - p.objective.length,by omega,by omega⟩
 ·refine List.all_eq_true.2 fun r hr=>?_
  obtain⟨l,hl,rfl⟩:=List.mem_map.1 hr
  have hb:=b4 l (List.mem_append_left _ hl)
  refine kK.2 ⟨by simp[kF,hb.1],fun x hx=>?_⟩
  obtain⟨n,hn,rfl⟩:=List.mem_map.1 hx
  have:=hb.2 n hn
  exact sQ (by omega)
 ·refine kK.2 ⟨by simp[kF,b3],fun x hx=>?_⟩
  obtain⟨n,hn,rfl⟩:=List.mem_map.1 hx
  have:=b5 n hn
  exact sQ (by omega)
 ·refine kK.2 ⟨by simp[kF],fun x hx=>?_⟩
  obtain⟨n,hn,rfl⟩:=List.mem_map.1 hx
  have:=(b4 p.objective (by simp)).2 n hn
  exact sQ (by omega)
 ·exact sQ (by omega)
theorem aKS (p:bZ):(kF p).basic.length=p.rows.length∧(kF p).others.length=p.objective.length:=by simp[kF]
def eS (p:bZ):aJ × Bool:=if cV p=true then (kF p,true) else (zU,false)
theorem zV {p:bZ}(h:cV p=true):eS p=(kF p,true):=by rw[eS,if_pos h]
theorem aL2 {p:bZ}(h:cV p=false):eS p=(zU,false):=by rw[eS,if_neg (by rw[h];decide)]
def gZ:Nat→aJ→aJ × Bool
 | 0,_=>(zU,false)
 | f+1,d=>if eZ d<0 then (d,true) else if gM d (eZ d).toNat<0 then (zU,false) else if (fN d (gM d (eZ d).toNat).toNat (eZ d).toNat).2=true then gZ f (fN d (gM d (eZ d).toNat).toNat (eZ d).toNat).1 else (zU,false)
theorem aHh {d:aJ}{n s:Nat}(hs:s<n)(h:eZ d<0):gZ (n - s) d=(d,true):=by
 rw[show n - s=(n - (s+1))+1 by omega,gZ,if_pos h]
theorem aKT {d:aJ}{n s:Nat}(hs:s<n)(h: ¬eZ d<0)(h2:gM d (eZ d).toNat<0):gZ (n - s) d=(zU,false):=by
 rw[show n - s=(n - (s+1))+1 by omega,gZ,if_neg h,if_pos h2]
theorem aKU {d:aJ}{n s:Nat}(hs:s<n)(h: ¬eZ d<0)(h2: ¬gM d (eZ d).toNat<0)(h3:(fN d (gM d (eZ d).toNat).toNat (eZ d).toNat).2=false):gZ (n - s) d=(zU,false):=by
 rw[show n - s=(n - (s+1))+1 by omega,gZ,if_neg h,if_neg h2,if_neg (by rw[h3];decide)]
theorem aHi {d:aJ}{n s:Nat}(hs:s<n)(h: ¬eZ d<0)(h2: ¬gM d (eZ d).toNat<0)(h3:(fN d (gM d (eZ d).toNat).toNat (eZ d).toNat).2=true):gZ (n - s) d=gZ (n - (s+1)) (fN d (gM d (eZ d).toNat).toNat (eZ d).toNat).1:=by
 rw[show n - s=(n - (s+1))+1 by omega,gZ,if_neg h,if_neg h2,if_pos h3]
theorem aPE {d:aJ}{n s:Nat}(hs:s+1=n)(h: ¬eZ d<0):gZ (n - s) d=(zU,false):=by
 rw[show n - s=0+1 by omega,gZ,if_neg h]
 split
 ·rfl
 ·split<;>rfl
def nQ (d:aJ)(n:Nat):Nat→List aB
 | 0=>List.replicate n (aN 0)
 | i+1=>if d.basic.getD i 0<n then (nQ d n i).set (d.basic.getD i 0).toNat (d.limits.getD i zR) else nQ d n i
def nR (d:aJ)(n m:Nat):Nat→List aB
 | 0=>List.replicate m (aN 0)
 | k+1=>if (n:Int)≤d.others.getD k 0 then (nR d n m k).set (d.others.getD k 0 - n).toNat (dY (d.costs.getD k zR)) else nR d n m k
def aHj:aAX:=⟨⟨0,0⟩,[],[]⟩
def aY8 (d:aJ)(n m:Nat):aAX:=⟨d.value,nQ d n d.basic.length,nR d n m d.others.length⟩
def eB (p:bZ):aAX × Bool:=if cV p=true∧(gZ 300 (kF p)).2=true then (aY8 (gZ 300 (kF p)).1 p.objective.length p.rows.length,true) else (aHj,false)
theorem aQC {p:bZ}(h:cV p=false):eB p=(aHj,false):=by rw[eB,if_neg (by rw[h];simp)]
theorem uC {p:bZ}(h:gZ 300 (kF p)=(zU,false)):eB p=(aHj,false):=by rw[eB,h,if_neg (by simp)]
theorem aN3 {p:bZ}{d:aJ}(h:cV p=true)(h2:gZ 300 (kF p)=(d,true)):eB p=(aY8 d p.objective.length p.rows.length,true):=by rw[eB,h2,if_pos ⟨h,rfl⟩]
end Go.Proofs.YtlidmoeecphbmaaGreat
