/-
  Contracts and plain laws, joined: part 8.
-/
import Derived.Test.Ytepphdhnkaiamaapg4
import Derived.Test.Ytepphdhnkaiamaapg6
import Derived.Test.Ytepphdhnkaiamaapg5
import Derived.Test.Ytepphdhnkaiamaapg3
namespace Go.Proofs.Ytepphdhnkaiamaa
open Go.ChangeShapes Go.WideShapes Go.ChangeAt Go.RowKit
set_option linter.unusedVariables false
set_option linter.unusedSimpArgs false
set_option maxRecDepth 100000
set_option maxHeartbeats 4000000
def bV {α:Type}(f:Cu->α × Cu):Nat->Cu->List α × Cu
 | 0,u=>([],u)
 | k+1,u=>((bV f k u).1++[(f (bV f k u).2).1],(f (bV f k u).2).2)
theorem aE3 {α:Type}(f:Cu->α × Cu)(u:Cu): ∀k,(bV f k u).1.length=k
 | 0=>rfl
 | k+1=>by rw[bV,List.length_append,aE3 f u k];rfl
def eJ (l:List Int)(u:Cu):aC × Cu:=((eS (aX (aA l u 4).1 (1+(aA l (aA l u 4).2 3).1))).1,(aA l (aA l u 4).2 3).2)
def cF (l:List Int)(u:Cu)(n:Int):List aC × Cu:=if (aA l (bV (eJ l) n.toNat u).2 10).1=0 then ((bV (eJ l) n.toNat u).1++[(gV l (aA l (bV (eJ l) n.toNat u).2 10).2).1],(gV l (aA l (bV (eJ l) n.toNat u).2 10).2).2) else ((bV (eJ l) n.toNat u).1,(aA l (bV (eJ l) n.toNat u).2 10).2)
theorem yI {l:List Int}{u:Cu}{n:Int}(h:(aA l (bV (eJ l) n.toNat u).2 10).1=0):cF l u n=((bV (eJ l) n.toNat u).1++[(gV l (aA l (bV (eJ l) n.toNat u).2 10).2).1],(gV l (aA l (bV (eJ l) n.toNat u).2 10).2).2):=by rw[cF,if_pos h]
theorem yJ {l:List Int}{u:Cu}{n:Int}(h: ¬(aA l (bV (eJ l) n.toNat u).2 10).1=0):cF l u n=((bV (eJ l) n.toNat u).1,(aA l (bV (eJ l) n.toNat u).2 10).2):=by rw[cF,if_neg h]
abbrev sJ (l:List Int)(u:Cu)(n:Int):List AV × List (Nat × Rs) × AV × List (Nat × Rs):=([.ptr 0 0,vI n],[(0,.box 84 [.p none (.sl 5 1 (l.map bD)),vI (u.i:Int),vI u.h])],.own 1,[(0,.box 84 [.p none (.sl 5 1 (l.map bD)),vI (((cF l u n).2.i:Nat):Int),vI ((cF l u n).2.h)]),(1,.arr 30 2 true ((cF l u n).1.map aB))])
abbrev aHN (l:List Int)(u:Cu)(n:Int):Prop:=Cm 52 (sJ l u n).1 (sJ l u n).2.1 (sJ l u n).2.2.1 (sJ l u n).2.2.2
theorem yK (l:List Int)(u:Cu)(hl:l.length<=1048576)(n:Int)(hn:0<=n/\n<=1048576):aHN l u n:=by
 refine cqx Try.func52 (.loop Nat (Q1 Nat) (rg 5 23) [0,700,900,2600,2700] (fun k=>[(6,vI (k:Int)),(5,.own 900)]) (fun k=>[(900,some (.arr 30 2 true ((bV (eJ l) k u).1.map aB))),(0,some (.box 84 [.p none (.sl 5 1 (l.map bD)),vI (((bV (eJ l) k u).2.i:Nat):Int),vI ((bV (eJ l) k u).2.h)]))]) (fun k=>(k:Int)<=n) (fun k=>(n - k).toNat) (fun k=> .br (.callxs [.ptr 0 0,vI 4] [(0,.box 84 [.p none (.sl 5 1 (l.map bD)),vI (((bV (eJ l) k u).2.i:Nat):Int),vI ((bV (eJ l) k u).2.h)])] [(0,0)] (vI ((aA l ((bV (eJ l) k u).2) (4:Int)).1)) [(0,.box 84 [.p none (.sl 5 1 (l.map bD)),vI (((aA l ((bV (eJ l) k u).2) (4:Int)).2.i:Nat):Int),vI ((aA l ((bV (eJ l) k u).2) (4:Int)).2.h)])]<| .callxs [.ptr 0 0,vI 3] [(0,.box 84 [.p none (.sl 5 1 (l.map bD)),vI ((((aA l ((bV (eJ l) k u).2) (4:Int)).2).i:Nat):Int),vI (((aA l ((bV (eJ l) k u).2) (4:Int)).2).h)])] [(0,0)] (vI ((aA l ((aA l ((bV (eJ l) k u).2) (4:Int)).2) (3:Int)).1)) [(0,.box 84 [.p none (.sl 5 1 (l.map bD)),vI (((aA l ((aA l ((bV (eJ l) k u).2) (4:Int)).2) (3:Int)).2.i:Nat):Int),vI ((aA l ((aA l ((bV (eJ l) k u).2) (4:Int)).2) (3:Int)).2.h)])]<| bX (jI ((aA l ((bV (eJ l) k u).2) (4:Int)).1) ((1:Int)+((aA l ((aA l ((bV (eJ l) k u).2) (4:Int)).2) (3:Int)).1)))<| .app aC aB ((bV (eJ l) k u).1) ([((eS (aX ((aA l ((bV (eJ l) k u).2) (4:Int)).1) ((1:Int)+((aA l ((aA l ((bV (eJ l) k u).2) (4:Int)).2) (3:Int)).1)))).1)]:List aC)<| .back [(0,0),(900,2700)]) (.callxs [.ptr 0 0,vI 10] [(0,.box 84 [.p none (.sl 5 1 (l.map bD)),vI (((bV (eJ l) k u).2.i:Nat):Int),vI ((bV (eJ l) k u).2.h)])] [(0,0)] (vB (decide ((aA l ((bV (eJ l) k u).2) (10:Int)).1=0))) [(0,.box 84 [.p none (.sl 5 1 (l.map bD)),vI (((aA l ((bV (eJ l) k u).2) (10:Int)).2.i:Nat):Int),vI ((aA l ((bV (eJ l) k u).2) (10:Int)).2.h)])]<| .br (.callxs [.ptr 0 0] [(0,.box 84 [.p none (.sl 5 1 (l.map bD)),vI ((((aA l ((bV (eJ l) k u).2) (10:Int)).2).i:Nat):Int),vI (((aA l ((bV (eJ l) k u).2) (10:Int)).2).h)])] [(0,0)] (.agg [vI (((gV l ((aA l ((bV (eJ l) k u).2) (10:Int)).2)).1).num),vI (((gV l ((aA l ((bV (eJ l) k u).2) (10:Int)).2)).1).den)]) [(0,.box 84 [.p none (.sl 5 1 (l.map bD)),vI (((gV l ((aA l ((bV (eJ l) k u).2) (10:Int)).2)).2.i:Nat):Int),vI ((gV l ((aA l ((bV (eJ l) k u).2) (10:Int)).2)).2.h)])]<| .app aC aB ((bV (eJ l) k u).1) ([((gV l ((aA l ((bV (eJ l) k u).2) (10:Int)).2)).1)]:List aC)<| .fin [(0,0),(1,3400)]) (.fin [(0,0),(1,900)])))) (p:=(∃(k:Nat),0=(k:Int)/\[]=(bV (eJ l) k u).1.map aB/\l.map bD=l.map bD/\(u.i:Int)=(((bV (eJ l) k u).2.i:Nat):Int)/\u.h=((bV (eJ l) k u).2.h)/\(k:Int)<=n)/\ ∀(k:Nat),(k:Int)<=n->Br ((k:Int)<n) (fR Try.prog 61 [.ptr 0 0,vI 4] [(0,.box 84 [.p none (.sl 5 1 (l.map bD)),vI (((bV (eJ l) k u).2.i:Nat):Int),vI ((bV (eJ l) k u).2.h)])] (vI ((aA l ((bV (eJ l) k u).2) (4:Int)).1)) [(0,.box 84 [.p none (.sl 5 1 (l.map bD)),vI (((aA l ((bV (eJ l) k u).2) (4:Int)).2.i:Nat):Int),vI ((aA l ((bV (eJ l) k u).2) (4:Int)).2.h)])]/\(4:Int)=4/\l.map bD=l.map bD/\(((bV (eJ l) k u).2.i:Nat):Int)=(((bV (eJ l) k u).2.i:Nat):Int)/\((bV (eJ l) k u).2.h)=((bV (eJ l) k u).2.h)/\fR Try.prog 61 [.ptr 0 0,vI 3] [(0,.box 84 [.p none (.sl 5 1 (l.map bD)),vI ((((aA l ((bV (eJ l) k u).2) (4:Int)).2).i:Nat):Int),vI (((aA l ((bV (eJ l) k u).2) (4:Int)).2).h)])] (vI ((aA l ((aA l ((bV (eJ l) k u).2) (4:Int)).2) (3:Int)).1)) [(0,.box 84 [.p none (.sl 5 1 (l.map bD)),vI (((aA l ((aA l ((bV (eJ l) k u).2) (4:Int)).2) (3:Int)).2.i:Nat):Int),vI ((aA l ((aA l ((bV (eJ l) k u).2) (4:Int)).2) (3:Int)).2.h)])]/\(3:Int)=3/\l.map bD=l.map bD/\(((aA l ((bV (eJ l) k u).2) (4:Int)).2.i:Nat):Int)=((((aA l ((bV (eJ l) k u).2) (4:Int)).2).i:Nat):Int)/\((aA l ((bV (eJ l) k u).2) (4:Int)).2.h)=(((aA l ((bV (eJ l) k u).2) (4:Int)).2).h)/\cR ((1:Int)+((aA l ((aA l ((bV (eJ l) k u).2) (4:Int)).2) (3:Int)).1))/\kS ((aA l ((bV (eJ l) k u).2) (4:Int)).1) ((1:Int)+((aA l ((aA l ((bV (eJ l) k u).2) (4:Int)).2) (3:Int)).1))/\Ap aB ((bV (eJ l) k u).1) ([((eS (aX ((aA l ((bV (eJ l) k u).2) (4:Int)).1) ((1:Int)+((aA l ((aA l ((bV (eJ l) k u).2) (4:Int)).2) (3:Int)).1)))).1)]:List aC) 16 (cR ((k:Int)+1)/\ ∃(k' :Nat),((k:Int)+1)=(k' :Int)/\(((bV (eJ l) k u).1)++[((eS (aX ((aA l ((bV (eJ l) k u).2) (4:Int)).1) ((1:Int)+((aA l ((aA l ((bV (eJ l) k u).2) (4:Int)).2) (3:Int)).1)))).1)]).map aB=(bV (eJ l) k' u).1.map aB/\l.map bD=l.map bD/\(((aA l ((aA l ((bV (eJ l) k u).2) (4:Int)).2) (3:Int)).2.i:Nat):Int)=(((bV (eJ l) k' u).2.i:Nat):Int)/\((aA l ((aA l ((bV (eJ l) k u).2) (4:Int)).2) (3:Int)).2.h)=((bV (eJ l) k' u).2.h)/\(k' :Int)<=n/\(n - k').toNat<(n - k).toNat)) (fR Try.prog 51 [.ptr 0 0,vI 10] [(0,.box 84 [.p none (.sl 5 1 (l.map bD)),vI (((bV (eJ l) k u).2.i:Nat):Int),vI ((bV (eJ l) k u).2.h)])] (vB (decide ((aA l ((bV (eJ l) k u).2) (10:Int)).1=0))) [(0,.box 84 [.p none (.sl 5 1 (l.map bD)),vI (((aA l ((bV (eJ l) k u).2) (10:Int)).2.i:Nat):Int),vI ((aA l ((bV (eJ l) k u).2) (10:Int)).2.h)])]/\(10:Int)=10/\l.map bD=l.map bD/\(((bV (eJ l) k u).2.i:Nat):Int)=(((bV (eJ l) k u).2.i:Nat):Int)/\((bV (eJ l) k u).2.h)=((bV (eJ l) k u).2.h)/\Br ((aA l ((bV (eJ l) k u).2) (10:Int)).1=0) (fR Try.prog 59 [.ptr 0 0] [(0,.box 84 [.p none (.sl 5 1 (l.map bD)),vI ((((aA l ((bV (eJ l) k u).2) (10:Int)).2).i:Nat):Int),vI (((aA l ((bV (eJ l) k u).2) (10:Int)).2).h)])] (.agg [vI (((gV l ((aA l ((bV (eJ l) k u).2) (10:Int)).2)).1).num),vI (((gV l ((aA l ((bV (eJ l) k u).2) (10:Int)).2)).1).den)]) [(0,.box 84 [.p none (.sl 5 1 (l.map bD)),vI (((gV l ((aA l ((bV (eJ l) k u).2) (10:Int)).2)).2.i:Nat):Int),vI ((gV l ((aA l ((bV (eJ l) k u).2) (10:Int)).2)).2.h)])]/\l.map bD=l.map bD/\(((aA l ((bV (eJ l) k u).2) (10:Int)).2.i:Nat):Int)=((((aA l ((bV (eJ l) k u).2) (10:Int)).2).i:Nat):Int)/\((aA l ((bV (eJ l) k u).2) (10:Int)).2.h)=(((aA l ((bV (eJ l) k u).2) (10:Int)).2).h)/\Ap aB ((bV (eJ l) k u).1) ([((gV l ((aA l ((bV (eJ l) k u).2) (10:Int)).2)).1)]:List aC) 16 (l.map bD=l.map bD/\(((gV l ((aA l ((bV (eJ l) k u).2) (10:Int)).2)).2.i:Nat):Int)=(((cF l u n).2.i:Nat):Int)/\((gV l ((aA l ((bV (eJ l) k u).2) (10:Int)).2)).2.h)=((cF l u n).2.h)/\(((bV (eJ l) k u).1)++[((gV l ((aA l ((bV (eJ l) k u).2) (10:Int)).2)).1)]).map aB=(cF l u n).1.map aB/\True)) (l.map bD=l.map bD/\(((aA l ((bV (eJ l) k u).2) (10:Int)).2.i:Nat):Int)=(((cF l u n).2.i:Nat):Int)/\((aA l ((bV (eJ l) k u).2) (10:Int)).2.h)=((cF l u n).2.h)/\(bV (eJ l) k u).1.map aB=(cF l u n).1.map aB/\True))) (by kernel_rfl) ?_;refine⟨⟨0,rfl,rfl,rfl,rfl,rfl,by omega⟩,fun k hk=>?_⟩;have hz:=aE3 (eJ l) u k;have w1:=dV l (bV (eJ l) k u).2 (n:=4) (by omega);have w2:=dV l (aA l (bV (eJ l) k u).2 4).2 (n:=3) (by omega);refine dd (fun c0=>?_) fun c0=>?_
 ·refine⟨gU l ((bV (eJ l) k u).2) (by assumption) (4:Int),rfl,rfl,rfl,rfl,gU l ((aA l ((bV (eJ l) k u).2) (4:Int)).2) (by assumption) (3:Int),rfl,rfl,rfl,rfl,⟨by omega,by omega⟩,sD _ _ (by first|omega|(dsimp only;omega)) (by first|omega|(dsimp only;omega)),?_⟩;refine ap ?_ (by first|omega|(simp;omega));refine aBV ?_;exact⟨k+1,rfl,rfl,rfl,rfl,rfl,by omega,by omega⟩
 ·have ek:n.toNat=k:=by omega
  refine⟨aCj l ((bV (eJ l) k u).2) (by assumption) (10:Int),rfl,rfl,rfl,rfl,dd (fun c1=>?_) fun c1=>?_⟩
  ·refine⟨aMi l ((aA l ((bV (eJ l) k u).2) (10:Int)).2) (by assumption),rfl,rfl,rfl,?_⟩;refine ap ?_ (by first|omega|(simp;omega));refine⟨rfl,?_,?_,?_,trivial⟩<;>(first|(rw[yI (by rw[ek];exact c1),ek];done)|(rw[yI (by rw[ek];exact c1),ek];rfl)|(rw[yJ (by rw[ek];exact c1),ek];done)|(rw[yJ (by rw[ek];exact c1),ek];rfl))
  ·refine⟨rfl,?_,?_,?_,trivial⟩<;>(first|(rw[yI (by rw[ek];exact c1),ek];done)|(rw[yI (by rw[ek];exact c1),ek];rfl)|(rw[yJ (by rw[ek];exact c1),ek];done)|(rw[yJ (by rw[ek];exact c1),ek];rfl))
def bH (l:List Int):aQ:=(aN l (aT l)).1
def prU (l:List Int):Cu:=(aN l (aT l)).2
def fB (l:List Int):List aC:=if (bF (bH l)).2=true then (if (aA l (prU l) 2).1=0 then (bF (bH l)).1.primal else (cF l (aA l (prU l) 2).2 ((bH l).objective.length:Int)).1) else (cF l (prU l) ((bH l).objective.length:Int)).1
def bT (l:List Int):List aC:=if (bF (bH l)).2=true then (if (aA l (prU l) 2).1=0 then (bF (bH l)).1.dual else (cF l (aA l (prU l) 2).2 ((bH l).rows.length:Int)).1) else (cF l (prU l) ((bH l).rows.length:Int)).1
theorem aJI {l:List Int}(h:(bF (bH l)).2=true)(h2:(aA l (prU l) 2).1=0):fB l=(bF (bH l)).1.primal:=by rw[fB,if_pos h,if_pos h2]
theorem aJJ {l:List Int}(h:(bF (bH l)).2=true)(h2: ¬(aA l (prU l) 2).1=0):fB l=(cF l (aA l (prU l) 2).2 ((bH l).objective.length:Int)).1:=by rw[fB,if_pos h,if_neg h2]
theorem aJK {l:List Int}(h:(bF (bH l)).2=false):fB l=(cF l (prU l) ((bH l).objective.length:Int)).1:=by rw[fB,if_neg (by rw[h];decide)]
theorem aJL {l:List Int}(h:(bF (bH l)).2=true)(h2:(aA l (prU l) 2).1=0):bT l=(bF (bH l)).1.dual:=by rw[bT,if_pos h,if_pos h2]
theorem aJM {l:List Int}(h:(bF (bH l)).2=true)(h2: ¬(aA l (prU l) 2).1=0):bT l=(cF l (aA l (prU l) 2).2 ((bH l).rows.length:Int)).1:=by rw[bT,if_pos h,if_neg h2]
theorem aJN {l:List Int}(h:(bF (bH l)).2=false):bT l=(cF l (prU l) ((bH l).rows.length:Int)).1:=by rw[bT,if_neg (by rw[h];decide)]
abbrev aCw (l:List Int):AV × List (Nat × Rs):=(.agg [.own 0,.own 1,.own 2],[(0,.arr 3 1 true ((bH l).objective.map aI)),(1,.arr 24 1 true ((bH l).rows.map aZ)),(2,.arr 3 1 true ((bH l).limits.map aI))])
abbrev aGJ (l:List Int):Prop:=Cn 7 [.one (.sl 5 1 (l.map bD))] (aCw l).1 (aCw l).2
theorem aMk (l:List Int)(hl:l.length<=1048576):aGJ l:=by
 refine cq Try.func7 (aCi (pF l) []<| .callxs [.ptr 0 0] [(0,.box 84 [.p none (.sl 5 1 (l.map bD)),vI (((aT l).i:Nat):Int),vI ((aT l).h)])] [(0,400)] (.agg [.own 1,.own 2,.own 3]) [(0,.box 84 [.p none (.sl 5 1 (l.map bD)),vI (((aN l (aT l)).2.i:Nat):Int),vI ((aN l (aT l)).2.h)]),(1,.arr 3 1 true ((aN l (aT l)).1.objective.map aI)),(2,.arr 24 1 true ((aN l (aT l)).1.rows.map aZ)),(3,.arr 3 1 true ((aN l (aT l)).1.limits.map aI))]<| .fin [(0,501),(1,502),(2,503)]) (p:=Lx (l.map bD)<| yA l/\l.map bD=l.map bD/\fR Try.prog 37 [.ptr 0 0] [(0,.box 84 [.p none (.sl 5 1 (l.map bD)),vI (((aT l).i:Nat):Int),vI ((aT l).h)])] (.agg [.own 1,.own 2,.own 3]) [(0,.box 84 [.p none (.sl 5 1 (l.map bD)),vI (((aN l (aT l)).2.i:Nat):Int),vI ((aN l (aT l)).2.h)]),(1,.arr 3 1 true ((aN l (aT l)).1.objective.map aI)),(2,.arr 24 1 true ((aN l (aT l)).1.rows.map aZ)),(3,.arr 3 1 true ((aN l (aT l)).1.limits.map aI))]/\l.map bD=l.map bD/\(((aT l).i:Nat):Int)=(((aT l).i:Nat):Int)/\((aT l).h)=((aT l).h)/\(aN l (aT l)).1.objective.map aI=(bH l).objective.map aI/\(aN l (aT l)).1.rows.map aZ=(bH l).rows.map aZ/\(aN l (aT l)).1.limits.map aI=(bH l).limits.map aI/\True) (by kernel_rfl) ?_;refine lx fun n0=>?_;refine⟨aI5 l (by assumption),rfl,aFK l (aT l) (by assumption),rfl,rfl,rfl,?_,?_,?_,trivial⟩<;>(rfl)
abbrev yL (l:List Int):AV × List (Nat × Rs):=(.tup [.agg [.own 0,.own 1,.own 2],.own 7],[(0,.arr 3 1 true ((bH l).objective.map aI)),(1,.arr 24 1 true ((bH l).rows.map aZ)),(2,.arr 3 1 true ((bH l).limits.map aI)),(7,.arr 30 2 true ((fB l).map aB))])
abbrev aCx (l:List Int):Prop:=Cn 14 [.one (.sl 5 1 (l.map bD))] (yL l).1 (yL l).2
theorem aLI (l:List Int)(hl:l.length<=1048576):aCx l:=by
 refine cq Try.func14 (aCi (pF l) []<| .callxs [.ptr 0 0] [(0,.box 84 [.p none (.sl 5 1 (l.map bD)),vI (((aT l).i:Nat):Int),vI ((aT l).h)])] [(0,900)] (.agg [.own 1,.own 2,.own 3]) [(0,.box 84 [.p none (.sl 5 1 (l.map bD)),vI (((aN l (aT l)).2.i:Nat):Int),vI ((aN l (aT l)).2.h)]),(1,.arr 3 1 true ((aN l (aT l)).1.objective.map aI)),(2,.arr 24 1 true ((aN l (aT l)).1.rows.map aZ)),(3,.arr 3 1 true ((aN l (aT l)).1.limits.map aI))]<| bX (nF ((aN l (aT l)).1))<| .br (.callxs [.ptr 0 0,vI 2] [(0,.box 84 [.p none (.sl 5 1 (l.map bD)),vI (((aN l (aT l)).2.i:Nat):Int),vI ((aN l (aT l)).2.h)])] [(0,900)] (vB (decide ((aA l ((aN l (aT l)).2) (2:Int)).1=0))) [(0,.box 84 [.p none (.sl 5 1 (l.map bD)),vI (((aA l ((aN l (aT l)).2) (2:Int)).2.i:Nat):Int),vI ((aA l ((aN l (aT l)).2) (2:Int)).2.h)])]<| .lit<| .br (.fin [(0,1101),(1,1102),(2,1103),(7,1400)]) (.len ((aN l (aT l)).1.objective.length)<| .callxs [.ptr 0 0,vI (((aN l (aT l)).1.objective.length:Nat):Int)] [(0,.box 84 [.p none (.sl 5 1 (l.map bD)),vI ((((aA l ((aN l (aT l)).2) (2:Int)).2).i:Nat):Int),vI (((aA l ((aN l (aT l)).2) (2:Int)).2).h)])] [(0,900)] (.own 1) [(0,.box 84 [.p none (.sl 5 1 (l.map bD)),vI (((cF l ((aA l ((aN l (aT l)).2) (2:Int)).2) (((aN l (aT l)).1.objective.length:Nat):Int)).2.i:Nat):Int),vI ((cF l ((aA l ((aN l (aT l)).2) (2:Int)).2) (((aN l (aT l)).1.objective.length:Nat):Int)).2.h)]),(1,.arr 30 2 true (((cF l ((aA l ((aN l (aT l)).2) (2:Int)).2) (((aN l (aT l)).1.objective.length:Nat):Int)).1).map aB))]<| .fin [(0,1101),(1,1102),(2,1103),(7,3001)])) (.len ((aN l (aT l)).1.objective.length)<| .callxs [.ptr 0 0,vI (((aN l (aT l)).1.objective.length:Nat):Int)] [(0,.box 84 [.p none (.sl 5 1 (l.map bD)),vI (((aN l (aT l)).2.i:Nat):Int),vI ((aN l (aT l)).2.h)])] [(0,900)] (.own 1) [(0,.box 84 [.p none (.sl 5 1 (l.map bD)),vI (((cF l ((aN l (aT l)).2) (((aN l (aT l)).1.objective.length:Nat):Int)).2.i:Nat):Int),vI ((cF l ((aN l (aT l)).2) (((aN l (aT l)).1.objective.length:Nat):Int)).2.h)]),(1,.arr 30 2 true (((cF l ((aN l (aT l)).2) (((aN l (aT l)).1.objective.length:Nat):Int)).1).map aB))]<| .fin [(0,1101),(1,1102),(2,1103),(7,3001)])) (p:=Lx (l.map bD)<| yA l/\l.map bD=l.map bD/\fR Try.prog 37 [.ptr 0 0] [(0,.box 84 [.p none (.sl 5 1 (l.map bD)),vI (((aT l).i:Nat):Int),vI ((aT l).h)])] (.agg [.own 1,.own 2,.own 3]) [(0,.box 84 [.p none (.sl 5 1 (l.map bD)),vI (((aN l (aT l)).2.i:Nat):Int),vI ((aN l (aT l)).2.h)]),(1,.arr 3 1 true ((aN l (aT l)).1.objective.map aI)),(2,.arr 24 1 true ((aN l (aT l)).1.rows.map aZ)),(3,.arr 3 1 true ((aN l (aT l)).1.limits.map aI))]/\l.map bD=l.map bD/\(((aT l).i:Nat):Int)=(((aT l).i:Nat):Int)/\((aT l).h)=((aT l).h)/\pS ((aN l (aT l)).1)/\Bb ((bF ((aN l (aT l)).1)).2) (fR Try.prog 51 [.ptr 0 0,vI 2] [(0,.box 84 [.p none (.sl 5 1 (l.map bD)),vI (((aN l (aT l)).2.i:Nat):Int),vI ((aN l (aT l)).2.h)])] (vB (decide ((aA l ((aN l (aT l)).2) (2:Int)).1=0))) [(0,.box 84 [.p none (.sl 5 1 (l.map bD)),vI (((aA l ((aN l (aT l)).2) (2:Int)).2.i:Nat):Int),vI ((aA l ((aN l (aT l)).2) (2:Int)).2.h)])]/\(2:Int)=2/\l.map bD=l.map bD/\(((aN l (aT l)).2.i:Nat):Int)=(((aN l (aT l)).2.i:Nat):Int)/\((aN l (aT l)).2.h)=((aN l (aT l)).2.h)/\Br ((aA l ((aN l (aT l)).2) (2:Int)).1=0) ((aN l (aT l)).1.objective.map aI=(bH l).objective.map aI/\(aN l (aT l)).1.rows.map aZ=(bH l).rows.map aZ/\(aN l (aT l)).1.limits.map aI=(bH l).limits.map aI/\(((bF ((aN l (aT l)).1)).1).primal).map aB=(fB l).map aB/\True) (Lm aI ((aN l (aT l)).1.objective)/\fR Try.prog 52 [.ptr 0 0,vI (((aN l (aT l)).1.objective.length:Nat):Int)] [(0,.box 84 [.p none (.sl 5 1 (l.map bD)),vI ((((aA l ((aN l (aT l)).2) (2:Int)).2).i:Nat):Int),vI (((aA l ((aN l (aT l)).2) (2:Int)).2).h)])] (.own 1) [(0,.box 84 [.p none (.sl 5 1 (l.map bD)),vI (((cF l ((aA l ((aN l (aT l)).2) (2:Int)).2) (((aN l (aT l)).1.objective.length:Nat):Int)).2.i:Nat):Int),vI ((cF l ((aA l ((aN l (aT l)).2) (2:Int)).2) (((aN l (aT l)).1.objective.length:Nat):Int)).2.h)]),(1,.arr 30 2 true (((cF l ((aA l ((aN l (aT l)).2) (2:Int)).2) (((aN l (aT l)).1.objective.length:Nat):Int)).1).map aB))]/\(((aN l (aT l)).1.objective.length:Nat):Int)=(((aN l (aT l)).1.objective.length:Nat):Int)/\l.map bD=l.map bD/\(((aA l ((aN l (aT l)).2) (2:Int)).2.i:Nat):Int)=((((aA l ((aN l (aT l)).2) (2:Int)).2).i:Nat):Int)/\((aA l ((aN l (aT l)).2) (2:Int)).2.h)=(((aA l ((aN l (aT l)).2) (2:Int)).2).h)/\(aN l (aT l)).1.objective.map aI=(bH l).objective.map aI/\(aN l (aT l)).1.rows.map aZ=(bH l).rows.map aZ/\(aN l (aT l)).1.limits.map aI=(bH l).limits.map aI/\((cF l ((aA l ((aN l (aT l)).2) (2:Int)).2) (((aN l (aT l)).1.objective.length:Nat):Int)).1).map aB=(fB l).map aB/\True)) (Lm aI ((aN l (aT l)).1.objective)/\fR Try.prog 52 [.ptr 0 0,vI (((aN l (aT l)).1.objective.length:Nat):Int)] [(0,.box 84 [.p none (.sl 5 1 (l.map bD)),vI (((aN l (aT l)).2.i:Nat):Int),vI ((aN l (aT l)).2.h)])] (.own 1) [(0,.box 84 [.p none (.sl 5 1 (l.map bD)),vI (((cF l ((aN l (aT l)).2) (((aN l (aT l)).1.objective.length:Nat):Int)).2.i:Nat):Int),vI ((cF l ((aN l (aT l)).2) (((aN l (aT l)).1.objective.length:Nat):Int)).2.h)]),(1,.arr 30 2 true (((cF l ((aN l (aT l)).2) (((aN l (aT l)).1.objective.length:Nat):Int)).1).map aB))]/\(((aN l (aT l)).1.objective.length:Nat):Int)=(((aN l (aT l)).1.objective.length:Nat):Int)/\l.map bD=l.map bD/\(((aN l (aT l)).2.i:Nat):Int)=(((aN l (aT l)).2.i:Nat):Int)/\((aN l (aT l)).2.h)=((aN l (aT l)).2.h)/\(aN l (aT l)).1.objective.map aI=(bH l).objective.map aI/\(aN l (aT l)).1.rows.map aZ=(bH l).rows.map aZ/\(aN l (aT l)).1.limits.map aI=(bH l).limits.map aI/\((cF l ((aN l (aT l)).2) (((aN l (aT l)).1.objective.length:Nat):Int)).1).map aB=(fB l).map aB/\True)) (by kernel_rfl) ?_;refine lx fun n0=>?_;have hz:=aAY l (aT l);refine⟨aI5 l (by assumption),rfl,aFK l (aT l) (by assumption),rfl,rfl,rfl,aAq ((aN l (aT l)).1),db (fun g18=>?_) fun g18=>?_⟩
 ·refine⟨aCj l ((aN l (aT l)).2) (by assumption) (2:Int),rfl,rfl,rfl,rfl,dd (fun c0=>?_) fun c0=>?_⟩
  ·refine⟨?_,?_,?_,?_,trivial⟩<;>(first|rfl|(rw[aJI g18 c0]<;>rfl)|(rw[aJJ g18 c0]<;>rfl)|(rw[aJK g18]<;>rfl))
  ·refine⟨List.length_map _,yK l ((aA l ((aN l (aT l)).2) (2:Int)).2) (by assumption) (((aN l (aT l)).1.objective.length:Nat):Int) (by omega),rfl,rfl,rfl,rfl,?_,?_,?_,?_,trivial⟩<;>(first|rfl|(rw[aJI g18 c0]<;>rfl)|(rw[aJJ g18 c0]<;>rfl)|(rw[aJK g18]<;>rfl))
 ·refine⟨List.length_map _,yK l ((aN l (aT l)).2) (by assumption) (((aN l (aT l)).1.objective.length:Nat):Int) (by omega),rfl,rfl,rfl,rfl,?_,?_,?_,?_,trivial⟩<;>(first|rfl|(rw[aJI g18 c0]<;>rfl)|(rw[aJJ g18 c0]<;>rfl)|(rw[aJK g18]<;>rfl))
abbrev yM (l:List Int):AV × List (Nat × Rs):=(.tup [.agg [.own 0,.own 1,.own 2],.own 7],[(0,.arr 3 1 true ((bH l).objective.map aI)),(1,.arr 24 1 true ((bH l).rows.map aZ)),(2,.arr 3 1 true ((bH l).limits.map aI)),(7,.arr 30 2 true ((bT l).map aB))])
abbrev aCy (l:List Int):Prop:=Cn 15 [.one (.sl 5 1 (l.map bD))] (yM l).1 (yM l).2
theorem aLJ (l:List Int)(hl:l.length<=1048576):aCy l:=by
 refine cq Try.func15 (aCi (pF l) []<| .callxs [.ptr 0 0] [(0,.box 84 [.p none (.sl 5 1 (l.map bD)),vI (((aT l).i:Nat):Int),vI ((aT l).h)])] [(0,900)] (.agg [.own 1,.own 2,.own 3]) [(0,.box 84 [.p none (.sl 5 1 (l.map bD)),vI (((aN l (aT l)).2.i:Nat):Int),vI ((aN l (aT l)).2.h)]),(1,.arr 3 1 true ((aN l (aT l)).1.objective.map aI)),(2,.arr 24 1 true ((aN l (aT l)).1.rows.map aZ)),(3,.arr 3 1 true ((aN l (aT l)).1.limits.map aI))]<| bX (nF ((aN l (aT l)).1))<| .br (.callxs [.ptr 0 0,vI 2] [(0,.box 84 [.p none (.sl 5 1 (l.map bD)),vI (((aN l (aT l)).2.i:Nat):Int),vI ((aN l (aT l)).2.h)])] [(0,900)] (vB (decide ((aA l ((aN l (aT l)).2) (2:Int)).1=0))) [(0,.box 84 [.p none (.sl 5 1 (l.map bD)),vI (((aA l ((aN l (aT l)).2) (2:Int)).2.i:Nat):Int),vI ((aA l ((aN l (aT l)).2) (2:Int)).2.h)])]<| .lit<| .br (.fin [(0,1101),(1,1102),(2,1103),(7,1401)]) (.len ((aN l (aT l)).1.rows.length)<| .callxs [.ptr 0 0,vI (((aN l (aT l)).1.rows.length:Nat):Int)] [(0,.box 84 [.p none (.sl 5 1 (l.map bD)),vI ((((aA l ((aN l (aT l)).2) (2:Int)).2).i:Nat):Int),vI (((aA l ((aN l (aT l)).2) (2:Int)).2).h)])] [(0,900)] (.own 1) [(0,.box 84 [.p none (.sl 5 1 (l.map bD)),vI (((cF l ((aA l ((aN l (aT l)).2) (2:Int)).2) (((aN l (aT l)).1.rows.length:Nat):Int)).2.i:Nat):Int),vI ((cF l ((aA l ((aN l (aT l)).2) (2:Int)).2) (((aN l (aT l)).1.rows.length:Nat):Int)).2.h)]),(1,.arr 30 2 true (((cF l ((aA l ((aN l (aT l)).2) (2:Int)).2) (((aN l (aT l)).1.rows.length:Nat):Int)).1).map aB))]<| .fin [(0,1101),(1,1102),(2,1103),(7,3001)])) (.len ((aN l (aT l)).1.rows.length)<| .callxs [.ptr 0 0,vI (((aN l (aT l)).1.rows.length:Nat):Int)] [(0,.box 84 [.p none (.sl 5 1 (l.map bD)),vI (((aN l (aT l)).2.i:Nat):Int),vI ((aN l (aT l)).2.h)])] [(0,900)] (.own 1) [(0,.box 84 [.p none (.sl 5 1 (l.map bD)),vI (((cF l ((aN l (aT l)).2) (((aN l (aT l)).1.rows.length:Nat):Int)).2.i:Nat):Int),vI ((cF l ((aN l (aT l)).2) (((aN l (aT l)).1.rows.length:Nat):Int)).2.h)]),(1,.arr 30 2 true (((cF l ((aN l (aT l)).2) (((aN l (aT l)).1.rows.length:Nat):Int)).1).map aB))]<| .fin [(0,1101),(1,1102),(2,1103),(7,3001)])) (p:=Lx (l.map bD)<| yA l/\l.map bD=l.map bD/\fR Try.prog 37 [.ptr 0 0] [(0,.box 84 [.p none (.sl 5 1 (l.map bD)),vI (((aT l).i:Nat):Int),vI ((aT l).h)])] (.agg [.own 1,.own 2,.own 3]) [(0,.box 84 [.p none (.sl 5 1 (l.map bD)),vI (((aN l (aT l)).2.i:Nat):Int),vI ((aN l (aT l)).2.h)]),(1,.arr 3 1 true ((aN l (aT l)).1.objective.map aI)),(2,.arr 24 1 true ((aN l (aT l)).1.rows.map aZ)),(3,.arr 3 1 true ((aN l (aT l)).1.limits.map aI))]/\l.map bD=l.map bD/\(((aT l).i:Nat):Int)=(((aT l).i:Nat):Int)/\((aT l).h)=((aT l).h)/\pS ((aN l (aT l)).1)/\Bb ((bF ((aN l (aT l)).1)).2) (fR Try.prog 51 [.ptr 0 0,vI 2] [(0,.box 84 [.p none (.sl 5 1 (l.map bD)),vI (((aN l (aT l)).2.i:Nat):Int),vI ((aN l (aT l)).2.h)])] (vB (decide ((aA l ((aN l (aT l)).2) (2:Int)).1=0))) [(0,.box 84 [.p none (.sl 5 1 (l.map bD)),vI (((aA l ((aN l (aT l)).2) (2:Int)).2.i:Nat):Int),vI ((aA l ((aN l (aT l)).2) (2:Int)).2.h)])]/\(2:Int)=2/\l.map bD=l.map bD/\(((aN l (aT l)).2.i:Nat):Int)=(((aN l (aT l)).2.i:Nat):Int)/\((aN l (aT l)).2.h)=((aN l (aT l)).2.h)/\Br ((aA l ((aN l (aT l)).2) (2:Int)).1=0) ((aN l (aT l)).1.objective.map aI=(bH l).objective.map aI/\(aN l (aT l)).1.rows.map aZ=(bH l).rows.map aZ/\(aN l (aT l)).1.limits.map aI=(bH l).limits.map aI/\(((bF ((aN l (aT l)).1)).1).dual).map aB=(bT l).map aB/\True) (Lm aZ ((aN l (aT l)).1.rows)/\fR Try.prog 52 [.ptr 0 0,vI (((aN l (aT l)).1.rows.length:Nat):Int)] [(0,.box 84 [.p none (.sl 5 1 (l.map bD)),vI ((((aA l ((aN l (aT l)).2) (2:Int)).2).i:Nat):Int),vI (((aA l ((aN l (aT l)).2) (2:Int)).2).h)])] (.own 1) [(0,.box 84 [.p none (.sl 5 1 (l.map bD)),vI (((cF l ((aA l ((aN l (aT l)).2) (2:Int)).2) (((aN l (aT l)).1.rows.length:Nat):Int)).2.i:Nat):Int),vI ((cF l ((aA l ((aN l (aT l)).2) (2:Int)).2) (((aN l (aT l)).1.rows.length:Nat):Int)).2.h)]),(1,.arr 30 2 true (((cF l ((aA l ((aN l (aT l)).2) (2:Int)).2) (((aN l (aT l)).1.rows.length:Nat):Int)).1).map aB))]/\(((aN l (aT l)).1.rows.length:Nat):Int)=(((aN l (aT l)).1.rows.length:Nat):Int)/\l.map bD=l.map bD/\(((aA l ((aN l (aT l)).2) (2:Int)).2.i:Nat):Int)=((((aA l ((aN l (aT l)).2) (2:Int)).2).i:Nat):Int)/\((aA l ((aN l (aT l)).2) (2:Int)).2.h)=(((aA l ((aN l (aT l)).2) (2:Int)).2).h)/\(aN l (aT l)).1.objective.map aI=(bH l).objective.map aI/\(aN l (aT l)).1.rows.map aZ=(bH l).rows.map aZ/\(aN l (aT l)).1.limits.map aI=(bH l).limits.map aI/\((cF l ((aA l ((aN l (aT l)).2) (2:Int)).2) (((aN l (aT l)).1.rows.length:Nat):Int)).1).map aB=(bT l).map aB/\True)) (Lm aZ ((aN l (aT l)).1.rows)/\fR Try.prog 52 [.ptr 0 0,vI (((aN l (aT l)).1.rows.length:Nat):Int)] [(0,.box 84 [.p none (.sl 5 1 (l.map bD)),vI (((aN l (aT l)).2.i:Nat):Int),vI ((aN l (aT l)).2.h)])] (.own 1) [(0,.box 84 [.p none (.sl 5 1 (l.map bD)),vI (((cF l ((aN l (aT l)).2) (((aN l (aT l)).1.rows.length:Nat):Int)).2.i:Nat):Int),vI ((cF l ((aN l (aT l)).2) (((aN l (aT l)).1.rows.length:Nat):Int)).2.h)]),(1,.arr 30 2 true (((cF l ((aN l (aT l)).2) (((aN l (aT l)).1.rows.length:Nat):Int)).1).map aB))]/\(((aN l (aT l)).1.rows.length:Nat):Int)=(((aN l (aT l)).1.rows.length:Nat):Int)/\l.map bD=l.map bD/\(((aN l (aT l)).2.i:Nat):Int)=(((aN l (aT l)).2.i:Nat):Int)/\((aN l (aT l)).2.h)=((aN l (aT l)).2.h)/\(aN l (aT l)).1.objective.map aI=(bH l).objective.map aI/\(aN l (aT l)).1.rows.map aZ=(bH l).rows.map aZ/\(aN l (aT l)).1.limits.map aI=(bH l).limits.map aI/\((cF l ((aN l (aT l)).2) (((aN l (aT l)).1.rows.length:Nat):Int)).1).map aB=(bT l).map aB/\True)) (by kernel_rfl) ?_;refine lx fun n0=>?_;have hz:=aAY l (aT l);refine⟨aI5 l (by assumption),rfl,aFK l (aT l) (by assumption),rfl,rfl,rfl,aAq ((aN l (aT l)).1),db (fun g18=>?_) fun g18=>?_⟩
 ·refine⟨aCj l ((aN l (aT l)).2) (by assumption) (2:Int),rfl,rfl,rfl,rfl,dd (fun c0=>?_) fun c0=>?_⟩
  ·refine⟨?_,?_,?_,?_,trivial⟩<;>(first|rfl|(rw[aJL g18 c0]<;>rfl)|(rw[aJM g18 c0]<;>rfl)|(rw[aJN g18]<;>rfl))
  ·refine⟨List.length_map _,yK l ((aA l ((aN l (aT l)).2) (2:Int)).2) (by assumption) (((aN l (aT l)).1.rows.length:Nat):Int) (by omega),rfl,rfl,rfl,rfl,?_,?_,?_,?_,trivial⟩<;>(first|rfl|(rw[aJL g18 c0]<;>rfl)|(rw[aJM g18 c0]<;>rfl)|(rw[aJN g18]<;>rfl))
 ·refine⟨List.length_map _,yK l ((aN l (aT l)).2) (by assumption) (((aN l (aT l)).1.rows.length:Nat):Int) (by omega),rfl,rfl,rfl,rfl,?_,?_,?_,?_,trivial⟩<;>(first|rfl|(rw[aJL g18 c0]<;>rfl)|(rw[aJM g18 c0]<;>rfl)|(rw[aJN g18]<;>rfl))
def bM (r:aC):Rat:=(r.num:Rat)/(r.den:Rat)
theorem eD {d:Int}(h:d≠0):(d:Rat)≠0:=by
 intro e;exact h (by exact_mod_cast e)
theorem vP {n d:Int}:n.tdiv (Int.gcd n d)*(Int.gcd n d:Int)=n/\d.tdiv (Int.gcd n d)*(Int.gcd n d:Int)=d:=
 ⟨Int.tdiv_mul_cancel (Int.gcd_dvd_left ..),Int.tdiv_mul_cancel (Int.gcd_dvd_right ..)⟩
theorem aAr {n d:Int}(h:d≠0):((n.tdiv (Int.gcd n d):Int):Rat)/((d.tdiv (Int.gcd n d):Int):Rat)=(n:Rat)/(d:Rat):=by
 obtain⟨e1,e2⟩:=vP (n:=n) (d:=d);have g0:(Int.gcd n d:Int)≠0:=by have:=gB (n:=n) h;omega
 have d0:d.tdiv (Int.gcd n d)≠0:=by intro e;rw[e,Int.zero_mul] at e2;exact h e2.symm
 generalize n.tdiv (Int.gcd n d)=p at*;generalize d.tdiv (Int.gcd n d)=q at*;generalize (Int.gcd n d:Int)=g at*;have h1:(p:Rat)*(g:Rat)=(n:Rat):=by exact_mod_cast e1
 have h2:(q:Rat)*(g:Rat)=(d:Rat):=by exact_mod_cast e2
 have g1:=eD g0;have q1:=eD d0;have n1:=eD h
 grind
theorem sK {n d:Int}(h:(eS (aX n d)).2=true):d≠0/\aJ (eS (aX n d)).1=true/\bM (eS (aX n d)).1=(n:Rat)/(d:Rat):=by
 by_cases h0:d=0
 ·subst h0;rw[iF] at h;cases h
 refine⟨h0,?_⟩;by_cases hp:0<d
 ·rw[wL hp rfl] at h ⊢;split at h
  ·rename_i hv;rw[if_pos hv];exact⟨hv,aAr h0⟩
  cases h
 rw[wM (by omega) rfl] at h ⊢;split at h
 ·rename_i hv;rw[if_pos hv];refine⟨hv,(aAr (by omega)).trans ?_⟩;have:=eD h0;simp only[Rat.intCast_neg]
  grind
 cases h
theorem yN {k n m:Int}(h:Int.gcd k n=1)(hd:k ∣ n*m):k ∣ m:=by
 have:=Int.dvd_gcd_mul_iff_dvd_mul.2 hd
 rwa [h,Int.natCast_one,Int.one_mul] at this
theorem aAs {p q n d:Int}(h1:Int.gcd p q=1)(h2:Int.gcd n d=1)(hq:0<q)(hd:0<d)(e:p*d=n*q):p=n/\q=d:=by
 have d1:q ∣ d:=yN (n:=p) (by rw[Int.gcd_comm];exact h1) ⟨n,by rw[e,Int.mul_comm]⟩;have d2:d ∣ q:=yN (n:=n) (by rw[Int.gcd_comm];exact h2) ⟨p,by rw[<-e,Int.mul_comm]⟩;have hqd:q=d:=Int.dvd_antisymm (by omega) (by omega) d1 d2;subst hqd;exact⟨Int.eq_of_mul_eq_mul_right (by omega) e,rfl⟩
theorem aCz {n d:Int}(h:d≠0):Int.gcd (n.tdiv (Int.gcd n d)) (d.tdiv (Int.gcd n d))=1:=by
 have g0:0<Int.gcd n d:=Int.gcd_pos_of_ne_zero_right n h;rw[Int.tdiv_eq_ediv_of_dvd (Int.gcd_dvd_left ..),Int.tdiv_eq_ediv_of_dvd (Int.gcd_dvd_right ..)];exact Int.gcd_ediv_gcd_ediv_gcd g0
theorem aHO {n d p q:Int}(h0:d≠0)(hv:bW p q=true)(e:p*d=n*q):eS (aX n d)=(⟨p,q⟩,true):=by
 obtain⟨b1,b2,b3,b4,b5⟩:=tJ hv;by_cases hp:0<d
 ·obtain⟨e1,e2⟩:=vP (n:=n) (d:=d);have c:=aCz (n:=n) h0;have g0:(0:Int)<Int.gcd n d:=by have:=gB (n:=n) h0;omega
  rw[wL hp rfl];generalize n.tdiv (Int.gcd n d)=x at*;generalize d.tdiv (Int.gcd n d)=y at*;generalize (Int.gcd n d:Int)=g at*
  have hy:0<y:=by
   rcases Int.lt_trichotomy 0 y with h | h | h
   ·exact h
   ·rw[<-h,Int.zero_mul] at e2;omega
   have:=Int.mul_neg_of_neg_of_pos h g0;omega
  obtain⟨rfl,rfl⟩:=aAs b5 c (by omega) hy (by
   rw[<-e1,<-e2] at e;exact Int.eq_of_mul_eq_mul_right (a:=g) (by omega) (by rw[Int.mul_assoc,e,Int.mul_assoc,Int.mul_assoc,Int.mul_comm g]))
  rw[if_pos hv];rfl
 have h0' : -d≠0:=by omega
 obtain⟨e1,e2⟩:=vP (n:= -n) (d:= -d);have c:=aCz (n:= -n) h0';have g0:(0:Int)<Int.gcd (-n) (-d):=by have:=gB (n:= -n) h0';omega
 rw[wM (by omega) rfl];generalize (-n).tdiv (Int.gcd (-n) (-d))=x at*;generalize (-d).tdiv (Int.gcd (-n) (-d))=y at*;generalize (Int.gcd (-n) (-d):Int)=g at*
 have hy:0<y:=by
  rcases Int.lt_trichotomy 0 y with h | h | h
  ·exact h
  ·rw[<-h,Int.zero_mul] at e2;omega
  have:=Int.mul_neg_of_neg_of_pos h g0;omega
 obtain⟨rfl,rfl⟩:=aAs b5 c (by omega) hy (by
  have e' :p* -d= -n*q:=by rw[Int.mul_neg,e,Int.neg_mul]
  rw[<-e1,<-e2] at e';exact Int.eq_of_mul_eq_mul_right (a:=g) (by omega) (by rw[Int.mul_assoc,e',Int.mul_assoc,Int.mul_assoc,Int.mul_comm g]))
 rw[if_pos hv];rfl
theorem aE4 {a b:aC}(ha:aJ a=true)(hb:aJ b=true)(h:bM a=bM b):a=b:=by
 obtain⟨a1,a2,a3,a4,a5⟩:=bA ha;obtain⟨b1,b2,b3,b4,b5⟩:=bA hb;have h1:=eD (d:=a.den) (by omega);have h2:=eD (d:=b.den) (by omega);have e:(a.num:Rat)*b.den=b.num*a.den:=by unfold bM at h;grind
 have e:a.num*b.den=b.num*a.den:=by exact_mod_cast e
 have d1:a.den ∣ b.den:=by
  exact yN (n:=a.num) (by rw[Int.gcd_comm];exact a5) ⟨b.num,by rw[e,Int.mul_comm]⟩
 have d2:b.den ∣ a.den:=by
  exact yN (n:=b.num) (by rw[Int.gcd_comm];exact b5) ⟨a.num,by rw[<-e,Int.mul_comm]⟩
 have hd:a.den=b.den:=Int.dvd_antisymm (by omega) (by omega) d1 d2
 have hn:a.num=b.num:=by
  rw[hd] at e;exact Int.eq_of_mul_eq_mul_right (by omega) e
 cases a;cases b;simp_all
theorem aKk {a b:aC}(ha:aJ a=true)(hb:aJ b=true)(h:(bQ a b).2=true):aJ (bQ a b).1=true/\bM (bQ a b).1=bM a*bM b:=by
 rw[bQ,mX ha hb] at h ⊢;obtain⟨h0,h1,h2⟩:=sK h;refine⟨h1,h2.trans ?_⟩;simp only[bM,Rat.intCast_mul];have:=eD (d:=a.den) (by have:=bA ha;omega);have:=eD (d:=b.den) (by have:=bA hb;omega)
 grind
theorem aMO {a b:aC}(ha:aJ a=true)(hb:aJ b=true)(h:(cT a b).2=true):aJ (cT a b).1=true/\bM (cT a b).1=bM a+bM b:=by
 rw[cT,rC ha hb] at h ⊢;obtain⟨h0,h1,h2⟩:=sK h;refine⟨h1,h2.trans ?_⟩;simp only[bM,Rat.intCast_mul,Rat.intCast_add];have:=eD (d:=a.den) (by have:=bA ha;omega);have:=eD (d:=b.den) (by have:=bA hb;omega)
 grind
theorem aNL {a b:aC}(ha:aJ a=true)(hb:aJ b=true)(h:(iU a b).2=true):aJ (iU a b).1=true/\bM (iU a b).1=bM a - bM b:=by
 rw[iU,aAL ha hb] at h ⊢;obtain⟨h0,h1,h2⟩:=sK h;refine⟨h1,h2.trans ?_⟩;simp only[bM,Rat.intCast_mul,Rat.intCast_sub];have:=eD (d:=a.den) (by have:=bA ha;omega);have:=eD (d:=b.den) (by have:=bA hb;omega)
 grind
theorem aMP {a b:aC}(ha:aJ a=true)(hb:aJ b=true)(h:(aR a b).2=true):aJ (aR a b).1=true/\bM b≠0/\bM (aR a b).1=bM a/bM b:=by
 rw[aR,oP ha hb] at h ⊢;obtain⟨h0,h1,h2⟩:=sK h;have n0:b.num≠0:=fun e=>h0 (by rw[e,Int.mul_zero]);have:=eD n0;have:=eD (d:=a.den) (by have:=bA ha;omega);have:=eD (d:=b.den) (by have:=bA hb;omega);refine⟨h1,?_,h2.trans ?_⟩
 ·unfold bM;grind
 simp only[bM,Rat.intCast_mul]
 grind
theorem aLK {a b c:aC}(ha:aJ a=true)(hb:aJ b=true)(hc:aJ c=true)(h:(bC a b c).2=true):aJ (bC a b c).1=true/\bM (bC a b c).1=bM a - bM b*bM c:=by
 refine⟨aA5 ha h,?_⟩;unfold bC at*;split at h
 ·rename_i hz;rw[if_pos hz];rcases hz with e | e
  ·simp only[bM,e,Rat.intCast_zero];grind
  simp only[bM,e,Rat.intCast_zero];grind
 rename_i hz;rw[if_neg hz];simp only[Bool.and_eq_true] at h;have m:=aKk hb hc h.1;have s:=aNL ha m.1 h.2;rw[s.2,m.2]
theorem aMl {a b c:aC}(ha:aJ a=true)(hb:aJ b=true)(hc:aJ c=true)(h:(cK a b c).2=true):aJ (cK a b c).1=true/\bM (cK a b c).1=bM a+bM b*bM c:=by
 refine⟨aEL ha h,?_⟩;rw[aA8 ha hb hc] at h ⊢;simp only[Bool.and_eq_true] at h;have m:=aKk hb hc h.1;have s:=aMO ha m.1 h.2;rw[s.2,m.2]
theorem aMm:bM sQ=1:=by
 have:sQ=⟨1,1⟩:=rfl;simp only[bM,this,Rat.intCast_one];grind
theorem aMn:bM wO=0:=by simp only[bM,wO,Rat.intCast_zero];grind
theorem aE5 {d:aD}{i j:Nat}(h:(dJ d i j).2=true):dJ d i j=(dW d i j,true)/\(dF d i j).num≠0/\iJ d i j=true/\(nE d i j).2=true:=by
 unfold dJ at*;split at h
 ·rename_i hp;rw[if_pos hp];exact⟨rfl,hp⟩
 cases h
theorem iK {α:Type}(f:Nat->α){n k:Nat}(h:k<n)(z:α):((List.range n).map f).getD k z=f k:=by
 rw[List.getD_eq_getElem?_getD,List.getElem?_map,List.getElem?_range h];rfl
theorem aE6 {α:Type}{l:List α}{i:Nat}{y z:α}(h:i<l.length):(l.set i y).getD i z=y:=by
 rw[List.getD_eq_getElem?_getD,List.getElem?_set_self h];rfl
def Rep (q:Rat):Prop:= ∃r:aC,aJ r=true/\bM r=q
theorem aDA {r:aC}(hr:aJ r=true){n d:Int}(hd:d≠0)(h:bM r=(n:Rat)/(d:Rat)):r.num*d=n*r.den:=by
 have b:=bA hr;have h1:=eD (d:=r.den) (by omega);have h2:=eD hd;have e:(r.num:Rat)*(d:Rat)=(n:Rat)*(r.den:Rat):=by unfold bM at h;grind
 exact_mod_cast e
theorem aCM {n d:Int}(hd:d≠0)(h:Rep ((n:Rat)/(d:Rat))):(eS (aX n d)).2=true:=by
 obtain⟨r,hr,e⟩:=h;rw[aHO hd (show bW r.num r.den=true from hr) (aDA hr hd e)]
theorem aJO {a b:aC}(ha:aJ a=true)(hb:aJ b=true)(h:Rep (bM a*bM b)):(bQ a b).2=true:=by
 have h1:=bA ha;have h2:=bA hb;have c1:=eD (d:=a.den) (by omega);have c2:=eD (d:=b.den) (by omega);rw[bQ,mX ha hb];refine aCM (Int.mul_ne_zero (by omega) (by omega)) ?_
 have e:((a.num*b.num:Int):Rat)/((a.den*b.den:Int):Rat)=bM a*bM b:=by
  simp only[bM,Rat.intCast_mul];grind
 rw[e];exact h
theorem aJP {a b:aC}(ha:aJ a=true)(hb:aJ b=true)(h:Rep (bM a+bM b)):(cT a b).2=true:=by
 have h1:=bA ha;have h2:=bA hb;have c1:=eD (d:=a.den) (by omega);have c2:=eD (d:=b.den) (by omega);rw[cT,rC ha hb];refine aCM (Int.mul_ne_zero (by omega) (by omega)) ?_
 have e:((a.num*b.den+b.num*a.den:Int):Rat)/((a.den*b.den:Int):Rat)=bM a+bM b:=by
  simp only[bM,Rat.intCast_mul,Rat.intCast_add];grind
 rw[e];exact h
theorem aE7 {n d:Int}(hd:1<=d/\d<=2147483647)(hn: -2147483647<=n/\n<=2147483647):Rep ((n:Rat)/(d:Rat)):=by
 have g1:=gB (n:=n) (d:=d) (by omega);have g2:=aMJ (n:=n) (d:=d) (by omega);obtain⟨e1,e2⟩:=vP (n:=n) (d:=d);have c:=aCz (n:=n) (d:=d) (by omega);refine⟨⟨n.tdiv (Int.gcd n d),d.tdiv (Int.gcd n d)⟩,?_,aAr (by omega)⟩
 have hq:1<=d.tdiv (Int.gcd n d):=by
  rcases Int.lt_trichotomy 0 (d.tdiv (Int.gcd n d)) with h | h | h
  ·omega
  ·rw[<-h,Int.zero_mul] at e2;omega
  have:=Int.mul_neg_of_neg_of_pos h (show (0:Int)<Int.gcd n d by omega);omega
 have h1:(n.tdiv (Int.gcd n d)).natAbs<=n.natAbs:=by rw[Int.natAbs_tdiv];exact Nat.div_le_self _ _
 have h2:(d.tdiv (Int.gcd n d)).natAbs<=d.natAbs:=by rw[Int.natAbs_tdiv];exact Nat.div_le_self _ _
 simp only[aJ,bW,Bool.and_eq_true,decide_eq_true_eq];exact⟨⟨sW (by omega) (by omega),sW (by omega) (by omega)⟩,c⟩
def bJ:Nat->(Nat->Rat)->Rat
 | 0,_=>0
 | n+1,f=>bJ n f+f n
theorem bI {f g:Nat->Rat}: ∀{n:Nat},(∀k,k<n->f k=g k)->bJ n f=bJ n g
 | 0,_=>rfl
 | n+1,h=>by rw[bJ,bJ,bI (fun k hk=>h k (by omega)),h n (by omega)]
theorem nG (f g:Nat->Rat): ∀n,bJ n (fun k=>f k+g k)=bJ n f+bJ n g
 | 0=>by simp only[bJ];grind
 | n+1=>by simp only[bJ];rw[nG f g n];grind
theorem iX (c:Rat)(f:Nat->Rat): ∀n,bJ n (fun k=>c*f k)=c*bJ n f
 | 0=>by simp only[bJ];grind
 | n+1=>by simp only[bJ];rw[iX c f n];grind
theorem fO: ∀n,bJ n (fun _=>0)=0
 | 0=>rfl
 | n+1=>by rw[bJ,fO n];grind
theorem jC {f:Nat->Rat}{j:Nat}: ∀{n:Nat},j<n->bJ n f=f j+bJ n (fun k=>if k=j then 0 else f k)
 | n+1,h=>by
   simp only[bJ];by_cases e:j=n
   ·have h1:bJ n (fun k=>if k=j then 0 else f k)=bJ n f:=bI (n:=n) (f:=fun k=>if k=j then 0 else f k) (g:=f) fun k hk=>if_neg (by omega);rw[h1,if_pos e.symm,e]
    grind
   rw[jC (f:=f) (j:=j) (n:=n) (by omega),if_neg (fun q=>e q.symm)]
   grind
theorem aCN (f:Nat->Nat->Rat)(m:Nat): ∀n,bJ n (fun i=>bJ m (fun j=>f i j))=bJ m (fun j=>bJ n (fun i=>f i j))
 | 0=>by simp only[bJ];rw[fO]
 | n+1=>by
   simp only[bJ];rw[aCN f m n,<-nG]
theorem sL {f g:Nat->Rat}: ∀{n:Nat},(∀k,k<n->f k<=g k)->bJ n f<=bJ n g
 | 0,_=>by simp only[bJ];grind
 | n+1,h=>by
   simp only[bJ];have h1:=sL (n:=n) (fun k hk=>h k (by omega));have h2:=h n (by omega)
   grind
def gR (xs:List aC)(k:Nat):Rat:=bM (xs.getD k zR)
def gI (l:List Int)(k:Nat):Rat:=((l.getD k 0:Int):Rat)
theorem gX (n:Int):bM (aF n)=(n:Rat):=by
 have:aF n=⟨n,1⟩:=rfl;simp only[bM,this,Rat.intCast_one];grind
theorem aCO {n:Int}{l:List Int}{x:aC}{xs:List aC}{s:aC}:dM (n::l) (x::xs) s=if (sP n x s).2=true then dM l xs (sP n x s).1 else (zR,false):=rfl
theorem wZ (f:Nat->Rat): ∀n,bJ (n+1) f=f 0+bJ n (fun k=>f (k+1))
 | 0=>by simp only[bJ];grind
 | n+1=>by
   rw[bJ,wZ f n];simp only[bJ];grind
theorem aJQ: ∀{l:List Int} {xs:List aC} {s:aC},l.length=xs.length->(∀n∈l,aJ (aF n)=true)->(∀x∈xs,aJ x=true)->aJ s=true->(dM l xs s).2=true->
 aJ (dM l xs s).1=true/\bM (dM l xs s).1=bM s+bJ l.length (fun k=>gI l k*gR xs k)
 | [],[],s,_,_,_,hs,_=>⟨hs,by simp only[dM,List.length_nil,bJ];grind⟩
 | [],_::_,_,h,_,_,_,_=>by simp at h
 | _::_,[],_,h,_,_,_,_=>by simp at h
 | n::l,x::xs,s,h,hl,hx,hs,hd=>by
   rw[aCO] at hd ⊢;split at hd
   ·rename_i hf;rw[if_pos hf];simp only[sP,Bool.and_eq_true] at hf;have m:=aKk (hl n (by simp)) (hx x (by simp)) hf.1;have a:=aMO hs m.1 hf.2;have ih:=aJQ (s:=(sP n x s).1) (by simpa using h) (fun y hy=>hl y (by simp[hy])) (fun y hy=>hx y (by simp[hy])) a.1 hd;refine⟨ih.1,ih.2.trans ?_⟩;rw[List.length_cons,wZ];have e0:gI (n::l) 0=(n:Rat):=rfl;have e1:gR (x::xs) 0=bM x:=rfl;have e2:bM (sP n x s).1=bM s+bM (aF n)*bM x:=by rw[show (sP n x s).1=(cT s (bQ (aF n) x).1).1 from rfl,a.2,m.2]
    rw[e2,e0,e1,gX];have e3:(fun k=>gI (n::l) (k+1)*gR (x::xs) (k+1))=fun k=>gI l k*gR xs k:=rfl;rw[e3];grind
   cases hd
theorem aCP: ∀{l:List Int} {xs:List aC} {s:aC},l.length=xs.length->(∀n∈l,aJ (aF n)=true)->(∀x∈xs,aJ x=true)->aJ s=true->
 (∀k,k<l.length->Rep (gI l k*gR xs k)/\Rep (bM s+bJ (k+1) (fun k=>gI l k*gR xs k)))->(dM l xs s).2=true
 | [],[],s,_,_,_,hs,_=>rfl
 | [],_::_,_,h,_,_,_,_=>by simp at h
 | _::_,[],_,h,_,_,_,_=>by simp at h
 | n::l,x::xs,s,h,hl,hx,hs,hr=>by
   have e0:gI (n::l) 0=(n:Rat):=rfl;have e1:gR (x::xs) 0=bM x:=rfl;have r0:=hr 0 (by simp);rw[e0,e1] at r0;have f1:(bQ (aF n) x).2=true:=aJO (hl n (by simp)) (hx x (by simp)) (by rw[gX];exact r0.1);have m:=aKk (hl n (by simp)) (hx x (by simp)) f1
   have f2:(cT s (bQ (aF n) x).1).2=true:=aJP hs m.1 (by
    rw[m.2,gX];have:=r0.2;simp only[bJ,e0,e1] at this;have e:bM s+(0+(n:Rat)*bM x)=bM s+(n:Rat)*bM x:=by grind
    rw[e] at this;exact this)
   have a:=aMO hs m.1 f2;rw[aCO,if_pos (by rw[sP,f1,f2];rfl)];have e2:bM (sP n x s).1=bM s+(n:Rat)*bM x:=by rw[show (sP n x s).1=(cT s (bQ (aF n) x).1).1 from rfl,a.2,m.2,gX]
   refine aCP (by simpa using h) (fun y hy=>hl y (by simp[hy])) (fun y hy=>hx y (by simp[hy])) a.1 fun k hk=>?_;have hk' :=hr (k+1) (by simp;omega);refine⟨hk'.1,?_⟩;have:=hk'.2;rw[wZ,e0,e1] at this;rw[e2];have e3:(fun k=>gI (n::l) (k+1)*gR (x::xs) (k+1))=fun k=>gI l k*gR xs k:=rfl;rw[e3] at this;have e4:bM s+((n:Rat)*bM x+bJ (k+1) (fun k=>gI l k*gR xs k))=bM s+(n:Rat)*bM x+bJ (k+1) (fun k=>gI l k*gR xs k):=by grind
   rw[e4] at this;exact this
def eF (l:List Int)(k:Nat):Int:=l.getD k 0
def cI (d:aD)(r k:Nat):Rat:=bM (dF d r k)
def iP (d:aD)(r:Nat):Rat:=bM (d.limits.getD r zR)
def iL (d:aD)(k:Nat):Rat:=bM (d.costs.getD k zR)
def rN (d:aD)(x:Int->Rat)(r:Nat):Prop:=x (eF d.basic r)=iP d r - bJ d.others.length (fun k=>cI d r k*x (eF d.others k))
def xT (d:aD)(x:Int->Rat):Prop:= ∀r,r<d.basic.length->rN d x r
def aAt (d:aD)(x:Int->Rat):Rat:=bM d.value+bJ d.others.length (fun k=>iL d k*x (eF d.others k))
structure aNM (d:aD) (i j:Nat):Prop where
 nz:cI d i j≠0
 lim: ∀r,r<d.basic.length->iP (dW d i j) r=if r=i then iP d i/cI d i j else iP d r - cI d r j*(iP d i/cI d i j)
 cell: ∀r k,r<d.basic.length->k<d.others.length->cI (dW d i j) r k=if r=i then (if k=j then 1 else cI d i k)/cI d i j else (if k=j then 0 else cI d r k) - cI d r j*((if k=j then 1 else cI d i k)/cI d i j)
 cost: ∀k,k<d.others.length->iL (dW d i j) k=(if k=j then 0 else iL d k) - iL d j*((if k=j then 1 else cI d i k)/cI d i j)
 val:bM (dW d i j).value=bM d.value+iL d j*(iP d i/cI d i j)
theorem aMo {d:aD}{i j:Nat}(hd:bR d=true)(hi:i<d.basic.length)(hj:j<d.others.length)(h1:(dJ d i j).2=true):aNM d i j:=by
 obtain⟨_,n1,a1,v1⟩:=aE5 h1;obtain⟨_,_,b3,_,b5,b6,b7,b8⟩:=dE hd;simp only[iJ,Bool.and_eq_true] at a1;obtain⟨⟨⟨p1,p2⟩,p3⟩,p4⟩:=a1;have vcell:=pP hd hi hj;have vlim:aJ (d.limits.getD i zR)=true:=eY b6 hi;have vcost:aJ (d.costs.getD j zR)=true:=eY b7 hj
 have hp: ∀k,k<d.others.length->aJ (vL d i j k).1=true/\cI d i j≠0/\bM (vL d i j k).1=(if k=j then 1 else cI d i k)/cI d i j:=fun k hk=>by
  have f:=List.all_eq_true.1 p1 k (List.mem_range.2 hk);unfold vL at f ⊢;have vx:aJ (if k=j then sQ else dF d i k)=true:=by split;exact aHC;exact pP hd hi hk
  have q:=aMP vx vcell f;refine⟨q.1,q.2.1,q.2.2.trans ?_⟩;split
  ·rw[aMm];rfl
  rfl
 have hl:aJ (cL d i j).1=true/\bM (dF d i j)≠0/\bM (cL d i j).1=bM (d.limits.getD i zR)/bM (dF d i j):=aMP vlim vcell p2;have el:bM (cL d i j).1=iP d i/cI d i j:=hl.2.2
 have ch: ∀(l:List aC) (k:Nat),(l.length=d.others.length/\ ∀x∈l,aJ x=true)->k<d.others.length->(chX l (l.getD j zR) (dB d i j d.others.length) j k).2=true->bM (chX l (l.getD j zR) (dB d i j d.others.length) j k).1=(if k=j then 0 else bM (l.getD k zR)) - bM (l.getD j zR)*((if k=j then 1 else cI d i k)/cI d i j):=fun l k hv hk f=>by
  have e:(dB d i j d.others.length).getD k zR=(vL d i j k).1:=by rw[dB,iK _ hk]
  unfold chX at f ⊢;rw[e] at f ⊢;have vx:aJ (if k=j then wO else l.getD k zR)=true:=by split;exact aBz;exact eY hv hk
  have q:=aLK vx (eY hv hj) (hp k hk).1 f;rw[q.2,(hp k hk).2.2];split
  ·rw[aMn]
  rfl
 refine⟨hl.2.1,fun r hr=>?_,fun r k hr hk=>?_,fun k hk=>?_,?_⟩
 ·have e:(dW d i j).limits.getD r zR=sV d i j r:=by simp only[dW,eU];rw[iK _ hr]
  rw[iP,e,sV];split
  ·exact el
  rename_i hne;have ok:=List.all_eq_true.1 p3 r (List.mem_range.2 hr);rw[aA7,if_neg hne,Bool.and_eq_true] at ok;have q:=aLK (eY b6 hr) (pP hd hr hj) hl.1 ok.2;rw[show aFx d i j r=bC (d.limits.getD r zR) (dF d r j) (cL d i j).1 from rfl,q.2,el];rfl
 ·have e:(dW d i j).table.getD r []=rH d i j r:=by simp only[dW,eN];rw[iK _ hr]
  rw[cI,dF,e,rH];split
  ·rw[dB,iK _ hk];exact(hp k hk).2.2
  rename_i hne;have ok:=List.all_eq_true.1 p3 r (List.mem_range.2 hr);rw[aA7,if_neg hne,Bool.and_eq_true] at ok;have hr' :r<d.table.length:=by omega
  have hc:d.table.getD r []=d.table[r]:=by rw[List.getD_eq_getElem?_getD,List.getElem?_eq_getElem hr'];rfl
  have hv:=b5 _ (List.getElem_mem hr');rw[<-hc] at hv;rw[cY,iK _ hk,ch _ k hv hk (List.all_eq_true.1 ok.1 k (List.mem_range.2 hk))];rfl
 ·have e:(dW d i j).costs.getD k zR=(chX d.costs (d.costs.getD j zR) (dB d i j d.others.length) j k).1:=by
   simp only[dW,aCs];rw[cY,iK _ hk]
  rw[iL,e,ch d.costs k b7 hk (List.all_eq_true.1 p4 k (List.mem_range.2 hk))];rfl
 rw[show (dW d i j).value=(nE d i j).1 from rfl,nE];rw[nE] at v1;rw[(aMl b8 vcost hl.1 v1).2,el];rfl
theorem aGK {d:aD}{i j:Nat}(hd:bR d=true)(hi:i<d.basic.length)(hj:j<d.others.length)(h1:(dJ d i j).2=true)(x:Int->Rat):(xT (dW d i j) x↔xT d x)/\(xT d x->aAt (dW d i j) x=aAt d x):=by
 obtain⟨nz,lim,cell,cost,val⟩:=aMo hd hi hj h1;have hb:(dW d i j).basic.length=d.basic.length:=by simp[dW]
 have ho:(dW d i j).others.length=d.others.length:=by simp[dW]
 have bi:eF (dW d i j).basic i=eF d.others j:=by simp only[eF,dW];exact aE6 hi
 have br: ∀r,¬r=i->eF (dW d i j).basic r=eF d.basic r:=fun r hr=>by
  simp only[eF,dW,List.getD_eq_getElem?_getD];rw[List.getElem?_set_ne (fun e=>hr e.symm)]
 have oj:eF (dW d i j).others j=eF d.basic i:=by simp only[eF,dW];exact aE6 hj
 have ok: ∀k,¬k=j->eF (dW d i j).others k=eF d.others k:=fun k hk=>by
  simp only[eF,dW,List.getD_eq_getElem?_getD];rw[List.getElem?_set_ne (fun e=>hk e.symm)]
 generalize hn:d.others.length=n at*;generalize ha:cI d i j=a at*;generalize hL:iP d i=L at*;generalize hxb:x (eF d.basic i)=xb at*;generalize hxj:x (eF d.others j)=xj at*
 have sp: ∀(f g:Nat->Rat),f j=g j->(∀k,k<n-> ¬k=j->f k=g k)->bJ n f=bJ n g:=fun f g h0 h=>bI fun k hk=>by
  by_cases e:k=j
  ·rw[e,h0]
  exact h k hk e
 let R:=bJ n (fun k=>if k=j then 0 else cI d i k*x (eF d.others k))
 have oldRow: ∀r,bJ n (fun k=>cI d r k*x (eF d.others k))=cI d r j*xj+bJ n (fun k=>if k=j then 0 else cI d r k*x (eF d.others k)):=fun r=>by
  rw[jC (j:=j) hj,hxj]
 have newRowI:bJ n (fun k=>cI (dW d i j) i k*x (eF (dW d i j).others k))=1/a*xb+1/a*R:=by
  rw[jC (j:=j) hj,oj,hxb,cell i j hi (by omega),if_pos rfl,if_pos rfl,<-iX]
  congr 1
  refine bI fun k hk=>?_;by_cases e:k=j
  ·rw[if_pos e,if_pos e];grind
  rw[if_neg e,if_neg e,ok k e,cell i k hi (by omega),if_pos rfl,if_neg e];grind
 have newRowR: ∀r,r<d.basic.length-> ¬r=i->bJ n (fun k=>cI (dW d i j) r k*x (eF (dW d i j).others k))=(0 - cI d r j*(1/a))*xb+(bJ n (fun k=>if k=j then 0 else cI d r k*x (eF d.others k))+(0 - cI d r j/a)*R):=fun r hr hne=>by
  rw[jC (j:=j) hj,oj,hxb,cell r j hr (by omega),if_neg hne,if_pos rfl,if_pos rfl,<-iX,<-nG]
  congr 1
  refine bI fun k hk=>?_;by_cases e:k=j
  ·rw[if_pos e,if_pos e,if_pos e];grind
  rw[if_neg e,if_neg e,if_neg e,ok k e,cell r k hr (by omega),if_neg hne,if_neg e,if_neg e];grind
 have eI:rN (dW d i j) x i↔rN d x i:=by
  unfold rN;rw[ho,bi,hxj,hxb,hL,newRowI,lim i hi,if_pos rfl,hn,oldRow i,ha];constructor<;>intro h<;>grind
 have eR:rN d x i-> ∀r,r<d.basic.length-> ¬r=i->(rN (dW d i j) x r↔rN d x r):=fun h0 r hr hne=>by
  unfold rN at h0 ⊢;rw[ho,br r hne,newRowR r hr hne,lim r hr,if_neg hne,hn,oldRow r];rw[hxb,hL,hn,oldRow i,ha] at h0;constructor<;>intro h<;>grind
 refine⟨⟨fun h r hr=>?_,fun h r hr=>?_⟩,fun h=>?_⟩
 ·have h0:=eI.1 (h i (by omega));by_cases e:r=i
  ·rw[e];exact h0
  exact(eR h0 r hr e).1 (h r (by omega))
 ·rw[hb] at hr;by_cases e:r=i
  ·rw[e];exact eI.2 (h i hi)
  exact(eR (h i hi) r hr e).2 (h r hr)
 have h0:=h i hi;unfold rN at h0;rw[hxb,hL,hn,oldRow i,ha] at h0
 have newC:bJ n (fun k=>iL (dW d i j) k*x (eF (dW d i j).others k))=(0 - iL d j*(1/a))*xb+(bJ n (fun k=>if k=j then 0 else iL d k*x (eF d.others k))+(0 - iL d j/a)*R):=by
  rw[jC (j:=j) hj,oj,hxb,cost j (by omega),if_pos rfl,if_pos rfl,<-iX,<-nG]
  congr 1
  refine bI fun k hk=>?_;by_cases e:k=j
  ·rw[if_pos e,if_pos e,if_pos e];grind
  rw[if_neg e,if_neg e,if_neg e,ok k e,cost k (by omega),if_neg e,if_neg e];grind
 have oldC:bJ n (fun k=>iL d k*x (eF d.others k))=iL d j*xj+bJ n (fun k=>if k=j then 0 else iL d k*x (eF d.others k)):=by
  rw[jC (j:=j) hj,hxj]
 unfold aAt;rw[ho,newC,val,hn,oldC]
 grind
theorem aAu {d:Int}(h:1<=d):(0:Rat)<(d:Rat):=by
 have:((0:Int):Rat)<(d:Rat):=Rat.intCast_lt_intCast.2 (by omega);simpa using this
theorem aGL {a b:aC}(ha:aJ a=true)(hb:aJ b=true):bM a<bM b↔a.num*b.den<b.num*a.den:=by
 have h1:=bA ha;have h2:=bA hb;have p1:=aAu (d:=a.den) h1.1;have p2:=aAu (d:=b.den) h2.1;unfold bM;rw[Rat.div_lt_iff p1]
 have e:(b.num:Rat)/(b.den:Rat)*(a.den:Rat)=((b.num*a.den:Int):Rat)/(b.den:Rat):=by
  simp only[Rat.intCast_mul];have:=eD (d:=b.den) (by omega)
  grind
 rw[e,Rat.lt_div_iff p2,<-Rat.intCast_mul,Rat.intCast_lt_intCast]
theorem xO {a b:aC}(ha:aJ a=true)(hb:aJ b=true):(bK a b<0↔bM a<bM b)/\(0<bK a b↔bM b<bM a):=by
 rw[bK,mY ha hb,aGL ha hb,aGL hb ha];split
 ·exact⟨by omega,by omega⟩
 split
 ·exact⟨by omega,by omega⟩
 exact⟨by omega,by omega⟩
theorem pT {a:aC}(ha:aJ a=true):(0<a.num↔0<bM a)/\(a.num<0↔bM a<0):=by
 have h1:=bA ha;have p1:=aAu (d:=a.den) h1.1;unfold bM;rw[Rat.lt_div_iff p1,Rat.div_lt_iff p1];have e:(0:Rat)*(a.den:Rat)=((0:Int):Rat):=by rw[Rat.zero_mul];rfl
 rw[e,Rat.intCast_lt_intCast,Rat.intCast_lt_intCast];exact⟨Iff.rfl,Iff.rfl⟩
theorem aGM {d:aD}(h:bR d=true){r:Nat}(hr:r<d.basic.length):aJ (d.limits.getD r zR)=true:=by
 obtain⟨_,_,_,_,_,b6,_,_⟩:=dE h;exact eY b6 hr
def aNN (d:aD)(j k:Nat)(b:Int)(l:aC):Prop:=
 (b<0-> ∀r,r<k->cI d r j<=0)/\(0<=b->b<k/\0<cI d b.toNat j/\aJ l=true/\bM l=iP d b.toNat/cI d b.toNat j/\ ∀r,r<k->0<cI d r j->bM l<=iP d r/cI d r j)
theorem sM {d:aD}(hd:bR d=true){j:Nat}(hj:j<d.others.length): ∀(f k:Nat) (b:Int) (l:aC),k+f=d.basic.length->aNN d j k b l->
 cU d j f k b l<0\/(cU d j f k b l<d.basic.length/\0<cI d (cU d j f k b l).toNat j/\ ∀r,r<d.basic.length->0<cI d r j->iP d (cU d j f k b l).toNat/cI d (cU d j f k b l).toNat j<=iP d r/cI d r j)
 | 0,k,b,l,hk,hI=>by
   rw[cU];by_cases hb:b<0
   ·exact .inl hb
   obtain⟨h1,h2,h3,h4,h5⟩:=hI.2 (by omega);refine .inr ⟨by omega,h2,fun r hr hp=>?_⟩;rw[<-h4];exact h5 r (by omega) hp
 | f+1,k,b,l,hk,hI=>by
   have hkm:k<d.basic.length:=by omega
   have vc:=pP hd hkm hj;have vl:=aGM hd hkm;rw[cU];split
   ·rename_i h0;refine sM hd hj f (k+1) b l (by omega) ⟨fun hb r hr=>?_,fun hb=>?_⟩
    ·by_cases e:r=k
     ·rw[e];have:=(pT vc).1;have: ¬0<bM (dF d k j):=fun q=>by have:=(pT vc).1.2 q;omega
      show bM (dF d k j)<=0
      grind
     exact hI.1 hb r (by omega)
    obtain⟨h1,h2,h3,h4,h5⟩:=hI.2 hb;refine⟨by omega,h2,h3,h4,fun r hr hp=>?_⟩;by_cases e:r=k
    ·rw[e] at hp;have:=(pT vc).1.2 hp;omega
    exact h5 r (by omega) hp
   rename_i h0;have pc:0<cI d k j:=(pT vc).1.1 (by omega);split
   ·exact .inl (by decide)
   rename_i h1;have h1:(aR (d.limits.getD k zR) (dF d k j)).2=true:=by simpa using h1
   have q:=aMP vl vc h1;have eq:bM (aR (d.limits.getD k zR) (dF d k j)).1=iP d k/cI d k j:=q.2.2;split
   ·rename_i h2;refine sM hd hj f (k+1) k _ (by omega) ⟨fun hb=>by omega,fun _=>⟨by omega,by simpa using pc,q.1,by simpa using eq,fun r hr hp=>?_⟩⟩;rw[eq];by_cases e:r=k
    ·rw[e];grind
    simp only[iI,Bool.or_eq_true,Bool.and_eq_true,decide_eq_true_eq] at h2;rcases h2 with h2 | h2
    ·have:=hI.1 h2 r (by omega)
     grind
    by_cases hb:b<0
    ·have:=hI.1 hb r (by omega)
     grind
    obtain⟨g1,g2,g3,g4,g5⟩:=hI.2 (by omega);have:=g5 r (by omega) hp;have cv:=xO q.1 g3
    have: ¬bM l<bM (aR (d.limits.getD k zR) (dF d k j)).1:=fun z=>by
     have:=cv.2.2 z;rcases h2 with h2 | h2<;>omega
    rw[eq] at this
    grind
   rename_i h2;simp only[iI,Bool.or_eq_true,Bool.and_eq_true,decide_eq_true_eq,not_or] at h2;obtain⟨hb,hc,_⟩:=h2;refine sM hd hj f (k+1) b l (by omega) ⟨fun hb' =>by omega,fun _=>?_⟩;obtain⟨g1,g2,g3,g4,g5⟩:=hI.2 (by omega);refine⟨by omega,g2,g3,g4,fun r hr hp=>?_⟩;by_cases e:r=k
   ·have cv:=xO q.1 g3;have: ¬bM (aR (d.limits.getD k zR) (dF d k j)).1<bM l:=fun z=>hc (cv.1.2 z);rw[e,<-eq];grind
   exact g5 r (by omega) hp
theorem aJR {d:aD}(hd:bR d=true){j:Nat}(hj:j<d.others.length)(h: ¬dT d j<0):dT d j<d.basic.length/\0<cI d (dT d j).toNat j/\ ∀r,r<d.basic.length->0<cI d r j->iP d (dT d j).toNat/cI d (dT d j).toNat j<=iP d r/cI d r j:=by
 rcases sM hd hj d.basic.length 0 (-1) zR (by omega) ⟨fun _ r hr=>by omega,fun h=>by omega⟩ with q | q
 ·exact absurd q h
 exact q
theorem aJS {d:aD}{i j:Nat}(hd:bR d=true)(hi:i<d.basic.length)(hj:j<d.others.length)(h1:(dJ d i j).2=true)(hc:0<cI d i j)(hm: ∀r,r<d.basic.length->0<cI d r j->iP d i/cI d i j<=iP d r/cI d r j)
 (h0: ∀r,r<d.basic.length->0<=iP d r): ∀r,r<d.basic.length->0<=iP (dW d i j) r:=by
 intro r hr;rw[(aMo hd hi hj h1).lim r hr]
 have q0:0<=iP d i/cI d i j:=by
  have:=h0 i hi;rw[Rat.div_def];exact Rat.mul_nonneg this (by have:=Rat.inv_pos.2 hc;grind)
 split
 ·exact q0
 by_cases hp:0<cI d r j
 ·have h2:=hm r hr hp;have h3:=Rat.mul_le_mul_of_nonneg_left (c:=cI d r j) h2 (by grind);have h4:cI d r j*(iP d r/cI d r j)=iP d r:=by grind
  grind
 have h3:0<=(- cI d r j)*(iP d i/cI d i j):=Rat.mul_nonneg (by grind) q0;have:=h0 r hr
 grind
structure lT (d0 d:aD):Prop where
 ok:bR d=true
 m:d.basic.length=d0.basic.length
 n:d.others.length=d0.others.length
 sat: ∀x,xT d x↔xT d0 x
 obj: ∀x,xT d x->aAt d x=aAt d0 x
 lim: ∀r,r<d.basic.length->0<=iP d r
theorem aJT {d:aD}(h: ¬cZ d<0):(cZ d).toNat<d.others.length:=by
 have:=oR d d.others.length;have e:cZ d=gH d d.others.length:=rfl;omega
theorem aE8 {d0:aD}: ∀(f:Nat) (d e:aD),lT d0 d->eG f d=(e,true)->lT d0 e/\cZ e<0
 | 0,d,e,h,hs=>by rw[eG] at hs;cases hs
 | f+1,d,e,h,hs=>by
   rw[eG] at hs;split at hs
   ·rename_i he;injection hs with h1 h2
    subst h1;exact⟨h,he⟩
   rename_i he;split at hs
   ·cases hs
   rename_i hl;split at hs
   ·rename_i hp;have hj:=aJT he;obtain⟨l1,l2,l3⟩:=aJR h.ok hj hl;have hi:(dT d (cZ d).toNat).toNat<d.basic.length:=by omega
    obtain⟨g1,g2,g3,g4⟩:=aE5 hp;have nd:(dJ d (dT d (cZ d).toNat).toNat (cZ d).toNat).1=dW d (dT d (cZ d).toNat).toNat (cZ d).toNat:=by rw[g1]
    rw[nd] at hs;refine aE8 f _ e ⟨aFz h.ok hi hj g3 g4,by simp only[dW,List.length_set];exact h.m,by simp only[dW,List.length_set];exact h.n,fun x=>(aGK h.ok hi hj hp x).1.trans (h.sat x),fun x hx=>?_,fun r hr=>?_⟩ hs
    ·have q:=aGK h.ok hi hj hp x;have hx' :=q.1.1 hx;rw[q.2 hx',h.obj x hx']
    simp only[dW,List.length_set] at hr;exact aJS h.ok hi hj hp l2 l3 h.lim r hr
   cases hs
theorem aCQ {d:aD}(hd:bR d=true): ∀{n:Nat},n<=d.others.length->gH d n<0-> ∀k,k<n->iL d k<=0
 | 0,_,_,k,hk=>by omega
 | n+1,hn,h,k,hk=>by
   rw[gH] at h;split at h
   ·omega
   rename_i hb;by_cases e:k=n
   ·rw[e];simp only[rG,Bool.and_eq_true,Bool.or_eq_true,decide_eq_true_eq,not_and,not_or] at hb;obtain⟨_,_,_,_,_,_,b7,_⟩:=dE hd;have vc:aJ (d.costs.getD n zR)=true:=eY b7 (by omega);have: ¬0<bM (d.costs.getD n zR):=fun q=>(hb ((pT vc).1.2 q)).1 h;show bM (d.costs.getD n zR)<=0
    grind
   exact aCQ hd (by omega) h k (by omega)
def pA (p:aQ)(r k:Nat):Int:=(p.rows.getD r []).getD k 0
def pB (p:aQ)(r:Nat):Int:=p.limits.getD r 0
def pC (p:aQ)(k:Nat):Int:=p.objective.getD k 0
theorem rO {α β:Type}(f:α->β){l:List α}{k:Nat}(h:k<l.length)(z:β)(z' :α):(l.map f).getD k z=f (l.getD k z'):=by
 simp only[List.getD_eq_getElem?_getD,List.getElem?_map,List.getElem?_eq_getElem h];rfl
theorem fJ (p:aQ)(hp:aW p=true):(cH p).basic.length=p.rows.length/\(cH p).others.length=p.objective.length/\
 (∀r,r<p.rows.length->eF (cH p).basic r=((p.objective.length+r:Nat):Int))/\(∀k,k<p.objective.length->eF (cH p).others k=(k:Int))/\
 (∀r k,r<p.rows.length->k<p.objective.length->cI (cH p) r k=((pA p r k:Int):Rat))/\(∀r,r<p.rows.length->iP (cH p) r=((pB p r:Int):Rat))/\
 (∀k,k<p.objective.length->iL (cH p) k=((pC p k:Int):Rat))/\bM (cH p).value=0:=by
 obtain⟨q1,q2,q3,q4,q5⟩:=cP hp;refine⟨by simp[cH],by simp[cH],fun r hr=>?_,fun k hk=>?_,fun r k hr hk=>?_,fun r hr=>?_,fun k hk=>?_,?_⟩
 ·simp only[eF,cH];rw[iK _ hr]
 ·simp only[eF,cH,upto];rw[iK _ hk]
 ·have hrow:k<(p.rows.getD r []).length:=by
   have:p.rows.getD r []=p.rows[r]:=by rw[List.getD_eq_getElem?_getD,List.getElem?_eq_getElem hr];rfl
   rw[this,(q4 _ (List.mem_append_left _ (List.getElem_mem hr))).1];exact hk
  simp only[cI,dF,cH];rw[rO (List.map aF) hr [] [],rO aF hrow zR 0,gX];rfl
 ·simp only[iP,cH];rw[rO aF (by omega) zR 0,gX];rfl
 ·simp only[iL,cH];rw[rO aF hk zR 0,gX];rfl
 show bM (aF 0)=0;rw[gX];rfl
theorem rP {p:aQ}(hp:aW p=true)(x:Int->Rat):(xT (cH p) x↔ ∀r,r<p.rows.length->x ((p.objective.length+r:Nat):Int)=((pB p r:Int):Rat) - bJ p.objective.length (fun k=>((pA p r k:Int):Rat)*x (k:Int)))/\
 aAt (cH p) x=bJ p.objective.length (fun k=>((pC p k:Int):Rat)*x (k:Int)):=by
 obtain⟨h1,h2,h3,h4,h5,h6,h7,h8⟩:=fJ p hp;refine⟨?_,?_⟩
 ·unfold xT rN;rw[h1,h2];have key: ∀r,r<p.rows.length->bJ p.objective.length (fun k=>cI (cH p) r k*x (eF (cH p).others k))=bJ p.objective.length (fun k=>((pA p r k:Int):Rat)*x (k:Int)):=fun r hr=>bI fun k hk=>by rw[h5 r k hr hk,h4 k hk]
  constructor
  ·intro h r hr;have:=h r hr
   rwa [h3 r hr,h6 r hr,key r hr] at this
  intro h r hr;rw[h3 r hr,h6 r hr,key r hr];exact h r hr
 unfold aAt;rw[h2,h8,bI (g:=fun k=>((pC p k:Int):Rat)*x (k:Int)) fun k hk=>by rw[h7 k hk,h4 k hk]]
 grind
theorem aKl {p:aQ}(hp:aW p=true):lT (cH p) (cH p):=by
 obtain⟨h1,h2,h3,h4,h5,h6,h7,h8⟩:=fJ p hp;obtain⟨q1,q2,q3,q4,q5⟩:=cP hp;refine⟨aA9 hp,rfl,rfl,fun _=>Iff.rfl,fun _ _=>rfl,fun r hr=>?_⟩;rw[h1] at hr;rw[h6 r hr]
 have hb:pB p r∈p.limits:=by
  rw[pB,List.getD_eq_getElem?_getD,List.getElem?_eq_getElem (by omega)];exact List.getElem_mem _
 have:=(q5 _ hb).1;have z:((0:Int):Rat)<=((pB p r:Int):Rat):=Rat.intCast_le_intCast.2 this;simpa using z
theorem lU {f:Nat->Rat}{n j:Nat}(hj:j<n)(h: ∀k,k<n-> ¬k=j->f k=0):bJ n f=f j:=by
 rw[jC (j:=j) hj,bI (g:=fun _=>0) fun k hk=>?_,fO]
 ·grind
 by_cases e:k=j
 ·rw[if_pos e]
 rw[if_neg e];exact h k hk e
theorem aFU (n:Nat):(upto n).Nodup:=by
 rw[upto,List.nodup_iff_pairwise_ne,List.pairwise_map];exact List.Pairwise.imp (fun h e=>h (by exact_mod_cast e)) (List.nodup_iff_pairwise_ne.1 List.nodup_range)
theorem aCR {l:List Int}(h:l.Nodup){i j:Nat}(hi:i<l.length)(hj:j<l.length)(e:l[i]=l[j]):i=j:=by
 rw[List.nodup_iff_pairwise_ne,List.pairwise_iff_getElem] at h;rcases Nat.lt_trichotomy i j with q | q | q
 ·exact absurd e (h i j hi hj q)
 ·exact q
 exact absurd e.symm (h j i hj hi q)
structure aKm (d:aD):Prop where
 bb: ∀r s,r<d.basic.length->s<d.basic.length->eF d.basic r=eF d.basic s->r=s
 oo: ∀k j,k<d.others.length->j<d.others.length->eF d.others k=eF d.others j->k=j
 bo: ∀r k,r<d.basic.length->k<d.others.length->eF d.basic r≠eF d.others k
 b0: ∀r,r<d.basic.length->0<=eF d.basic r/\eF d.basic r<d.basic.length+d.others.length
 o0: ∀k,k<d.others.length->0<=eF d.others k/\eF d.others k<d.basic.length+d.others.length
theorem nW {l:List Int}{k:Nat}(h:k<l.length):eF l k=l[k]:=by rw[eF,List.getD_eq_getElem?_getD,List.getElem?_eq_getElem h];rfl
theorem mF {d:aD}(h:bR d=true):aKm d:=by
 obtain⟨_,_,_,hp,_⟩:=dE h;have hn:(d.basic++d.others).Nodup:=(rF hp).nodup_iff.2 (aFU _);obtain⟨n1,n2,n3⟩:=List.nodup_append.1 hn;obtain⟨f1,f2⟩:=wQ h;refine⟨fun r s hr hs e=>?_,fun k j hk hj e=>?_,fun r k hr hk e=>?_,fun r hr=>?_,fun k hk=>?_⟩
 ·rw[nW hr,nW hs] at e;exact aCR n1 hr hs e
 ·rw[nW hk,nW hj] at e;exact aCR n2 hk hj e
 ·rw[nW hr,nW hk] at e;exact n3 _ (List.getElem_mem hr) _ (List.getElem_mem hk) e
 ·rw[nW hr];exact f1 _ (List.getElem_mem hr)
 rw[nW hk];exact f2 _ (List.getElem_mem hk)
def asg (d:aD)(y:Nat->Rat)(v:Int):Rat:=bJ d.others.length (fun k=>if eF d.others k=v then y k else 0)+bJ d.basic.length (fun r=>if eF d.basic r=v then iP d r - bJ d.others.length (fun k=>cI d r k*y k) else 0)
theorem aGN {d:aD}(h:bR d=true)(y:Nat->Rat){k:Nat}(hk:k<d.others.length):asg d y (eF d.others k)=y k:=by
 have v:=mF h;rw[asg,lU hk (fun j hj hne=>if_neg (fun e=>hne (v.oo j k hj hk e))),if_pos rfl,bI (g:=fun _=>0) (fun r hr=>if_neg (v.bo r k hr hk)),fO]
 grind
theorem aMp {d:aD}(h:bR d=true)(y:Nat->Rat){r:Nat}(hr:r<d.basic.length):asg d y (eF d.basic r)=iP d r - bJ d.others.length (fun k=>cI d r k*y k):=by
 have v:=mF h;rw[asg,lU hr (fun s hs hne=>if_neg (fun e=>hne (v.bb s r hs hr e))),if_pos rfl,bI (g:=fun _=>0) (fun k hk=>if_neg (fun e=>v.bo r k hr hk e.symm)),fO]
 grind
theorem yO {d:aD}(h:bR d=true)(y:Nat->Rat):xT d (asg d y):=fun r hr=>by
 rw[rN,aMp h y hr,bI (g:=fun k=>cI d r k*asg d y (eF d.others k)) fun k hk=>by rw[aGN h y hk]]
def bas (d:aD):Int->Rat:=asg d (fun _=>0)
theorem aLL (d:aD)(v:Int):bas d v=bJ d.basic.length (fun r=>if eF d.basic r=v then iP d r else 0):=by
 rw[bas,asg,bI (n:=d.others.length) (g:=fun _=>0) (fun k hk=>by split<;>rfl),fO];rw[bI (n:=d.basic.length) (g:=fun r=>if eF d.basic r=v then iP d r else 0)]
 ·grind
 intro r hr;rw[bI (g:=fun _=>0) (fun k hk=>by grind),fO];split
 ·grind
 rfl
section
variable {p:aQ} {d:aD}
def mT (p:aQ)(d:aD)(t k:Nat):Int:=if eF d.others t<p.objective.length then (if eF d.others t=(k:Int) then 1 else 0) else pA p (eF d.others t - p.objective.length).toNat k
def rT (p:aQ)(d:aD)(t:Nat):Int:=if eF d.others t<p.objective.length then 0 else pB p (eF d.others t - p.objective.length).toNat
def nH (p:aQ)(d:aD)(t:Nat):Rat:=if eF d.others t<p.objective.length then iL d t else - iL d t
theorem aNO {t:Nat}(h:eF d.others t<p.objective.length)(x:Int->Rat)(h0:0<=eF d.others t):bJ p.objective.length (fun k=>((mT p d t k:Int):Rat)*x (k:Int))=x (eF d.others t):=by
 have e:eF d.others t=(((eF d.others t).toNat:Nat):Int):=by omega
 rw[lU (j:=(eF d.others t).toNat) (by omega) fun k hk hne=>?_]
 ·rw[mT,if_pos h,if_pos e,<-e];simp only[Rat.intCast_one];grind
 rw[mT,if_pos h,if_neg (by omega)];simp only[Rat.intCast_zero];grind
theorem aNP {t:Nat}(h: ¬eF d.others t<p.objective.length)(x:Int->Rat):bJ p.objective.length (fun k=>((mT p d t k:Int):Rat)*x (k:Int))=bJ p.objective.length (fun k=>((pA p (eF d.others t - p.objective.length).toNat k:Int):Rat)*x (k:Int)):=bI fun k hk=>by rw[mT,if_neg h]
theorem aLM (hp:aW p=true)(hD:lT (cH p) d){x:Int->Rat}(hx:xT d x){t:Nat}(ht:t<p.objective.length):
 bJ p.objective.length (fun k=>((mT p d t k:Int):Rat)*x (k:Int))=if eF d.others t<p.objective.length then x (eF d.others t) else ((rT p d t:Int):Rat) - x (eF d.others t):=by
 obtain⟨h1,h2,_⟩:=fJ p hp;have hn:d.others.length=p.objective.length:=hD.n.trans h2;have hm:d.basic.length=p.rows.length:=hD.m.trans h1;have v:=(mF hD.ok).o0 t (by omega);split
 ·rename_i hv;exact aNO hv x v.1
 rename_i hv;rw[aNP hv x,rT,if_neg hv];have hr:(eF d.others t - p.objective.length).toNat<p.rows.length:=by omega
 have:=(rP hp x).1.1 ((hD.sat x).1 hx) _ hr;rw[show ((p.objective.length+(eF d.others t - p.objective.length).toNat:Nat):Int)=eF d.others t by omega] at this
 grind
theorem eqP (hp:aW p=true)(hD:lT (cH p) d){t:Nat}(ht:t<p.objective.length):bJ p.objective.length (fun k=>((mT p d t k:Int):Rat)*bas d (k:Int))=((rT p d t:Int):Rat):=by
 obtain⟨h1,h2,_⟩:=fJ p hp;have hn:d.others.length=p.objective.length:=hD.n.trans h2;have e:bas d (eF d.others t)=0:=aGN hD.ok _ (by omega);refine(aLM hp hD (x:=bas d) (yO hD.ok _) ht).trans ?_;rw[e];split
 ·rename_i hv;rw[rT,if_pos hv];rfl
 grind
def wT (d:aD)(s:Nat)(k:Nat):Rat:=asg d (fun j=>if j=s then 1 else 0) (k:Int) - bas d (k:Int)
theorem eqW (hp:aW p=true)(hD:lT (cH p) d){t s:Nat}(ht:t<p.objective.length)(hs:s<p.objective.length):bJ p.objective.length (fun k=>((mT p d t k:Int):Rat)*wT d s k)=if t=s then (if eF d.others t<p.objective.length then 1 else -1) else 0:=by
 obtain⟨h1,h2,_⟩:=fJ p hp;have hn:d.others.length=p.objective.length:=hD.n.trans h2;have e1:=aLM hp hD (yO hD.ok (fun j=>if j=s then 1 else 0)) ht;have e2:=eqP hp hD ht
 have e3:bJ p.objective.length (fun k=>((mT p d t k:Int):Rat)*wT d s k)=bJ p.objective.length (fun k=>((mT p d t k:Int):Rat)*asg d (fun j=>if j=s then 1 else 0) (k:Int))+(-1)*bJ p.objective.length (fun k=>((mT p d t k:Int):Rat)*bas d (k:Int)):=by
  rw[<-iX,<-nG];exact bI fun k hk=>by rw[wT];grind
 rw[e3,e1,e2,aGN hD.ok _ (show t<d.others.length by omega)];by_cases hv:eF d.others t<p.objective.length
 ·rw[if_pos hv,if_pos hv,rT,if_pos hv];split
  ·simp only[Rat.intCast_zero];grind
  simp only[Rat.intCast_zero];grind
 rw[if_neg hv,if_neg hv];split
 ·grind
 grind
def std (p:aQ)(y:Nat->Rat)(v:Int):Rat:=if v<p.objective.length then y v.toNat else ((pB p (v - p.objective.length).toNat:Int):Rat) - bJ p.objective.length (fun k=>((pA p (v - p.objective.length).toNat k:Int):Rat)*y k)
theorem aGO (hp:aW p=true)(hD:lT (cH p) d)(y:Nat->Rat):xT d (std p y)/\aAt d (std p y)=bJ p.objective.length (fun k=>((pC p k:Int):Rat)*y k):=by
 have hs:xT (cH p) (std p y):=(rP hp _).1.2 fun r hr=>by
  rw[std,if_neg (by omega),show (((p.objective.length+r:Nat):Int) - p.objective.length).toNat=r by omega]
  congr 1
  exact bI fun k hk=>by rw[std,if_pos (by omega)];rfl
 have hd:=(hD.sat _).2 hs;refine⟨hd,?_⟩;rw[hD.obj _ hd,(rP hp _).2];exact bI fun k hk=>by rw[std,if_pos (by omega)];rfl
theorem eqV (hp:aW p=true)(hD:lT (cH p) d):bM d.value=bJ p.objective.length (fun t=>nH p d t*((rT p d t:Int):Rat)):=by
 obtain⟨h1,h2,_⟩:=fJ p hp;have hn:d.others.length=p.objective.length:=hD.n.trans h2;have h:=(aGO hp hD (fun _=>0)).2;rw[bI (g:=fun _=>0) (fun k hk=>by grind),fO,aAt,hn] at h
 have e:bJ p.objective.length (fun k=>iL d k*std p (fun _=>0) (eF d.others k))=(-1)*bJ p.objective.length (fun t=>nH p d t*((rT p d t:Int):Rat)):=by
  rw[<-iX];refine bI fun k hk=>?_;by_cases hv:eF d.others k<p.objective.length
  ·rw[std,if_pos hv,rT,if_pos hv];simp only[Rat.intCast_zero];grind
  rw[std,if_neg hv,rT,if_neg hv,nH,if_neg hv,bI (g:=fun _=>0) (fun k hk=>by grind),fO];grind
 rw[e] at h
 grind
theorem eqL (hp:aW p=true)(hD:lT (cH p) d){j:Nat}(hj:j<p.objective.length):bJ p.objective.length (fun t=>nH p d t*((mT p d t j:Int):Rat))=((pC p j:Int):Rat):=by
 obtain⟨h1,h2,_⟩:=fJ p hp;have hn:d.others.length=p.objective.length:=hD.n.trans h2;have h:=(aGO hp hD (fun k=>if k=j then 1 else 0)).2;rw[lU hj (fun k hk hne=>by rw[if_neg hne];grind),if_pos rfl,aAt,hn,eqV hp hD] at h
 have e:bJ p.objective.length (fun k=>iL d k*std p (fun k=>if k=j then 1 else 0) (eF d.others k))=bJ p.objective.length (fun t=>nH p d t*((mT p d t j:Int):Rat))+(-1)*bJ p.objective.length (fun t=>nH p d t*((rT p d t:Int):Rat)):=by
  rw[<-iX,<-nG];refine bI fun k hk=>?_;have v0:=(mF hD.ok).o0 k (by omega);by_cases hv:eF d.others k<p.objective.length
  ·rw[std,if_pos hv,rT,if_pos hv,nH,if_pos hv,mT,if_pos hv];by_cases ek:eF d.others k=(j:Int)
   ·rw[if_pos ek,if_pos (by omega)];simp only[Rat.intCast_zero,Rat.intCast_one];grind
   rw[if_neg ek,if_neg (by omega)];simp only[Rat.intCast_zero];grind
  rw[std,if_neg hv,rT,if_neg hv,nH,if_neg hv,mT,if_neg hv,lU hj (fun k hk hne=>by rw[if_neg hne];grind),if_pos rfl];grind
 rw[e] at h
 grind
end
def aHQ (a1 a2 a3 b1 b2 b3 c1 c2 c3:Int):Int:=a1*(b2*c3 - b3*c2) - a2*(b1*c3 - b3*c1)+a3*(b1*c2 - b2*c1)
def mL (i k:Nat):Nat:=if k<i then k else k+1
def sgn (i j:Nat):Int:=if (i+j)%2=0 then 1 else -1
def oF (M:Nat->Nat->Int)(i j:Nat):Int:=sgn i j*aHQ (M (mL i 0) (mL j 0)) (M (mL i 0) (mL j 1)) (M (mL i 0) (mL j 2)) (M (mL i 1) (mL j 0)) (M (mL i 1) (mL j 1)) (M (mL i 1) (mL j 2)) (M (mL i 2) (mL j 0)) (M (mL i 2) (mL j 1)) (M (mL i 2) (mL j 2))
def oT (M:Nat->Nat->Int):Int:=M 0 0*oF M 0 0+M 0 1*oF M 0 1+M 0 2*oF M 0 2+M 0 3*oF M 0 3
theorem aHR {P:Nat->Prop}(h0:P 0)(h1:P 1)(h2:P 2)(h3:P 3): ∀i,i<4->P i:=by
 intro i hi;have:i=0\/i=1\/i=2\/i=3:=by omega
 rcases this with rfl | rfl | rfl | rfl<;>assumption
theorem aJU:mL 0 0=1/\mL 0 1=2/\mL 0 2=3/\mL 1 0=0/\mL 1 1=2/\mL 1 2=3/\mL 2 0=0/\mL 2 1=1/\mL 2 2=3/\mL 3 0=0/\mL 3 1=1/\mL 3 2=2:=by decide
theorem aJV:(sgn 0 0=1/\sgn 0 1= -1/\sgn 0 2=1/\sgn 0 3= -1)/\(sgn 1 0= -1/\sgn 1 1=1/\sgn 1 2= -1/\sgn 1 3=1)/\(sgn 2 0=1/\sgn 2 1= -1/\sgn 2 2=1/\sgn 2 3= -1)/\(sgn 3 0= -1/\sgn 3 1=1/\sgn 3 2= -1/\sgn 3 3=1):=by decide
theorem aKn (M:Nat->Nat->Int): ∀i,i<4-> ∀j,j<4->M i 0*oF M j 0+M i 1*oF M j 1+M i 2*oF M j 2+M i 3*oF M j 3=if i=j then oT M else 0:=by
 obtain⟨a1,a2,a3,a4,a5,a6,a7,a8,a9,a10,a11,a12⟩:=aJU;obtain⟨⟨b1,b2,b3,b4⟩,⟨b5,b6,b7,b8⟩,⟨b9,b10,b11,b12⟩,⟨b13,b14,b15,b16⟩⟩:=aJV;refine aHR ?_ ?_ ?_ ?_<;>refine aHR ?_ ?_ ?_ ?_<;>(simp only[oT,oF,aHQ,a1,a2,a3,a4,a5,a6,a7,a8,a9,a10,a11,a12,b1,b2,b3,b4,b5,b6,b7,b8,b9,b10,b11,b12,b13,b14,b15,b16];(first|rw[if_pos rfl]|rw[if_pos trivial]|rw[if_neg (by decide)])<;>clear a1 a2 a3 a4 a5 a6 a7 a8 a9 a10 a11 a12 b1 b2 b3 b4 b5 b6 b7 b8 b9 b10 b11 b12 b13 b14 b15 b16<;>grind)
theorem aKo (M:Nat->Nat->Int): ∀k,k<4-> ∀j,j<4->oF M 0 j*M 0 k+oF M 1 j*M 1 k+oF M 2 j*M 2 k+oF M 3 j*M 3 k=if k=j then oT M else 0:=by
 obtain⟨a1,a2,a3,a4,a5,a6,a7,a8,a9,a10,a11,a12⟩:=aJU;obtain⟨⟨b1,b2,b3,b4⟩,⟨b5,b6,b7,b8⟩,⟨b9,b10,b11,b12⟩,⟨b13,b14,b15,b16⟩⟩:=aJV;refine aHR ?_ ?_ ?_ ?_<;>refine aHR ?_ ?_ ?_ ?_<;>(simp only[oT,oF,aHQ,a1,a2,a3,a4,a5,a6,a7,a8,a9,a10,a11,a12,b1,b2,b3,b4,b5,b6,b7,b8,b9,b10,b11,b12,b13,b14,b15,b16];(first|rw[if_pos rfl]|rw[if_pos trivial]|rw[if_neg (by decide)])<;>clear a1 a2 a3 a4 a5 a6 a7 a8 a9 a10 a11 a12 b1 b2 b3 b4 b5 b6 b7 b8 b9 b10 b11 b12 b13 b14 b15 b16<;>grind)
theorem gK {x y:Int}{B:Nat}(hx:x.natAbs<=9)(hy:y.natAbs<=B):(x*y).natAbs<=9*B:=by
 rw[Int.natAbs_mul];exact Nat.mul_le_mul hx hy
theorem aKp {a1 a2 a3 b1 b2 b3 c1 c2 c3:Int}(h1:a1.natAbs<=9)(h2:a2.natAbs<=9)(h3:a3.natAbs<=9)(h4:b1.natAbs<=9)(h5:b2.natAbs<=9)(h6:b3.natAbs<=9)(h7:c1.natAbs<=9)(h8:c2.natAbs<=9)(h9:c3.natAbs<=9):(aHQ a1 a2 a3 b1 b2 b3 c1 c2 c3).natAbs<=4374:=by
 have p1:=gK (B:=9) h5 h9;have p2:=gK (B:=9) h6 h8;have p3:=gK (B:=9) h4 h9;have p4:=gK (B:=9) h6 h7;have p5:=gK (B:=9) h4 h8;have p6:=gK (B:=9) h5 h7;have q1:=gK (B:=162) (y:=b2*c3 - b3*c2) h1 (by omega);have q2:=gK (B:=162) (y:=b1*c3 - b3*c1) h2 (by omega);have q3:=gK (B:=162) (y:=b1*c2 - b2*c1) h3 (by omega);unfold aHQ;omega
theorem lY {M:Nat->Nat->Int}(h: ∀i k,(M i k).natAbs<=9)(i j:Nat):(oF M i j).natAbs<=4374:=by
 have:=aKp (h (mL i 0) (mL j 0)) (h (mL i 0) (mL j 1)) (h (mL i 0) (mL j 2)) (h (mL i 1) (mL j 0)) (h (mL i 1) (mL j 1)) (h (mL i 1) (mL j 2)) (h (mL i 2) (mL j 0)) (h (mL i 2) (mL j 1)) (h (mL i 2) (mL j 2));rw[oF,Int.natAbs_mul];have e:(sgn i j).natAbs=1:=by unfold sgn;split<;>rfl
 rw[e,Nat.one_mul];exact this
theorem aKq {M:Nat->Nat->Int}(h: ∀i k,(M i k).natAbs<=9):(oT M).natAbs<=157464:=by
 have q0:=gK (h 0 0) (lY h 0 0);have q1:=gK (h 0 1) (lY h 0 1);have q2:=gK (h 0 2) (lY h 0 2);have q3:=gK (h 0 3) (lY h 0 3);unfold oT;omega
theorem aJW {c0 c1 c2 c3 r0 r1 r2 r3:Int}{C:Nat}(h0:c0.natAbs<=4374)(h1:c1.natAbs<=4374)(h2:c2.natAbs<=4374)(h3:c3.natAbs<=4374)(g0:r0.natAbs<=C)(g1:r1.natAbs<=C)(g2:r2.natAbs<=C)(g3:r3.natAbs<=C):(c0*r0+c1*r1+c2*r2+c3*r3).natAbs<=17496*C:=by
 have p0:(c0*r0).natAbs<=4374*C:=by rw[Int.natAbs_mul];exact Nat.mul_le_mul h0 g0
 have p1:(c1*r1).natAbs<=4374*C:=by rw[Int.natAbs_mul];exact Nat.mul_le_mul h1 g1
 have p2:(c2*r2).natAbs<=4374*C:=by rw[Int.natAbs_mul];exact Nat.mul_le_mul h2 g2
 have p3:(c3*r3).natAbs<=4374*C:=by rw[Int.natAbs_mul];exact Nat.mul_le_mul h3 g3
 omega
theorem aMq (a0 a1 a2 a3 b0 b1 b2 b3 c0 c1 c2 c3 x0 x1 x2 x3 y0 y1 y2 y3 z0 z1 z2 z3 e0 e1 e2:Rat)
 (h1:b1*(a2*c3 - a3*c2)=a1*(b2*c3 - b3*c2)+c1*(a2*b3 - a3*b2)) (h2:b0*(a2*c3 - a3*c2)=a0*(b2*c3 - b3*c2)+c0*(a2*b3 - a3*b2))
 (h3:b0*(a1*c3 - a3*c1)=a0*(b1*c3 - b3*c1)+c0*(a1*b3 - a3*b1)) (h4:b0*(a1*c2 - a2*c1)=a0*(b1*c2 - b2*c1)+c0*(a1*b2 - a2*b1))
 (p1:a0*x0+a1*x1+a2*x2+a3*x3=e0) (p2:b0*x0+b1*x1+b2*x2+b3*x3=0) (p3:c0*x0+c1*x1+c2*x2+c3*x3=0)
 (q1:a0*y0+a1*y1+a2*y2+a3*y3=0) (q2:b0*y0+b1*y1+b2*y2+b3*y3=e1) (q3:c0*y0+c1*y1+c2*y2+c3*y3=0)
 (r1:a0*z0+a1*z1+a2*z2+a3*z3=0) (r2:b0*z0+b1*z1+b2*z2+b3*z3=0) (r3:c0*z0+c1*z1+c2*z2+c3*z3=e2):e0*(e1*e2)=0:=by
 have k0:(b1*(a2*c3 - a3*c2) - a1*(b2*c3 - b3*c2) - c1*(a2*b3 - a3*b2))*(x1*(y2*z3 - y3*z2) - x2*(y1*z3 - y3*z1)+x3*(y1*z2 - y2*z1))+(b0*(a2*c3 - a3*c2) - a0*(b2*c3 - b3*c2) - c0*(a2*b3 - a3*b2))*(x0*(y2*z3 - y3*z2) - x2*(y0*z3 - y3*z0)+x3*(y0*z2 - y2*z0))
  +(b0*(a1*c3 - a3*c1) - a0*(b1*c3 - b3*c1) - c0*(a1*b3 - a3*b1))*(x0*(y1*z3 - y3*z1) - x1*(y0*z3 - y3*z0)+x3*(y0*z1 - y1*z0))+(b0*(a1*c2 - a2*c1) - a0*(b1*c2 - b2*c1) - c0*(a1*b2 - a2*b1))*(x0*(y1*z2 - y2*z1) - x1*(y0*z2 - y2*z0)+x2*(y0*z1 - y1*z0))=0:=by
  rw[show b1*(a2*c3 - a3*c2) - a1*(b2*c3 - b3*c2) - c1*(a2*b3 - a3*b2)=0 by grind,show b0*(a2*c3 - a3*c2) - a0*(b2*c3 - b3*c2) - c0*(a2*b3 - a3*b2)=0 by grind,show b0*(a1*c3 - a3*c1) - a0*(b1*c3 - b3*c1) - c0*(a1*b3 - a3*b1)=0 by grind,show b0*(a1*c2 - a2*c1) - a0*(b1*c2 - b2*c1) - c0*(a1*b2 - a2*b1)=0 by grind]
  grind
 have k1:(a0*x0+a1*x1+a2*x2+a3*x3)*((b0*y0+b1*y1+b2*y2+b3*y3)*(c0*z0+c1*z1+c2*z2+c3*z3) - (b0*z0+b1*z1+b2*z2+b3*z3)*(c0*y0+c1*y1+c2*y2+c3*y3)) - (a0*y0+a1*y1+a2*y2+a3*y3)*((b0*x0+b1*x1+b2*x2+b3*x3)*(c0*z0+c1*z1+c2*z2+c3*z3) - (b0*z0+b1*z1+b2*z2+b3*z3)*(c0*x0+c1*x1+c2*x2+c3*x3))+(a0*z0+a1*z1+a2*z2+a3*z3)*((b0*x0+b1*x1+b2*x2+b3*x3)*(c0*y0+c1*y1+c2*y2+c3*y3) - (b0*y0+b1*y1+b2*y2+b3*y3)*(c0*x0+c1*x1+c2*x2+c3*x3))=0:=by
  refine Eq.trans ?_ (show -((b1*(a2*c3 - a3*c2) - a1*(b2*c3 - b3*c2) - c1*(a2*b3 - a3*b2))*(x1*(y2*z3 - y3*z2) - x2*(y1*z3 - y3*z1)+x3*(y1*z2 - y2*z1))+(b0*(a2*c3 - a3*c2) - a0*(b2*c3 - b3*c2) - c0*(a2*b3 - a3*b2))*(x0*(y2*z3 - y3*z2) - x2*(y0*z3 - y3*z0)+x3*(y0*z2 - y2*z0))+(b0*(a1*c3 - a3*c1) - a0*(b1*c3 - b3*c1) - c0*(a1*b3 - a3*b1))*(x0*(y1*z3 - y3*z1) - x1*(y0*z3 - y3*z0)+x3*(y0*z1 - y1*z0))+(b0*(a1*c2 - a2*c1) - a0*(b1*c2 - b2*c1) - c0*(a1*b2 - a2*b1))*(x0*(y1*z2 - y2*z1) - x1*(y0*z2 - y2*z0)+x2*(y0*z1 - y1*z0)))=0 by rw[k0];grind)
  grind
 rw[p1,p2,p3,q1,q2,q3,r1,r2,r3] at k1
 grind
theorem vQ (M:Nat->Nat->Int){k j:Nat}(hk:k<4)(hj:j<4):((oF M 0 j:Int):Rat)*((M 0 k:Int):Rat)+((oF M 1 j:Int):Rat)*((M 1 k:Int):Rat)+((oF M 2 j:Int):Rat)*((M 2 k:Int):Rat)+((oF M 3 j:Int):Rat)*((M 3 k:Int):Rat)=if k=j then ((oT M:Int):Rat) else 0:=by
 have h:=congrArg (fun z:Int=>(z:Rat)) (aKo M k hk j hj);simp only[Rat.intCast_add,Rat.intCast_mul] at h;rw[h];split
 ·rfl
 rfl
theorem vR (M:Nat->Nat->Int){i j:Nat}(hi:i<4)(hj:j<4):((M i 0:Int):Rat)*((oF M j 0:Int):Rat)+((M i 1:Int):Rat)*((oF M j 1:Int):Rat)+((M i 2:Int):Rat)*((oF M j 2:Int):Rat)+((M i 3:Int):Rat)*((oF M j 3:Int):Rat)=if i=j then ((oT M:Int):Rat) else 0:=by
 have h:=congrArg (fun z:Int=>(z:Rat)) (aKn M i hi j hj);simp only[Rat.intCast_add,Rat.intCast_mul] at h;rw[h];split
 ·rfl
 rfl
def uA (M:Nat->Nat->Int)(x:Nat->Rat)(t:Nat):Rat:=((M t 0:Int):Rat)*x 0+((M t 1:Int):Rat)*x 1+((M t 2:Int):Rat)*x 2+((M t 3:Int):Rat)*x 3
theorem aGP (M:Nat->Nat->Int)(x:Nat->Rat): ∀j,j<4->((oT M:Int):Rat)*x j=((oF M 0 j:Int):Rat)*uA M x 0+((oF M 1 j:Int):Rat)*uA M x 1+((oF M 2 j:Int):Rat)*uA M x 2+((oF M 3 j:Int):Rat)*uA M x 3:=by
 intro j hj;have h0:=vQ M (k:=0) (by omega) hj;have h1:=vQ M (k:=1) (by omega) hj;have h2:=vQ M (k:=2) (by omega) hj;have h3:=vQ M (k:=3) (by omega) hj
 have key:((oF M 0 j:Int):Rat)*uA M x 0+((oF M 1 j:Int):Rat)*uA M x 1+((oF M 2 j:Int):Rat)*uA M x 2+((oF M 3 j:Int):Rat)*uA M x 3=(if 0=j then ((oT M:Int):Rat) else 0)*x 0+(if 1=j then ((oT M:Int):Rat) else 0)*x 1+(if 2=j then ((oT M:Int):Rat) else 0)*x 2+(if 3=j then ((oT M:Int):Rat) else 0)*x 3:=by
  rw[<-h0,<-h1,<-h2,<-h3];unfold uA;grind
 rw[key]
 revert j
 refine aHR ?_ ?_ ?_ ?_<;>(intros;simp only[if_true,if_pos,reduceIte];grind)
theorem aKr (M:Nat->Nat->Int)(y c:Nat->Rat)(hc: ∀k,k<4->y 0*((M 0 k:Int):Rat)+y 1*((M 1 k:Int):Rat)+y 2*((M 2 k:Int):Rat)+y 3*((M 3 k:Int):Rat)=c k): ∀t,t<4->((oT M:Int):Rat)*y t=c 0*((oF M t 0:Int):Rat)+c 1*((oF M t 1:Int):Rat)+c 2*((oF M t 2:Int):Rat)+c 3*((oF M t 3:Int):Rat):=by
 intro t ht;have h0:=vR M (i:=0) (by omega) ht;have h1:=vR M (i:=1) (by omega) ht;have h2:=vR M (i:=2) (by omega) ht;have h3:=vR M (i:=3) (by omega) ht;rw[<-hc 0 (by omega),<-hc 1 (by omega),<-hc 2 (by omega),<-hc 3 (by omega)]
 have key:(y 0*((M 0 0:Int):Rat)+y 1*((M 1 0:Int):Rat)+y 2*((M 2 0:Int):Rat)+y 3*((M 3 0:Int):Rat))*((oF M t 0:Int):Rat)+(y 0*((M 0 1:Int):Rat)+y 1*((M 1 1:Int):Rat)+y 2*((M 2 1:Int):Rat)+y 3*((M 3 1:Int):Rat))*((oF M t 1:Int):Rat)+(y 0*((M 0 2:Int):Rat)+y 1*((M 1 2:Int):Rat)+y 2*((M 2 2:Int):Rat)+y 3*((M 3 2:Int):Rat))*((oF M t 2:Int):Rat)+(y 0*((M 0 3:Int):Rat)+y 1*((M 1 3:Int):Rat)+y 2*((M 2 3:Int):Rat)+y 3*((M 3 3:Int):Rat))*((oF M t 3:Int):Rat)
  =y 0*(if 0=t then ((oT M:Int):Rat) else 0)+y 1*(if 1=t then ((oT M:Int):Rat) else 0)+y 2*(if 2=t then ((oT M:Int):Rat) else 0)+y 3*(if 3=t then ((oT M:Int):Rat) else 0):=by
  rw[<-h0,<-h1,<-h2,<-h3];grind
 rw[key]
 clear key h0 h1 h2 h3
 revert t
 refine aHR ?_ ?_ ?_ ?_<;>(intros;simp only[if_true,if_pos,reduceIte];grind)
theorem aKs {M:Nat->Nat->Int}{W:Nat->Nat->Rat}{e:Nat->Rat}(hW: ∀t,t<4-> ∀s,s<4->uA M (W s) t=if t=s then e t else 0)(he: ∀t,t<4->e t≠0):oT M≠0:=by
 intro h0
 have z: ∀j,j<4->((oF M 3 j:Int):Rat)=0:=fun j hj=>by
  have h:=aGP M (W 3) j hj;rw[h0,hW 0 (by omega) 3 (by omega),hW 1 (by omega) 3 (by omega),hW 2 (by omega) 3 (by omega),hW 3 (by omega) 3 (by omega),if_neg (by decide),if_neg (by decide),if_neg (by decide),if_pos rfl] at h;have:=he 3 (by omega);simp only[Rat.intCast_zero] at h
  grind
 obtain⟨a1,a2,a3,a4,a5,a6,a7,a8,a9,a10,a11,a12⟩:=aJU;obtain⟨⟨b1,b2,b3,b4⟩,⟨b5,b6,b7,b8⟩,⟨b9,b10,b11,b12⟩,⟨b13,b14,b15,b16⟩⟩:=aJV;have z0:=z 0 (by omega);have z1:=z 1 (by omega);have z2:=z 2 (by omega);have z3:=z 3 (by omega);simp only[oF,aHQ,a10,a11,a12,a1,a2,a3,a4,a5,a6,a7,a8,a9,b13,b14,b15,b16,Rat.intCast_mul,Rat.intCast_add,Rat.intCast_sub,Rat.intCast_neg,Rat.intCast_one] at z0 z1 z2 z3
 clear a1 a2 a3 a4 a5 a6 a7 a8 a9 a10 a11 a12 b1 b2 b3 b4 b5 b6 b7 b8 b9 b10 b11 b12 b13 b14 b15 b16
 have w: ∀t s,t<4->s<4->uA M (W s) t=if t=s then e t else 0:=fun t s ht hs=>hW t ht s hs
 have k:=aMq ((M 0 0:Int):Rat) ((M 0 1:Int):Rat) ((M 0 2:Int):Rat) ((M 0 3:Int):Rat) ((M 1 0:Int):Rat) ((M 1 1:Int):Rat) ((M 1 2:Int):Rat) ((M 1 3:Int):Rat) ((M 2 0:Int):Rat) ((M 2 1:Int):Rat) ((M 2 2:Int):Rat) ((M 2 3:Int):Rat) (W 0 0) (W 0 1) (W 0 2) (W 0 3) (W 1 0) (W 1 1) (W 1 2) (W 1 3) (W 2 0) (W 2 1) (W 2 2) (W 2 3) (e 0) (e 1) (e 2)
  (by grind) (by grind) (by grind) (by grind)
  ((w 0 0 (by omega) (by omega)).trans (if_pos rfl)) ((w 1 0 (by omega) (by omega)).trans (if_neg (by decide))) ((w 2 0 (by omega) (by omega)).trans (if_neg (by decide)))
  ((w 0 1 (by omega) (by omega)).trans (if_neg (by decide))) ((w 1 1 (by omega) (by omega)).trans (if_pos rfl)) ((w 2 1 (by omega) (by omega)).trans (if_neg (by decide)))
  ((w 0 2 (by omega) (by omega)).trans (if_neg (by decide))) ((w 1 2 (by omega) (by omega)).trans (if_neg (by decide))) ((w 2 2 (by omega) (by omega)).trans (if_pos rfl))
 have e0:=he 0 (by omega);have e1:=he 1 (by omega);have e2:=he 2 (by omega);have:e 1*e 2=0:=by grind
 grind
def pad (n:Nat)(M:Nat->Nat->Int)(t k:Nat):Int:=if t<n/\k<n then M t k else if t=k then 1 else 0
def aAv (n:Nat)(x:Nat->Rat)(k:Nat):Rat:=if k<n then x k else 0
def aMR (n:Nat)(W:Nat->Nat->Rat)(s k:Nat):Rat:=if s<n/\k<n then W s k else if s=k then 1 else 0
theorem vS {n:Nat}(hn:1<=n/\n<=4)(M:Nat->Nat->Int)(x:Nat->Rat){t:Nat}(ht:t<4):uA (pad n M) (aAv n x) t=if t<n then bJ n (fun k=>((M t k:Int):Rat)*x k) else 0:=by
 have:n=1\/n=2\/n=3\/n=4:=by omega
 have ht:t=0\/t=1\/t=2\/t=3:=by omega
 rcases this with rfl | rfl | rfl | rfl<;>rcases ht with rfl | rfl | rfl | rfl<;>(simp[uA,pad,aAv,bJ];try grind)
theorem aHS {n:Nat}(hn:1<=n/\n<=4)(M:Nat->Nat->Int)(W:Nat->Nat->Rat){t s:Nat}(ht:t<4)(hs:s<4):uA (pad n M) (aMR n W s) t=if t<n/\s<n then bJ n (fun k=>((M t k:Int):Rat)*W s k) else if t=s then 1 else 0:=by
 have:n=1\/n=2\/n=3\/n=4:=by omega
 have ht:t=0\/t=1\/t=2\/t=3:=by omega
 have hs:s=0\/s=1\/s=2\/s=3:=by omega
 rcases this with rfl | rfl | rfl | rfl<;>rcases ht with rfl | rfl | rfl | rfl<;>rcases hs with rfl | rfl | rfl | rfl<;>(simp[uA,pad,aMR,bJ];try grind)
theorem aKt {n:Nat}(hn:1<=n/\n<=4)(M:Nat->Nat->Int)(y:Nat->Rat){k:Nat}(hk:k<4):aAv n y 0*((pad n M 0 k:Int):Rat)+aAv n y 1*((pad n M 1 k:Int):Rat)+aAv n y 2*((pad n M 2 k:Int):Rat)+aAv n y 3*((pad n M 3 k:Int):Rat)=if k<n then bJ n (fun t=>y t*((M t k:Int):Rat)) else 0:=by
 have:n=1\/n=2\/n=3\/n=4:=by omega
 have hk:k=0\/k=1\/k=2\/k=3:=by omega
 rcases this with rfl | rfl | rfl | rfl<;>rcases hk with rfl | rfl | rfl | rfl<;>(simp[pad,aAv,bJ];try grind)
def xA (D:Int)(B:Nat)(q:Rat):Prop:= ∃N:Int,N.natAbs<=B/\((D:Int):Rat)*q=((N:Int):Rat)
theorem aAw (D:Int):xA D 0 0:=⟨0,Nat.le_refl _,by simp only[Rat.intCast_zero];grind⟩
theorem aKu {D:Int}{B C:Nat}{p q:Rat}(hp:xA D B p)(hq:xA D C q):xA D (B+C) (p+q):=by
 obtain⟨N,n1,n2⟩:=hp;obtain⟨K,k1,k2⟩:=hq;exact⟨N+K,by omega,by rw[Rat.intCast_add,<-n2,<-k2];grind⟩
theorem aDC {D:Int}{B:Nat}{q:Rat}{a:Int}{A:Nat}(ha:a.natAbs<=A)(hq:xA D B q):xA D (A*B) (((a:Int):Rat)*q):=by
 obtain⟨N,n1,n2⟩:=hq;exact⟨a*N,by rw[Int.natAbs_mul];exact Nat.mul_le_mul ha n1,by rw[Rat.intCast_mul,<-n2];grind⟩
theorem nI {D:Int}{B C:Nat}{q:Rat}(h:B<=C)(hq:xA D B q):xA D C q:=by
 obtain⟨N,n1,n2⟩:=hq;exact⟨N,by omega,n2⟩
theorem yP {D:Int}{B:Nat}{f:Nat->Rat}: ∀{n:Nat},(∀k,k<n->xA D B (f k))->xA D (n*B) (bJ n f)
 | 0,_=>by rw[Nat.zero_mul];exact aAw D
 | n+1,h=>by
   rw[bJ,Nat.add_mul,Nat.one_mul];exact aKu (yP fun k hk=>h k (by omega)) (h n (by omega))
theorem aGR {D:Int}{B:Nat}{q:Rat}(h0:D≠0)(hD:D.natAbs<=2147483647)(hB:B<=2147483647)(hq:xA D B q):Rep q:=by
 obtain⟨N,n1,n2⟩:=hq;have d0:=eD h0;by_cases hp:0<D
 ·have e:q=((N:Int):Rat)/((D:Int):Rat):=by grind
  rw[e];exact aE7 (by omega) (by omega)
 have e:q=((-N:Int):Rat)/((-D:Int):Rat):=by rw[Rat.intCast_neg,Rat.intCast_neg];grind
 rw[e];exact aE7 (by omega) (by omega)
theorem aMS {n:Nat}(hn:1<=n/\n<=4){M:Nat->Nat->Int}(hM: ∀t k,t<n->k<n->(M t k).natAbs<=9){W:Nat->Nat->Rat}{e:Nat->Rat}(hW: ∀t s,t<n->s<n->bJ n (fun k=>((M t k:Int):Rat)*W s k)=if t=s then e t else 0)(he: ∀t,t<n->e t≠0):
 ∃D:Int,D≠0/\D.natAbs<=157464/\(∀(x:Nat->Rat) (r:Nat->Int) (C:Nat),(∀t,t<n->bJ n (fun k=>((M t k:Int):Rat)*x k)=((r t:Int):Rat))->(∀t,t<n->(r t).natAbs<=C)-> ∀k,k<n->xA D (17496*C) (x k))/\
  (∀(y:Nat->Rat) (c:Nat->Int) (C:Nat),(∀k,k<n->bJ n (fun t=>y t*((M t k:Int):Rat))=((c k:Int):Rat))->(∀k,k<n->(c k).natAbs<=C)-> ∀t,t<n->xA D (17496*C) (y t)):=by
 have hP: ∀i k,(pad n M i k).natAbs<=9:=fun i k=>by
  unfold pad;split
  ·rename_i h;exact hM i k h.1 h.2
  split<;>decide
 refine⟨oT (pad n M),?_,aKq hP,fun x r C hx hr k hk=>?_,fun y c C hy hc t ht=>?_⟩
 ·refine aKs (W:=aMR n W) (e:=fun t=>if t<n then e t else 1) (fun t ht s hs=>?_) fun t ht=>?_
  ·rw[aHS hn M W ht hs];by_cases h1:t<n/\s<n
   ·rw[if_pos h1,hW t s h1.1 h1.2,if_pos h1.1]
   rw[if_neg h1];by_cases h2:t=s
   ·rw[if_pos h2,if_pos h2,if_neg (by omega)]
   rw[if_neg h2,if_neg h2]
  show (if t<n then e t else 1)≠0;split
  ·rename_i h;exact he t h
  decide
 ·have h:=aGP (pad n M) (aAv n x) k (by omega);rw[vS hn M x (t:=0) (by omega),vS hn M x (t:=1) (by omega),vS hn M x (t:=2) (by omega),vS hn M x (t:=3) (by omega)] at h
  have hq: ∀t,(if t<n then bJ n (fun k=>((M t k:Int):Rat)*x k) else 0)=(((if t<n then r t else 0:Int)):Rat):=fun t=>by
   split
   ·rename_i ht;exact hx t ht
   rfl
  rw[hq 0,hq 1,hq 2,hq 3,show aAv n x k=x k from if_pos hk] at h
  have hb: ∀t,(if t<n then r t else 0:Int).natAbs<=C:=fun t=>by
   split
   ·rename_i ht;exact hr t ht
   exact Nat.zero_le _
  exact⟨_,aJW (lY hP 0 k) (lY hP 1 k) (lY hP 2 k) (lY hP 3 k) (hb 0) (hb 1) (hb 2) (hb 3),by rw[h];simp only[Rat.intCast_add,Rat.intCast_mul]⟩
 have hq: ∀k,k<4->(if k<n then bJ n (fun t=>y t*((M t k:Int):Rat)) else 0)=(((if k<n then c k else 0:Int)):Rat):=fun k _=>by
  split
  ·rename_i hk;exact hy k hk
  rfl
 have h:=aKr (pad n M) (aAv n y) (fun k=>(((if k<n then c k else 0:Int)):Rat)) (fun k hk=>(aKt hn M y hk).trans (hq k hk)) t (by omega);rw[show aAv n y t=y t from if_pos ht] at h
 have hb: ∀k,(if k<n then c k else 0:Int).natAbs<=C:=fun k=>by
  split
  ·rename_i hk;exact hc k hk
  exact Nat.zero_le _
 refine⟨_,aJW (lY hP t 0) (lY hP t 1) (lY hP t 2) (lY hP t 3) (hb 0) (hb 1) (hb 2) (hb 3),?_⟩;rw[h];simp only[Rat.intCast_add,Rat.intCast_mul]
 grind
def dY (p:aQ)(xs:List aC):aC × Bool:=if aW p=true then cC p.objective xs else (zR,false)
def dR (p:aQ)(xs:List aC)(i:Nat):Bool:=(cC (p.rows.getD i []) xs).2&&decide (bK (cC (p.rows.getD i []) xs).1 (aF (p.limits.getD i 0))<=0)
def cA (p:aQ)(xs:List aC):Bool:=aW p&&(cW xs p.objective.length&&(List.range p.rows.length).all (dR p xs))
def kC (p:aQ)(s:fN):Bool:=(dY p s.primal).2&&((cS p s.dual).2&&(cA p s.primal&&(bO p s.dual&&(decide ((dY p s.primal).1=(cS p s.dual).1)&&decide ((dY p s.primal).1=s.value)))))
theorem aCS {α:Type}{l:List α}{k:Nat}{x z:α}(h:k<l.length):(l.set k x).getD k z=x:=by
 rw[List.getD_eq_getElem?_getD,List.getElem?_set_self h];rfl
theorem aCT {α:Type}{l:List α}{j k:Nat}{x z:α}(h: ¬j=k):(l.set j x).getD k z=l.getD k z:=by
 rw[List.getD_eq_getElem?_getD,List.getElem?_set_ne h,<-List.getD_eq_getElem?_getD]
theorem aGS {α:Type}{P:α->Prop}{l:List α}{k:Nat}{y:α}(h: ∀x∈l,P x)(hy:P y): ∀x∈l.set k y,P x:=fun x hx=>by
 rcases List.mem_or_eq_of_mem_set hx with q | q
 ·exact h x q
 rw[q];exact hy
theorem aLN {n k:Nat}(h:k<n):bM ((List.replicate n (aF 0)).getD k zR)=0:=by
 rw[List.getD_eq_getElem?_getD,List.getElem?_replicate,if_pos h];exact gX 0
theorem pU {f:Nat->Rat}{n:Nat}(h: ∀k,k<n->f k=0):bJ n f=0:=(bI h).trans (fO n)
theorem aGT {d:aD}(hd:bR d=true)(n:Nat){k:Nat}(hk:k<n): ∀t,t<=d.basic.length->bM ((fZ d n t).getD k zR)=bJ t (fun r=>if eF d.basic r=(k:Int) then iP d r else 0)
 | 0,_=>aLN hk
 | t+1,ht=>by
   have v:=mF hd;have ih:=aGT hd n hk t (by omega);have b0:=v.b0 t (by omega);rw[fZ,bJ];by_cases hb:eF d.basic t<n
   ·rw[if_pos (show d.basic.getD t 0<n from hb)];by_cases e:eF d.basic t=(k:Int)
    ·have e' :(d.basic.getD t 0).toNat=k:=by have:d.basic.getD t 0=(k:Int):=e;omega
     rw[e',aCS (by rw[wS];exact hk),if_pos e,pU fun r hr=>if_neg (fun q=>by have:=v.bb r t (by omega) (by omega) (q.trans e.symm);omega)];show iP d t=_
     grind
    have e' : ¬(d.basic.getD t 0).toNat=k:=by have:d.basic.getD t 0=eF d.basic t:=rfl;omega
    rw[aCT e',ih,if_neg e];grind
   rw[if_neg (show ¬d.basic.getD t 0<n from hb),ih,if_neg (by omega)];grind
theorem aE9 {d:aD}(hd:bR d=true)(n:Nat): ∀t,t<=d.basic.length-> ∀x∈fZ d n t,aJ x=true
 | 0,_,x,hx=>by rw[fZ] at hx;rw[(List.mem_replicate.1 hx).2];exact dP (by omega)
 | t+1,ht,x,hx=>by
   have ih:=aE9 hd n t (by omega);rw[fZ] at hx;split at hx
   ·exact aGS ih (aGM hd (by omega)) x hx
   exact ih x hx
theorem aMr (r:aC):bM (cN r)= - bM r:=by simp only[bM,cN,Rat.intCast_neg];grind
theorem aMT {r:aC}(h:aJ r=true):aJ (cN r)=true:=by rw[aJ,cN];dsimp only;rw[kV];exact h
theorem aGU {d:aD}(hd:bR d=true)(n m:Nat){i:Nat}(hi:i<m): ∀t,t<=d.others.length->bM ((gA d n m t).getD i zR)=bJ t (fun k=>if eF d.others k=((n+i:Nat):Int) then - iL d k else 0)
 | 0,_=>aLN hi
 | t+1,ht=>by
   have v:=mF hd;have ih:=aGU hd n m hi t (by omega);have b0:=v.o0 t (by omega);rw[gA,bJ];by_cases hb:(n:Int)<=eF d.others t
   ·rw[if_pos (show (n:Int)<=d.others.getD t 0 from hb)];by_cases e:eF d.others t=((n+i:Nat):Int)
    ·have e' :(d.others.getD t 0 - n).toNat=i:=by have:d.others.getD t 0=eF d.others t:=rfl;omega
     rw[e',aCS (by rw[wU];exact hi),if_pos e,pU fun r hr=>if_neg (fun q=>by have:=v.oo r t (by omega) (by omega) (q.trans e.symm);omega),aMr];show - iL d t=_
     grind
    have e' : ¬(d.others.getD t 0 - n).toNat=i:=by have:d.others.getD t 0=eF d.others t:=rfl;omega
    rw[aCT e',ih,if_neg e];grind
   rw[if_neg (show ¬(n:Int)<=d.others.getD t 0 from hb),ih,if_neg (by omega)];grind
theorem aEa {d:aD}(hd:bR d=true)(n m:Nat): ∀t,t<=d.others.length-> ∀x∈gA d n m t,aJ x=true
 | 0,_,x,hx=>by rw[gA] at hx;rw[(List.mem_replicate.1 hx).2];exact dP (by omega)
 | t+1,ht,x,hx=>by
   have ih:=aEa hd n m t (by omega);obtain⟨_,_,_,_,_,_,b7,_⟩:=dE hd;rw[gA] at hx;split at hx
   ·exact aGS ih (aMT (eY b7 (by omega))) x hx
   exact ih x hx
theorem aCU {l:List aC}{n:Nat}(hl:l.length=n)(hv: ∀x∈l,aJ x=true)(h0: ∀k,k<n->0<=bM (l.getD k zR)):cW l n=true:=by
 simp only[cW,Bool.and_eq_true,decide_eq_true_eq,List.all_eq_true];refine⟨by omega,fun x hx=>?_⟩;obtain⟨k,hk,rfl⟩:=List.getElem_of_mem hx;have vx:=hv _ hx;have e:l.getD k zR=l[k]:=by rw[List.getD_eq_getElem?_getD,List.getElem?_eq_getElem hk];rfl
 have h:=h0 k (by omega);rw[e] at h;have: ¬l[k].num<0:=fun q=>by have:=(pT vx).2.1 q;grind
 rw[mD,vx,decide_eq_false this];rfl
theorem aAx {l:List aC}{n:Int}(h:cW l n=true):(l.length:Int)=n/\(∀x∈l,aJ x=true)/\ ∀k,0<=bM (l.getD k zR):=by
 simp only[cW,Bool.and_eq_true,decide_eq_true_eq,List.all_eq_true] at h
 have hv: ∀x∈l,aJ x=true/\ ¬x.num<0:=fun x hx=>by
  have:=h.2 x hx;simp only[mD,Bool.and_eq_true,Bool.not_eq_true',decide_eq_false_iff_not] at this;exact this
 refine⟨h.1,fun x hx=>(hv x hx).1,fun k=>?_⟩;by_cases hk:k<l.length
 ·have e:l.getD k zR=l[k]:=by rw[List.getD_eq_getElem?_getD,List.getElem?_eq_getElem hk];rfl
  have q:=hv _ (List.getElem_mem hk);have: ¬bM l[k]<0:=fun z=>q.2 ((pT q.1).2.2 z);rw[e];grind
 rw[List.getD_eq_getElem?_getD,List.getElem?_eq_none (by omega)];show 0<=bM zR;simp only[bM,zR,Rat.intCast_zero];grind
theorem rQ {l:List Int}{xs:List aC}(hl: ∀n∈l,-99<=n/\n<=99)(hx: ∀x∈xs,aJ x=true)(h:(cC l xs).2=true):l.length=xs.length/\aJ (cC l xs).1=true/\bM (cC l xs).1=bJ l.length (fun k=>gI l k*gR xs k):=by
 unfold cC at*;split at h
 ·rename_i he;rw[if_pos he];have q:=aJQ he (fun n hn=>dP (hl n hn)) hx (dP (n:=0) (by omega)) h;refine⟨he,q.1,q.2.trans ?_⟩;rw[gX,Rat.intCast_zero];grind
 cases h
theorem sN {l:List Int}{xs:List aC}{D:Int}{B:Nat}(he:l.length=xs.length)(hl: ∀n∈l,-99<=n/\n<=99)(hx: ∀x∈xs,aJ x=true)(h0:D≠0)(hD:D.natAbs<=2147483647)(hB:B<=2147483647)
 (hp: ∀k,k<l.length->xA D B (gI l k*gR xs k)/\xA D B (bJ (k+1) (fun k=>gI l k*gR xs k))):(cC l xs).2=true:=by
 rw[cC,if_pos he];refine aCP he (fun n hn=>dP (hl n hn)) hx (dP (n:=0) (by omega)) fun k hk=>⟨aGR h0 hD hB (hp k hk).1,?_⟩;rw[gX,Rat.intCast_zero,show (0:Rat)+bJ (k+1) (fun k=>gI l k*gR xs k)=bJ (k+1) (fun k=>gI l k*gR xs k) by grind];exact aGR h0 hD hB (hp k hk).2
theorem aCV (d:aD)(n:Nat)(g z:Nat->Rat)(N:Nat): ∀s,bJ s (fun i=>g i*bJ N (fun t=>if eF d.others t=((n+i:Nat):Int) then z t else 0))=bJ N (fun t=>if (n:Int)<=eF d.others t/\eF d.others t<((n+s:Nat):Int) then g (eF d.others t - n).toNat*z t else 0)
 | 0=>by
   rw[bJ,pU fun t _=>if_neg (by omega)]
 | s+1=>by
   rw[bJ,aCV d n g z N s,<-iX,<-nG];refine bI fun t _=>?_;by_cases e:eF d.others t=((n+s:Nat):Int)
   ·rw[if_neg (by omega),if_pos e,if_pos (by omega),show (eF d.others t - n).toNat=s by omega];grind
   rw[if_neg e];by_cases q:(n:Int)<=eF d.others t/\eF d.others t<((n+s:Nat):Int)
   ·rw[if_pos q,if_pos (by omega)];grind
   rw[if_neg q,if_neg (by omega)];grind
section
variable {p:aQ} {d:aD}
theorem aDD (hp:aW p=true){r k:Nat}(hr:r<p.rows.length):(pA p r k).natAbs<=9:=by
 obtain⟨q1,q2,q3,q4,q5⟩:=cP hp;have e:p.rows.getD r []=p.rows[r]:=by rw[List.getD_eq_getElem?_getD,List.getElem?_eq_getElem hr];rfl
 have h:=(q4 _ (List.mem_append_left _ (List.getElem_mem hr))).2;rw[pA,e];by_cases hk:k<p.rows[r].length
 ·rw[List.getD_eq_getElem?_getD,List.getElem?_eq_getElem hk];have:=h _ (List.getElem_mem hk);show (p.rows[r][k]).natAbs<=9;omega
 rw[List.getD_eq_getElem?_getD,List.getElem?_eq_none (by omega)];decide
theorem aDE (hp:aW p=true)(r:Nat):(pB p r).natAbs<=99:=by
 obtain⟨q1,q2,q3,q4,q5⟩:=cP hp;rw[pB];by_cases hk:r<p.limits.length
 ·rw[List.getD_eq_getElem?_getD,List.getElem?_eq_getElem hk];have:=q5 _ (List.getElem_mem hk);show (p.limits[r]).natAbs<=99;omega
 rw[List.getD_eq_getElem?_getD,List.getElem?_eq_none (by omega)];decide
theorem aDF (hp:aW p=true)(k:Nat):(pC p k).natAbs<=9:=by
 obtain⟨q1,q2,q3,q4,q5⟩:=cP hp;rw[pC];by_cases hk:k<p.objective.length
 ·rw[List.getD_eq_getElem?_getD,List.getElem?_eq_getElem hk];have:=(q4 p.objective (by simp)).2 _ (List.getElem_mem hk);show (p.objective[k]).natAbs<=9;omega
 rw[List.getD_eq_getElem?_getD,List.getElem?_eq_none (by omega)];decide
theorem aMs (hp:aW p=true)(hn4:p.objective.length<=4)(hD:lT (cH p) d): ∃D:Int,D≠0/\D.natAbs<=157464/\(∀k,k<p.objective.length->xA D 1732104 (bas d (k:Int)))/\ ∀t,t<p.objective.length->xA D 157464 (nH p d t):=by
 obtain⟨h1,h2,_⟩:=fJ p hp;obtain⟨q1,_⟩:=cP hp;have hn:d.others.length=p.objective.length:=hD.n.trans h2;have hm:d.basic.length=p.rows.length:=hD.m.trans h1
 obtain⟨D,d0,d1,d2,d3⟩:=aMS (n:=p.objective.length) (M:=mT p d) (W:=wT d) (e:=fun t=>if eF d.others t<p.objective.length then 1 else -1) ⟨by omega,by omega⟩ (fun t k ht hk=>by
  rw[mT];split
  ·split<;>decide
  have v:=(mF hD.ok).o0 t (by omega);exact aDD hp (by omega)) (fun t s ht hs=>eqW hp hD ht hs) (fun t ht=>by split<;>decide)
 refine⟨D,d0,d1,fun k hk=>d2 (fun k=>bas d (k:Int)) (rT p d) 99 (fun t ht=>eqP hp hD ht) (fun t ht=>?_) k hk,fun t ht=>d3 (nH p d) (pC p) 9 (fun k hk=>eqL hp hD hk) (fun k _=>aDF hp k) t ht⟩;rw[rT];split
 ·decide
 exact aDE hp _
end
end Go.Proofs.Ytepphdhnkaiamaa
