/-
  Contracts and plain laws, joined: part 19.
-/
import Derived.Test.YtdfebigfnjfgpaaGreatQI15
namespace Go.Proofs.YtdfebigfnjfgpaaGreat
open Go.ChangeShapes Go.WideShapes Go.ChangeAt Go.RowKit
set_option linter.unusedVariables false
set_option linter.unusedSimpArgs false
set_option maxRecDepth 100000
set_option maxHeartbeats 4000000
theorem aR5 {n d:Int} (h:0<d):cL n d=if gD (n.tdiv (Int.gcd n d)) (d.tdiv (Int.gcd n d))=true then (n.tdiv (Int.gcd n d),d.tdiv (Int.gcd n d),true) else (0,0,false):=aPB h rfl
theorem aR6 {n d:Int} (h:d<0):cL n d=if gD ((-n).tdiv (Int.gcd (-n) (-d))) ((-d).tdiv (Int.gcd (-n) (-d)))=true then ((-n).tdiv (Int.gcd (-n) (-d)),(-d).tdiv (Int.gcd (-n) (-d)),true) else (0,0,false):=aPC h rfl
theorem bQ {n:Int}:kS (cL n 0)=(⟨0,0⟩,false):=by rw [aMc];rfl
theorem cI {n d:Int} (h:0<d) (c:bI ⟨n.tdiv (Int.gcd n d),d.tdiv (Int.gcd n d)⟩=true):kS (cL n d)=(⟨n.tdiv (Int.gcd n d),d.tdiv (Int.gcd n d)⟩,true):=by
 rw [aR5 h,if_pos (show gD _ _=true from c)];rfl
theorem bR {n d:Int} (h:0<d) (c:bI ⟨n.tdiv (Int.gcd n d),d.tdiv (Int.gcd n d)⟩=false):kS (cL n d)=(⟨0,0⟩,false):=by
 rw [aR5 h,if_neg (by rw [show gD _ _=false from c];simp)];rfl
theorem cJ {n d:Int} (h:d<0) (c:bI ⟨(-n).tdiv (Int.gcd (-n) (-d)),(-d).tdiv (Int.gcd (-n) (-d))⟩=true):kS (cL n d)=(⟨(-n).tdiv (Int.gcd (-n) (-d)),(-d).tdiv (Int.gcd (-n) (-d))⟩,true):=by
 rw [aR6 h,if_pos (show gD _ _=true from c)];rfl
theorem bS {n d:Int} (h:d<0) (c:bI ⟨(-n).tdiv (Int.gcd (-n) (-d)),(-d).tdiv (Int.gcd (-n) (-d))⟩=false):kS (cL n d)=(⟨0,0⟩,false):=by
 rw [aR6 h,if_neg (by rw [show gD _ _=false from c];simp)];rfl
theorem cS {n g:Int} (hn: -9223372036854775807≤n∧n≤9223372036854775807):cC (n.tdiv g):=by have:=aRY n g hn;exact ⟨by omega,by omega⟩
abbrev aAW (n:Int) (d:Int):AV × List (Nat × Rs):=(.tup [.agg [vI (((kS (cL n d)).1).num),vI (((kS (cL n d)).1).den)],vB ((kS (cL n d)).2)],[])
abbrev aD0 (n:Int) (d:Int):Prop:=cT Tryz.prog 163 [.one (.int .i64 n),.one (.int .i64 d)] (aAW n d).1 (aAW n d).2
theorem aN8 (n d:Int) (hn: -9223372036854775807≤n∧n≤9223372036854775807) (hd: -9223372036854775807≤d∧d≤9223372036854775807):aD0 n d:=by
 refine aT bE aL Tryz.func163 (by kernel_rfl) (.br (.fin []) (.lit<| .lit<| .lit<| .lit<| .br (.lit<| .lit<| .lit<| .lit<| .br (.fin []) (.lit<| .lit<| .lit<| .lit<| .br (.fin []) (.br (.call (vI ((Int.gcd (-n) (-d):Nat):Int)) []<| .call (vB (bI (⟨Int.tdiv (-n) ((Int.gcd (-n) (-d):Nat):Int),Int.tdiv (-d) ((Int.gcd (-n) (-d):Nat):Int)⟩:RationalD))) []<| .br (.fin []) (.fin [])) (.call (vI ((Int.gcd n d:Nat):Int)) []<| .call (vB (bI (⟨Int.tdiv n ((Int.gcd n d:Nat):Int),Int.tdiv d ((Int.gcd n d:Nat):Int)⟩:RationalD))) []<| .br (.fin []) (.fin []))))) (.lit<| .lit<| .lit<| .lit<| .lit<| .lit<| .lit<| .lit<| .lit<| .br (.fin []) (.br (.call (vI ((Int.gcd (-n) (-d):Nat):Int)) []<| .call (vB (bI (⟨Int.tdiv (-n) ((Int.gcd (-n) (-d):Nat):Int),Int.tdiv (-d) ((Int.gcd (-n) (-d):Nat):Int)⟩:RationalD))) []<| .br (.fin []) (.fin [])) (.call (vI ((Int.gcd n d:Nat):Int)) []<| .call (vB (bI (⟨Int.tdiv n ((Int.gcd n d:Nat):Int),Int.tdiv d ((Int.gcd n d:Nat):Int)⟩:RationalD))) []<| .br (.fin []) (.fin [])))))) (p:=((decide (d=(0:Int)))=true→(0:Int)=(((kS (cL n d)).1).num)∧(0:Int)=(((kS (cL n d)).1).den)∧(false)=((kS (cL n d)).2)∧True)∧((decide (d=(0:Int)))=false→cC (-n)∧(((decide (n=(-n)))=true→((!(decide (n=(0:Int))))=true→(0:Int)=(((kS (cL n d)).1).num)∧(0:Int)=(((kS (cL n d)).1).den)∧(false)=((kS (cL n d)).2)∧True)∧((!(decide (n=(0:Int))))=false→cC (-d)∧(((decide (d=(-d)))=true→(0:Int)=(((kS (cL n d)).1).num)∧(0:Int)=(((kS (cL n d)).1).den)∧(false)=((kS (cL n d)).2)∧True)∧((decide (d=(-d)))=false→((decide (d<(0:Int)))=true→cC (-n)∧(cC (-d)∧(oZ (-n) (-d)∧(((Int.gcd (-n) (-d):Nat):Int)≠0∧(cC (Int.tdiv (-n) ((Int.gcd (-n) (-d):Nat):Int))∧(((Int.gcd (-n) (-d):Nat):Int)≠0∧(cC (Int.tdiv (-d) ((Int.gcd (-n) (-d):Nat):Int))∧(iC (⟨Int.tdiv (-n) ((Int.gcd (-n) (-d):Nat):Int),Int.tdiv (-d) ((Int.gcd (-n) (-d):Nat):Int)⟩:RationalD)∧(((!(bI (⟨Int.tdiv (-n) ((Int.gcd (-n) (-d):Nat):Int),Int.tdiv (-d) ((Int.gcd (-n) (-d):Nat):Int)⟩:RationalD)))=true→(0:Int)=(((kS (cL n d)).1).num)∧(0:Int)=(((kS (cL n d)).1).den)∧(false)=((kS (cL n d)).2)∧True)∧((!(bI (⟨Int.tdiv (-n) ((Int.gcd (-n) (-d):Nat):Int),Int.tdiv (-d) ((Int.gcd (-n) (-d):Nat):Int)⟩:RationalD)))=false→(Int.tdiv (-n) ((Int.gcd (-n) (-d):Nat):Int))=(((kS (cL n d)).1).num)∧(Int.tdiv (-d) ((Int.gcd (-n) (-d):Nat):Int))=(((kS (cL n d)).1).den)∧(true)=((kS (cL n d)).2)∧True))))))))))∧((decide (d<(0:Int)))=false→oZ n d∧(((Int.gcd n d:Nat):Int)≠0∧(cC (Int.tdiv n ((Int.gcd n d:Nat):Int))∧(((Int.gcd n d:Nat):Int)≠0∧(cC (Int.tdiv d ((Int.gcd n d:Nat):Int))∧(iC (⟨Int.tdiv n ((Int.gcd n d:Nat):Int),Int.tdiv d ((Int.gcd n d:Nat):Int)⟩:RationalD)∧(((!(bI (⟨Int.tdiv n ((Int.gcd n d:Nat):Int),Int.tdiv d ((Int.gcd n d:Nat):Int)⟩:RationalD)))=true→(0:Int)=(((kS (cL n d)).1).num)∧(0:Int)=(((kS (cL n d)).1).den)∧(false)=((kS (cL n d)).2)∧True)∧((!(bI (⟨Int.tdiv n ((Int.gcd n d:Nat):Int),Int.tdiv d ((Int.gcd n d:Nat):Int)⟩:RationalD)))=false→(Int.tdiv n ((Int.gcd n d:Nat):Int))=(((kS (cL n d)).1).num)∧(Int.tdiv d ((Int.gcd n d:Nat):Int))=(((kS (cL n d)).1).den)∧(true)=((kS (cL n d)).2)∧True))))))))))))∧((decide (n=(-n)))=false→cC (-d)∧(((decide (d=(-d)))=true→(0:Int)=(((kS (cL n d)).1).num)∧(0:Int)=(((kS (cL n d)).1).den)∧(false)=((kS (cL n d)).2)∧True)∧((decide (d=(-d)))=false→((decide (d<(0:Int)))=true→cC (-n)∧(cC (-d)∧(oZ (-n) (-d)∧(((Int.gcd (-n) (-d):Nat):Int)≠0∧(cC (Int.tdiv (-n) ((Int.gcd (-n) (-d):Nat):Int))∧(((Int.gcd (-n) (-d):Nat):Int)≠0∧(cC (Int.tdiv (-d) ((Int.gcd (-n) (-d):Nat):Int))∧(iC (⟨Int.tdiv (-n) ((Int.gcd (-n) (-d):Nat):Int),Int.tdiv (-d) ((Int.gcd (-n) (-d):Nat):Int)⟩:RationalD)∧(((!(bI (⟨Int.tdiv (-n) ((Int.gcd (-n) (-d):Nat):Int),Int.tdiv (-d) ((Int.gcd (-n) (-d):Nat):Int)⟩:RationalD)))=true→(0:Int)=(((kS (cL n d)).1).num)∧(0:Int)=(((kS (cL n d)).1).den)∧(false)=((kS (cL n d)).2)∧True)∧((!(bI (⟨Int.tdiv (-n) ((Int.gcd (-n) (-d):Nat):Int),Int.tdiv (-d) ((Int.gcd (-n) (-d):Nat):Int)⟩:RationalD)))=false→(Int.tdiv (-n) ((Int.gcd (-n) (-d):Nat):Int))=(((kS (cL n d)).1).num)∧(Int.tdiv (-d) ((Int.gcd (-n) (-d):Nat):Int))=(((kS (cL n d)).1).den)∧(true)=((kS (cL n d)).2)∧True))))))))))∧((decide (d<(0:Int)))=false→oZ n d∧(((Int.gcd n d:Nat):Int)≠0∧(cC (Int.tdiv n ((Int.gcd n d:Nat):Int))∧(((Int.gcd n d:Nat):Int)≠0∧(cC (Int.tdiv d ((Int.gcd n d:Nat):Int))∧(iC (⟨Int.tdiv n ((Int.gcd n d:Nat):Int),Int.tdiv d ((Int.gcd n d:Nat):Int)⟩:RationalD)∧(((!(bI (⟨Int.tdiv n ((Int.gcd n d:Nat):Int),Int.tdiv d ((Int.gcd n d:Nat):Int)⟩:RationalD)))=true→(0:Int)=(((kS (cL n d)).1).num)∧(0:Int)=(((kS (cL n d)).1).den)∧(false)=((kS (cL n d)).2)∧True)∧((!(bI (⟨Int.tdiv n ((Int.gcd n d:Nat):Int),Int.tdiv d ((Int.gcd n d:Nat):Int)⟩:RationalD)))=false→(Int.tdiv n ((Int.gcd n d:Nat):Int))=(((kS (cL n d)).1).num)∧(Int.tdiv d ((Int.gcd n d:Nat):Int))=(((kS (cL n d)).1).den)∧(true)=((kS (cL n d)).2)∧True)))))))))))))) (by kernel_rfl) ?_
 refine ⟨fun g10=>?_,fun g10=>?_⟩
 ·replace g10:=yq g10
  refine ⟨?_,?_,?_,trivial⟩
  ·first | (exfalso;omega) | (subst g10;rw [bQ]<;>rfl) | (rw [cI (by omega) c2]<;>rfl) | (rw [bR (by omega) c2]<;>rfl) | (rw [cJ (by omega) c2]<;>rfl) | (rw [bS (by omega) c2]<;>rfl)
  ·first | (exfalso;omega) | (subst g10;rw [bQ]<;>rfl) | (rw [cI (by omega) c2]<;>rfl) | (rw [bR (by omega) c2]<;>rfl) | (rw [cJ (by omega) c2]<;>rfl) | (rw [bS (by omega) c2]<;>rfl)
  ·first | (exfalso;omega) | (subst g10;rw [bQ]<;>rfl) | (rw [cI (by omega) c2]<;>rfl) | (rw [bR (by omega) c2]<;>rfl) | (rw [cJ (by omega) c2]<;>rfl) | (rw [bS (by omega) c2]<;>rfl)
 ·replace g10:=nq g10
  refine ⟨by first | exact cS hn | exact cS (by omega) | exact ⟨by omega,by omega⟩,fun g15=>?_,fun g15=>?_⟩
  ·replace g15:=yq g15
   refine ⟨fun g20=>?_,fun g20=>?_⟩
   ·replace g20:=nq (nt g20)
    refine ⟨?_,?_,?_,trivial⟩
    ·first | (exfalso;omega) | (subst g10;rw [bQ]<;>rfl) | (rw [cI (by omega) c2]<;>rfl) | (rw [bR (by omega) c2]<;>rfl) | (rw [cJ (by omega) c2]<;>rfl) | (rw [bS (by omega) c2]<;>rfl)
    ·first | (exfalso;omega) | (subst g10;rw [bQ]<;>rfl) | (rw [cI (by omega) c2]<;>rfl) | (rw [bR (by omega) c2]<;>rfl) | (rw [cJ (by omega) c2]<;>rfl) | (rw [bS (by omega) c2]<;>rfl)
    ·first | (exfalso;omega) | (subst g10;rw [bQ]<;>rfl) | (rw [cI (by omega) c2]<;>rfl) | (rw [bR (by omega) c2]<;>rfl) | (rw [cJ (by omega) c2]<;>rfl) | (rw [bS (by omega) c2]<;>rfl)
   ·replace g20:=yq (nf g20)
    refine ⟨by first | exact cS hn | exact cS (by omega) | exact ⟨by omega,by omega⟩,fun c0=>?_,fun c0=>?_⟩
    ·replace c0:=yq c0
     refine ⟨?_,?_,?_,trivial⟩
     ·first | (exfalso;omega) | (subst g10;rw [bQ]<;>rfl) | (rw [cI (by omega) c2]<;>rfl) | (rw [bR (by omega) c2]<;>rfl) | (rw [cJ (by omega) c2]<;>rfl) | (rw [bS (by omega) c2]<;>rfl)
     ·first | (exfalso;omega) | (subst g10;rw [bQ]<;>rfl) | (rw [cI (by omega) c2]<;>rfl) | (rw [bR (by omega) c2]<;>rfl) | (rw [cJ (by omega) c2]<;>rfl) | (rw [bS (by omega) c2]<;>rfl)
     ·first | (exfalso;omega) | (subst g10;rw [bQ]<;>rfl) | (rw [cI (by omega) c2]<;>rfl) | (rw [bR (by omega) c2]<;>rfl) | (rw [cJ (by omega) c2]<;>rfl) | (rw [bS (by omega) c2]<;>rfl)
    ·replace c0:=nq c0
     refine ⟨fun c1=>?_,fun c1=>?_⟩
     ·replace c1:=yq c1
      have q1:((Int.gcd (-n) (-d):Nat):Int)≠0:=by have:=mT (n:= -n) (d:= -d) (by omega);omega
      have q2:((Int.gcd ((Int.natAbs (-n):Nat):Int) (-d):Nat):Int)≠0:=by rw [dW];have:=mT (n:= -n) (d:= -d) (by omega);omega
      refine ⟨by first | exact cS hn | exact cS (by omega) | exact ⟨by omega,by omega⟩,by first | exact cS hn | exact cS (by omega) | exact ⟨by omega,by omega⟩,yZ _ _ (by first | omega | (dsimp only;omega)) (by first | omega | (dsimp only;omega)),by omega,by first | exact cS hn | exact cS (by omega) | exact ⟨by omega,by omega⟩,by omega,by first | exact cS hn | exact cS (by omega) | exact ⟨by omega,by omega⟩,lJ (⟨Int.tdiv (-n) ((Int.gcd (-n) (-d):Nat):Int),Int.tdiv (-d) ((Int.gcd (-n) (-d):Nat):Int)⟩:RationalD),fun c2=>?_,fun c2=>?_⟩
      ·replace c2:=nt c2
       refine ⟨?_,?_,?_,trivial⟩
       ·first | (exfalso;omega) | (subst g10;rw [bQ]<;>rfl) | (rw [cI (by omega) c2]<;>rfl) | (rw [bR (by omega) c2]<;>rfl) | (rw [cJ (by omega) c2]<;>rfl) | (rw [bS (by omega) c2]<;>rfl)
       ·first | (exfalso;omega) | (subst g10;rw [bQ]<;>rfl) | (rw [cI (by omega) c2]<;>rfl) | (rw [bR (by omega) c2]<;>rfl) | (rw [cJ (by omega) c2]<;>rfl) | (rw [bS (by omega) c2]<;>rfl)
       ·first | (exfalso;omega) | (subst g10;rw [bQ]<;>rfl) | (rw [cI (by omega) c2]<;>rfl) | (rw [bR (by omega) c2]<;>rfl) | (rw [cJ (by omega) c2]<;>rfl) | (rw [bS (by omega) c2]<;>rfl)
      ·replace c2:=nf c2
       refine ⟨?_,?_,?_,trivial⟩
       ·first | (exfalso;omega) | (subst g10;rw [bQ]<;>rfl) | (rw [cI (by omega) c2]<;>rfl) | (rw [bR (by omega) c2]<;>rfl) | (rw [cJ (by omega) c2]<;>rfl) | (rw [bS (by omega) c2]<;>rfl)
       ·first | (exfalso;omega) | (subst g10;rw [bQ]<;>rfl) | (rw [cI (by omega) c2]<;>rfl) | (rw [bR (by omega) c2]<;>rfl) | (rw [cJ (by omega) c2]<;>rfl) | (rw [bS (by omega) c2]<;>rfl)
       ·first | (exfalso;omega) | (subst g10;rw [bQ]<;>rfl) | (rw [cI (by omega) c2]<;>rfl) | (rw [bR (by omega) c2]<;>rfl) | (rw [cJ (by omega) c2]<;>rfl) | (rw [bS (by omega) c2]<;>rfl)
     ·replace c1:=nq c1
      have q1:((Int.gcd n d:Nat):Int)≠0:=by have:=mT (n:=n) (d:=d) (by omega);omega
      have q2:((Int.gcd ((Int.natAbs n:Nat):Int) d:Nat):Int)≠0:=by rw [dW];have:=mT (n:=n) (d:=d) (by omega);omega
      refine ⟨yZ _ _ (by first | omega | (dsimp only;omega)) (by first | omega | (dsimp only;omega)),by omega,by first | exact cS hn | exact cS (by omega) | exact ⟨by omega,by omega⟩,by omega,by first | exact cS hn | exact cS (by omega) | exact ⟨by omega,by omega⟩,lJ (⟨Int.tdiv n ((Int.gcd n d:Nat):Int),Int.tdiv d ((Int.gcd n d:Nat):Int)⟩:RationalD),fun c2=>?_,fun c2=>?_⟩
      ·replace c2:=nt c2
       refine ⟨?_,?_,?_,trivial⟩
       ·first | (exfalso;omega) | (subst g10;rw [bQ]<;>rfl) | (rw [cI (by omega) c2]<;>rfl) | (rw [bR (by omega) c2]<;>rfl) | (rw [cJ (by omega) c2]<;>rfl) | (rw [bS (by omega) c2]<;>rfl)
       ·first | (exfalso;omega) | (subst g10;rw [bQ]<;>rfl) | (rw [cI (by omega) c2]<;>rfl) | (rw [bR (by omega) c2]<;>rfl) | (rw [cJ (by omega) c2]<;>rfl) | (rw [bS (by omega) c2]<;>rfl)
       ·first | (exfalso;omega) | (subst g10;rw [bQ]<;>rfl) | (rw [cI (by omega) c2]<;>rfl) | (rw [bR (by omega) c2]<;>rfl) | (rw [cJ (by omega) c2]<;>rfl) | (rw [bS (by omega) c2]<;>rfl)
      ·replace c2:=nf c2
       refine ⟨?_,?_,?_,trivial⟩
       ·first | (exfalso;omega) | (subst g10;rw [bQ]<;>rfl) | (rw [cI (by omega) c2]<;>rfl) | (rw [bR (by omega) c2]<;>rfl) | (rw [cJ (by omega) c2]<;>rfl) | (rw [bS (by omega) c2]<;>rfl)
       ·first | (exfalso;omega) | (subst g10;rw [bQ]<;>rfl) | (rw [cI (by omega) c2]<;>rfl) | (rw [bR (by omega) c2]<;>rfl) | (rw [cJ (by omega) c2]<;>rfl) | (rw [bS (by omega) c2]<;>rfl)
       ·first | (exfalso;omega) | (subst g10;rw [bQ]<;>rfl) | (rw [cI (by omega) c2]<;>rfl) | (rw [bR (by omega) c2]<;>rfl) | (rw [cJ (by omega) c2]<;>rfl) | (rw [bS (by omega) c2]<;>rfl)
  ·replace g15:=nq g15
   refine ⟨by first | exact cS hn | exact cS (by omega) | exact ⟨by omega,by omega⟩,fun c0=>?_,fun c0=>?_⟩
   ·replace c0:=yq c0
    refine ⟨?_,?_,?_,trivial⟩
    ·first | (exfalso;omega) | (subst g10;rw [bQ]<;>rfl) | (rw [cI (by omega) c2]<;>rfl) | (rw [bR (by omega) c2]<;>rfl) | (rw [cJ (by omega) c2]<;>rfl) | (rw [bS (by omega) c2]<;>rfl)
    ·first | (exfalso;omega) | (subst g10;rw [bQ]<;>rfl) | (rw [cI (by omega) c2]<;>rfl) | (rw [bR (by omega) c2]<;>rfl) | (rw [cJ (by omega) c2]<;>rfl) | (rw [bS (by omega) c2]<;>rfl)
    ·first | (exfalso;omega) | (subst g10;rw [bQ]<;>rfl) | (rw [cI (by omega) c2]<;>rfl) | (rw [bR (by omega) c2]<;>rfl) | (rw [cJ (by omega) c2]<;>rfl) | (rw [bS (by omega) c2]<;>rfl)
   ·replace c0:=nq c0
    refine ⟨fun c1=>?_,fun c1=>?_⟩
    ·replace c1:=yq c1
     have q1:((Int.gcd (-n) (-d):Nat):Int)≠0:=by have:=mT (n:= -n) (d:= -d) (by omega);omega
     have q2:((Int.gcd ((Int.natAbs (-n):Nat):Int) (-d):Nat):Int)≠0:=by rw [dW];have:=mT (n:= -n) (d:= -d) (by omega);omega
     refine ⟨by first | exact cS hn | exact cS (by omega) | exact ⟨by omega,by omega⟩,by first | exact cS hn | exact cS (by omega) | exact ⟨by omega,by omega⟩,yZ _ _ (by first | omega | (dsimp only;omega)) (by first | omega | (dsimp only;omega)),by omega,by first | exact cS hn | exact cS (by omega) | exact ⟨by omega,by omega⟩,by omega,by first | exact cS hn | exact cS (by omega) | exact ⟨by omega,by omega⟩,lJ (⟨Int.tdiv (-n) ((Int.gcd (-n) (-d):Nat):Int),Int.tdiv (-d) ((Int.gcd (-n) (-d):Nat):Int)⟩:RationalD),fun c2=>?_,fun c2=>?_⟩
     ·replace c2:=nt c2
      refine ⟨?_,?_,?_,trivial⟩
      ·first | (exfalso;omega) | (subst g10;rw [bQ]<;>rfl) | (rw [cI (by omega) c2]<;>rfl) | (rw [bR (by omega) c2]<;>rfl) | (rw [cJ (by omega) c2]<;>rfl) | (rw [bS (by omega) c2]<;>rfl)
      ·first | (exfalso;omega) | (subst g10;rw [bQ]<;>rfl) | (rw [cI (by omega) c2]<;>rfl) | (rw [bR (by omega) c2]<;>rfl) | (rw [cJ (by omega) c2]<;>rfl) | (rw [bS (by omega) c2]<;>rfl)
      ·first | (exfalso;omega) | (subst g10;rw [bQ]<;>rfl) | (rw [cI (by omega) c2]<;>rfl) | (rw [bR (by omega) c2]<;>rfl) | (rw [cJ (by omega) c2]<;>rfl) | (rw [bS (by omega) c2]<;>rfl)
     ·replace c2:=nf c2
      refine ⟨?_,?_,?_,trivial⟩
      ·first | (exfalso;omega) | (subst g10;rw [bQ]<;>rfl) | (rw [cI (by omega) c2]<;>rfl) | (rw [bR (by omega) c2]<;>rfl) | (rw [cJ (by omega) c2]<;>rfl) | (rw [bS (by omega) c2]<;>rfl)
      ·first | (exfalso;omega) | (subst g10;rw [bQ]<;>rfl) | (rw [cI (by omega) c2]<;>rfl) | (rw [bR (by omega) c2]<;>rfl) | (rw [cJ (by omega) c2]<;>rfl) | (rw [bS (by omega) c2]<;>rfl)
      ·first | (exfalso;omega) | (subst g10;rw [bQ]<;>rfl) | (rw [cI (by omega) c2]<;>rfl) | (rw [bR (by omega) c2]<;>rfl) | (rw [cJ (by omega) c2]<;>rfl) | (rw [bS (by omega) c2]<;>rfl)
    ·replace c1:=nq c1
     have q1:((Int.gcd n d:Nat):Int)≠0:=by have:=mT (n:=n) (d:=d) (by omega);omega
     have q2:((Int.gcd ((Int.natAbs n:Nat):Int) d:Nat):Int)≠0:=by rw [dW];have:=mT (n:=n) (d:=d) (by omega);omega
     refine ⟨yZ _ _ (by first | omega | (dsimp only;omega)) (by first | omega | (dsimp only;omega)),by omega,by first | exact cS hn | exact cS (by omega) | exact ⟨by omega,by omega⟩,by omega,by first | exact cS hn | exact cS (by omega) | exact ⟨by omega,by omega⟩,lJ (⟨Int.tdiv n ((Int.gcd n d:Nat):Int),Int.tdiv d ((Int.gcd n d:Nat):Int)⟩:RationalD),fun c2=>?_,fun c2=>?_⟩
     ·replace c2:=nt c2
      refine ⟨?_,?_,?_,trivial⟩
      ·first | (exfalso;omega) | (subst g10;rw [bQ]<;>rfl) | (rw [cI (by omega) c2]<;>rfl) | (rw [bR (by omega) c2]<;>rfl) | (rw [cJ (by omega) c2]<;>rfl) | (rw [bS (by omega) c2]<;>rfl)
      ·first | (exfalso;omega) | (subst g10;rw [bQ]<;>rfl) | (rw [cI (by omega) c2]<;>rfl) | (rw [bR (by omega) c2]<;>rfl) | (rw [cJ (by omega) c2]<;>rfl) | (rw [bS (by omega) c2]<;>rfl)
      ·first | (exfalso;omega) | (subst g10;rw [bQ]<;>rfl) | (rw [cI (by omega) c2]<;>rfl) | (rw [bR (by omega) c2]<;>rfl) | (rw [cJ (by omega) c2]<;>rfl) | (rw [bS (by omega) c2]<;>rfl)
     ·replace c2:=nf c2
      refine ⟨?_,?_,?_,trivial⟩
      ·first | (exfalso;omega) | (subst g10;rw [bQ]<;>rfl) | (rw [cI (by omega) c2]<;>rfl) | (rw [bR (by omega) c2]<;>rfl) | (rw [cJ (by omega) c2]<;>rfl) | (rw [bS (by omega) c2]<;>rfl)
      ·first | (exfalso;omega) | (subst g10;rw [bQ]<;>rfl) | (rw [cI (by omega) c2]<;>rfl) | (rw [bR (by omega) c2]<;>rfl) | (rw [cJ (by omega) c2]<;>rfl) | (rw [bS (by omega) c2]<;>rfl)
      ·first | (exfalso;omega) | (subst g10;rw [bQ]<;>rfl) | (rw [cI (by omega) c2]<;>rfl) | (rw [bR (by omega) c2]<;>rfl) | (rw [cJ (by omega) c2]<;>rfl) | (rw [bS (by omega) c2]<;>rfl)
abbrev aAX (n:Int) (d:Int):AV × List (Nat × Rs):=(.tup [.agg [vI (((kS (cL n d)).1).num),vI (((kS (cL n d)).1).den)],vB ((kS (cL n d)).2)],[])
abbrev aD1 (n:Int) (d:Int):Prop:=cT Tryz.prog 162 [.one (.int .i64 n),.one (.int .i64 d)] (aAX n d).1 (aAX n d).2
theorem aN9 (n d:Int) (hn: -9223372036854775807≤n∧n≤9223372036854775807) (hd: -9223372036854775807≤d∧d≤9223372036854775807):aD1 n d:=by
 refine aT bE aL Tryz.func162 (by kernel_rfl) (.br (.fin []) (.lit<| .lit<| .br (.fin []) (.lit<| .lit<| .br (.fin []) (.br (.call (vI (((-n).natAbs:Nat):Int)) []<| .call (vI ((Int.gcd (((-n).natAbs:Nat):Int) (-d):Nat):Int)) []<| .call (vB (bI (⟨Int.tdiv (-n) ((Int.gcd (((-n).natAbs:Nat):Int) (-d):Nat):Int),Int.tdiv (-d) ((Int.gcd (((-n).natAbs:Nat):Int) (-d):Nat):Int)⟩:RationalD))) []<| .br (.fin []) (.fin [])) (.call (vI ((n.natAbs:Nat):Int)) []<| .call (vI ((Int.gcd ((n.natAbs:Nat):Int) d:Nat):Int)) []<| .call (vB (bI (⟨Int.tdiv n ((Int.gcd ((n.natAbs:Nat):Int) d:Nat):Int),Int.tdiv d ((Int.gcd ((n.natAbs:Nat):Int) d:Nat):Int)⟩:RationalD))) []<| .br (.fin []) (.fin [])))))) (p:=((decide (d=(0:Int)))=true→(0:Int)=(((kS (cL n d)).1).num)∧(0:Int)=(((kS (cL n d)).1).den)∧(false)=((kS (cL n d)).2)∧True)∧((decide (d=(0:Int)))=false→((decide (n<(-9223372036854775807:Int)))=true→(0:Int)=(((kS (cL n d)).1).num)∧(0:Int)=(((kS (cL n d)).1).den)∧(false)=((kS (cL n d)).2)∧True)∧((decide (n<(-9223372036854775807:Int)))=false→((decide (d<(-9223372036854775807:Int)))=true→(0:Int)=(((kS (cL n d)).1).num)∧(0:Int)=(((kS (cL n d)).1).den)∧(false)=((kS (cL n d)).2)∧True)∧((decide (d<(-9223372036854775807:Int)))=false→((decide (d<(0:Int)))=true→cC (-n)∧(cC (-d)∧(vQ (-n)∧(vP (((-n).natAbs:Nat):Int) (-d)∧(((Int.gcd (((-n).natAbs:Nat):Int) (-d):Nat):Int)≠0∧(cC (Int.tdiv (-n) ((Int.gcd (((-n).natAbs:Nat):Int) (-d):Nat):Int))∧(((Int.gcd (((-n).natAbs:Nat):Int) (-d):Nat):Int)≠0∧(cC (Int.tdiv (-d) ((Int.gcd (((-n).natAbs:Nat):Int) (-d):Nat):Int))∧(jP (⟨Int.tdiv (-n) ((Int.gcd (((-n).natAbs:Nat):Int) (-d):Nat):Int),Int.tdiv (-d) ((Int.gcd (((-n).natAbs:Nat):Int) (-d):Nat):Int)⟩:RationalD)∧(((!(bI (⟨Int.tdiv (-n) ((Int.gcd (((-n).natAbs:Nat):Int) (-d):Nat):Int),Int.tdiv (-d) ((Int.gcd (((-n).natAbs:Nat):Int) (-d):Nat):Int)⟩:RationalD)))=true→(0:Int)=(((kS (cL n d)).1).num)∧(0:Int)=(((kS (cL n d)).1).den)∧(false)=((kS (cL n d)).2)∧True)∧((!(bI (⟨Int.tdiv (-n) ((Int.gcd (((-n).natAbs:Nat):Int) (-d):Nat):Int),Int.tdiv (-d) ((Int.gcd (((-n).natAbs:Nat):Int) (-d):Nat):Int)⟩:RationalD)))=false→(Int.tdiv (-n) ((Int.gcd (((-n).natAbs:Nat):Int) (-d):Nat):Int))=(((kS (cL n d)).1).num)∧(Int.tdiv (-d) ((Int.gcd (((-n).natAbs:Nat):Int) (-d):Nat):Int))=(((kS (cL n d)).1).den)∧(true)=((kS (cL n d)).2)∧True)))))))))))∧((decide (d<(0:Int)))=false→vQ n∧(vP ((n.natAbs:Nat):Int) d∧(((Int.gcd ((n.natAbs:Nat):Int) d:Nat):Int)≠0∧(cC (Int.tdiv n ((Int.gcd ((n.natAbs:Nat):Int) d:Nat):Int))∧(((Int.gcd ((n.natAbs:Nat):Int) d:Nat):Int)≠0∧(cC (Int.tdiv d ((Int.gcd ((n.natAbs:Nat):Int) d:Nat):Int))∧(jP (⟨Int.tdiv n ((Int.gcd ((n.natAbs:Nat):Int) d:Nat):Int),Int.tdiv d ((Int.gcd ((n.natAbs:Nat):Int) d:Nat):Int)⟩:RationalD)∧(((!(bI (⟨Int.tdiv n ((Int.gcd ((n.natAbs:Nat):Int) d:Nat):Int),Int.tdiv d ((Int.gcd ((n.natAbs:Nat):Int) d:Nat):Int)⟩:RationalD)))=true→(0:Int)=(((kS (cL n d)).1).num)∧(0:Int)=(((kS (cL n d)).1).den)∧(false)=((kS (cL n d)).2)∧True)∧((!(bI (⟨Int.tdiv n ((Int.gcd ((n.natAbs:Nat):Int) d:Nat):Int),Int.tdiv d ((Int.gcd ((n.natAbs:Nat):Int) d:Nat):Int)⟩:RationalD)))=false→(Int.tdiv n ((Int.gcd ((n.natAbs:Nat):Int) d:Nat):Int))=(((kS (cL n d)).1).num)∧(Int.tdiv d ((Int.gcd ((n.natAbs:Nat):Int) d:Nat):Int))=(((kS (cL n d)).1).den)∧(true)=((kS (cL n d)).2)∧True))))))))))))) (by kernel_rfl) ?_
 refine ⟨fun g10=>?_,fun g10=>?_⟩
 ·replace g10:=yq g10
  refine ⟨?_,?_,?_,trivial⟩
  ·(try simp only [dW] at*);first | (exfalso;omega) | (subst g10;rw [bQ]<;>rfl) | (rw [cI (by omega) c2]<;>rfl) | (rw [bR (by omega) c2]<;>rfl) | (rw [cJ (by omega) c2]<;>rfl) | (rw [bS (by omega) c2]<;>rfl)
  ·(try simp only [dW] at*);first | (exfalso;omega) | (subst g10;rw [bQ]<;>rfl) | (rw [cI (by omega) c2]<;>rfl) | (rw [bR (by omega) c2]<;>rfl) | (rw [cJ (by omega) c2]<;>rfl) | (rw [bS (by omega) c2]<;>rfl)
  ·(try simp only [dW] at*);first | (exfalso;omega) | (subst g10;rw [bQ]<;>rfl) | (rw [cI (by omega) c2]<;>rfl) | (rw [bR (by omega) c2]<;>rfl) | (rw [cJ (by omega) c2]<;>rfl) | (rw [bS (by omega) c2]<;>rfl)
 ·replace g10:=nq g10
  refine ⟨fun g14=>?_,fun g14=>?_⟩
  ·replace g14:=yq g14
   refine ⟨?_,?_,?_,trivial⟩
   ·(try simp only [dW] at*);first | (exfalso;omega) | (subst g10;rw [bQ]<;>rfl) | (rw [cI (by omega) c2]<;>rfl) | (rw [bR (by omega) c2]<;>rfl) | (rw [cJ (by omega) c2]<;>rfl) | (rw [bS (by omega) c2]<;>rfl)
   ·(try simp only [dW] at*);first | (exfalso;omega) | (subst g10;rw [bQ]<;>rfl) | (rw [cI (by omega) c2]<;>rfl) | (rw [bR (by omega) c2]<;>rfl) | (rw [cJ (by omega) c2]<;>rfl) | (rw [bS (by omega) c2]<;>rfl)
   ·(try simp only [dW] at*);first | (exfalso;omega) | (subst g10;rw [bQ]<;>rfl) | (rw [cI (by omega) c2]<;>rfl) | (rw [bR (by omega) c2]<;>rfl) | (rw [cJ (by omega) c2]<;>rfl) | (rw [bS (by omega) c2]<;>rfl)
  ·replace g14:=nq g14
   refine ⟨fun c0=>?_,fun c0=>?_⟩
   ·replace c0:=yq c0
    refine ⟨?_,?_,?_,trivial⟩
    ·(try simp only [dW] at*);first | (exfalso;omega) | (subst g10;rw [bQ]<;>rfl) | (rw [cI (by omega) c2]<;>rfl) | (rw [bR (by omega) c2]<;>rfl) | (rw [cJ (by omega) c2]<;>rfl) | (rw [bS (by omega) c2]<;>rfl)
    ·(try simp only [dW] at*);first | (exfalso;omega) | (subst g10;rw [bQ]<;>rfl) | (rw [cI (by omega) c2]<;>rfl) | (rw [bR (by omega) c2]<;>rfl) | (rw [cJ (by omega) c2]<;>rfl) | (rw [bS (by omega) c2]<;>rfl)
    ·(try simp only [dW] at*);first | (exfalso;omega) | (subst g10;rw [bQ]<;>rfl) | (rw [cI (by omega) c2]<;>rfl) | (rw [bR (by omega) c2]<;>rfl) | (rw [cJ (by omega) c2]<;>rfl) | (rw [bS (by omega) c2]<;>rfl)
   ·replace c0:=nq c0
    refine ⟨fun c1=>?_,fun c1=>?_⟩
    ·replace c1:=yq c1
     have q1:((Int.gcd (-n) (-d):Nat):Int)≠0:=by have:=mT (n:= -n) (d:= -d) (by omega);omega
     have q2:((Int.gcd ((Int.natAbs (-n):Nat):Int) (-d):Nat):Int)≠0:=by rw [dW];have:=mT (n:= -n) (d:= -d) (by omega);omega
     refine ⟨by first | exact cS hn | exact cS (by omega) | exact ⟨by omega,by omega⟩,by first | exact cS hn | exact cS (by omega) | exact ⟨by omega,by omega⟩,aGq _ (by first | omega | (dsimp only;omega)),aGp _ _ (by first | omega | (dsimp only;omega)) (by first | omega | (dsimp only;omega)),by omega,by first | exact cS hn | exact cS (by omega) | exact ⟨by omega,by omega⟩,by omega,by first | exact cS hn | exact cS (by omega) | exact ⟨by omega,by omega⟩,mP (⟨Int.tdiv (-n) ((Int.gcd (((-n).natAbs:Nat):Int) (-d):Nat):Int),Int.tdiv (-d) ((Int.gcd (((-n).natAbs:Nat):Int) (-d):Nat):Int)⟩:RationalD),fun c2=>?_,fun c2=>?_⟩
     ·replace c2:=nt c2
      refine ⟨?_,?_,?_,trivial⟩
      ·(try simp only [dW] at*);first | (exfalso;omega) | (subst g10;rw [bQ]<;>rfl) | (rw [cI (by omega) c2]<;>rfl) | (rw [bR (by omega) c2]<;>rfl) | (rw [cJ (by omega) c2]<;>rfl) | (rw [bS (by omega) c2]<;>rfl)
      ·(try simp only [dW] at*);first | (exfalso;omega) | (subst g10;rw [bQ]<;>rfl) | (rw [cI (by omega) c2]<;>rfl) | (rw [bR (by omega) c2]<;>rfl) | (rw [cJ (by omega) c2]<;>rfl) | (rw [bS (by omega) c2]<;>rfl)
      ·(try simp only [dW] at*);first | (exfalso;omega) | (subst g10;rw [bQ]<;>rfl) | (rw [cI (by omega) c2]<;>rfl) | (rw [bR (by omega) c2]<;>rfl) | (rw [cJ (by omega) c2]<;>rfl) | (rw [bS (by omega) c2]<;>rfl)
     ·replace c2:=nf c2
      refine ⟨?_,?_,?_,trivial⟩
      ·(try simp only [dW] at*);first | (exfalso;omega) | (subst g10;rw [bQ]<;>rfl) | (rw [cI (by omega) c2]<;>rfl) | (rw [bR (by omega) c2]<;>rfl) | (rw [cJ (by omega) c2]<;>rfl) | (rw [bS (by omega) c2]<;>rfl)
      ·(try simp only [dW] at*);first | (exfalso;omega) | (subst g10;rw [bQ]<;>rfl) | (rw [cI (by omega) c2]<;>rfl) | (rw [bR (by omega) c2]<;>rfl) | (rw [cJ (by omega) c2]<;>rfl) | (rw [bS (by omega) c2]<;>rfl)
      ·(try simp only [dW] at*);first | (exfalso;omega) | (subst g10;rw [bQ]<;>rfl) | (rw [cI (by omega) c2]<;>rfl) | (rw [bR (by omega) c2]<;>rfl) | (rw [cJ (by omega) c2]<;>rfl) | (rw [bS (by omega) c2]<;>rfl)
    ·replace c1:=nq c1
     have q1:((Int.gcd n d:Nat):Int)≠0:=by have:=mT (n:=n) (d:=d) (by omega);omega
     have q2:((Int.gcd ((Int.natAbs n:Nat):Int) d:Nat):Int)≠0:=by rw [dW];have:=mT (n:=n) (d:=d) (by omega);omega
     refine ⟨aGq _ (by first | omega | (dsimp only;omega)),aGp _ _ (by first | omega | (dsimp only;omega)) (by first | omega | (dsimp only;omega)),by omega,by first | exact cS hn | exact cS (by omega) | exact ⟨by omega,by omega⟩,by omega,by first | exact cS hn | exact cS (by omega) | exact ⟨by omega,by omega⟩,mP (⟨Int.tdiv n ((Int.gcd ((n.natAbs:Nat):Int) d:Nat):Int),Int.tdiv d ((Int.gcd ((n.natAbs:Nat):Int) d:Nat):Int)⟩:RationalD),fun c2=>?_,fun c2=>?_⟩
     ·replace c2:=nt c2
      refine ⟨?_,?_,?_,trivial⟩
      ·(try simp only [dW] at*);first | (exfalso;omega) | (subst g10;rw [bQ]<;>rfl) | (rw [cI (by omega) c2]<;>rfl) | (rw [bR (by omega) c2]<;>rfl) | (rw [cJ (by omega) c2]<;>rfl) | (rw [bS (by omega) c2]<;>rfl)
      ·(try simp only [dW] at*);first | (exfalso;omega) | (subst g10;rw [bQ]<;>rfl) | (rw [cI (by omega) c2]<;>rfl) | (rw [bR (by omega) c2]<;>rfl) | (rw [cJ (by omega) c2]<;>rfl) | (rw [bS (by omega) c2]<;>rfl)
      ·(try simp only [dW] at*);first | (exfalso;omega) | (subst g10;rw [bQ]<;>rfl) | (rw [cI (by omega) c2]<;>rfl) | (rw [bR (by omega) c2]<;>rfl) | (rw [cJ (by omega) c2]<;>rfl) | (rw [bS (by omega) c2]<;>rfl)
     ·replace c2:=nf c2
      refine ⟨?_,?_,?_,trivial⟩
      ·(try simp only [dW] at*);first | (exfalso;omega) | (subst g10;rw [bQ]<;>rfl) | (rw [cI (by omega) c2]<;>rfl) | (rw [bR (by omega) c2]<;>rfl) | (rw [cJ (by omega) c2]<;>rfl) | (rw [bS (by omega) c2]<;>rfl)
      ·(try simp only [dW] at*);first | (exfalso;omega) | (subst g10;rw [bQ]<;>rfl) | (rw [cI (by omega) c2]<;>rfl) | (rw [bR (by omega) c2]<;>rfl) | (rw [cJ (by omega) c2]<;>rfl) | (rw [bS (by omega) c2]<;>rfl)
      ·(try simp only [dW] at*);first | (exfalso;omega) | (subst g10;rw [bQ]<;>rfl) | (rw [cI (by omega) c2]<;>rfl) | (rw [bR (by omega) c2]<;>rfl) | (rw [cJ (by omega) c2]<;>rfl) | (rw [bS (by omega) c2]<;>rfl)
abbrev aBW (a:RationalD) (b:RationalD):AV × List (Nat × Rs):=(.tup [.agg [vI (((eH a b).1).num),vI (((eH a b).1).den)],vB ((eH a b).2)],[])
abbrev aGy (a:RationalD) (b:RationalD):Prop:=cT Tryz.prog 129 [.agg [.int .i64 a.num,.int .i64 a.den],.agg [.int .i64 b.num,.int .i64 b.den]] (aBW a b).1 (aBW a b).2
theorem aR7 (a b:RationalD):aGy a b:=by
 refine aT bE aL Tryz.func129 (by kernel_rfl) (.call (vB (bI a)) []<| .br (.fin []) (.call (vB (bI b)) []<| .lit<| .lit<| .br (.fin []) (bV (aAW ((a.num*b.den)+(b.num*a.den)) (a.den*b.den))<| .fin []))) (p:=iC a∧(((!(bI a))=true→(0:Int)=(((eH a b).1).num)∧(0:Int)=(((eH a b).1).den)∧(false)=((eH a b).2)∧True)∧((!(bI a))=false→iC b∧(((!(bI b))=true→(0:Int)=(((eH a b).1).num)∧(0:Int)=(((eH a b).1).den)∧(false)=((eH a b).2)∧True)∧((!(bI b))=false→cC (a.num*b.den)∧cC (b.num*a.den)∧cC ((a.num*b.den)+(b.num*a.den))∧cC (a.den*b.den)∧aD0 ((a.num*b.den)+(b.num*a.den)) (a.den*b.den)∧(((kS (cL ((a.num*b.den)+(b.num*a.den)) (a.den*b.den))).1).num)=(((eH a b).1).num)∧(((kS (cL ((a.num*b.den)+(b.num*a.den)) (a.den*b.den))).1).den)=(((eH a b).1).den)∧((kS (cL ((a.num*b.den)+(b.num*a.den)) (a.den*b.den))).2)=((eH a b).2)∧True))))) (by kernel_rfl) ?_
 refine ⟨lJ a,fun g9=>?_,fun g9=>?_⟩
 ·replace g9:=nt g9
  refine ⟨?_,?_,?_,trivial⟩
  ·first | (rw [eH,gX g9 c0];done) | (rw [eH,eJ (.inl g9)];rfl) | (rw [eH,eJ (.inr c0)];rfl)
  ·first | (rw [eH,gX g9 c0];done) | (rw [eH,eJ (.inl g9)];rfl) | (rw [eH,eJ (.inr c0)];rfl)
  ·first | (rw [eH,gX g9 c0];done) | (rw [eH,eJ (.inl g9)];rfl) | (rw [eH,eJ (.inr c0)];rfl)
 ·replace g9:=nf g9
  refine ⟨lJ b,fun c0=>?_,fun c0=>?_⟩
  ·replace c0:=nt c0
   refine ⟨?_,?_,?_,trivial⟩
   ·first | (rw [eH,gX g9 c0];done) | (rw [eH,eJ (.inl g9)];rfl) | (rw [eH,eJ (.inr c0)];rfl)
   ·first | (rw [eH,gX g9 c0];done) | (rw [eH,eJ (.inl g9)];rfl) | (rw [eH,eJ (.inr c0)];rfl)
   ·first | (rw [eH,gX g9 c0];done) | (rw [eH,eJ (.inl g9)];rfl) | (rw [eH,eJ (.inr c0)];rfl)
  ·replace c0:=nf c0
   have q1:=iU g9
   have q2:=iU c0
   have m1:=jT (x:=a.num) (y:=b.den) ⟨by omega,by omega⟩ ⟨by omega,by omega⟩
   have m2:=jT (x:=b.num) (y:=a.den) ⟨by omega,by omega⟩ ⟨by omega,by omega⟩
   have m3:=jT (x:=a.den) (y:=b.den) ⟨by omega,by omega⟩ ⟨by omega,by omega⟩
   have m4:=jT (x:=a.num) (y:=b.num) ⟨by omega,by omega⟩ ⟨by omega,by omega⟩
   have m5:=jT (x:=a.den) (y:=b.num) ⟨by omega,by omega⟩ ⟨by omega,by omega⟩
   refine ⟨⟨by omega,by omega⟩,⟨by omega,by omega⟩,⟨by omega,by omega⟩,⟨by omega,by omega⟩,aN8 _ _ (by first | omega | (dsimp only;omega)) (by first | omega | (dsimp only;omega)),?_,?_,?_,trivial⟩
   ·first | (rw [eH,gX g9 c0];done) | (rw [eH,eJ (.inl g9)];rfl) | (rw [eH,eJ (.inr c0)];rfl)
   ·first | (rw [eH,gX g9 c0];done) | (rw [eH,eJ (.inl g9)];rfl) | (rw [eH,eJ (.inr c0)];rfl)
   ·first | (rw [eH,gX g9 c0];done) | (rw [eH,eJ (.inl g9)];rfl) | (rw [eH,eJ (.inr c0)];rfl)
abbrev aBX (a:RationalD) (b:RationalD):AV × List (Nat × Rs):=(.tup [.agg [vI (((dQ a b).1).num),vI (((dQ a b).1).den)],vB ((dQ a b).2)],[])
abbrev aGz (a:RationalD) (b:RationalD):Prop:=cT Tryz.prog 128 [.agg [.int .i64 a.num,.int .i64 a.den],.agg [.int .i64 b.num,.int .i64 b.den]] (aBX a b).1 (aBX a b).2
theorem aR8 (a b:RationalD):aGz a b:=by
 refine aT bE aL Tryz.func128 (by kernel_rfl) (.call (vB (bI a)) []<| .br (.fin []) (.call (vB (bI b)) []<| .lit<| .lit<| .br (.fin []) (bV (aAW (a.num*b.num) (a.den*b.den))<| .fin []))) (p:=iC a∧(((!(bI a))=true→(0:Int)=(((dQ a b).1).num)∧(0:Int)=(((dQ a b).1).den)∧(false)=((dQ a b).2)∧True)∧((!(bI a))=false→iC b∧(((!(bI b))=true→(0:Int)=(((dQ a b).1).num)∧(0:Int)=(((dQ a b).1).den)∧(false)=((dQ a b).2)∧True)∧((!(bI b))=false→cC (a.num*b.num)∧cC (a.den*b.den)∧aD0 (a.num*b.num) (a.den*b.den)∧(((kS (cL (a.num*b.num) (a.den*b.den))).1).num)=(((dQ a b).1).num)∧(((kS (cL (a.num*b.num) (a.den*b.den))).1).den)=(((dQ a b).1).den)∧((kS (cL (a.num*b.num) (a.den*b.den))).2)=((dQ a b).2)∧True))))) (by kernel_rfl) ?_
 refine ⟨lJ a,fun g9=>?_,fun g9=>?_⟩
 ·replace g9:=nt g9
  refine ⟨?_,?_,?_,trivial⟩
  ·first | (rw [dQ,gY g9 c0];done) | (rw [dQ,eK (.inl g9)];rfl) | (rw [dQ,eK (.inr c0)];rfl)
  ·first | (rw [dQ,gY g9 c0];done) | (rw [dQ,eK (.inl g9)];rfl) | (rw [dQ,eK (.inr c0)];rfl)
  ·first | (rw [dQ,gY g9 c0];done) | (rw [dQ,eK (.inl g9)];rfl) | (rw [dQ,eK (.inr c0)];rfl)
 ·replace g9:=nf g9
  refine ⟨lJ b,fun c0=>?_,fun c0=>?_⟩
  ·replace c0:=nt c0
   refine ⟨?_,?_,?_,trivial⟩
   ·first | (rw [dQ,gY g9 c0];done) | (rw [dQ,eK (.inl g9)];rfl) | (rw [dQ,eK (.inr c0)];rfl)
   ·first | (rw [dQ,gY g9 c0];done) | (rw [dQ,eK (.inl g9)];rfl) | (rw [dQ,eK (.inr c0)];rfl)
   ·first | (rw [dQ,gY g9 c0];done) | (rw [dQ,eK (.inl g9)];rfl) | (rw [dQ,eK (.inr c0)];rfl)
  ·replace c0:=nf c0
   have q1:=iU g9
   have q2:=iU c0
   have m1:=jT (x:=a.num) (y:=b.den) ⟨by omega,by omega⟩ ⟨by omega,by omega⟩
   have m2:=jT (x:=b.num) (y:=a.den) ⟨by omega,by omega⟩ ⟨by omega,by omega⟩
   have m3:=jT (x:=a.den) (y:=b.den) ⟨by omega,by omega⟩ ⟨by omega,by omega⟩
   have m4:=jT (x:=a.num) (y:=b.num) ⟨by omega,by omega⟩ ⟨by omega,by omega⟩
   have m5:=jT (x:=a.den) (y:=b.num) ⟨by omega,by omega⟩ ⟨by omega,by omega⟩
   refine ⟨⟨by omega,by omega⟩,⟨by omega,by omega⟩,aN8 _ _ (by first | omega | (dsimp only;omega)) (by first | omega | (dsimp only;omega)),?_,?_,?_,trivial⟩
   ·first | (rw [dQ,gY g9 c0];done) | (rw [dQ,eK (.inl g9)];rfl) | (rw [dQ,eK (.inr c0)];rfl)
   ·first | (rw [dQ,gY g9 c0];done) | (rw [dQ,eK (.inl g9)];rfl) | (rw [dQ,eK (.inr c0)];rfl)
   ·first | (rw [dQ,gY g9 c0];done) | (rw [dQ,eK (.inl g9)];rfl) | (rw [dQ,eK (.inr c0)];rfl)
abbrev aBY (a:RationalD) (b:RationalD):AV × List (Nat × Rs):=(.tup [.agg [vI (((eH a b).1).num),vI (((eH a b).1).den)],vB ((eH a b).2)],[])
abbrev aHA (a:RationalD) (b:RationalD):Prop:=cT Tryz.prog 127 [.agg [.int .i64 a.num,.int .i64 a.den],.agg [.int .i64 b.num,.int .i64 b.den]] (aBY a b).1 (aBY a b).2
theorem aR9 (a b:RationalD):aHA a b:=by
 refine aT bE aL Tryz.func127 (by kernel_rfl) (.call (vB (bI a)) []<| .br (.fin []) (.call (vB (bI b)) []<| .lit<| .lit<| .br (.fin []) (bV (aAX ((a.num*b.den)+(b.num*a.den)) (a.den*b.den))<| .fin []))) (p:=jP a∧(((!(bI a))=true→(0:Int)=(((eH a b).1).num)∧(0:Int)=(((eH a b).1).den)∧(false)=((eH a b).2)∧True)∧((!(bI a))=false→jP b∧(((!(bI b))=true→(0:Int)=(((eH a b).1).num)∧(0:Int)=(((eH a b).1).den)∧(false)=((eH a b).2)∧True)∧((!(bI b))=false→cC (a.num*b.den)∧cC (b.num*a.den)∧cC ((a.num*b.den)+(b.num*a.den))∧cC (a.den*b.den)∧aD1 ((a.num*b.den)+(b.num*a.den)) (a.den*b.den)∧(((kS (cL ((a.num*b.den)+(b.num*a.den)) (a.den*b.den))).1).num)=(((eH a b).1).num)∧(((kS (cL ((a.num*b.den)+(b.num*a.den)) (a.den*b.den))).1).den)=(((eH a b).1).den)∧((kS (cL ((a.num*b.den)+(b.num*a.den)) (a.den*b.den))).2)=((eH a b).2)∧True))))) (by kernel_rfl) ?_
 refine ⟨mP a,fun g11=>?_,fun g11=>?_⟩
 ·replace g11:=nt g11
  refine ⟨?_,?_,?_,trivial⟩
  ·first | (rw [eH,gX g11 c0];done) | (rw [eH,eJ (.inl g11)];rfl) | (rw [eH,eJ (.inr c0)];rfl)
  ·first | (rw [eH,gX g11 c0];done) | (rw [eH,eJ (.inl g11)];rfl) | (rw [eH,eJ (.inr c0)];rfl)
  ·first | (rw [eH,gX g11 c0];done) | (rw [eH,eJ (.inl g11)];rfl) | (rw [eH,eJ (.inr c0)];rfl)
 ·replace g11:=nf g11
  refine ⟨mP b,fun c0=>?_,fun c0=>?_⟩
  ·replace c0:=nt c0
   refine ⟨?_,?_,?_,trivial⟩
   ·first | (rw [eH,gX g11 c0];done) | (rw [eH,eJ (.inl g11)];rfl) | (rw [eH,eJ (.inr c0)];rfl)
   ·first | (rw [eH,gX g11 c0];done) | (rw [eH,eJ (.inl g11)];rfl) | (rw [eH,eJ (.inr c0)];rfl)
   ·first | (rw [eH,gX g11 c0];done) | (rw [eH,eJ (.inl g11)];rfl) | (rw [eH,eJ (.inr c0)];rfl)
  ·replace c0:=nf c0
   have q1:=iU g11
   have q2:=iU c0
   have m1:=jT (x:=a.num) (y:=b.den) ⟨by omega,by omega⟩ ⟨by omega,by omega⟩
   have m2:=jT (x:=b.num) (y:=a.den) ⟨by omega,by omega⟩ ⟨by omega,by omega⟩
   have m3:=jT (x:=a.den) (y:=b.den) ⟨by omega,by omega⟩ ⟨by omega,by omega⟩
   have m4:=jT (x:=a.num) (y:=b.num) ⟨by omega,by omega⟩ ⟨by omega,by omega⟩
   have m5:=jT (x:=a.den) (y:=b.num) ⟨by omega,by omega⟩ ⟨by omega,by omega⟩
   refine ⟨⟨by omega,by omega⟩,⟨by omega,by omega⟩,⟨by omega,by omega⟩,⟨by omega,by omega⟩,aN9 _ _ (by first | omega | (dsimp only;omega)) (by first | omega | (dsimp only;omega)),?_,?_,?_,trivial⟩
   ·first | (rw [eH,gX g11 c0];done) | (rw [eH,eJ (.inl g11)];rfl) | (rw [eH,eJ (.inr c0)];rfl)
   ·first | (rw [eH,gX g11 c0];done) | (rw [eH,eJ (.inl g11)];rfl) | (rw [eH,eJ (.inr c0)];rfl)
   ·first | (rw [eH,gX g11 c0];done) | (rw [eH,eJ (.inl g11)];rfl) | (rw [eH,eJ (.inr c0)];rfl)
abbrev aBZ (a:RationalD) (b:RationalD):AV × List (Nat × Rs):=(.tup [.agg [vI (((dQ a b).1).num),vI (((dQ a b).1).den)],vB ((dQ a b).2)],[])
abbrev aHB (a:RationalD) (b:RationalD):Prop:=cT Tryz.prog 126 [.agg [.int .i64 a.num,.int .i64 a.den],.agg [.int .i64 b.num,.int .i64 b.den]] (aBZ a b).1 (aBZ a b).2
theorem aRa (a b:RationalD):aHB a b:=by
 refine aT bE aL Tryz.func126 (by kernel_rfl) (.call (vB (bI a)) []<| .br (.fin []) (.call (vB (bI b)) []<| .lit<| .lit<| .br (.fin []) (bV (aAX (a.num*b.num) (a.den*b.den))<| .fin []))) (p:=jP a∧(((!(bI a))=true→(0:Int)=(((dQ a b).1).num)∧(0:Int)=(((dQ a b).1).den)∧(false)=((dQ a b).2)∧True)∧((!(bI a))=false→jP b∧(((!(bI b))=true→(0:Int)=(((dQ a b).1).num)∧(0:Int)=(((dQ a b).1).den)∧(false)=((dQ a b).2)∧True)∧((!(bI b))=false→cC (a.num*b.num)∧cC (a.den*b.den)∧aD1 (a.num*b.num) (a.den*b.den)∧(((kS (cL (a.num*b.num) (a.den*b.den))).1).num)=(((dQ a b).1).num)∧(((kS (cL (a.num*b.num) (a.den*b.den))).1).den)=(((dQ a b).1).den)∧((kS (cL (a.num*b.num) (a.den*b.den))).2)=((dQ a b).2)∧True))))) (by kernel_rfl) ?_
 refine ⟨mP a,fun g11=>?_,fun g11=>?_⟩
 ·replace g11:=nt g11
  refine ⟨?_,?_,?_,trivial⟩
  ·first | (rw [dQ,gY g11 c0];done) | (rw [dQ,eK (.inl g11)];rfl) | (rw [dQ,eK (.inr c0)];rfl)
  ·first | (rw [dQ,gY g11 c0];done) | (rw [dQ,eK (.inl g11)];rfl) | (rw [dQ,eK (.inr c0)];rfl)
  ·first | (rw [dQ,gY g11 c0];done) | (rw [dQ,eK (.inl g11)];rfl) | (rw [dQ,eK (.inr c0)];rfl)
 ·replace g11:=nf g11
  refine ⟨mP b,fun c0=>?_,fun c0=>?_⟩
  ·replace c0:=nt c0
   refine ⟨?_,?_,?_,trivial⟩
   ·first | (rw [dQ,gY g11 c0];done) | (rw [dQ,eK (.inl g11)];rfl) | (rw [dQ,eK (.inr c0)];rfl)
   ·first | (rw [dQ,gY g11 c0];done) | (rw [dQ,eK (.inl g11)];rfl) | (rw [dQ,eK (.inr c0)];rfl)
   ·first | (rw [dQ,gY g11 c0];done) | (rw [dQ,eK (.inl g11)];rfl) | (rw [dQ,eK (.inr c0)];rfl)
  ·replace c0:=nf c0
   have q1:=iU g11
   have q2:=iU c0
   have m1:=jT (x:=a.num) (y:=b.den) ⟨by omega,by omega⟩ ⟨by omega,by omega⟩
   have m2:=jT (x:=b.num) (y:=a.den) ⟨by omega,by omega⟩ ⟨by omega,by omega⟩
   have m3:=jT (x:=a.den) (y:=b.den) ⟨by omega,by omega⟩ ⟨by omega,by omega⟩
   have m4:=jT (x:=a.num) (y:=b.num) ⟨by omega,by omega⟩ ⟨by omega,by omega⟩
   have m5:=jT (x:=a.den) (y:=b.num) ⟨by omega,by omega⟩ ⟨by omega,by omega⟩
   refine ⟨⟨by omega,by omega⟩,⟨by omega,by omega⟩,aN9 _ _ (by first | omega | (dsimp only;omega)) (by first | omega | (dsimp only;omega)),?_,?_,?_,trivial⟩
   ·first | (rw [dQ,gY g11 c0];done) | (rw [dQ,eK (.inl g11)];rfl) | (rw [dQ,eK (.inr c0)];rfl)
   ·first | (rw [dQ,gY g11 c0];done) | (rw [dQ,eK (.inl g11)];rfl) | (rw [dQ,eK (.inr c0)];rfl)
   ·first | (rw [dQ,gY g11 c0];done) | (rw [dQ,eK (.inl g11)];rfl) | (rw [dQ,eK (.inr c0)];rfl)
abbrev aB0 (a:RationalD) (b:RationalD):Prop:=cT Tryz.prog 59 [.agg [.int .i64 a.num,.int .i64 a.den],.agg [.int .i64 b.num,.int .i64 b.den]] (vI (dM a b)) []
theorem aL5 (a b:RationalD):aB0 a b:=by
 refine aT bE aL Tryz.func59 (by kernel_rfl) (.call (vB (bI a)) []<| .br (.fin []) (.call (vB (bI b)) []<| .lit<| .lit<| .br (.fin []) (.br (.fin []) (.br (.fin []) (.fin []))))) (p:=iC a∧(((!(bI a))=true→(0:Int)=(dM a b)∧True)∧((!(bI a))=false→iC b∧(((!(bI b))=true→(0:Int)=(dM a b)∧True)∧((!(bI b))=false→cC (a.num*b.den)∧(cC (b.num*a.den)∧(((decide ((a.num*b.den)<(b.num*a.den)))=true→(-1:Int)=(dM a b)∧True)∧((decide ((a.num*b.den)<(b.num*a.den)))=false→((decide ((b.num*a.den)<(a.num*b.den)))=true→(1:Int)=(dM a b)∧True)∧((decide ((b.num*a.den)<(a.num*b.den)))=false→(0:Int)=(dM a b)∧True))))))))) (by kernel_rfl) ?_
 refine ⟨lJ a,fun g10=>?_,fun g10=>?_⟩
 ·replace g10:=nt g10
  refine ⟨?_,trivial⟩
  ·first | (rw [dM,iS (.inl g10)];done) | (rw [dM,iS (.inr c0)];done) | (rw [dM,mO g10 c0];first | (rw [if_pos c1];done) | (rw [if_neg c1,if_pos c2];done) | (rw [if_neg c1,if_neg c2];done))
 ·replace g10:=nf g10
  refine ⟨lJ b,fun c0=>?_,fun c0=>?_⟩
  ·replace c0:=nt c0
   refine ⟨?_,trivial⟩
   ·first | (rw [dM,iS (.inl g10)];done) | (rw [dM,iS (.inr c0)];done) | (rw [dM,mO g10 c0];first | (rw [if_pos c1];done) | (rw [if_neg c1,if_pos c2];done) | (rw [if_neg c1,if_neg c2];done))
  ·replace c0:=nf c0
   have q1:=iU g10
   have q2:=iU c0
   have m1:=jT (x:=a.num) (y:=b.den) ⟨by omega,by omega⟩ ⟨by omega,by omega⟩
   have m2:=jT (x:=b.num) (y:=a.den) ⟨by omega,by omega⟩ ⟨by omega,by omega⟩
   have m3:=jT (x:=a.den) (y:=b.den) ⟨by omega,by omega⟩ ⟨by omega,by omega⟩
   have m4:=jT (x:=a.num) (y:=b.num) ⟨by omega,by omega⟩ ⟨by omega,by omega⟩
   have m5:=jT (x:=a.den) (y:=b.num) ⟨by omega,by omega⟩ ⟨by omega,by omega⟩
   refine ⟨⟨by omega,by omega⟩,⟨by omega,by omega⟩,fun c1=>?_,fun c1=>?_⟩
   ·replace c1:=yq c1
    refine ⟨?_,trivial⟩
    ·first | (rw [dM,iS (.inl g10)];done) | (rw [dM,iS (.inr c0)];done) | (rw [dM,mO g10 c0];first | (rw [if_pos c1];done) | (rw [if_neg c1,if_pos c2];done) | (rw [if_neg c1,if_neg c2];done))
   ·replace c1:=nq c1
    refine ⟨fun c2=>?_,fun c2=>?_⟩
    ·replace c2:=yq c2
     refine ⟨?_,trivial⟩
     ·first | (rw [dM,iS (.inl g10)];done) | (rw [dM,iS (.inr c0)];done) | (rw [dM,mO g10 c0];first | (rw [if_pos c1];done) | (rw [if_neg c1,if_pos c2];done) | (rw [if_neg c1,if_neg c2];done))
    ·replace c2:=nq c2
     refine ⟨?_,trivial⟩
     ·first | (rw [dM,iS (.inl g10)];done) | (rw [dM,iS (.inr c0)];done) | (rw [dM,mO g10 c0];first | (rw [if_pos c1];done) | (rw [if_neg c1,if_pos c2];done) | (rw [if_neg c1,if_neg c2];done))
abbrev aB1 (a:RationalD) (b:RationalD):Prop:=cT Tryz.prog 55 [.agg [.int .i64 a.num,.int .i64 a.den],.agg [.int .i64 b.num,.int .i64 b.den]] (vI (dM a b)) []
theorem aL6 (a b:RationalD):aB1 a b:=by
 refine aT bE aL Tryz.func55 (by kernel_rfl) (.call (vB (bI a)) []<| .br (.fin []) (.call (vB (bI b)) []<| .lit<| .lit<| .br (.fin []) (.br (.fin []) (.br (.fin []) (.fin []))))) (p:=jP a∧(((!(bI a))=true→(0:Int)=(dM a b)∧True)∧((!(bI a))=false→jP b∧(((!(bI b))=true→(0:Int)=(dM a b)∧True)∧((!(bI b))=false→cC (a.num*b.den)∧(cC (b.num*a.den)∧(((decide ((a.num*b.den)<(b.num*a.den)))=true→(-1:Int)=(dM a b)∧True)∧((decide ((a.num*b.den)<(b.num*a.den)))=false→((decide ((b.num*a.den)<(a.num*b.den)))=true→(1:Int)=(dM a b)∧True)∧((decide ((b.num*a.den)<(a.num*b.den)))=false→(0:Int)=(dM a b)∧True))))))))) (by kernel_rfl) ?_
 refine ⟨mP a,fun g10=>?_,fun g10=>?_⟩
 ·replace g10:=nt g10
  refine ⟨?_,trivial⟩
  ·first | (rw [dM,iS (.inl g10)];done) | (rw [dM,iS (.inr c0)];done) | (rw [dM,mO g10 c0];first | (rw [if_pos c1];done) | (rw [if_neg c1,if_pos c2];done) | (rw [if_neg c1,if_neg c2];done))
 ·replace g10:=nf g10
  refine ⟨mP b,fun c0=>?_,fun c0=>?_⟩
  ·replace c0:=nt c0
   refine ⟨?_,trivial⟩
   ·first | (rw [dM,iS (.inl g10)];done) | (rw [dM,iS (.inr c0)];done) | (rw [dM,mO g10 c0];first | (rw [if_pos c1];done) | (rw [if_neg c1,if_pos c2];done) | (rw [if_neg c1,if_neg c2];done))
  ·replace c0:=nf c0
   have q1:=iU g10
   have q2:=iU c0
   have m1:=jT (x:=a.num) (y:=b.den) ⟨by omega,by omega⟩ ⟨by omega,by omega⟩
   have m2:=jT (x:=b.num) (y:=a.den) ⟨by omega,by omega⟩ ⟨by omega,by omega⟩
   have m3:=jT (x:=a.den) (y:=b.den) ⟨by omega,by omega⟩ ⟨by omega,by omega⟩
   have m4:=jT (x:=a.num) (y:=b.num) ⟨by omega,by omega⟩ ⟨by omega,by omega⟩
   have m5:=jT (x:=a.den) (y:=b.num) ⟨by omega,by omega⟩ ⟨by omega,by omega⟩
   refine ⟨⟨by omega,by omega⟩,⟨by omega,by omega⟩,fun c1=>?_,fun c1=>?_⟩
   ·replace c1:=yq c1
    refine ⟨?_,trivial⟩
    ·first | (rw [dM,iS (.inl g10)];done) | (rw [dM,iS (.inr c0)];done) | (rw [dM,mO g10 c0];first | (rw [if_pos c1];done) | (rw [if_neg c1,if_pos c2];done) | (rw [if_neg c1,if_neg c2];done))
   ·replace c1:=nq c1
    refine ⟨fun c2=>?_,fun c2=>?_⟩
    ·replace c2:=yq c2
     refine ⟨?_,trivial⟩
     ·first | (rw [dM,iS (.inl g10)];done) | (rw [dM,iS (.inr c0)];done) | (rw [dM,mO g10 c0];first | (rw [if_pos c1];done) | (rw [if_neg c1,if_pos c2];done) | (rw [if_neg c1,if_neg c2];done))
    ·replace c2:=nq c2
     refine ⟨?_,trivial⟩
     ·first | (rw [dM,iS (.inl g10)];done) | (rw [dM,iS (.inr c0)];done) | (rw [dM,mO g10 c0];first | (rw [if_pos c1];done) | (rw [if_neg c1,if_pos c2];done) | (rw [if_neg c1,if_neg c2];done))
end Go.Proofs.YtdfebigfnjfgpaaGreat
