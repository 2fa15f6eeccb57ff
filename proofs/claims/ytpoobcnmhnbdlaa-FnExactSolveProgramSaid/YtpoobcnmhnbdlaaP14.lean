/-
  Contracts and plain laws, joined: part 5.
-/
import Derived.Test.YtpoobcnmhnbdlaaP13
namespace Go.Proofs.Ytpoobcnmhnbdlaa
open Go.ChangeShapes Go.WideShapes Go.ChangeAt Go.RowKit
set_option linter.unusedVariables false
set_option linter.unusedSimpArgs false
set_option maxRecDepth 100000
set_option maxHeartbeats 4000000
theorem aHX {n d:Int}:Int.gcd (-n) (-d)=Int.gcd n d:=by simp [Int.gcd]
theorem pO {n d:Int} (h:0<d):bG n d=if cL (n.tdiv (Int.gcd n d)) (d.tdiv (Int.gcd n d))=true then (n.tdiv (Int.gcd n d),d.tdiv (Int.gcd n d),true) else (0,0,false):=aFx h rfl
theorem tB {n d:Int} (h:d<0):bG n d=if cL ((-n).tdiv (Int.gcd (-n) (-d))) ((-d).tdiv (Int.gcd (-n) (-d)))=true then ((-n).tdiv (Int.gcd (-n) (-d)),(-d).tdiv (Int.gcd (-n) (-d)),true) else (0,0,false):=aFy h rfl
theorem bH {n:Int}:fV (bG n 0)=(⟨0,0⟩,false):=by rw [kO];rfl
theorem bS {n d:Int} (h:0<d) (c:aT ⟨n.tdiv (Int.gcd n d),d.tdiv (Int.gcd n d)⟩=true):fV (bG n d)=(⟨n.tdiv (Int.gcd n d),d.tdiv (Int.gcd n d)⟩,true):=by
 rw [pO h,if_pos (show cL _ _=true from c)];rfl
theorem bI {n d:Int} (h:0<d) (c:aT ⟨n.tdiv (Int.gcd n d),d.tdiv (Int.gcd n d)⟩=false):fV (bG n d)=(⟨0,0⟩,false):=by
 rw [pO h,if_neg (by rw [show cL _ _=false from c];simp)];rfl
theorem bT {n d:Int} (h:d<0) (c:aT ⟨(-n).tdiv (Int.gcd (-n) (-d)),(-d).tdiv (Int.gcd (-n) (-d))⟩=true):fV (bG n d)=(⟨(-n).tdiv (Int.gcd (-n) (-d)),(-d).tdiv (Int.gcd (-n) (-d))⟩,true):=by
 rw [tB h,if_pos (show cL _ _=true from c)];rfl
theorem bJ {n d:Int} (h:d<0) (c:aT ⟨(-n).tdiv (Int.gcd (-n) (-d)),(-d).tdiv (Int.gcd (-n) (-d))⟩=false):fV (bG n d)=(⟨0,0⟩,false):=by
 rw [tB h,if_neg (by rw [show cL _ _=false from c];simp)];rfl
theorem bZ {n g:Int} (hn: -9223372036854775807≤n∧n≤9223372036854775807):dN (n.tdiv g):=by have:=aHW n g hn;exact ⟨by omega,by omega⟩
abbrev qD (n:Int) (d:Int):AV × List (Nat × Rs):=(.tup [.agg [vI (((fV (bG n d)).1).num),vI (((fV (bG n d)).1).den)],vB ((fV (bG n d)).2)],[])
abbrev tU (n:Int) (d:Int):Prop:=gF Try.prog 79 [.one (.int .i64 n),.one (.int .i64 d)] (qD n d).1 (qD n d).2
theorem aCe (n d:Int) (hn: -9223372036854775807≤n∧n≤9223372036854775807) (hd: -9223372036854775807≤d∧d≤9223372036854775807):tU n d:=by
 refine cT dR bK Try.func79 (by kernel_rfl) (.br (.fin []) (.lit<| .lit<| .lit<| .lit<| .br (.lit<| .lit<| .lit<| .lit<| .br (.fin []) (.lit<| .lit<| .lit<| .lit<| .br (.fin []) (.br (.call (vI ((Int.gcd (-n) (-d):Nat):Int)) []<| .call (vB (aT (⟨Int.tdiv (-n) ((Int.gcd (-n) (-d):Nat):Int),Int.tdiv (-d) ((Int.gcd (-n) (-d):Nat):Int)⟩:aC))) []<| .br (.fin []) (.fin [])) (.call (vI ((Int.gcd n d:Nat):Int)) []<| .call (vB (aT (⟨Int.tdiv n ((Int.gcd n d:Nat):Int),Int.tdiv d ((Int.gcd n d:Nat):Int)⟩:aC))) []<| .br (.fin []) (.fin []))))) (.lit<| .lit<| .lit<| .lit<| .lit<| .lit<| .lit<| .lit<| .lit<| .br (.fin []) (.br (.call (vI ((Int.gcd (-n) (-d):Nat):Int)) []<| .call (vB (aT (⟨Int.tdiv (-n) ((Int.gcd (-n) (-d):Nat):Int),Int.tdiv (-d) ((Int.gcd (-n) (-d):Nat):Int)⟩:aC))) []<| .br (.fin []) (.fin [])) (.call (vI ((Int.gcd n d:Nat):Int)) []<| .call (vB (aT (⟨Int.tdiv n ((Int.gcd n d:Nat):Int),Int.tdiv d ((Int.gcd n d:Nat):Int)⟩:aC))) []<| .br (.fin []) (.fin [])))))) (p:=((decide (d=(0:Int)))=true→(0:Int)=(((fV (bG n d)).1).num)∧(0:Int)=(((fV (bG n d)).1).den)∧(false)=((fV (bG n d)).2)∧True)∧((decide (d=(0:Int)))=false→dN (-n)∧(((decide (n=(-n)))=true→((!(decide (n=(0:Int))))=true→(0:Int)=(((fV (bG n d)).1).num)∧(0:Int)=(((fV (bG n d)).1).den)∧(false)=((fV (bG n d)).2)∧True)∧((!(decide (n=(0:Int))))=false→dN (-d)∧(((decide (d=(-d)))=true→(0:Int)=(((fV (bG n d)).1).num)∧(0:Int)=(((fV (bG n d)).1).den)∧(false)=((fV (bG n d)).2)∧True)∧((decide (d=(-d)))=false→((decide (d<(0:Int)))=true→dN (-n)∧(dN (-d)∧(mD (-n) (-d)∧(((Int.gcd (-n) (-d):Nat):Int)≠0∧(dN (Int.tdiv (-n) ((Int.gcd (-n) (-d):Nat):Int))∧(((Int.gcd (-n) (-d):Nat):Int)≠0∧(dN (Int.tdiv (-d) ((Int.gcd (-n) (-d):Nat):Int))∧(eW (⟨Int.tdiv (-n) ((Int.gcd (-n) (-d):Nat):Int),Int.tdiv (-d) ((Int.gcd (-n) (-d):Nat):Int)⟩:aC)∧(((!(aT (⟨Int.tdiv (-n) ((Int.gcd (-n) (-d):Nat):Int),Int.tdiv (-d) ((Int.gcd (-n) (-d):Nat):Int)⟩:aC)))=true→(0:Int)=(((fV (bG n d)).1).num)∧(0:Int)=(((fV (bG n d)).1).den)∧(false)=((fV (bG n d)).2)∧True)∧((!(aT (⟨Int.tdiv (-n) ((Int.gcd (-n) (-d):Nat):Int),Int.tdiv (-d) ((Int.gcd (-n) (-d):Nat):Int)⟩:aC)))=false→(Int.tdiv (-n) ((Int.gcd (-n) (-d):Nat):Int))=(((fV (bG n d)).1).num)∧(Int.tdiv (-d) ((Int.gcd (-n) (-d):Nat):Int))=(((fV (bG n d)).1).den)∧(true)=((fV (bG n d)).2)∧True))))))))))∧((decide (d<(0:Int)))=false→mD n d∧(((Int.gcd n d:Nat):Int)≠0∧(dN (Int.tdiv n ((Int.gcd n d:Nat):Int))∧(((Int.gcd n d:Nat):Int)≠0∧(dN (Int.tdiv d ((Int.gcd n d:Nat):Int))∧(eW (⟨Int.tdiv n ((Int.gcd n d:Nat):Int),Int.tdiv d ((Int.gcd n d:Nat):Int)⟩:aC)∧(((!(aT (⟨Int.tdiv n ((Int.gcd n d:Nat):Int),Int.tdiv d ((Int.gcd n d:Nat):Int)⟩:aC)))=true→(0:Int)=(((fV (bG n d)).1).num)∧(0:Int)=(((fV (bG n d)).1).den)∧(false)=((fV (bG n d)).2)∧True)∧((!(aT (⟨Int.tdiv n ((Int.gcd n d:Nat):Int),Int.tdiv d ((Int.gcd n d:Nat):Int)⟩:aC)))=false→(Int.tdiv n ((Int.gcd n d:Nat):Int))=(((fV (bG n d)).1).num)∧(Int.tdiv d ((Int.gcd n d:Nat):Int))=(((fV (bG n d)).1).den)∧(true)=((fV (bG n d)).2)∧True))))))))))))∧((decide (n=(-n)))=false→dN (-d)∧(((decide (d=(-d)))=true→(0:Int)=(((fV (bG n d)).1).num)∧(0:Int)=(((fV (bG n d)).1).den)∧(false)=((fV (bG n d)).2)∧True)∧((decide (d=(-d)))=false→((decide (d<(0:Int)))=true→dN (-n)∧(dN (-d)∧(mD (-n) (-d)∧(((Int.gcd (-n) (-d):Nat):Int)≠0∧(dN (Int.tdiv (-n) ((Int.gcd (-n) (-d):Nat):Int))∧(((Int.gcd (-n) (-d):Nat):Int)≠0∧(dN (Int.tdiv (-d) ((Int.gcd (-n) (-d):Nat):Int))∧(eW (⟨Int.tdiv (-n) ((Int.gcd (-n) (-d):Nat):Int),Int.tdiv (-d) ((Int.gcd (-n) (-d):Nat):Int)⟩:aC)∧(((!(aT (⟨Int.tdiv (-n) ((Int.gcd (-n) (-d):Nat):Int),Int.tdiv (-d) ((Int.gcd (-n) (-d):Nat):Int)⟩:aC)))=true→(0:Int)=(((fV (bG n d)).1).num)∧(0:Int)=(((fV (bG n d)).1).den)∧(false)=((fV (bG n d)).2)∧True)∧((!(aT (⟨Int.tdiv (-n) ((Int.gcd (-n) (-d):Nat):Int),Int.tdiv (-d) ((Int.gcd (-n) (-d):Nat):Int)⟩:aC)))=false→(Int.tdiv (-n) ((Int.gcd (-n) (-d):Nat):Int))=(((fV (bG n d)).1).num)∧(Int.tdiv (-d) ((Int.gcd (-n) (-d):Nat):Int))=(((fV (bG n d)).1).den)∧(true)=((fV (bG n d)).2)∧True))))))))))∧((decide (d<(0:Int)))=false→mD n d∧(((Int.gcd n d:Nat):Int)≠0∧(dN (Int.tdiv n ((Int.gcd n d:Nat):Int))∧(((Int.gcd n d:Nat):Int)≠0∧(dN (Int.tdiv d ((Int.gcd n d:Nat):Int))∧(eW (⟨Int.tdiv n ((Int.gcd n d:Nat):Int),Int.tdiv d ((Int.gcd n d:Nat):Int)⟩:aC)∧(((!(aT (⟨Int.tdiv n ((Int.gcd n d:Nat):Int),Int.tdiv d ((Int.gcd n d:Nat):Int)⟩:aC)))=true→(0:Int)=(((fV (bG n d)).1).num)∧(0:Int)=(((fV (bG n d)).1).den)∧(false)=((fV (bG n d)).2)∧True)∧((!(aT (⟨Int.tdiv n ((Int.gcd n d:Nat):Int),Int.tdiv d ((Int.gcd n d:Nat):Int)⟩:aC)))=false→(Int.tdiv n ((Int.gcd n d:Nat):Int))=(((fV (bG n d)).1).num)∧(Int.tdiv d ((Int.gcd n d:Nat):Int))=(((fV (bG n d)).1).den)∧(true)=((fV (bG n d)).2)∧True)))))))))))))) (by kernel_rfl) ?_
 refine ⟨fun g10=>?_,fun g10=>?_⟩
 ·replace g10:=yq g10
  refine ⟨?_,?_,?_,trivial⟩
  ·first | (exfalso;omega) | (subst g10;rw [bH]<;>rfl) | (rw [bS (by omega) c2]<;>rfl) | (rw [bI (by omega) c2]<;>rfl) | (rw [bT (by omega) c2]<;>rfl) | (rw [bJ (by omega) c2]<;>rfl)
  ·first | (exfalso;omega) | (subst g10;rw [bH]<;>rfl) | (rw [bS (by omega) c2]<;>rfl) | (rw [bI (by omega) c2]<;>rfl) | (rw [bT (by omega) c2]<;>rfl) | (rw [bJ (by omega) c2]<;>rfl)
  ·first | (exfalso;omega) | (subst g10;rw [bH]<;>rfl) | (rw [bS (by omega) c2]<;>rfl) | (rw [bI (by omega) c2]<;>rfl) | (rw [bT (by omega) c2]<;>rfl) | (rw [bJ (by omega) c2]<;>rfl)
 ·replace g10:=nq g10
  refine ⟨by first | exact bZ hn | exact bZ (by omega) | exact ⟨by omega,by omega⟩,fun g15=>?_,fun g15=>?_⟩
  ·replace g15:=yq g15
   refine ⟨fun g20=>?_,fun g20=>?_⟩
   ·replace g20:=nq (nt g20)
    refine ⟨?_,?_,?_,trivial⟩
    ·first | (exfalso;omega) | (subst g10;rw [bH]<;>rfl) | (rw [bS (by omega) c2]<;>rfl) | (rw [bI (by omega) c2]<;>rfl) | (rw [bT (by omega) c2]<;>rfl) | (rw [bJ (by omega) c2]<;>rfl)
    ·first | (exfalso;omega) | (subst g10;rw [bH]<;>rfl) | (rw [bS (by omega) c2]<;>rfl) | (rw [bI (by omega) c2]<;>rfl) | (rw [bT (by omega) c2]<;>rfl) | (rw [bJ (by omega) c2]<;>rfl)
    ·first | (exfalso;omega) | (subst g10;rw [bH]<;>rfl) | (rw [bS (by omega) c2]<;>rfl) | (rw [bI (by omega) c2]<;>rfl) | (rw [bT (by omega) c2]<;>rfl) | (rw [bJ (by omega) c2]<;>rfl)
   ·replace g20:=yq (nf g20)
    refine ⟨by first | exact bZ hn | exact bZ (by omega) | exact ⟨by omega,by omega⟩,fun c0=>?_,fun c0=>?_⟩
    ·replace c0:=yq c0
     refine ⟨?_,?_,?_,trivial⟩
     ·first | (exfalso;omega) | (subst g10;rw [bH]<;>rfl) | (rw [bS (by omega) c2]<;>rfl) | (rw [bI (by omega) c2]<;>rfl) | (rw [bT (by omega) c2]<;>rfl) | (rw [bJ (by omega) c2]<;>rfl)
     ·first | (exfalso;omega) | (subst g10;rw [bH]<;>rfl) | (rw [bS (by omega) c2]<;>rfl) | (rw [bI (by omega) c2]<;>rfl) | (rw [bT (by omega) c2]<;>rfl) | (rw [bJ (by omega) c2]<;>rfl)
     ·first | (exfalso;omega) | (subst g10;rw [bH]<;>rfl) | (rw [bS (by omega) c2]<;>rfl) | (rw [bI (by omega) c2]<;>rfl) | (rw [bT (by omega) c2]<;>rfl) | (rw [bJ (by omega) c2]<;>rfl)
    ·replace c0:=nq c0
     refine ⟨fun c1=>?_,fun c1=>?_⟩
     ·replace c1:=yq c1
      have q1:((Int.gcd (-n) (-d):Nat):Int)≠0:=by have:=kK (n:= -n) (d:= -d) (by omega);omega
      have q2:((Int.gcd ((Int.natAbs (-n):Nat):Int) (-d):Nat):Int)≠0:=by rw [cX];have:=kK (n:= -n) (d:= -d) (by omega);omega
      refine ⟨by first | exact bZ hn | exact bZ (by omega) | exact ⟨by omega,by omega⟩,by first | exact bZ hn | exact bZ (by omega) | exact ⟨by omega,by omega⟩,tA _ _ (by first | omega | (dsimp only;omega)) (by first | omega | (dsimp only;omega)),by omega,by first | exact bZ hn | exact bZ (by omega) | exact ⟨by omega,by omega⟩,by omega,by first | exact bZ hn | exact bZ (by omega) | exact ⟨by omega,by omega⟩,iA (⟨Int.tdiv (-n) ((Int.gcd (-n) (-d):Nat):Int),Int.tdiv (-d) ((Int.gcd (-n) (-d):Nat):Int)⟩:aC),fun c2=>?_,fun c2=>?_⟩
      ·replace c2:=nt c2
       refine ⟨?_,?_,?_,trivial⟩
       ·first | (exfalso;omega) | (subst g10;rw [bH]<;>rfl) | (rw [bS (by omega) c2]<;>rfl) | (rw [bI (by omega) c2]<;>rfl) | (rw [bT (by omega) c2]<;>rfl) | (rw [bJ (by omega) c2]<;>rfl)
       ·first | (exfalso;omega) | (subst g10;rw [bH]<;>rfl) | (rw [bS (by omega) c2]<;>rfl) | (rw [bI (by omega) c2]<;>rfl) | (rw [bT (by omega) c2]<;>rfl) | (rw [bJ (by omega) c2]<;>rfl)
       ·first | (exfalso;omega) | (subst g10;rw [bH]<;>rfl) | (rw [bS (by omega) c2]<;>rfl) | (rw [bI (by omega) c2]<;>rfl) | (rw [bT (by omega) c2]<;>rfl) | (rw [bJ (by omega) c2]<;>rfl)
      ·replace c2:=nf c2
       refine ⟨?_,?_,?_,trivial⟩
       ·first | (exfalso;omega) | (subst g10;rw [bH]<;>rfl) | (rw [bS (by omega) c2]<;>rfl) | (rw [bI (by omega) c2]<;>rfl) | (rw [bT (by omega) c2]<;>rfl) | (rw [bJ (by omega) c2]<;>rfl)
       ·first | (exfalso;omega) | (subst g10;rw [bH]<;>rfl) | (rw [bS (by omega) c2]<;>rfl) | (rw [bI (by omega) c2]<;>rfl) | (rw [bT (by omega) c2]<;>rfl) | (rw [bJ (by omega) c2]<;>rfl)
       ·first | (exfalso;omega) | (subst g10;rw [bH]<;>rfl) | (rw [bS (by omega) c2]<;>rfl) | (rw [bI (by omega) c2]<;>rfl) | (rw [bT (by omega) c2]<;>rfl) | (rw [bJ (by omega) c2]<;>rfl)
     ·replace c1:=nq c1
      have q1:((Int.gcd n d:Nat):Int)≠0:=by have:=kK (n:=n) (d:=d) (by omega);omega
      have q2:((Int.gcd ((Int.natAbs n:Nat):Int) d:Nat):Int)≠0:=by rw [cX];have:=kK (n:=n) (d:=d) (by omega);omega
      refine ⟨tA _ _ (by first | omega | (dsimp only;omega)) (by first | omega | (dsimp only;omega)),by omega,by first | exact bZ hn | exact bZ (by omega) | exact ⟨by omega,by omega⟩,by omega,by first | exact bZ hn | exact bZ (by omega) | exact ⟨by omega,by omega⟩,iA (⟨Int.tdiv n ((Int.gcd n d:Nat):Int),Int.tdiv d ((Int.gcd n d:Nat):Int)⟩:aC),fun c2=>?_,fun c2=>?_⟩
      ·replace c2:=nt c2
       refine ⟨?_,?_,?_,trivial⟩
       ·first | (exfalso;omega) | (subst g10;rw [bH]<;>rfl) | (rw [bS (by omega) c2]<;>rfl) | (rw [bI (by omega) c2]<;>rfl) | (rw [bT (by omega) c2]<;>rfl) | (rw [bJ (by omega) c2]<;>rfl)
       ·first | (exfalso;omega) | (subst g10;rw [bH]<;>rfl) | (rw [bS (by omega) c2]<;>rfl) | (rw [bI (by omega) c2]<;>rfl) | (rw [bT (by omega) c2]<;>rfl) | (rw [bJ (by omega) c2]<;>rfl)
       ·first | (exfalso;omega) | (subst g10;rw [bH]<;>rfl) | (rw [bS (by omega) c2]<;>rfl) | (rw [bI (by omega) c2]<;>rfl) | (rw [bT (by omega) c2]<;>rfl) | (rw [bJ (by omega) c2]<;>rfl)
      ·replace c2:=nf c2
       refine ⟨?_,?_,?_,trivial⟩
       ·first | (exfalso;omega) | (subst g10;rw [bH]<;>rfl) | (rw [bS (by omega) c2]<;>rfl) | (rw [bI (by omega) c2]<;>rfl) | (rw [bT (by omega) c2]<;>rfl) | (rw [bJ (by omega) c2]<;>rfl)
       ·first | (exfalso;omega) | (subst g10;rw [bH]<;>rfl) | (rw [bS (by omega) c2]<;>rfl) | (rw [bI (by omega) c2]<;>rfl) | (rw [bT (by omega) c2]<;>rfl) | (rw [bJ (by omega) c2]<;>rfl)
       ·first | (exfalso;omega) | (subst g10;rw [bH]<;>rfl) | (rw [bS (by omega) c2]<;>rfl) | (rw [bI (by omega) c2]<;>rfl) | (rw [bT (by omega) c2]<;>rfl) | (rw [bJ (by omega) c2]<;>rfl)
  ·replace g15:=nq g15
   refine ⟨by first | exact bZ hn | exact bZ (by omega) | exact ⟨by omega,by omega⟩,fun c0=>?_,fun c0=>?_⟩
   ·replace c0:=yq c0
    refine ⟨?_,?_,?_,trivial⟩
    ·first | (exfalso;omega) | (subst g10;rw [bH]<;>rfl) | (rw [bS (by omega) c2]<;>rfl) | (rw [bI (by omega) c2]<;>rfl) | (rw [bT (by omega) c2]<;>rfl) | (rw [bJ (by omega) c2]<;>rfl)
    ·first | (exfalso;omega) | (subst g10;rw [bH]<;>rfl) | (rw [bS (by omega) c2]<;>rfl) | (rw [bI (by omega) c2]<;>rfl) | (rw [bT (by omega) c2]<;>rfl) | (rw [bJ (by omega) c2]<;>rfl)
    ·first | (exfalso;omega) | (subst g10;rw [bH]<;>rfl) | (rw [bS (by omega) c2]<;>rfl) | (rw [bI (by omega) c2]<;>rfl) | (rw [bT (by omega) c2]<;>rfl) | (rw [bJ (by omega) c2]<;>rfl)
   ·replace c0:=nq c0
    refine ⟨fun c1=>?_,fun c1=>?_⟩
    ·replace c1:=yq c1
     have q1:((Int.gcd (-n) (-d):Nat):Int)≠0:=by have:=kK (n:= -n) (d:= -d) (by omega);omega
     have q2:((Int.gcd ((Int.natAbs (-n):Nat):Int) (-d):Nat):Int)≠0:=by rw [cX];have:=kK (n:= -n) (d:= -d) (by omega);omega
     refine ⟨by first | exact bZ hn | exact bZ (by omega) | exact ⟨by omega,by omega⟩,by first | exact bZ hn | exact bZ (by omega) | exact ⟨by omega,by omega⟩,tA _ _ (by first | omega | (dsimp only;omega)) (by first | omega | (dsimp only;omega)),by omega,by first | exact bZ hn | exact bZ (by omega) | exact ⟨by omega,by omega⟩,by omega,by first | exact bZ hn | exact bZ (by omega) | exact ⟨by omega,by omega⟩,iA (⟨Int.tdiv (-n) ((Int.gcd (-n) (-d):Nat):Int),Int.tdiv (-d) ((Int.gcd (-n) (-d):Nat):Int)⟩:aC),fun c2=>?_,fun c2=>?_⟩
     ·replace c2:=nt c2
      refine ⟨?_,?_,?_,trivial⟩
      ·first | (exfalso;omega) | (subst g10;rw [bH]<;>rfl) | (rw [bS (by omega) c2]<;>rfl) | (rw [bI (by omega) c2]<;>rfl) | (rw [bT (by omega) c2]<;>rfl) | (rw [bJ (by omega) c2]<;>rfl)
      ·first | (exfalso;omega) | (subst g10;rw [bH]<;>rfl) | (rw [bS (by omega) c2]<;>rfl) | (rw [bI (by omega) c2]<;>rfl) | (rw [bT (by omega) c2]<;>rfl) | (rw [bJ (by omega) c2]<;>rfl)
      ·first | (exfalso;omega) | (subst g10;rw [bH]<;>rfl) | (rw [bS (by omega) c2]<;>rfl) | (rw [bI (by omega) c2]<;>rfl) | (rw [bT (by omega) c2]<;>rfl) | (rw [bJ (by omega) c2]<;>rfl)
     ·replace c2:=nf c2
      refine ⟨?_,?_,?_,trivial⟩
      ·first | (exfalso;omega) | (subst g10;rw [bH]<;>rfl) | (rw [bS (by omega) c2]<;>rfl) | (rw [bI (by omega) c2]<;>rfl) | (rw [bT (by omega) c2]<;>rfl) | (rw [bJ (by omega) c2]<;>rfl)
      ·first | (exfalso;omega) | (subst g10;rw [bH]<;>rfl) | (rw [bS (by omega) c2]<;>rfl) | (rw [bI (by omega) c2]<;>rfl) | (rw [bT (by omega) c2]<;>rfl) | (rw [bJ (by omega) c2]<;>rfl)
      ·first | (exfalso;omega) | (subst g10;rw [bH]<;>rfl) | (rw [bS (by omega) c2]<;>rfl) | (rw [bI (by omega) c2]<;>rfl) | (rw [bT (by omega) c2]<;>rfl) | (rw [bJ (by omega) c2]<;>rfl)
    ·replace c1:=nq c1
     have q1:((Int.gcd n d:Nat):Int)≠0:=by have:=kK (n:=n) (d:=d) (by omega);omega
     have q2:((Int.gcd ((Int.natAbs n:Nat):Int) d:Nat):Int)≠0:=by rw [cX];have:=kK (n:=n) (d:=d) (by omega);omega
     refine ⟨tA _ _ (by first | omega | (dsimp only;omega)) (by first | omega | (dsimp only;omega)),by omega,by first | exact bZ hn | exact bZ (by omega) | exact ⟨by omega,by omega⟩,by omega,by first | exact bZ hn | exact bZ (by omega) | exact ⟨by omega,by omega⟩,iA (⟨Int.tdiv n ((Int.gcd n d:Nat):Int),Int.tdiv d ((Int.gcd n d:Nat):Int)⟩:aC),fun c2=>?_,fun c2=>?_⟩
     ·replace c2:=nt c2
      refine ⟨?_,?_,?_,trivial⟩
      ·first | (exfalso;omega) | (subst g10;rw [bH]<;>rfl) | (rw [bS (by omega) c2]<;>rfl) | (rw [bI (by omega) c2]<;>rfl) | (rw [bT (by omega) c2]<;>rfl) | (rw [bJ (by omega) c2]<;>rfl)
      ·first | (exfalso;omega) | (subst g10;rw [bH]<;>rfl) | (rw [bS (by omega) c2]<;>rfl) | (rw [bI (by omega) c2]<;>rfl) | (rw [bT (by omega) c2]<;>rfl) | (rw [bJ (by omega) c2]<;>rfl)
      ·first | (exfalso;omega) | (subst g10;rw [bH]<;>rfl) | (rw [bS (by omega) c2]<;>rfl) | (rw [bI (by omega) c2]<;>rfl) | (rw [bT (by omega) c2]<;>rfl) | (rw [bJ (by omega) c2]<;>rfl)
     ·replace c2:=nf c2
      refine ⟨?_,?_,?_,trivial⟩
      ·first | (exfalso;omega) | (subst g10;rw [bH]<;>rfl) | (rw [bS (by omega) c2]<;>rfl) | (rw [bI (by omega) c2]<;>rfl) | (rw [bT (by omega) c2]<;>rfl) | (rw [bJ (by omega) c2]<;>rfl)
      ·first | (exfalso;omega) | (subst g10;rw [bH]<;>rfl) | (rw [bS (by omega) c2]<;>rfl) | (rw [bI (by omega) c2]<;>rfl) | (rw [bT (by omega) c2]<;>rfl) | (rw [bJ (by omega) c2]<;>rfl)
      ·first | (exfalso;omega) | (subst g10;rw [bH]<;>rfl) | (rw [bS (by omega) c2]<;>rfl) | (rw [bI (by omega) c2]<;>rfl) | (rw [bT (by omega) c2]<;>rfl) | (rw [bJ (by omega) c2]<;>rfl)
abbrev nU (n:Int) (d:Int):AV × List (Nat × Rs):=(.tup [.agg [vI (((fV (bG n d)).1).num),vI (((fV (bG n d)).1).den)],vB ((fV (bG n d)).2)],[])
abbrev qE (n:Int) (d:Int):Prop:=gF Try.prog 74 [.one (.int .i64 n),.one (.int .i64 d)] (nU n d).1 (nU n d).2
theorem zL (n d:Int) (hn: -9223372036854775807≤n∧n≤9223372036854775807) (hd: -9223372036854775807≤d∧d≤9223372036854775807):qE n d:=by
 refine cT dR bK Try.func74 (by kernel_rfl) (.br (.fin []) (.lit<| .lit<| .br (.fin []) (.lit<| .lit<| .br (.fin []) (.br (.call (vI (((-n).natAbs:Nat):Int)) []<| .call (vI ((Int.gcd (((-n).natAbs:Nat):Int) (-d):Nat):Int)) []<| .call (vB (aT (⟨Int.tdiv (-n) ((Int.gcd (((-n).natAbs:Nat):Int) (-d):Nat):Int),Int.tdiv (-d) ((Int.gcd (((-n).natAbs:Nat):Int) (-d):Nat):Int)⟩:aC))) []<| .br (.fin []) (.fin [])) (.call (vI ((n.natAbs:Nat):Int)) []<| .call (vI ((Int.gcd ((n.natAbs:Nat):Int) d:Nat):Int)) []<| .call (vB (aT (⟨Int.tdiv n ((Int.gcd ((n.natAbs:Nat):Int) d:Nat):Int),Int.tdiv d ((Int.gcd ((n.natAbs:Nat):Int) d:Nat):Int)⟩:aC))) []<| .br (.fin []) (.fin [])))))) (p:=((decide (d=(0:Int)))=true→(0:Int)=(((fV (bG n d)).1).num)∧(0:Int)=(((fV (bG n d)).1).den)∧(false)=((fV (bG n d)).2)∧True)∧((decide (d=(0:Int)))=false→((decide (n<(-9223372036854775807:Int)))=true→(0:Int)=(((fV (bG n d)).1).num)∧(0:Int)=(((fV (bG n d)).1).den)∧(false)=((fV (bG n d)).2)∧True)∧((decide (n<(-9223372036854775807:Int)))=false→((decide (d<(-9223372036854775807:Int)))=true→(0:Int)=(((fV (bG n d)).1).num)∧(0:Int)=(((fV (bG n d)).1).den)∧(false)=((fV (bG n d)).2)∧True)∧((decide (d<(-9223372036854775807:Int)))=false→((decide (d<(0:Int)))=true→dN (-n)∧(dN (-d)∧(qS (-n)∧(qR (((-n).natAbs:Nat):Int) (-d)∧(((Int.gcd (((-n).natAbs:Nat):Int) (-d):Nat):Int)≠0∧(dN (Int.tdiv (-n) ((Int.gcd (((-n).natAbs:Nat):Int) (-d):Nat):Int))∧(((Int.gcd (((-n).natAbs:Nat):Int) (-d):Nat):Int)≠0∧(dN (Int.tdiv (-d) ((Int.gcd (((-n).natAbs:Nat):Int) (-d):Nat):Int))∧(eX (⟨Int.tdiv (-n) ((Int.gcd (((-n).natAbs:Nat):Int) (-d):Nat):Int),Int.tdiv (-d) ((Int.gcd (((-n).natAbs:Nat):Int) (-d):Nat):Int)⟩:aC)∧(((!(aT (⟨Int.tdiv (-n) ((Int.gcd (((-n).natAbs:Nat):Int) (-d):Nat):Int),Int.tdiv (-d) ((Int.gcd (((-n).natAbs:Nat):Int) (-d):Nat):Int)⟩:aC)))=true→(0:Int)=(((fV (bG n d)).1).num)∧(0:Int)=(((fV (bG n d)).1).den)∧(false)=((fV (bG n d)).2)∧True)∧((!(aT (⟨Int.tdiv (-n) ((Int.gcd (((-n).natAbs:Nat):Int) (-d):Nat):Int),Int.tdiv (-d) ((Int.gcd (((-n).natAbs:Nat):Int) (-d):Nat):Int)⟩:aC)))=false→(Int.tdiv (-n) ((Int.gcd (((-n).natAbs:Nat):Int) (-d):Nat):Int))=(((fV (bG n d)).1).num)∧(Int.tdiv (-d) ((Int.gcd (((-n).natAbs:Nat):Int) (-d):Nat):Int))=(((fV (bG n d)).1).den)∧(true)=((fV (bG n d)).2)∧True)))))))))))∧((decide (d<(0:Int)))=false→qS n∧(qR ((n.natAbs:Nat):Int) d∧(((Int.gcd ((n.natAbs:Nat):Int) d:Nat):Int)≠0∧(dN (Int.tdiv n ((Int.gcd ((n.natAbs:Nat):Int) d:Nat):Int))∧(((Int.gcd ((n.natAbs:Nat):Int) d:Nat):Int)≠0∧(dN (Int.tdiv d ((Int.gcd ((n.natAbs:Nat):Int) d:Nat):Int))∧(eX (⟨Int.tdiv n ((Int.gcd ((n.natAbs:Nat):Int) d:Nat):Int),Int.tdiv d ((Int.gcd ((n.natAbs:Nat):Int) d:Nat):Int)⟩:aC)∧(((!(aT (⟨Int.tdiv n ((Int.gcd ((n.natAbs:Nat):Int) d:Nat):Int),Int.tdiv d ((Int.gcd ((n.natAbs:Nat):Int) d:Nat):Int)⟩:aC)))=true→(0:Int)=(((fV (bG n d)).1).num)∧(0:Int)=(((fV (bG n d)).1).den)∧(false)=((fV (bG n d)).2)∧True)∧((!(aT (⟨Int.tdiv n ((Int.gcd ((n.natAbs:Nat):Int) d:Nat):Int),Int.tdiv d ((Int.gcd ((n.natAbs:Nat):Int) d:Nat):Int)⟩:aC)))=false→(Int.tdiv n ((Int.gcd ((n.natAbs:Nat):Int) d:Nat):Int))=(((fV (bG n d)).1).num)∧(Int.tdiv d ((Int.gcd ((n.natAbs:Nat):Int) d:Nat):Int))=(((fV (bG n d)).1).den)∧(true)=((fV (bG n d)).2)∧True))))))))))))) (by kernel_rfl) ?_
 refine ⟨fun g10=>?_,fun g10=>?_⟩
 ·replace g10:=yq g10
  refine ⟨?_,?_,?_,trivial⟩
  ·(try simp only [cX] at*);first | (exfalso;omega) | (subst g10;rw [bH]<;>rfl) | (rw [bS (by omega) c2]<;>rfl) | (rw [bI (by omega) c2]<;>rfl) | (rw [bT (by omega) c2]<;>rfl) | (rw [bJ (by omega) c2]<;>rfl)
  ·(try simp only [cX] at*);first | (exfalso;omega) | (subst g10;rw [bH]<;>rfl) | (rw [bS (by omega) c2]<;>rfl) | (rw [bI (by omega) c2]<;>rfl) | (rw [bT (by omega) c2]<;>rfl) | (rw [bJ (by omega) c2]<;>rfl)
  ·(try simp only [cX] at*);first | (exfalso;omega) | (subst g10;rw [bH]<;>rfl) | (rw [bS (by omega) c2]<;>rfl) | (rw [bI (by omega) c2]<;>rfl) | (rw [bT (by omega) c2]<;>rfl) | (rw [bJ (by omega) c2]<;>rfl)
 ·replace g10:=nq g10
  refine ⟨fun g14=>?_,fun g14=>?_⟩
  ·replace g14:=yq g14
   refine ⟨?_,?_,?_,trivial⟩
   ·(try simp only [cX] at*);first | (exfalso;omega) | (subst g10;rw [bH]<;>rfl) | (rw [bS (by omega) c2]<;>rfl) | (rw [bI (by omega) c2]<;>rfl) | (rw [bT (by omega) c2]<;>rfl) | (rw [bJ (by omega) c2]<;>rfl)
   ·(try simp only [cX] at*);first | (exfalso;omega) | (subst g10;rw [bH]<;>rfl) | (rw [bS (by omega) c2]<;>rfl) | (rw [bI (by omega) c2]<;>rfl) | (rw [bT (by omega) c2]<;>rfl) | (rw [bJ (by omega) c2]<;>rfl)
   ·(try simp only [cX] at*);first | (exfalso;omega) | (subst g10;rw [bH]<;>rfl) | (rw [bS (by omega) c2]<;>rfl) | (rw [bI (by omega) c2]<;>rfl) | (rw [bT (by omega) c2]<;>rfl) | (rw [bJ (by omega) c2]<;>rfl)
  ·replace g14:=nq g14
   refine ⟨fun c0=>?_,fun c0=>?_⟩
   ·replace c0:=yq c0
    refine ⟨?_,?_,?_,trivial⟩
    ·(try simp only [cX] at*);first | (exfalso;omega) | (subst g10;rw [bH]<;>rfl) | (rw [bS (by omega) c2]<;>rfl) | (rw [bI (by omega) c2]<;>rfl) | (rw [bT (by omega) c2]<;>rfl) | (rw [bJ (by omega) c2]<;>rfl)
    ·(try simp only [cX] at*);first | (exfalso;omega) | (subst g10;rw [bH]<;>rfl) | (rw [bS (by omega) c2]<;>rfl) | (rw [bI (by omega) c2]<;>rfl) | (rw [bT (by omega) c2]<;>rfl) | (rw [bJ (by omega) c2]<;>rfl)
    ·(try simp only [cX] at*);first | (exfalso;omega) | (subst g10;rw [bH]<;>rfl) | (rw [bS (by omega) c2]<;>rfl) | (rw [bI (by omega) c2]<;>rfl) | (rw [bT (by omega) c2]<;>rfl) | (rw [bJ (by omega) c2]<;>rfl)
   ·replace c0:=nq c0
    refine ⟨fun c1=>?_,fun c1=>?_⟩
    ·replace c1:=yq c1
     have q1:((Int.gcd (-n) (-d):Nat):Int)≠0:=by have:=kK (n:= -n) (d:= -d) (by omega);omega
     have q2:((Int.gcd ((Int.natAbs (-n):Nat):Int) (-d):Nat):Int)≠0:=by rw [cX];have:=kK (n:= -n) (d:= -d) (by omega);omega
     refine ⟨by first | exact bZ hn | exact bZ (by omega) | exact ⟨by omega,by omega⟩,by first | exact bZ hn | exact bZ (by omega) | exact ⟨by omega,by omega⟩,aA7 _ (by first | omega | (dsimp only;omega)),aA6 _ _ (by first | omega | (dsimp only;omega)) (by first | omega | (dsimp only;omega)),by omega,by first | exact bZ hn | exact bZ (by omega) | exact ⟨by omega,by omega⟩,by omega,by first | exact bZ hn | exact bZ (by omega) | exact ⟨by omega,by omega⟩,iB (⟨Int.tdiv (-n) ((Int.gcd (((-n).natAbs:Nat):Int) (-d):Nat):Int),Int.tdiv (-d) ((Int.gcd (((-n).natAbs:Nat):Int) (-d):Nat):Int)⟩:aC),fun c2=>?_,fun c2=>?_⟩
     ·replace c2:=nt c2
      refine ⟨?_,?_,?_,trivial⟩
      ·(try simp only [cX] at*);first | (exfalso;omega) | (subst g10;rw [bH]<;>rfl) | (rw [bS (by omega) c2]<;>rfl) | (rw [bI (by omega) c2]<;>rfl) | (rw [bT (by omega) c2]<;>rfl) | (rw [bJ (by omega) c2]<;>rfl)
      ·(try simp only [cX] at*);first | (exfalso;omega) | (subst g10;rw [bH]<;>rfl) | (rw [bS (by omega) c2]<;>rfl) | (rw [bI (by omega) c2]<;>rfl) | (rw [bT (by omega) c2]<;>rfl) | (rw [bJ (by omega) c2]<;>rfl)
      ·(try simp only [cX] at*);first | (exfalso;omega) | (subst g10;rw [bH]<;>rfl) | (rw [bS (by omega) c2]<;>rfl) | (rw [bI (by omega) c2]<;>rfl) | (rw [bT (by omega) c2]<;>rfl) | (rw [bJ (by omega) c2]<;>rfl)
     ·replace c2:=nf c2
      refine ⟨?_,?_,?_,trivial⟩
      ·(try simp only [cX] at*);first | (exfalso;omega) | (subst g10;rw [bH]<;>rfl) | (rw [bS (by omega) c2]<;>rfl) | (rw [bI (by omega) c2]<;>rfl) | (rw [bT (by omega) c2]<;>rfl) | (rw [bJ (by omega) c2]<;>rfl)
      ·(try simp only [cX] at*);first | (exfalso;omega) | (subst g10;rw [bH]<;>rfl) | (rw [bS (by omega) c2]<;>rfl) | (rw [bI (by omega) c2]<;>rfl) | (rw [bT (by omega) c2]<;>rfl) | (rw [bJ (by omega) c2]<;>rfl)
      ·(try simp only [cX] at*);first | (exfalso;omega) | (subst g10;rw [bH]<;>rfl) | (rw [bS (by omega) c2]<;>rfl) | (rw [bI (by omega) c2]<;>rfl) | (rw [bT (by omega) c2]<;>rfl) | (rw [bJ (by omega) c2]<;>rfl)
    ·replace c1:=nq c1
     have q1:((Int.gcd n d:Nat):Int)≠0:=by have:=kK (n:=n) (d:=d) (by omega);omega
     have q2:((Int.gcd ((Int.natAbs n:Nat):Int) d:Nat):Int)≠0:=by rw [cX];have:=kK (n:=n) (d:=d) (by omega);omega
     refine ⟨aA7 _ (by first | omega | (dsimp only;omega)),aA6 _ _ (by first | omega | (dsimp only;omega)) (by first | omega | (dsimp only;omega)),by omega,by first | exact bZ hn | exact bZ (by omega) | exact ⟨by omega,by omega⟩,by omega,by first | exact bZ hn | exact bZ (by omega) | exact ⟨by omega,by omega⟩,iB (⟨Int.tdiv n ((Int.gcd ((n.natAbs:Nat):Int) d:Nat):Int),Int.tdiv d ((Int.gcd ((n.natAbs:Nat):Int) d:Nat):Int)⟩:aC),fun c2=>?_,fun c2=>?_⟩
     ·replace c2:=nt c2
      refine ⟨?_,?_,?_,trivial⟩
      ·(try simp only [cX] at*);first | (exfalso;omega) | (subst g10;rw [bH]<;>rfl) | (rw [bS (by omega) c2]<;>rfl) | (rw [bI (by omega) c2]<;>rfl) | (rw [bT (by omega) c2]<;>rfl) | (rw [bJ (by omega) c2]<;>rfl)
      ·(try simp only [cX] at*);first | (exfalso;omega) | (subst g10;rw [bH]<;>rfl) | (rw [bS (by omega) c2]<;>rfl) | (rw [bI (by omega) c2]<;>rfl) | (rw [bT (by omega) c2]<;>rfl) | (rw [bJ (by omega) c2]<;>rfl)
      ·(try simp only [cX] at*);first | (exfalso;omega) | (subst g10;rw [bH]<;>rfl) | (rw [bS (by omega) c2]<;>rfl) | (rw [bI (by omega) c2]<;>rfl) | (rw [bT (by omega) c2]<;>rfl) | (rw [bJ (by omega) c2]<;>rfl)
     ·replace c2:=nf c2
      refine ⟨?_,?_,?_,trivial⟩
      ·(try simp only [cX] at*);first | (exfalso;omega) | (subst g10;rw [bH]<;>rfl) | (rw [bS (by omega) c2]<;>rfl) | (rw [bI (by omega) c2]<;>rfl) | (rw [bT (by omega) c2]<;>rfl) | (rw [bJ (by omega) c2]<;>rfl)
      ·(try simp only [cX] at*);first | (exfalso;omega) | (subst g10;rw [bH]<;>rfl) | (rw [bS (by omega) c2]<;>rfl) | (rw [bI (by omega) c2]<;>rfl) | (rw [bT (by omega) c2]<;>rfl) | (rw [bJ (by omega) c2]<;>rfl)
      ·(try simp only [cX] at*);first | (exfalso;omega) | (subst g10;rw [bH]<;>rfl) | (rw [bS (by omega) c2]<;>rfl) | (rw [bI (by omega) c2]<;>rfl) | (rw [bT (by omega) c2]<;>rfl) | (rw [bJ (by omega) c2]<;>rfl)
end Go.Proofs.Ytpoobcnmhnbdlaa
