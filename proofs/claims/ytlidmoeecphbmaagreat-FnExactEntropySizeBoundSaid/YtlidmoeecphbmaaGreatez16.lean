/-
  Contracts and plain laws, joined: part 17.
-/
import Derived.Test.YtlidmoeecphbmaaGreatez15
import Derived.Test.YtlidmoeecphbmaaGreatez14
import Derived.Test.YtlidmoeecphbmaaGreatez13
import Derived.Test.YtlidmoeecphbmaaGreatez12
namespace Go.Proofs.YtlidmoeecphbmaaGreat
open Go.ChangeShapes Go.WideShapes Go.ChangeAt Go.RowKit
set_option linter.unusedVariables false
set_option linter.unusedSimpArgs false
set_option maxRecDepth 100000
set_option maxHeartbeats 4000000
abbrev aBx (a:aB)(b:aB):AV × List (Nat × Rs):=(.tup [.agg [vI ((fV a b).1.num),vI ((fV a b).1.den)],vB ((fV a b).2)],[])
abbrev aHt (a:aB)(b:aB):Prop:=Cn 214 [.agg [.int .i64 a.num,.int .i64 a.den],.agg [.int .i64 b.num,.int .i64 b.den]] (aBx a b).1 (aBx a b).2
theorem aVJ (a b:aB):aHt a b:=by
 refine cq Tryz.func214 (.call (vB (aW a)) []<| .br (.fin []) (.call (vB (aW b)) []<| .lit<| .lit<| .br (.fin []) (bI (uK ((a.num*b.den)+(b.num*a.den)) (a.den*b.den))<| .fin []))) (p:=fI a/\Nr (aW a) (0=((fV a b).1.num)/\0=((fV a b).1.den)/\(false)=((fV a b).2)/\True) (fI b/\Nr (aW b) (0=((fV a b).1.num)/\0=((fV a b).1.den)/\(false)=((fV a b).2)/\True) (bJ (a.num*b.den)/\bJ (b.num*a.den)/\bJ ((a.num*b.den)+(b.num*a.den))/\bJ (a.den*b.den)/\aAt ((a.num*b.den)+(b.num*a.den)) (a.den*b.den)/\(((iM (bO ((a.num*b.den)+(b.num*a.den)) (a.den*b.den))).1).num)=((fV a b).1.num)/\(((iM (bO ((a.num*b.den)+(b.num*a.den)) (a.den*b.den))).1).den)=((fV a b).1.den)/\((iM (bO ((a.num*b.den)+(b.num*a.den)) (a.den*b.den))).2)=((fV a b).2)/\True))) (by kernel_rfl) ?_;refine⟨jI a,dm (fun g9=>?_) fun g9=>?_⟩
 ·apply et3<;>((rw[fV,aFi (.inl g9)];rfl))
 ·refine⟨jI b,dm (fun c0=>?_) fun c0=>?_⟩
  ·apply et3<;>((rw[fV,aFi (.inr c0)];rfl))
  ·have q1:=cC g9;have q2:=cC c0;have m1:=eP (x:=a.num) (y:=b.den) ⟨by omega,by omega⟩ ⟨by omega,by omega⟩;have m2:=eP (x:=b.num) (y:=a.den) ⟨by omega,by omega⟩ ⟨by omega,by omega⟩;have m3:=eP (x:=a.den) (y:=b.den) ⟨by omega,by omega⟩ ⟨by omega,by omega⟩;have m4:=eP (x:=a.num) (y:=b.num) ⟨by omega,by omega⟩ ⟨by omega,by omega⟩;have m5:=eP (x:=a.den) (y:=b.num) ⟨by omega,by omega⟩ ⟨by omega,by omega⟩;refine⟨⟨by omega,by omega⟩,⟨by omega,by omega⟩,⟨by omega,by omega⟩,⟨by omega,by omega⟩,aMB _ _ (by omega) (by omega),?_,?_,?_,trivial⟩<;>((rw[fV,aHi g9 c0];done))
abbrev aBy (a:aB)(b:aB):AV × List (Nat × Rs):=(.tup [.agg [vI ((dQ a b).1.num),vI ((dQ a b).1.den)],vB ((dQ a b).2)],[])
abbrev aHu (a:aB)(b:aB):Prop:=Cn 213 [.agg [.int .i64 a.num,.int .i64 a.den],.agg [.int .i64 b.num,.int .i64 b.den]] (aBy a b).1 (aBy a b).2
theorem aVK (a b:aB):aHu a b:=by
 refine cq Tryz.func213 (.call (vB (aW a)) []<| .br (.fin []) (.call (vB (aW b)) []<| .lit<| .lit<| .br (.fin []) (bI (uK (a.num*b.num) (a.den*b.den))<| .fin []))) (p:=fI a/\Nr (aW a) (0=((dQ a b).1.num)/\0=((dQ a b).1.den)/\(false)=((dQ a b).2)/\True) (fI b/\Nr (aW b) (0=((dQ a b).1.num)/\0=((dQ a b).1.den)/\(false)=((dQ a b).2)/\True) (bJ (a.num*b.num)/\bJ (a.den*b.den)/\aAt (a.num*b.num) (a.den*b.den)/\(((iM (bO (a.num*b.num) (a.den*b.den))).1).num)=((dQ a b).1.num)/\(((iM (bO (a.num*b.num) (a.den*b.den))).1).den)=((dQ a b).1.den)/\((iM (bO (a.num*b.num) (a.den*b.den))).2)=((dQ a b).2)/\True))) (by kernel_rfl) ?_;refine⟨jI a,dm (fun g9=>?_) fun g9=>?_⟩
 ·apply et3<;>((rw[dQ,aFj (.inl g9)];rfl))
 ·refine⟨jI b,dm (fun c0=>?_) fun c0=>?_⟩
  ·apply et3<;>((rw[dQ,aFj (.inr c0)];rfl))
  ·have q1:=cC g9;have q2:=cC c0;have m1:=eP (x:=a.num) (y:=b.den) ⟨by omega,by omega⟩ ⟨by omega,by omega⟩;have m2:=eP (x:=b.num) (y:=a.den) ⟨by omega,by omega⟩ ⟨by omega,by omega⟩;have m3:=eP (x:=a.den) (y:=b.den) ⟨by omega,by omega⟩ ⟨by omega,by omega⟩;have m4:=eP (x:=a.num) (y:=b.num) ⟨by omega,by omega⟩ ⟨by omega,by omega⟩;have m5:=eP (x:=a.den) (y:=b.num) ⟨by omega,by omega⟩ ⟨by omega,by omega⟩;refine⟨⟨by omega,by omega⟩,⟨by omega,by omega⟩,aMB _ _ (by omega) (by omega),?_,?_,?_,trivial⟩<;>((rw[dQ,zX g9 c0];done))
abbrev wL (a:aB)(b:aB):AV × List (Nat × Rs):=(.tup [.agg [vI ((aZ a b).1.num),vI ((aZ a b).1.den)],vB ((aZ a b).2)],[])
abbrev aBz (a:aB)(b:aB):Prop:=Cn 162 [.agg [.int .i64 a.num,.int .i64 a.den],.agg [.int .i64 b.num,.int .i64 b.den]] (wL a b).1 (wL a b).2
theorem aNw (a b:aB):aBz a b:=by
 refine cq Tryz.func162 (.call (vB (aW a)) []<| .br (.fin []) (.call (vB (aW b)) []<| .lit<| .lit<| .br (.fin []) (bI (uK (a.num*b.den) (a.den*b.num))<| .fin []))) (p:=fI a/\Nr (aW a) (0=((aZ a b).1.num)/\0=((aZ a b).1.den)/\(false)=((aZ a b).2)/\True) (fI b/\Nr (aW b) (0=((aZ a b).1.num)/\0=((aZ a b).1.den)/\(false)=((aZ a b).2)/\True) (bJ (a.num*b.den)/\bJ (a.den*b.num)/\aAt (a.num*b.den) (a.den*b.num)/\(((iM (bO (a.num*b.den) (a.den*b.num))).1).num)=((aZ a b).1.num)/\(((iM (bO (a.num*b.den) (a.den*b.num))).1).den)=((aZ a b).1.den)/\((iM (bO (a.num*b.den) (a.den*b.num))).2)=((aZ a b).2)/\True))) (by kernel_rfl) ?_;refine⟨jI a,dm (fun g9=>?_) fun g9=>?_⟩
 ·apply et3<;>((rw[aZ,aFk (.inl g9)];rfl))
 ·refine⟨jI b,dm (fun c0=>?_) fun c0=>?_⟩
  ·apply et3<;>((rw[aZ,aFk (.inr c0)];rfl))
  ·have q1:=cC g9;have q2:=cC c0;have m1:=eP (x:=a.num) (y:=b.den) ⟨by omega,by omega⟩ ⟨by omega,by omega⟩;have m2:=eP (x:=b.num) (y:=a.den) ⟨by omega,by omega⟩ ⟨by omega,by omega⟩;have m3:=eP (x:=a.den) (y:=b.den) ⟨by omega,by omega⟩ ⟨by omega,by omega⟩;have m4:=eP (x:=a.num) (y:=b.num) ⟨by omega,by omega⟩ ⟨by omega,by omega⟩;have m5:=eP (x:=a.den) (y:=b.num) ⟨by omega,by omega⟩ ⟨by omega,by omega⟩;refine⟨⟨by omega,by omega⟩,⟨by omega,by omega⟩,aMB _ _ (by omega) (by omega),?_,?_,?_,trivial⟩<;>((rw[aZ,zY g9 c0];done))
abbrev wM (a:aB)(b:aB):AV × List (Nat × Rs):=(.tup [.agg [vI ((fV a b).1.num),vI ((fV a b).1.den)],vB ((fV a b).2)],[])
abbrev aCA (a:aB)(b:aB):Prop:=Cn 153 [.agg [.int .i64 a.num,.int .i64 a.den],.agg [.int .i64 b.num,.int .i64 b.den]] (wM a b).1 (wM a b).2
theorem aNx (a b:aB):aCA a b:=by
 refine cq Tryz.func153 (.call (vB (aW a)) []<| .br (.fin []) (.call (vB (aW b)) []<| .lit<| .lit<| .br (.fin []) (bI (qZ ((a.num*b.den)+(b.num*a.den)) (a.den*b.den))<| .fin []))) (p:=eQ a/\Nr (aW a) (0=((fV a b).1.num)/\0=((fV a b).1.den)/\(false)=((fV a b).2)/\True) (eQ b/\Nr (aW b) (0=((fV a b).1.num)/\0=((fV a b).1.den)/\(false)=((fV a b).2)/\True) (bJ (a.num*b.den)/\bJ (b.num*a.den)/\bJ ((a.num*b.den)+(b.num*a.den))/\bJ (a.den*b.den)/\uL ((a.num*b.den)+(b.num*a.den)) (a.den*b.den)/\(((iM (bO ((a.num*b.den)+(b.num*a.den)) (a.den*b.den))).1).num)=((fV a b).1.num)/\(((iM (bO ((a.num*b.den)+(b.num*a.den)) (a.den*b.den))).1).den)=((fV a b).1.den)/\((iM (bO ((a.num*b.den)+(b.num*a.den)) (a.den*b.den))).2)=((fV a b).2)/\True))) (by kernel_rfl) ?_;refine⟨iA a,dm (fun g11=>?_) fun g11=>?_⟩
 ·apply et3<;>((rw[fV,aFi (.inl g11)];rfl))
 ·refine⟨iA b,dm (fun c0=>?_) fun c0=>?_⟩
  ·apply et3<;>((rw[fV,aFi (.inr c0)];rfl))
  ·have q1:=cC g11;have q2:=cC c0;have m1:=eP (x:=a.num) (y:=b.den) ⟨by omega,by omega⟩ ⟨by omega,by omega⟩;have m2:=eP (x:=b.num) (y:=a.den) ⟨by omega,by omega⟩ ⟨by omega,by omega⟩;have m3:=eP (x:=a.den) (y:=b.den) ⟨by omega,by omega⟩ ⟨by omega,by omega⟩;have m4:=eP (x:=a.num) (y:=b.num) ⟨by omega,by omega⟩ ⟨by omega,by omega⟩;have m5:=eP (x:=a.den) (y:=b.num) ⟨by omega,by omega⟩ ⟨by omega,by omega⟩;refine⟨⟨by omega,by omega⟩,⟨by omega,by omega⟩,⟨by omega,by omega⟩,⟨by omega,by omega⟩,aFm _ _ (by omega) (by omega),?_,?_,?_,trivial⟩<;>((rw[fV,aHi g11 c0];done))
abbrev rY (a:aB)(b:aB):AV × List (Nat × Rs):=(.tup [.agg [vI ((dQ a b).1.num),vI ((dQ a b).1.den)],vB ((dQ a b).2)],[])
abbrev wN (a:aB)(b:aB):Prop:=Cn 152 [.agg [.int .i64 a.num,.int .i64 a.den],.agg [.int .i64 b.num,.int .i64 b.den]] (rY a b).1 (rY a b).2
theorem aHv (a b:aB):wN a b:=by
 refine cq Tryz.func152 (.call (vB (aW a)) []<| .br (.fin []) (.call (vB (aW b)) []<| .lit<| .lit<| .br (.fin []) (bI (qZ (a.num*b.num) (a.den*b.den))<| .fin []))) (p:=eQ a/\Nr (aW a) (0=((dQ a b).1.num)/\0=((dQ a b).1.den)/\(false)=((dQ a b).2)/\True) (eQ b/\Nr (aW b) (0=((dQ a b).1.num)/\0=((dQ a b).1.den)/\(false)=((dQ a b).2)/\True) (bJ (a.num*b.num)/\bJ (a.den*b.den)/\uL (a.num*b.num) (a.den*b.den)/\(((iM (bO (a.num*b.num) (a.den*b.den))).1).num)=((dQ a b).1.num)/\(((iM (bO (a.num*b.num) (a.den*b.den))).1).den)=((dQ a b).1.den)/\((iM (bO (a.num*b.num) (a.den*b.den))).2)=((dQ a b).2)/\True))) (by kernel_rfl) ?_;refine⟨iA a,dm (fun g11=>?_) fun g11=>?_⟩
 ·apply et3<;>((rw[dQ,aFj (.inl g11)];rfl))
 ·refine⟨iA b,dm (fun c0=>?_) fun c0=>?_⟩
  ·apply et3<;>((rw[dQ,aFj (.inr c0)];rfl))
  ·have q1:=cC g11;have q2:=cC c0;have m1:=eP (x:=a.num) (y:=b.den) ⟨by omega,by omega⟩ ⟨by omega,by omega⟩;have m2:=eP (x:=b.num) (y:=a.den) ⟨by omega,by omega⟩ ⟨by omega,by omega⟩;have m3:=eP (x:=a.den) (y:=b.den) ⟨by omega,by omega⟩ ⟨by omega,by omega⟩;have m4:=eP (x:=a.num) (y:=b.num) ⟨by omega,by omega⟩ ⟨by omega,by omega⟩;have m5:=eP (x:=a.den) (y:=b.num) ⟨by omega,by omega⟩ ⟨by omega,by omega⟩;refine⟨⟨by omega,by omega⟩,⟨by omega,by omega⟩,aFm _ _ (by omega) (by omega),?_,?_,?_,trivial⟩<;>((rw[dQ,zX g11 c0];done))
abbrev oR (a:aB)(b:aB):AV × List (Nat × Rs):=(.tup [.agg [vI ((aZ a b).1.num),vI ((aZ a b).1.den)],vB ((aZ a b).2)],[])
abbrev rZ (a:aB)(b:aB):Prop:=Cn 149 [.agg [.int .i64 a.num,.int .i64 a.den],.agg [.int .i64 b.num,.int .i64 b.den]] (oR a b).1 (oR a b).2
theorem aDP (a b:aB):rZ a b:=by
 refine cq Tryz.func149 (.call (vB (aW a)) []<| .br (.fin []) (.call (vB (aW b)) []<| .lit<| .lit<| .br (.fin []) (.lit<| .lit<| .lit<| .br (.fin []) (bI (qZ (a.num*b.den) (a.den*b.num))<| .fin [])))) (p:=eQ a/\Nr (aW a) (0=((aZ a b).1.num)/\0=((aZ a b).1.den)/\(false)=((aZ a b).2)/\True) (eQ b/\Nr (aW b) (0=((aZ a b).1.num)/\0=((aZ a b).1.den)/\(false)=((aZ a b).2)/\True) (Br (b.num=0) (0=((aZ a b).1.num)/\0=((aZ a b).1.den)/\(false)=((aZ a b).2)/\True) (bJ (a.num*b.den)/\bJ (a.den*b.num)/\uL (a.num*b.den) (a.den*b.num)/\(((iM (bO (a.num*b.den) (a.den*b.num))).1).num)=((aZ a b).1.num)/\(((iM (bO (a.num*b.den) (a.den*b.num))).1).den)=((aZ a b).1.den)/\((iM (bO (a.num*b.den) (a.den*b.num))).2)=((aZ a b).2)/\True)))) (by kernel_rfl) ?_;refine⟨iA a,dm (fun g11=>?_) fun g11=>?_⟩
 ·apply et3<;>((rw[aZ,aFk (.inl g11)];rfl))
 ·refine⟨iA b,dm (fun g16=>?_) fun g16=>?_⟩
  ·apply et3<;>((rw[aZ,aFk (.inr g16)];rfl))
  ·refine dd (fun c0=>?_) fun c0=>?_
   ·apply et3<;>((simp[aZ,aSU,iM, *];done))
   ·have q1:=cC g11;have q2:=cC g16;have m1:=eP (x:=a.num) (y:=b.den) ⟨by omega,by omega⟩ ⟨by omega,by omega⟩;have m2:=eP (x:=b.num) (y:=a.den) ⟨by omega,by omega⟩ ⟨by omega,by omega⟩;have m3:=eP (x:=a.den) (y:=b.den) ⟨by omega,by omega⟩ ⟨by omega,by omega⟩;have m4:=eP (x:=a.num) (y:=b.num) ⟨by omega,by omega⟩ ⟨by omega,by omega⟩;have m5:=eP (x:=a.den) (y:=b.num) ⟨by omega,by omega⟩ ⟨by omega,by omega⟩;refine⟨⟨by omega,by omega⟩,⟨by omega,by omega⟩,aFm _ _ (by omega) (by omega),?_,?_,?_,trivial⟩<;>((rw[aZ,zY g11 g16];done))
theorem sA {n d:Int}:cJ (-n) d=cJ n d:=by
 have e:Int.gcd (-n) d=Int.gcd n d:=by simp[Int.gcd]
 simp only[cJ,e]
 congr 2
 simp only[eB];rw[Bool.eq_iff_iff];simp;omega
theorem aVL {a b c d:Int}:aLr a b (-c) d=aLs a b c d:=by
 unfold aLr aLs;rw[sA,Int.neg_mul,Int.sub_eq_add_neg]
abbrev aCB (a:aB)(b:aB):AV × List (Nat × Rs):=(.tup [.agg [vI ((nV a b).1.num),vI ((nV a b).1.den)],vB ((nV a b).2)],[])
abbrev aHw (a:aB)(b:aB):Prop:=Cn 203 [.agg [.int .i64 a.num,.int .i64 a.den],.agg [.int .i64 b.num,.int .i64 b.den]] (aCB a b).1 (aCB a b).2
theorem aVM (a b:aB):aHw a b:=by
 refine cq Tryz.func203 (.call (vB (aW a)) []<| .br (.fin []) (.call (vB (aW b)) []<| .lit<| .lit<| .br (.fin []) (bI (qZ ((a.num*b.den) - (b.num*a.den)) (a.den*b.den))<| .fin []))) (p:=eQ a/\Nr (aW a) (0=((nV a b).1.num)/\0=((nV a b).1.den)/\(false)=((nV a b).2)/\True) (eQ b/\Nr (aW b) (0=((nV a b).1.num)/\0=((nV a b).1.den)/\(false)=((nV a b).2)/\True) (bJ (a.num*b.den)/\bJ (b.num*a.den)/\bJ ((a.num*b.den) - (b.num*a.den))/\bJ (a.den*b.den)/\uL ((a.num*b.den) - (b.num*a.den)) (a.den*b.den)/\(((iM (bO ((a.num*b.den) - (b.num*a.den)) (a.den*b.den))).1).num)=((nV a b).1.num)/\(((iM (bO ((a.num*b.den) - (b.num*a.den)) (a.den*b.den))).1).den)=((nV a b).1.den)/\((iM (bO ((a.num*b.den) - (b.num*a.den)) (a.den*b.den))).2)=((nV a b).2)/\True))) (by kernel_rfl) ?_;refine⟨iA a,dm (fun g11=>?_) fun g11=>?_⟩
 ·apply et3<;>((rw[nV,aQh (.inl g11)];rfl))
 ·refine⟨iA b,dm (fun c0=>?_) fun c0=>?_⟩
  ·apply et3<;>((rw[nV,aQh (.inr c0)];rfl))
  ·have q1:=cC g11;have q2:=cC c0;have m1:=eP (x:=a.num) (y:=b.den) ⟨by omega,by omega⟩ ⟨by omega,by omega⟩;have m2:=eP (x:=b.num) (y:=a.den) ⟨by omega,by omega⟩ ⟨by omega,by omega⟩;have m3:=eP (x:=a.den) (y:=b.den) ⟨by omega,by omega⟩ ⟨by omega,by omega⟩;have m4:=eP (x:=a.num) (y:=b.num) ⟨by omega,by omega⟩ ⟨by omega,by omega⟩;have m5:=eP (x:=a.den) (y:=b.num) ⟨by omega,by omega⟩ ⟨by omega,by omega⟩;refine⟨⟨by omega,by omega⟩,⟨by omega,by omega⟩,⟨by omega,by omega⟩,⟨by omega,by omega⟩,aFm _ _ (by omega) (by omega),?_,?_,?_,trivial⟩<;>((rw[nV,aNq g11 c0];done))
abbrev aHx (a:aB)(b:aB):Prop:=Cn 163 [.agg [.int .i64 a.num,.int .i64 a.den],.agg [.int .i64 b.num,.int .i64 b.den]] (vI (fA a b)) []
theorem aVN (a b:aB):aHx a b:=by
 refine cq Tryz.func163 (.call (vB (aW a)) []<| .br (.fin []) (.call (vB (aW b)) []<| .lit<| .lit<| .br (.fin []) (.br (.fin []) (.br (.fin []) (.fin []))))) (p:=fI a/\Nr (aW a) (0=(fA a b)/\True) (fI b/\Nr (aW b) (0=(fA a b)/\True) (bJ (a.num*b.den)/\bJ (b.num*a.den)/\Br ((a.num*b.den)<(b.num*a.den)) ((-1:Int)=(fA a b)/\True) (Br ((b.num*a.den)<(a.num*b.den)) (1=(fA a b)/\True) (0=(fA a b)/\True))))) (by kernel_rfl) ?_;refine⟨jI a,dm (fun g10=>?_) fun g10=>?_⟩
 ·apply et1
  ·(rw[fA,aFl (.inl g10)];done)
 ·refine⟨jI b,dm (fun c0=>?_) fun c0=>?_⟩
  ·apply et1
   ·(rw[fA,aFl (.inr c0)];done)
  ·have q1:=cC g10;have q2:=cC c0;have m1:=eP (x:=a.num) (y:=b.den) ⟨by omega,by omega⟩ ⟨by omega,by omega⟩;have m2:=eP (x:=b.num) (y:=a.den) ⟨by omega,by omega⟩ ⟨by omega,by omega⟩;have m3:=eP (x:=a.den) (y:=b.den) ⟨by omega,by omega⟩ ⟨by omega,by omega⟩;have m4:=eP (x:=a.num) (y:=b.num) ⟨by omega,by omega⟩ ⟨by omega,by omega⟩;have m5:=eP (x:=a.den) (y:=b.num) ⟨by omega,by omega⟩ ⟨by omega,by omega⟩;refine⟨⟨by omega,by omega⟩,⟨by omega,by omega⟩,dd (fun c1=>?_) fun c1=>?_⟩
   ·apply et1
    ·(rw[fA,uG g10 c0];(rw[if_pos c1];done))
   ·refine dd (fun c2=>?_) fun c2=>?_
    ·apply et1
     ·(rw[fA,uG g10 c0];(rw[if_neg c1,if_pos c2];done))
    ·apply et1
     ·(rw[fA,uG g10 c0];(rw[if_neg c1,if_neg c2];done))
abbrev aHy (a:aB)(b:aB):Prop:=Cn 150 [.agg [.int .i64 a.num,.int .i64 a.den],.agg [.int .i64 b.num,.int .i64 b.den]] (vI (fA a b)) []
theorem aVO (a b:aB):aHy a b:=by
 refine cq Tryz.func150 (.call (vB (aW a)) []<| .br (.fin []) (.call (vB (aW b)) []<| .lit<| .lit<| .br (.fin []) (.br (.fin []) (.br (.fin []) (.fin []))))) (p:=eQ a/\Nr (aW a) (0=(fA a b)/\True) (eQ b/\Nr (aW b) (0=(fA a b)/\True) (bJ (a.num*b.den)/\bJ (b.num*a.den)/\Br ((a.num*b.den)<(b.num*a.den)) ((-1:Int)=(fA a b)/\True) (Br ((b.num*a.den)<(a.num*b.den)) (1=(fA a b)/\True) (0=(fA a b)/\True))))) (by kernel_rfl) ?_;refine⟨iA a,dm (fun g10=>?_) fun g10=>?_⟩
 ·apply et1
  ·(rw[fA,aFl (.inl g10)];done)
 ·refine⟨iA b,dm (fun c0=>?_) fun c0=>?_⟩
  ·apply et1
   ·(rw[fA,aFl (.inr c0)];done)
  ·have q1:=cC g10;have q2:=cC c0;have m1:=eP (x:=a.num) (y:=b.den) ⟨by omega,by omega⟩ ⟨by omega,by omega⟩;have m2:=eP (x:=b.num) (y:=a.den) ⟨by omega,by omega⟩ ⟨by omega,by omega⟩;have m3:=eP (x:=a.den) (y:=b.den) ⟨by omega,by omega⟩ ⟨by omega,by omega⟩;have m4:=eP (x:=a.num) (y:=b.num) ⟨by omega,by omega⟩ ⟨by omega,by omega⟩;have m5:=eP (x:=a.den) (y:=b.num) ⟨by omega,by omega⟩ ⟨by omega,by omega⟩;refine⟨⟨by omega,by omega⟩,⟨by omega,by omega⟩,dd (fun c1=>?_) fun c1=>?_⟩
   ·apply et1
    ·(rw[fA,uG g10 c0];(rw[if_pos c1];done))
   ·refine dd (fun c2=>?_) fun c2=>?_
    ·apply et1
     ·(rw[fA,uG g10 c0];(rw[if_neg c1,if_pos c2];done))
    ·apply et1
     ·(rw[fA,uG g10 c0];(rw[if_neg c1,if_neg c2];done))
theorem aNy {n d:Int}(hd:1<=d)(hn: -2147483647<=n/\n<=2147483647): -2147483647<=n.tdiv d/\n.tdiv d<=2147483647:=by
 have h1:(n.tdiv d).natAbs=n.natAbs/d.natAbs:=Int.natAbs_tdiv n d;have h2:n.natAbs/d.natAbs<=n.natAbs:=Nat.div_le_self _ _;omega
abbrev aAG (a:aB):Prop:=Cn 88 [.agg [.int .i64 a.num,.int .i64 a.den]] (vI (iZ a)) []
theorem aKj (a:aB):aAG a:=by
 refine cq Tryz.func88 (.call (vB (aW a)) []<| .br (.fin []) (.br (.fin []) (.fin []))) (p:=fI a/\Nr (aW a) (0=(iZ a)/\True) (a.den≠0/\bJ (Int.tdiv a.num a.den)/\bJ ((Int.tdiv a.num a.den)*a.den)/\Br (((Int.tdiv a.num a.den)*a.den)<a.num) (bJ ((Int.tdiv a.num a.den)+1)/\((Int.tdiv a.num a.den)+1)=(iZ a)/\True) ((Int.tdiv a.num a.den)=(iZ a)/\True))) (by kernel_rfl) ?_;refine⟨jI a,dm (fun c0=>?_) fun c0=>?_⟩
 ·apply et1
  ·(rw[iZ,aEu,if_neg (by rw[show cJ a.num a.den=false from c0];simp)];done)
 ·have q1:=cC c0;have q2:=aNy (n:=a.num) (d:=a.den) (by omega) ⟨by omega,by omega⟩;have m1:=eP (x:=a.num.tdiv a.den) (y:=a.den) q2 ⟨by omega,by omega⟩;refine⟨by omega,⟨by omega,by omega⟩,⟨by omega,by omega⟩,dd (fun c1=>?_) fun c1=>?_⟩
  ·refine⟨⟨by omega,by omega⟩,?_,trivial⟩
   ·(rw[iZ,aEu,if_pos (show cJ a.num a.den=true from c0)];(rw[if_pos c1];done))
  ·apply et1
   ·(rw[iZ,aEu,if_pos (show cJ a.num a.den=true from c0)];(rw[if_neg c1];done))
abbrev aFA (a:aB):Prop:=Cn 79 [.agg [.int .i64 a.num,.int .i64 a.den]] (vI (iZ a)) []
theorem aSX (a:aB):aFA a:=by
 refine cq Tryz.func79 (.call (vB (aW a)) []<| .br (.fin []) (.br (.fin []) (.fin []))) (p:=eQ a/\Nr (aW a) (0=(iZ a)/\True) (a.den≠0/\bJ (Int.tdiv a.num a.den)/\bJ ((Int.tdiv a.num a.den)*a.den)/\Br (((Int.tdiv a.num a.den)*a.den)<a.num) (bJ ((Int.tdiv a.num a.den)+1)/\((Int.tdiv a.num a.den)+1)=(iZ a)/\True) ((Int.tdiv a.num a.den)=(iZ a)/\True))) (by kernel_rfl) ?_;refine⟨iA a,dm (fun c0=>?_) fun c0=>?_⟩
 ·apply et1
  ·(rw[iZ,aEu,if_neg (by rw[show cJ a.num a.den=false from c0];simp)];done)
 ·have q1:=cC c0;have q2:=aNy (n:=a.num) (d:=a.den) (by omega) ⟨by omega,by omega⟩;have m1:=eP (x:=a.num.tdiv a.den) (y:=a.den) q2 ⟨by omega,by omega⟩;refine⟨by omega,⟨by omega,by omega⟩,⟨by omega,by omega⟩,dd (fun c1=>?_) fun c1=>?_⟩
  ·refine⟨⟨by omega,by omega⟩,?_,trivial⟩
   ·(rw[iZ,aEu,if_pos (show cJ a.num a.den=true from c0)];(rw[if_pos c1];done))
  ·apply et1
   ·(rw[iZ,aEu,if_pos (show cJ a.num a.den=true from c0)];(rw[if_neg c1];done))
theorem bE {α:Type}{l:List α}{k:Nat}{x y:α}(h:l[k]? =some x):l.getD k y=x:=by simp[aJL,h]
def aP (n:Int):aB:=⟨n,1⟩
def zR:aB:=⟨0,0⟩
theorem aHz (m:Int)(l:List Int): ∀k,∃p,jU m l k=m4 p
 | 0=>⟨fun _=>false,by simp[jU,m4,b4]⟩
 | k+1=>by
   obtain⟨p,hp⟩:=aHz m l k;rw[jU];split
   ·rename_i h;exact⟨_,by rw[hp,aUa h.1.1]⟩
   exact⟨p,hp⟩
theorem aFB (m:Int)(l:List Int):0<=jJ m l/\jJ m l<=15:=by
 obtain⟨p,hp⟩:=aHz m l l.length;rw[jJ,hp];exact aU9 p
theorem aFC: ∀(f b:Nat) (n:Int),0<=jZ f b n/\jZ f b n<=((b+f:Nat):Int)
 | 0,b,_=>by rw[jZ];omega
 | f+1,b,n=>by
   have:=aFC f (b+1) n;rw[jZ];split<;>omega
theorem aPc (n:Int): -1<=sH n/\sH n<=12:=by
 have:=aFC 12 0 n;unfold sH;split<;>omega
theorem aPd {s:StoreD}{q:QueryD}{m:Int}{x:aI}(h:x∈dU s q m): -1<=x.bits/\x.bits<=12:=by
 unfold dU at h;split at h
 ·rw[qcL,List.mem_flatMap] at h;obtain⟨y,_,h⟩:=h;rw[qcA] at h;unfold mM at h;split at h
  ·obtain⟨z,_,rfl⟩:=aPy.1 h;exact aPc _
  simp at h
 simp at h
theorem aNz {s:StoreD}{q:QueryD}{m:Int}(v:List Int):oJ ((dU s q m).map (mC v)):=by
 intro x hx;obtain⟨y,hy,rfl⟩:=aPy.1 hx;have h1:=aFB y.src v;have h2:=aFB y.dst v;have h3:=aPd hy;refine⟨⟨?_,?_⟩,⟨?_,?_⟩,⟨?_,?_⟩⟩<;>(simp only[mC];omega)
def gC (s:StoreD)(q:QueryD)(m:Int):bV × Bool:=if (dU s q m).length=0 then (nL,false) else dP ((dU s q m).map (mC (eA q m))) ((eA q m).length:Nat)
theorem aQl {s:StoreD}{q:QueryD}{m:Int}(h:(dU s q m).length=0):gC s q m=(nL,false):=by rw[gC,if_pos h]
theorem aOA {s:StoreD}{q:QueryD}{m:Int}(h: ¬(dU s q m).length=0):gC s q m=dP ((dU s q m).map (mC (eA q m))) ((eA q m).length:Nat):=by rw[gC,if_neg h]
theorem aPe (s:StoreD)(q:QueryD)(m:Int):yO (gC s q m).1<=2000:=by
 unfold gC;split
 ·decide
 exact aPb _ _
abbrev aCC (l:List aI)(n:Int):AV × List (Nat × Rs):=(.tup [.agg [.own 0,.own 1,.own 2],vB ((dP l n).2)],[(0,.arr 3 1 true ((dP l n).1.objective.map intD)),(1,.arr 91 1 true ((dP l n).1.rows.map aC)),(2,.arr 3 1 true ((dP l n).1.limits.map intD))])
abbrev aIA (l:List aI)(n:Int):Prop:=Cn 101 [.one (.sl 192 3 (l.map aE)),.one (.int .i64 n)] (aCC l n).1 (aCC l n).2
theorem aVP (l:List aI)(n:Int)(hl:l.length<=1048576)(hf:oJ l):aIA l n:=by
 refine cq Tryz.func101 (.call (vB (decide (1<=n/\n<=4))) []<| .br (.fin []) (.mk ((((1:Int)*2^(Int.toNat n)) - 1).toNat) [.int .i64 (0:Int)] ((List.replicate ((((1:Int)*2^(Int.toNat n)) - 1).toNat) (0:Int)).map intD)<| .call (.own 0) [(0,.arr 91 1 true ((dK n).map aC))]<| .len ((List.replicate ((((1:Int)*2^(Int.toNat n)) - 1).toNat) (0:Int)).length)<| .set Int intD (List.replicate ((((1:Int)*2^(Int.toNat n)) - 1).toNat) (0:Int)) (fun s5_5=>(1:Int)) (fun s5_5=> .len ((dK n).length)<| .mk ((dK n).length) [.int .i64 (0:Int)] ((List.replicate ((dK n).length) (0:Int)).map intD)<| .len l.length<| .loop (Nat × (List (List Int)) × (List Int)) (Q3 Nat (List (List Int)) (List Int)) ([9,10,21,22,29,31]++rg 35 31++rg 67 29) [700,900,2100,3100,6800,8500,8600,9200,9300] (fun yy0=>[(35,vI (yy0.1:Int))]) (fun yy0=>[(700,some (.box 94 [.own 1900,.own 2100,.own 3100])),(2100,some (.arr 91 1 true (yy0.2.1.map aC))),(3100,some (.arr 3 1 true (yy0.2.2.map intD)))]) (fun yy0=>yy0.1<=l.length/\yy0.2.1=dK n++(l.take yy0.1).map (nR n)/\yy0.2.2=List.replicate (dK n).length 0++(l.take yy0.1).map (·.bits)/\(l.take yy0.1).all (okC n)=true) (fun yy0=>l.length - yy0.1) (fun yy0=> .br (.elem _ aE l (fun e37=> .call (vB (decide (1<=e37.dst/\e37.dst<=(((1:Int)*2^(Int.toNat n)) - 1)))) []<| .br (.fin []) (.lit<| .lit<| .lit<| .br (.fin []) (.lit<| .lit<| .lit<| .lit<| .lit<| .lit<| .lit<| .lit<| .br (.fin []) (.lit<| .lit<| .lit<| .lit<| .lit<| .br (.fin []) (.mk ((((1:Int)*2^(Int.toNat n)) - 1).toNat) [.int .i64 (0:Int)] ((List.replicate ((((1:Int)*2^(Int.toNat n)) - 1).toNat) (0:Int)).map intD)<| .len ((List.replicate ((((1:Int)*2^(Int.toNat n)) - 1).toNat) (0:Int)).length)<| .set Int intD (List.replicate ((((1:Int)*2^(Int.toNat n)) - 1).toNat) (0:Int)) (fun s13_5=>(1:Int)) (fun s13_5=> .br (.len (((List.replicate ((((1:Int)*2^(Int.toNat n)) - 1).toNat) (0:Int)).set ((e37.dst - 1).toNat) (1:Int)).length)<| .set Int intD ((List.replicate ((((1:Int)*2^(Int.toNat n)) - 1).toNat) (0:Int)).set ((e37.dst - 1).toNat) (1:Int)) (fun s15_5=>(-1:Int)) (fun s15_5=> .appx (List Int) aC yy0.2.1 (((List.replicate ((((1:Int)*2^(Int.toNat n)) - 1).toNat) (0:Int)).set ((e37.dst - 1).toNat) (1:Int)).set ((e37.src - 1).toNat) (-1:Int))<| .app Int intD yy0.2.2 ([e37.bits]:List Int)<| .back [(700,700),(2100,8600),(3100,9300)])) (.appx (List Int) aC yy0.2.1 ((List.replicate ((((1:Int)*2^(Int.toNat n)) - 1).toNat) (0:Int)).set ((e37.dst - 1).toNat) (1:Int))<| .app Int intD yy0.2.2 ([e37.bits]:List Int)<| .back [(700,700),(2100,8600),(3100,9300)])))))))) (.call (vB (cS (⟨(List.replicate ((((1:Int)*2^(Int.toNat n)) - 1).toNat) (0:Int)).set (((((1:Int)*2^(Int.toNat n)) - 1) - 1).toNat) (1:Int),yy0.2.1,yy0.2.2⟩:bV))) []<| .br (.fin []) (.fin [(0,1900),(1,2100),(2,3100)])))))) (p:=Lx (l.map aE)<| jR n (1:Int) (4:Int)/\Nb (1<=n/\n<=4) ((false)=((dP l n).2)/\[]=(dP l n).1.objective.map intD/\[]=(dP l n).1.rows.map aC/\[]=(dP l n).1.limits.map intD/\True) ((0<=n/\n<=64)/\(bJ ((1:Int)*2^(Int.toNat n))/\(bJ (((1:Int)*2^(Int.toNat n)) - 1)/\((((1:Int)*2^(Int.toNat n)) - 1)=(((((1:Int)*2^(Int.toNat n)) - 1).toNat:Nat):Int)/\(((1:Int)*2^(Int.toNat n)) - 1)=(((((1:Int)*2^(Int.toNat n)) - 1).toNat:Nat):Int)/\8*((((1:Int)*2^(Int.toNat n)) - 1).toNat)<=281474976710656/\((((1:Int)*2^(Int.toNat n)) - 1).toNat)<=9223372036854775807/\List.replicate ((((1:Int)*2^(Int.toNat n)) - 1).toNat) [.int .i64 (0:Int)]=(List.replicate ((((1:Int)*2^(Int.toNat n)) - 1).toNat) (0:Int)).map intD/\(qJ Tryz.prog 158 [.one (.int .i64 n)] (.own 0) [(0,.arr 91 1 true ((dK n).map aC))]/\(bJ ((((1:Int)*2^(Int.toNat n)) - 1) - 1)/\(0<=((((1:Int)*2^(Int.toNat n)) - 1) - 1)/\Lm intD (List.replicate ((((1:Int)*2^(Int.toNat n)) - 1).toNat) (0:Int))/\((((1:Int)*2^(Int.toNat n)) - 1) - 1)<(((List.replicate ((((1:Int)*2^(Int.toNat n)) - 1).toNat) (0:Int)).length:Nat):Int)/\((List.replicate ((((1:Int)*2^(Int.toNat n)) - 1).toNat) (0:Int)).map intD=(List.replicate ((((1:Int)*2^(Int.toNat n)) - 1).toNat) (0:Int)).map intD/\((((1:Int)*2^(Int.toNat n)) - 1) - 1).toNat<(List.replicate ((((1:Int)*2^(Int.toNat n)) - 1).toNat) (0:Int)).length/\ ∀s5_5,(List.replicate ((((1:Int)*2^(Int.toNat n)) - 1).toNat) (0:Int))[((((1:Int)*2^(Int.toNat n)) - 1) - 1).toNat]? =some s5_5->gN (intD s5_5)=true/\0+1<=(intD s5_5).length/\(intD s5_5).take 0++[.int .i64 (1:Int)]++(intD s5_5).drop (0+1)=intD (1:Int)/\(Lm aC (dK n)/\((((dK n).length:Nat):Int)=(((dK n).length:Nat):Int)/\(((dK n).length:Nat):Int)=(((dK n).length:Nat):Int)/\8*((dK n).length)<=281474976710656/\((dK n).length)<=9223372036854775807/\List.replicate ((dK n).length) [.int .i64 (0:Int)]=(List.replicate ((dK n).length) (0:Int)).map intD/\(Lm aE l/\((∃(k:Nat) (R:List (List Int)) (M:List Int),0=(k:Int)/\(dK n).map aC=R.map aC/\(List.replicate ((dK n).length) (0:Int)).map intD=M.map intD/\k<=l.length/\R=dK n++(l.take k).map (nR n)/\M=List.replicate (dK n).length 0++(l.take k).map (·.bits)/\(l.take k).all (okC n)=true)/\ ∀(k:Nat) (R:List (List Int)) (M:List Int),(k<=l.length/\R=dK n++(l.take k).map (nR n)/\M=List.replicate (dK n).length 0++(l.take k).map (·.bits)/\(l.take k).all (okC n)=true)->Br ((k:Int)<(l.length:Int)) (0<=(k:Int)/\Em aE l k fun e37=>jR e37.dst (1:Int) (((1:Int)*2^(Int.toNat n)) - 1)/\Nb (1<=e37.dst/\e37.dst<=(((1:Int)*2^(Int.toNat n)) - 1)) ((false)=((dP l n).2)/\[]=(dP l n).1.objective.map intD/\[]=(dP l n).1.rows.map aC/\[]=(dP l n).1.limits.map intD/\True) (Br (e37.src<0) ((false)=((dP l n).2)/\[]=(dP l n).1.objective.map intD/\[]=(dP l n).1.rows.map aC/\[]=(dP l n).1.limits.map intD/\True) (Nb ((cH .and .i64 e37.src e37.dst)=e37.src) ((false)=((dP l n).2)/\[]=(dP l n).1.objective.map intD/\[]=(dP l n).1.rows.map aC/\[]=(dP l n).1.limits.map intD/\True) (Br (e37.src=e37.dst) ((false)=((dP l n).2)/\[]=(dP l n).1.objective.map intD/\[]=(dP l n).1.rows.map aC/\[]=(dP l n).1.limits.map intD/\True) ((((1:Int)*2^(Int.toNat n)) - 1)=(((((1:Int)*2^(Int.toNat n)) - 1).toNat:Nat):Int)/\(((1:Int)*2^(Int.toNat n)) - 1)=(((((1:Int)*2^(Int.toNat n)) - 1).toNat:Nat):Int)/\8*((((1:Int)*2^(Int.toNat n)) - 1).toNat)<=281474976710656/\((((1:Int)*2^(Int.toNat n)) - 1).toNat)<=9223372036854775807/\List.replicate ((((1:Int)*2^(Int.toNat n)) - 1).toNat) [.int .i64 (0:Int)]=(List.replicate ((((1:Int)*2^(Int.toNat n)) - 1).toNat) (0:Int)).map intD/\(bJ (e37.dst - 1)/\(0<=(e37.dst - 1)/\Lm intD (List.replicate ((((1:Int)*2^(Int.toNat n)) - 1).toNat) (0:Int))/\(e37.dst - 1)<(((List.replicate ((((1:Int)*2^(Int.toNat n)) - 1).toNat) (0:Int)).length:Nat):Int)/\((List.replicate ((((1:Int)*2^(Int.toNat n)) - 1).toNat) (0:Int)).map intD=(List.replicate ((((1:Int)*2^(Int.toNat n)) - 1).toNat) (0:Int)).map intD/\(e37.dst - 1).toNat<(List.replicate ((((1:Int)*2^(Int.toNat n)) - 1).toNat) (0:Int)).length/\ ∀s13_5,(List.replicate ((((1:Int)*2^(Int.toNat n)) - 1).toNat) (0:Int))[(e37.dst - 1).toNat]? =some s13_5->gN (intD s13_5)=true/\0+1<=(intD s13_5).length/\(intD s13_5).take 0++[.int .i64 (1:Int)]++(intD s13_5).drop (0+1)=intD (1:Int)/\Br (0<e37.src) (bJ (e37.src - 1)/\(0<=(e37.src - 1)/\Lm intD ((List.replicate ((((1:Int)*2^(Int.toNat n)) - 1).toNat) (0:Int)).set ((e37.dst - 1).toNat) (1:Int))/\(e37.src - 1)<((((List.replicate ((((1:Int)*2^(Int.toNat n)) - 1).toNat) (0:Int)).set ((e37.dst - 1).toNat) (1:Int)).length:Nat):Int)/\(((List.replicate ((((1:Int)*2^(Int.toNat n)) - 1).toNat) (0:Int)).set ((e37.dst - 1).toNat) (1:Int)).map intD=((List.replicate ((((1:Int)*2^(Int.toNat n)) - 1).toNat) (0:Int)).set ((e37.dst - 1).toNat) (1:Int)).map intD/\(e37.src - 1).toNat<((List.replicate ((((1:Int)*2^(Int.toNat n)) - 1).toNat) (0:Int)).set ((e37.dst - 1).toNat) (1:Int)).length/\ ∀s15_5,((List.replicate ((((1:Int)*2^(Int.toNat n)) - 1).toNat) (0:Int)).set ((e37.dst - 1).toNat) (1:Int))[(e37.src - 1).toNat]? =some s15_5->gN (intD s15_5)=true/\0+1<=(intD s15_5).length/\(intD s15_5).take 0++[.int .i64 (-1:Int)]++(intD s15_5).drop (0+1)=intD (-1:Int)/\R.map aC=R.map aC/\(((List.replicate ((((1:Int)*2^(Int.toNat n)) - 1).toNat) (0:Int)).set ((e37.dst - 1).toNat) (1:Int)).set ((e37.src - 1).toNat) (-1:Int)).map intD=(((List.replicate ((((1:Int)*2^(Int.toNat n)) - 1).toNat) (0:Int)).set ((e37.dst - 1).toNat) (1:Int)).set ((e37.src - 1).toNat) (-1:Int)).map intD/\(R.length+1)*24<=140737488355328/\Ap intD M ([e37.bits]:List Int) 8 (bJ ((k:Int)+1)/\ ∃(k' :Nat) (R' :List (List Int)) (M' :List Int),((k:Int)+1)=(k' :Int)/\(R++[((List.replicate ((((1:Int)*2^(Int.toNat n)) - 1).toNat) (0:Int)).set ((e37.dst - 1).toNat) (1:Int)).set ((e37.src - 1).toNat) (-1:Int)]).map aC=R'.map aC/\(M++[e37.bits]).map intD=M'.map intD/\(k' <=l.length/\R' =dK n++(l.take k').map (nR n)/\M' =List.replicate (dK n).length 0++(l.take k').map (·.bits)/\(l.take k').all (okC n)=true)/\l.length - k' <l.length - k)))) (R.map aC=R.map aC/\((List.replicate ((((1:Int)*2^(Int.toNat n)) - 1).toNat) (0:Int)).set ((e37.dst - 1).toNat) (1:Int)).map intD=((List.replicate ((((1:Int)*2^(Int.toNat n)) - 1).toNat) (0:Int)).set ((e37.dst - 1).toNat) (1:Int)).map intD/\(R.length+1)*24<=140737488355328/\Ap intD M ([e37.bits]:List Int) 8 (bJ ((k:Int)+1)/\ ∃(k' :Nat) (R' :List (List Int)) (M' :List Int),((k:Int)+1)=(k' :Int)/\(R++[(List.replicate ((((1:Int)*2^(Int.toNat n)) - 1).toNat) (0:Int)).set ((e37.dst - 1).toNat) (1:Int)]).map aC=R'.map aC/\(M++[e37.bits]).map intD=M'.map intD/\(k' <=l.length/\R' =dK n++(l.take k').map (nR n)/\M' =List.replicate (dK n).length 0++(l.take k').map (·.bits)/\(l.take k').all (okC n)=true)/\l.length - k' <l.length - k)))))))))) (aAD (⟨(List.replicate ((((1:Int)*2^(Int.toNat n)) - 1).toNat) (0:Int)).set (((((1:Int)*2^(Int.toNat n)) - 1) - 1).toNat) (1:Int),R,M⟩:bV)/\Nr (cS (⟨(List.replicate ((((1:Int)*2^(Int.toNat n)) - 1).toNat) (0:Int)).set (((((1:Int)*2^(Int.toNat n)) - 1) - 1).toNat) (1:Int),R,M⟩:bV)) ((false)=((dP l n).2)/\[]=(dP l n).1.objective.map intD/\[]=(dP l n).1.rows.map aC/\[]=(dP l n).1.limits.map intD/\True) ((true)=((dP l n).2)/\((List.replicate ((((1:Int)*2^(Int.toNat n)) - 1).toNat) (0:Int)).set (((((1:Int)*2^(Int.toNat n)) - 1) - 1).toNat) (1:Int)).map intD=(dP l n).1.objective.map intD/\R.map aC=(dP l n).1.rows.map aC/\M.map intD=(dP l n).1.limits.map intD/\True))))))))))))))) (by kernel_rfl) ?_;refine lx fun n0=>?_;refine⟨nQ _ _ _,dn (fun c0=>?_) fun c0=>?_⟩
 ·apply et4<;>((rw[aVF (by omega)]<;>rfl))
 ·obtain⟨b1,b2,b3⟩:=aAr (n:=n) (by omega);have hal:dG n=1*2^n.toNat - 1:=rfl;have hel:=aKi n;refine⟨⟨by omega,by omega⟩,by exact fM (by omega),by exact⟨by omega,by omega⟩,by omega,by omega,by omega,by omega,by (rw[aTC];done),by rw[<-aLu];exact aSW _,by exact⟨by omega,by omega⟩,by omega,aAq _,by (simp;omega),rfl,by (simp;omega),fun s5_5 hs5_5=>⟨rfl,aEE rfl,rfl,?_⟩⟩;refine⟨aAq _,rfl,rfl,by omega,by omega,by (rw[aTC];done),aAq _,⟨0,dK n,List.replicate ((dK n).length) (0:Int),rfl,rfl,rfl,aBn _,by simp,by simp,rfl⟩,fun k R M ⟨hk,hR,hM,ha⟩=>?_⟩;refine dd (fun c1=>?_) fun c1=>?_
  ·refine⟨by omega,rfl,by omega,fun e37 h37=>?_⟩;have hk2:=h37;have hfc:=hf _ (aCX h37);have hfs:e37.src<=9223372036854775807:=hfc.1.2;have hfd:e37.dst<=9223372036854775807:=hfc.2.1.2;refine⟨nQ _ _ _,dn (fun g44=>?_) fun g44=>?_⟩
   ·have hbad:okC n e37=false:=wJ (by rintro⟨q1,q2,q3,q4⟩;omega);apply et4<;>((rw[wK hk2 hbad]<;>rfl))
   ·refine dd (fun g49=>?_) fun g49=>?_
    ·have hbad:okC n e37=false:=wJ (by rintro⟨q1,q2,q3,q4⟩;omega);apply et4<;>((rw[wK hk2 hbad]<;>rfl))
    ·refine dn (fun g59=>?_) fun g59=>?_
     ·have hbad:okC n e37=false:=wJ (by rintro⟨q1,q2,q3,q4⟩;omega);apply et4<;>((rw[wK hk2 hbad]<;>rfl))
     ·refine dd (fun c2=>?_) fun c2=>?_
      ·have hbad:okC n e37=false:=wJ (by rintro⟨q1,q2,q3,q4⟩;omega);apply et4<;>((rw[wK hk2 hbad]<;>rfl))
      ·have hle:=aBw (a:=e37.src) (c:=e37.dst) (by omega) (by omega) (by omega) (by omega);refine⟨by omega,by omega,by omega,by omega,by (rw[aTC];done),by exact⟨by omega,by omega⟩,by omega,aAq _,by (simp;omega),rfl,by (simp;omega),fun s13_5 hs13_5=>⟨rfl,aEE rfl,rfl,?_⟩⟩;refine dd (fun c3=>?_) fun c3=>?_
       ·refine⟨by exact⟨by omega,by omega⟩,by omega,aAq _,by (simp;omega),rfl,by (simp;omega),fun s15_5 hs15_5=>⟨rfl,aEE rfl,rfl,?_⟩⟩;refine⟨rfl,rfl,by (simp[hR,hM];omega),?_⟩;refine ap ?_ (fun _=>rfl) (by (simp[hR,hM];omega));refine⟨by exact⟨by omega,by omega⟩,?_⟩;exact⟨k+1,_,_,rfl,rfl,rfl,⟨by omega,by (rw[hR,bR hk2,aLt,aNG,aLL,List.map_nil,aP9 (by omega) c3];done),by rw[hM,bR hk2,aLt,aNG];rfl,cL hk2 ha (aP7 ⟨by omega,by omega,by omega,by omega⟩)⟩,by omega⟩
       ·refine⟨rfl,rfl,by (simp[hR,hM];omega),?_⟩;refine ap ?_ (fun _=>rfl) (by (simp[hR,hM];omega));refine⟨by exact⟨by omega,by omega⟩,?_⟩;exact⟨k+1,_,_,rfl,rfl,rfl,⟨by omega,by (rw[hR,bR hk2,aLt,aNG,aLL,List.map_nil,aPa (by omega) c3];done),by rw[hM,bR hk2,aLt,aNG];rfl,cL hk2 ha (aP7 ⟨by omega,by omega,by omega,by omega⟩)⟩,by omega⟩
  ·have hkl:k=l.length:=by omega
   subst hkl;rw[aTG] at hR hM ha;have hrs: ∀r∈R,r.length<=1048576:=by rw[hR];exact aVH (by omega)
   refine⟨aKg (⟨(List.replicate ((((1:Int)*2^(Int.toNat n)) - 1).toNat) (0:Int)).set (((((1:Int)*2^(Int.toNat n)) - 1) - 1).toNat) (1:Int),R,M⟩:bV) (by assumption),dm (fun c4=>?_) fun c4=>?_⟩
   ·have hfin:dP l n=(nL,false):=aP8 (by rw[<-c4,xL,aLx (by omega),hR,hM]);apply et4<;>((rw[hfin]<;>rfl))
   ·have hfin:dP l n=(xL n l,true):=aNu (by omega) ha (by rw[<-c4,xL,aLx (by omega),hR,hM]);apply et4<;>(first|(rw[hfin]<;>rfl)|(rw[hfin,xL,hR]<;>rfl)|(rw[hfin,xL,hM]<;>rfl)|(rw[hfin,xL,aLx (by omega)]<;>rfl))
end Go.Proofs.YtlidmoeecphbmaaGreat
