/-
  Contracts and plain laws, joined: part 6.
-/
import Derived.Test.YtpoobcnmhnbdlaaP14
namespace Go.Proofs.Ytpoobcnmhnbdlaa
open Go.ChangeShapes Go.WideShapes Go.ChangeAt Go.RowKit
set_option linter.unusedVariables false
set_option linter.unusedSimpArgs false
set_option maxRecDepth 100000
set_option maxHeartbeats 4000000
abbrev uX (a:aC) (b:aC):AV × List (Nat × Rs):=(.tup [.agg [vI (((cN a b).1).num),vI (((cN a b).1).den)],vB ((cN a b).2)],[])
abbrev aA8 (a:aC) (b:aC):Prop:=gF Try.prog 81 [.agg [.int .i64 a.num,.int .i64 a.den],.agg [.int .i64 b.num,.int .i64 b.den]] (uX a b).1 (uX a b).2
theorem aHY (a b:aC):aA8 a b:=by
 refine cT dR bK Try.func81 (by kernel_rfl) (.call (vB (aT a)) []<| .br (.fin []) (.call (vB (aT b)) []<| .lit<| .lit<| .br (.fin []) (dA (qD ((a.num*b.den)+(b.num*a.den)) (a.den*b.den))<| .fin []))) (p:=eW a∧(((!(aT a))=true→(0:Int)=(((cN a b).1).num)∧(0:Int)=(((cN a b).1).den)∧(false)=((cN a b).2)∧True)∧((!(aT a))=false→eW b∧(((!(aT b))=true→(0:Int)=(((cN a b).1).num)∧(0:Int)=(((cN a b).1).den)∧(false)=((cN a b).2)∧True)∧((!(aT b))=false→dN (a.num*b.den)∧dN (b.num*a.den)∧dN ((a.num*b.den)+(b.num*a.den))∧dN (a.den*b.den)∧tU ((a.num*b.den)+(b.num*a.den)) (a.den*b.den)∧(((fV (bG ((a.num*b.den)+(b.num*a.den)) (a.den*b.den))).1).num)=(((cN a b).1).num)∧(((fV (bG ((a.num*b.den)+(b.num*a.den)) (a.den*b.den))).1).den)=(((cN a b).1).den)∧((fV (bG ((a.num*b.den)+(b.num*a.den)) (a.den*b.den))).2)=((cN a b).2)∧True))))) (by kernel_rfl) ?_
 refine ⟨iA a,fun g9=>?_,fun g9=>?_⟩
 ·replace g9:=nt g9
  refine ⟨?_,?_,?_,trivial⟩
  ·first | (rw [cN,fC g9 c0];done) | (rw [cN,dF (.inl g9)];rfl) | (rw [cN,dF (.inr c0)];rfl)
  ·first | (rw [cN,fC g9 c0];done) | (rw [cN,dF (.inl g9)];rfl) | (rw [cN,dF (.inr c0)];rfl)
  ·first | (rw [cN,fC g9 c0];done) | (rw [cN,dF (.inl g9)];rfl) | (rw [cN,dF (.inr c0)];rfl)
 ·replace g9:=nf g9
  refine ⟨iA b,fun c0=>?_,fun c0=>?_⟩
  ·replace c0:=nt c0
   refine ⟨?_,?_,?_,trivial⟩
   ·first | (rw [cN,fC g9 c0];done) | (rw [cN,dF (.inl g9)];rfl) | (rw [cN,dF (.inr c0)];rfl)
   ·first | (rw [cN,fC g9 c0];done) | (rw [cN,dF (.inl g9)];rfl) | (rw [cN,dF (.inr c0)];rfl)
   ·first | (rw [cN,fC g9 c0];done) | (rw [cN,dF (.inl g9)];rfl) | (rw [cN,dF (.inr c0)];rfl)
  ·replace c0:=nf c0
   have q1:=cF g9
   have q2:=cF c0
   have m1:=eM (x:=a.num) (y:=b.den) ⟨by omega,by omega⟩ ⟨by omega,by omega⟩
   have m2:=eM (x:=b.num) (y:=a.den) ⟨by omega,by omega⟩ ⟨by omega,by omega⟩
   have m3:=eM (x:=a.den) (y:=b.den) ⟨by omega,by omega⟩ ⟨by omega,by omega⟩
   have m4:=eM (x:=a.num) (y:=b.num) ⟨by omega,by omega⟩ ⟨by omega,by omega⟩
   have m5:=eM (x:=a.den) (y:=b.num) ⟨by omega,by omega⟩ ⟨by omega,by omega⟩
   refine ⟨⟨by omega,by omega⟩,⟨by omega,by omega⟩,⟨by omega,by omega⟩,⟨by omega,by omega⟩,aCe _ _ (by first | omega | (dsimp only;omega)) (by first | omega | (dsimp only;omega)),?_,?_,?_,trivial⟩
   ·first | (rw [cN,fC g9 c0];done) | (rw [cN,dF (.inl g9)];rfl) | (rw [cN,dF (.inr c0)];rfl)
   ·first | (rw [cN,fC g9 c0];done) | (rw [cN,dF (.inl g9)];rfl) | (rw [cN,dF (.inr c0)];rfl)
   ·first | (rw [cN,fC g9 c0];done) | (rw [cN,dF (.inl g9)];rfl) | (rw [cN,dF (.inr c0)];rfl)
abbrev uY (a:aC) (b:aC):AV × List (Nat × Rs):=(.tup [.agg [vI (((bR a b).1).num),vI (((bR a b).1).den)],vB ((bR a b).2)],[])
abbrev aA9 (a:aC) (b:aC):Prop:=gF Try.prog 80 [.agg [.int .i64 a.num,.int .i64 a.den],.agg [.int .i64 b.num,.int .i64 b.den]] (uY a b).1 (uY a b).2
theorem aHZ (a b:aC):aA9 a b:=by
 refine cT dR bK Try.func80 (by kernel_rfl) (.call (vB (aT a)) []<| .br (.fin []) (.call (vB (aT b)) []<| .lit<| .lit<| .br (.fin []) (dA (qD (a.num*b.num) (a.den*b.den))<| .fin []))) (p:=eW a∧(((!(aT a))=true→(0:Int)=(((bR a b).1).num)∧(0:Int)=(((bR a b).1).den)∧(false)=((bR a b).2)∧True)∧((!(aT a))=false→eW b∧(((!(aT b))=true→(0:Int)=(((bR a b).1).num)∧(0:Int)=(((bR a b).1).den)∧(false)=((bR a b).2)∧True)∧((!(aT b))=false→dN (a.num*b.num)∧dN (a.den*b.den)∧tU (a.num*b.num) (a.den*b.den)∧(((fV (bG (a.num*b.num) (a.den*b.den))).1).num)=(((bR a b).1).num)∧(((fV (bG (a.num*b.num) (a.den*b.den))).1).den)=(((bR a b).1).den)∧((fV (bG (a.num*b.num) (a.den*b.den))).2)=((bR a b).2)∧True))))) (by kernel_rfl) ?_
 refine ⟨iA a,fun g9=>?_,fun g9=>?_⟩
 ·replace g9:=nt g9
  refine ⟨?_,?_,?_,trivial⟩
  ·first | (rw [bR,eT g9 c0];done) | (rw [bR,dG (.inl g9)];rfl) | (rw [bR,dG (.inr c0)];rfl)
  ·first | (rw [bR,eT g9 c0];done) | (rw [bR,dG (.inl g9)];rfl) | (rw [bR,dG (.inr c0)];rfl)
  ·first | (rw [bR,eT g9 c0];done) | (rw [bR,dG (.inl g9)];rfl) | (rw [bR,dG (.inr c0)];rfl)
 ·replace g9:=nf g9
  refine ⟨iA b,fun c0=>?_,fun c0=>?_⟩
  ·replace c0:=nt c0
   refine ⟨?_,?_,?_,trivial⟩
   ·first | (rw [bR,eT g9 c0];done) | (rw [bR,dG (.inl g9)];rfl) | (rw [bR,dG (.inr c0)];rfl)
   ·first | (rw [bR,eT g9 c0];done) | (rw [bR,dG (.inl g9)];rfl) | (rw [bR,dG (.inr c0)];rfl)
   ·first | (rw [bR,eT g9 c0];done) | (rw [bR,dG (.inl g9)];rfl) | (rw [bR,dG (.inr c0)];rfl)
  ·replace c0:=nf c0
   have q1:=cF g9
   have q2:=cF c0
   have m1:=eM (x:=a.num) (y:=b.den) ⟨by omega,by omega⟩ ⟨by omega,by omega⟩
   have m2:=eM (x:=b.num) (y:=a.den) ⟨by omega,by omega⟩ ⟨by omega,by omega⟩
   have m3:=eM (x:=a.den) (y:=b.den) ⟨by omega,by omega⟩ ⟨by omega,by omega⟩
   have m4:=eM (x:=a.num) (y:=b.num) ⟨by omega,by omega⟩ ⟨by omega,by omega⟩
   have m5:=eM (x:=a.den) (y:=b.num) ⟨by omega,by omega⟩ ⟨by omega,by omega⟩
   refine ⟨⟨by omega,by omega⟩,⟨by omega,by omega⟩,aCe _ _ (by first | omega | (dsimp only;omega)) (by first | omega | (dsimp only;omega)),?_,?_,?_,trivial⟩
   ·first | (rw [bR,eT g9 c0];done) | (rw [bR,dG (.inl g9)];rfl) | (rw [bR,dG (.inr c0)];rfl)
   ·first | (rw [bR,eT g9 c0];done) | (rw [bR,dG (.inl g9)];rfl) | (rw [bR,dG (.inr c0)];rfl)
   ·first | (rw [bR,eT g9 c0];done) | (rw [bR,dG (.inl g9)];rfl) | (rw [bR,dG (.inr c0)];rfl)
abbrev qT (a:aC) (b:aC):AV × List (Nat × Rs):=(.tup [.agg [vI (((aQ a b).1).num),vI (((aQ a b).1).den)],vB ((aQ a b).2)],[])
abbrev uZ (a:aC) (b:aC):Prop:=gF Try.prog 64 [.agg [.int .i64 a.num,.int .i64 a.den],.agg [.int .i64 b.num,.int .i64 b.den]] (qT a b).1 (qT a b).2
theorem aDg (a b:aC):uZ a b:=by
 refine cT dR bK Try.func64 (by kernel_rfl) (.call (vB (aT a)) []<| .br (.fin []) (.call (vB (aT b)) []<| .lit<| .lit<| .br (.fin []) (dA (qD (a.num*b.den) (a.den*b.num))<| .fin []))) (p:=eW a∧(((!(aT a))=true→(0:Int)=(((aQ a b).1).num)∧(0:Int)=(((aQ a b).1).den)∧(false)=((aQ a b).2)∧True)∧((!(aT a))=false→eW b∧(((!(aT b))=true→(0:Int)=(((aQ a b).1).num)∧(0:Int)=(((aQ a b).1).den)∧(false)=((aQ a b).2)∧True)∧((!(aT b))=false→dN (a.num*b.den)∧dN (a.den*b.num)∧tU (a.num*b.den) (a.den*b.num)∧(((fV (bG (a.num*b.den) (a.den*b.num))).1).num)=(((aQ a b).1).num)∧(((fV (bG (a.num*b.den) (a.den*b.num))).1).den)=(((aQ a b).1).den)∧((fV (bG (a.num*b.den) (a.den*b.num))).2)=((aQ a b).2)∧True))))) (by kernel_rfl) ?_
 refine ⟨iA a,fun g9=>?_,fun g9=>?_⟩
 ·replace g9:=nt g9
  refine ⟨?_,?_,?_,trivial⟩
  ·first | (rw [aQ,dZ g9 c0];done) | (rw [aQ,cS (.inl g9)];rfl) | (rw [aQ,cS (.inr c0)];rfl)
  ·first | (rw [aQ,dZ g9 c0];done) | (rw [aQ,cS (.inl g9)];rfl) | (rw [aQ,cS (.inr c0)];rfl)
  ·first | (rw [aQ,dZ g9 c0];done) | (rw [aQ,cS (.inl g9)];rfl) | (rw [aQ,cS (.inr c0)];rfl)
 ·replace g9:=nf g9
  refine ⟨iA b,fun c0=>?_,fun c0=>?_⟩
  ·replace c0:=nt c0
   refine ⟨?_,?_,?_,trivial⟩
   ·first | (rw [aQ,dZ g9 c0];done) | (rw [aQ,cS (.inl g9)];rfl) | (rw [aQ,cS (.inr c0)];rfl)
   ·first | (rw [aQ,dZ g9 c0];done) | (rw [aQ,cS (.inl g9)];rfl) | (rw [aQ,cS (.inr c0)];rfl)
   ·first | (rw [aQ,dZ g9 c0];done) | (rw [aQ,cS (.inl g9)];rfl) | (rw [aQ,cS (.inr c0)];rfl)
  ·replace c0:=nf c0
   have q1:=cF g9
   have q2:=cF c0
   have m1:=eM (x:=a.num) (y:=b.den) ⟨by omega,by omega⟩ ⟨by omega,by omega⟩
   have m2:=eM (x:=b.num) (y:=a.den) ⟨by omega,by omega⟩ ⟨by omega,by omega⟩
   have m3:=eM (x:=a.den) (y:=b.den) ⟨by omega,by omega⟩ ⟨by omega,by omega⟩
   have m4:=eM (x:=a.num) (y:=b.num) ⟨by omega,by omega⟩ ⟨by omega,by omega⟩
   have m5:=eM (x:=a.den) (y:=b.num) ⟨by omega,by omega⟩ ⟨by omega,by omega⟩
   refine ⟨⟨by omega,by omega⟩,⟨by omega,by omega⟩,aCe _ _ (by first | omega | (dsimp only;omega)) (by first | omega | (dsimp only;omega)),?_,?_,?_,trivial⟩
   ·first | (rw [aQ,dZ g9 c0];done) | (rw [aQ,cS (.inl g9)];rfl) | (rw [aQ,cS (.inr c0)];rfl)
   ·first | (rw [aQ,dZ g9 c0];done) | (rw [aQ,cS (.inl g9)];rfl) | (rw [aQ,cS (.inr c0)];rfl)
   ·first | (rw [aQ,dZ g9 c0];done) | (rw [aQ,cS (.inl g9)];rfl) | (rw [aQ,cS (.inr c0)];rfl)
abbrev qU (a:aC) (b:aC):AV × List (Nat × Rs):=(.tup [.agg [vI (((cN a b).1).num),vI (((cN a b).1).den)],vB ((cN a b).2)],[])
abbrev vA (a:aC) (b:aC):Prop:=gF Try.prog 50 [.agg [.int .i64 a.num,.int .i64 a.den],.agg [.int .i64 b.num,.int .i64 b.den]] (qU a b).1 (qU a b).2
theorem aDh (a b:aC):vA a b:=by
 refine cT dR bK Try.func50 (by kernel_rfl) (.call (vB (aT a)) []<| .br (.fin []) (.call (vB (aT b)) []<| .lit<| .lit<| .br (.fin []) (dA (nU ((a.num*b.den)+(b.num*a.den)) (a.den*b.den))<| .fin []))) (p:=eX a∧(((!(aT a))=true→(0:Int)=(((cN a b).1).num)∧(0:Int)=(((cN a b).1).den)∧(false)=((cN a b).2)∧True)∧((!(aT a))=false→eX b∧(((!(aT b))=true→(0:Int)=(((cN a b).1).num)∧(0:Int)=(((cN a b).1).den)∧(false)=((cN a b).2)∧True)∧((!(aT b))=false→dN (a.num*b.den)∧dN (b.num*a.den)∧dN ((a.num*b.den)+(b.num*a.den))∧dN (a.den*b.den)∧qE ((a.num*b.den)+(b.num*a.den)) (a.den*b.den)∧(((fV (bG ((a.num*b.den)+(b.num*a.den)) (a.den*b.den))).1).num)=(((cN a b).1).num)∧(((fV (bG ((a.num*b.den)+(b.num*a.den)) (a.den*b.den))).1).den)=(((cN a b).1).den)∧((fV (bG ((a.num*b.den)+(b.num*a.den)) (a.den*b.den))).2)=((cN a b).2)∧True))))) (by kernel_rfl) ?_
 refine ⟨iB a,fun g11=>?_,fun g11=>?_⟩
 ·replace g11:=nt g11
  refine ⟨?_,?_,?_,trivial⟩
  ·first | (rw [cN,fC g11 c0];done) | (rw [cN,dF (.inl g11)];rfl) | (rw [cN,dF (.inr c0)];rfl)
  ·first | (rw [cN,fC g11 c0];done) | (rw [cN,dF (.inl g11)];rfl) | (rw [cN,dF (.inr c0)];rfl)
  ·first | (rw [cN,fC g11 c0];done) | (rw [cN,dF (.inl g11)];rfl) | (rw [cN,dF (.inr c0)];rfl)
 ·replace g11:=nf g11
  refine ⟨iB b,fun c0=>?_,fun c0=>?_⟩
  ·replace c0:=nt c0
   refine ⟨?_,?_,?_,trivial⟩
   ·first | (rw [cN,fC g11 c0];done) | (rw [cN,dF (.inl g11)];rfl) | (rw [cN,dF (.inr c0)];rfl)
   ·first | (rw [cN,fC g11 c0];done) | (rw [cN,dF (.inl g11)];rfl) | (rw [cN,dF (.inr c0)];rfl)
   ·first | (rw [cN,fC g11 c0];done) | (rw [cN,dF (.inl g11)];rfl) | (rw [cN,dF (.inr c0)];rfl)
  ·replace c0:=nf c0
   have q1:=cF g11
   have q2:=cF c0
   have m1:=eM (x:=a.num) (y:=b.den) ⟨by omega,by omega⟩ ⟨by omega,by omega⟩
   have m2:=eM (x:=b.num) (y:=a.den) ⟨by omega,by omega⟩ ⟨by omega,by omega⟩
   have m3:=eM (x:=a.den) (y:=b.den) ⟨by omega,by omega⟩ ⟨by omega,by omega⟩
   have m4:=eM (x:=a.num) (y:=b.num) ⟨by omega,by omega⟩ ⟨by omega,by omega⟩
   have m5:=eM (x:=a.den) (y:=b.num) ⟨by omega,by omega⟩ ⟨by omega,by omega⟩
   refine ⟨⟨by omega,by omega⟩,⟨by omega,by omega⟩,⟨by omega,by omega⟩,⟨by omega,by omega⟩,zL _ _ (by first | omega | (dsimp only;omega)) (by first | omega | (dsimp only;omega)),?_,?_,?_,trivial⟩
   ·first | (rw [cN,fC g11 c0];done) | (rw [cN,dF (.inl g11)];rfl) | (rw [cN,dF (.inr c0)];rfl)
   ·first | (rw [cN,fC g11 c0];done) | (rw [cN,dF (.inl g11)];rfl) | (rw [cN,dF (.inr c0)];rfl)
   ·first | (rw [cN,fC g11 c0];done) | (rw [cN,dF (.inl g11)];rfl) | (rw [cN,dF (.inr c0)];rfl)
abbrev oK (a:aC) (b:aC):AV × List (Nat × Rs):=(.tup [.agg [vI (((bR a b).1).num),vI (((bR a b).1).den)],vB ((bR a b).2)],[])
abbrev qV (a:aC) (b:aC):Prop:=gF Try.prog 49 [.agg [.int .i64 a.num,.int .i64 a.den],.agg [.int .i64 b.num,.int .i64 b.den]] (oK a b).1 (oK a b).2
theorem aAa (a b:aC):qV a b:=by
 refine cT dR bK Try.func49 (by kernel_rfl) (.call (vB (aT a)) []<| .br (.fin []) (.call (vB (aT b)) []<| .lit<| .lit<| .br (.fin []) (dA (nU (a.num*b.num) (a.den*b.den))<| .fin []))) (p:=eX a∧(((!(aT a))=true→(0:Int)=(((bR a b).1).num)∧(0:Int)=(((bR a b).1).den)∧(false)=((bR a b).2)∧True)∧((!(aT a))=false→eX b∧(((!(aT b))=true→(0:Int)=(((bR a b).1).num)∧(0:Int)=(((bR a b).1).den)∧(false)=((bR a b).2)∧True)∧((!(aT b))=false→dN (a.num*b.num)∧dN (a.den*b.den)∧qE (a.num*b.num) (a.den*b.den)∧(((fV (bG (a.num*b.num) (a.den*b.den))).1).num)=(((bR a b).1).num)∧(((fV (bG (a.num*b.num) (a.den*b.den))).1).den)=(((bR a b).1).den)∧((fV (bG (a.num*b.num) (a.den*b.den))).2)=((bR a b).2)∧True))))) (by kernel_rfl) ?_
 refine ⟨iB a,fun g11=>?_,fun g11=>?_⟩
 ·replace g11:=nt g11
  refine ⟨?_,?_,?_,trivial⟩
  ·first | (rw [bR,eT g11 c0];done) | (rw [bR,dG (.inl g11)];rfl) | (rw [bR,dG (.inr c0)];rfl)
  ·first | (rw [bR,eT g11 c0];done) | (rw [bR,dG (.inl g11)];rfl) | (rw [bR,dG (.inr c0)];rfl)
  ·first | (rw [bR,eT g11 c0];done) | (rw [bR,dG (.inl g11)];rfl) | (rw [bR,dG (.inr c0)];rfl)
 ·replace g11:=nf g11
  refine ⟨iB b,fun c0=>?_,fun c0=>?_⟩
  ·replace c0:=nt c0
   refine ⟨?_,?_,?_,trivial⟩
   ·first | (rw [bR,eT g11 c0];done) | (rw [bR,dG (.inl g11)];rfl) | (rw [bR,dG (.inr c0)];rfl)
   ·first | (rw [bR,eT g11 c0];done) | (rw [bR,dG (.inl g11)];rfl) | (rw [bR,dG (.inr c0)];rfl)
   ·first | (rw [bR,eT g11 c0];done) | (rw [bR,dG (.inl g11)];rfl) | (rw [bR,dG (.inr c0)];rfl)
  ·replace c0:=nf c0
   have q1:=cF g11
   have q2:=cF c0
   have m1:=eM (x:=a.num) (y:=b.den) ⟨by omega,by omega⟩ ⟨by omega,by omega⟩
   have m2:=eM (x:=b.num) (y:=a.den) ⟨by omega,by omega⟩ ⟨by omega,by omega⟩
   have m3:=eM (x:=a.den) (y:=b.den) ⟨by omega,by omega⟩ ⟨by omega,by omega⟩
   have m4:=eM (x:=a.num) (y:=b.num) ⟨by omega,by omega⟩ ⟨by omega,by omega⟩
   have m5:=eM (x:=a.den) (y:=b.num) ⟨by omega,by omega⟩ ⟨by omega,by omega⟩
   refine ⟨⟨by omega,by omega⟩,⟨by omega,by omega⟩,zL _ _ (by first | omega | (dsimp only;omega)) (by first | omega | (dsimp only;omega)),?_,?_,?_,trivial⟩
   ·first | (rw [bR,eT g11 c0];done) | (rw [bR,dG (.inl g11)];rfl) | (rw [bR,dG (.inr c0)];rfl)
   ·first | (rw [bR,eT g11 c0];done) | (rw [bR,dG (.inl g11)];rfl) | (rw [bR,dG (.inr c0)];rfl)
   ·first | (rw [bR,eT g11 c0];done) | (rw [bR,dG (.inl g11)];rfl) | (rw [bR,dG (.inr c0)];rfl)
abbrev mE (a:aC) (b:aC):AV × List (Nat × Rs):=(.tup [.agg [vI (((aQ a b).1).num),vI (((aQ a b).1).den)],vB ((aQ a b).2)],[])
abbrev oL (a:aC) (b:aC):Prop:=gF Try.prog 47 [.agg [.int .i64 a.num,.int .i64 a.den],.agg [.int .i64 b.num,.int .i64 b.den]] (mE a b).1 (mE a b).2
theorem wT (a b:aC):oL a b:=by
 refine cT dR bK Try.func47 (by kernel_rfl) (.call (vB (aT a)) []<| .br (.fin []) (.call (vB (aT b)) []<| .lit<| .lit<| .br (.fin []) (.lit<| .lit<| .lit<| .br (.fin []) (dA (nU (a.num*b.den) (a.den*b.num))<| .fin [])))) (p:=eX a∧(((!(aT a))=true→(0:Int)=(((aQ a b).1).num)∧(0:Int)=(((aQ a b).1).den)∧(false)=((aQ a b).2)∧True)∧((!(aT a))=false→eX b∧(((!(aT b))=true→(0:Int)=(((aQ a b).1).num)∧(0:Int)=(((aQ a b).1).den)∧(false)=((aQ a b).2)∧True)∧((!(aT b))=false→((decide (b.num=(0:Int)))=true→(0:Int)=(((aQ a b).1).num)∧(0:Int)=(((aQ a b).1).den)∧(false)=((aQ a b).2)∧True)∧((decide (b.num=(0:Int)))=false→dN (a.num*b.den)∧dN (a.den*b.num)∧qE (a.num*b.den) (a.den*b.num)∧(((fV (bG (a.num*b.den) (a.den*b.num))).1).num)=(((aQ a b).1).num)∧(((fV (bG (a.num*b.den) (a.den*b.num))).1).den)=(((aQ a b).1).den)∧((fV (bG (a.num*b.den) (a.den*b.num))).2)=((aQ a b).2)∧True)))))) (by kernel_rfl) ?_
 refine ⟨iB a,fun g11=>?_,fun g11=>?_⟩
 ·replace g11:=nt g11
  refine ⟨?_,?_,?_,trivial⟩
  ·first | (rw [aQ,dZ g11 g16];done) | (rw [aQ,cS (.inl g11)];rfl) | (rw [aQ,cS (.inr g16)];rfl) | (simp [aQ,gX,fV, *];done)
  ·first | (rw [aQ,dZ g11 g16];done) | (rw [aQ,cS (.inl g11)];rfl) | (rw [aQ,cS (.inr g16)];rfl) | (simp [aQ,gX,fV, *];done)
  ·first | (rw [aQ,dZ g11 g16];done) | (rw [aQ,cS (.inl g11)];rfl) | (rw [aQ,cS (.inr g16)];rfl) | (simp [aQ,gX,fV, *];done)
 ·replace g11:=nf g11
  refine ⟨iB b,fun g16=>?_,fun g16=>?_⟩
  ·replace g16:=nt g16
   refine ⟨?_,?_,?_,trivial⟩
   ·first | (rw [aQ,dZ g11 g16];done) | (rw [aQ,cS (.inl g11)];rfl) | (rw [aQ,cS (.inr g16)];rfl) | (simp [aQ,gX,fV, *];done)
   ·first | (rw [aQ,dZ g11 g16];done) | (rw [aQ,cS (.inl g11)];rfl) | (rw [aQ,cS (.inr g16)];rfl) | (simp [aQ,gX,fV, *];done)
   ·first | (rw [aQ,dZ g11 g16];done) | (rw [aQ,cS (.inl g11)];rfl) | (rw [aQ,cS (.inr g16)];rfl) | (simp [aQ,gX,fV, *];done)
  ·replace g16:=nf g16
   refine ⟨fun c0=>?_,fun c0=>?_⟩
   ·replace c0:=yq c0
    refine ⟨?_,?_,?_,trivial⟩
    ·first | (rw [aQ,dZ g11 g16];done) | (rw [aQ,cS (.inl g11)];rfl) | (rw [aQ,cS (.inr g16)];rfl) | (simp [aQ,gX,fV, *];done)
    ·first | (rw [aQ,dZ g11 g16];done) | (rw [aQ,cS (.inl g11)];rfl) | (rw [aQ,cS (.inr g16)];rfl) | (simp [aQ,gX,fV, *];done)
    ·first | (rw [aQ,dZ g11 g16];done) | (rw [aQ,cS (.inl g11)];rfl) | (rw [aQ,cS (.inr g16)];rfl) | (simp [aQ,gX,fV, *];done)
   ·replace c0:=nq c0
    have q1:=cF g11
    have q2:=cF g16
    have m1:=eM (x:=a.num) (y:=b.den) ⟨by omega,by omega⟩ ⟨by omega,by omega⟩
    have m2:=eM (x:=b.num) (y:=a.den) ⟨by omega,by omega⟩ ⟨by omega,by omega⟩
    have m3:=eM (x:=a.den) (y:=b.den) ⟨by omega,by omega⟩ ⟨by omega,by omega⟩
    have m4:=eM (x:=a.num) (y:=b.num) ⟨by omega,by omega⟩ ⟨by omega,by omega⟩
    have m5:=eM (x:=a.den) (y:=b.num) ⟨by omega,by omega⟩ ⟨by omega,by omega⟩
    refine ⟨⟨by omega,by omega⟩,⟨by omega,by omega⟩,zL _ _ (by first | omega | (dsimp only;omega)) (by first | omega | (dsimp only;omega)),?_,?_,?_,trivial⟩
    ·first | (rw [aQ,dZ g11 g16];done) | (rw [aQ,cS (.inl g11)];rfl) | (rw [aQ,cS (.inr g16)];rfl) | (simp [aQ,gX,fV, *];done)
    ·first | (rw [aQ,dZ g11 g16];done) | (rw [aQ,cS (.inl g11)];rfl) | (rw [aQ,cS (.inr g16)];rfl) | (simp [aQ,gX,fV, *];done)
    ·first | (rw [aQ,dZ g11 g16];done) | (rw [aQ,cS (.inl g11)];rfl) | (rw [aQ,cS (.inr g16)];rfl) | (simp [aQ,gX,fV, *];done)
theorem oM {n d:Int}:cL (-n) d=cL n d:=by
 have e:Int.gcd (-n) d=Int.gcd n d:=by simp [Int.gcd]
 simp only [cL,e]
 congr 2
 simp only [inB]
 rw [Bool.eq_iff_iff];simp;omega
theorem aH0 {a b c d:Int}:aCc a b (-c) d=aCd a b c d:=by
 unfold aCc aCd
 rw [oM,Int.neg_mul,Int.sub_eq_add_neg]
abbrev vC (a:aC) (b:aC):AV × List (Nat × Rs):=(.tup [.agg [vI (((fZ a b).1).num),vI (((fZ a b).1).den)],vB ((fZ a b).2)],[])
abbrev aAb (a:aC) (b:aC):Prop:=gF Try.prog 75 [.agg [.int .i64 a.num,.int .i64 a.den],.agg [.int .i64 b.num,.int .i64 b.den]] (vC a b).1 (vC a b).2
theorem aH1 (a b:aC):aAb a b:=by
 refine cT dR bK Try.func75 (by kernel_rfl) (.call (vB (aT a)) []<| .br (.fin []) (.call (vB (aT b)) []<| .lit<| .lit<| .br (.fin []) (dA (nU ((a.num*b.den) - (b.num*a.den)) (a.den*b.den))<| .fin []))) (p:=eX a∧(((!(aT a))=true→(0:Int)=(((fZ a b).1).num)∧(0:Int)=(((fZ a b).1).den)∧(false)=((fZ a b).2)∧True)∧((!(aT a))=false→eX b∧(((!(aT b))=true→(0:Int)=(((fZ a b).1).num)∧(0:Int)=(((fZ a b).1).den)∧(false)=((fZ a b).2)∧True)∧((!(aT b))=false→dN (a.num*b.den)∧dN (b.num*a.den)∧dN ((a.num*b.den) - (b.num*a.den))∧dN (a.den*b.den)∧qE ((a.num*b.den) - (b.num*a.den)) (a.den*b.den)∧(((fV (bG ((a.num*b.den) - (b.num*a.den)) (a.den*b.den))).1).num)=(((fZ a b).1).num)∧(((fV (bG ((a.num*b.den) - (b.num*a.den)) (a.den*b.den))).1).den)=(((fZ a b).1).den)∧((fV (bG ((a.num*b.den) - (b.num*a.den)) (a.den*b.den))).2)=((fZ a b).2)∧True))))) (by kernel_rfl) ?_
 refine ⟨iB a,fun g11=>?_,fun g11=>?_⟩
 ·replace g11:=nt g11
  refine ⟨?_,?_,?_,trivial⟩
  ·first | (rw [fZ,kE g11 c0];done) | (rw [fZ,gS (.inl g11)];rfl) | (rw [fZ,gS (.inr c0)];rfl)
  ·first | (rw [fZ,kE g11 c0];done) | (rw [fZ,gS (.inl g11)];rfl) | (rw [fZ,gS (.inr c0)];rfl)
  ·first | (rw [fZ,kE g11 c0];done) | (rw [fZ,gS (.inl g11)];rfl) | (rw [fZ,gS (.inr c0)];rfl)
 ·replace g11:=nf g11
  refine ⟨iB b,fun c0=>?_,fun c0=>?_⟩
  ·replace c0:=nt c0
   refine ⟨?_,?_,?_,trivial⟩
   ·first | (rw [fZ,kE g11 c0];done) | (rw [fZ,gS (.inl g11)];rfl) | (rw [fZ,gS (.inr c0)];rfl)
   ·first | (rw [fZ,kE g11 c0];done) | (rw [fZ,gS (.inl g11)];rfl) | (rw [fZ,gS (.inr c0)];rfl)
   ·first | (rw [fZ,kE g11 c0];done) | (rw [fZ,gS (.inl g11)];rfl) | (rw [fZ,gS (.inr c0)];rfl)
  ·replace c0:=nf c0
   have q1:=cF g11
   have q2:=cF c0
   have m1:=eM (x:=a.num) (y:=b.den) ⟨by omega,by omega⟩ ⟨by omega,by omega⟩
   have m2:=eM (x:=b.num) (y:=a.den) ⟨by omega,by omega⟩ ⟨by omega,by omega⟩
   have m3:=eM (x:=a.den) (y:=b.den) ⟨by omega,by omega⟩ ⟨by omega,by omega⟩
   have m4:=eM (x:=a.num) (y:=b.num) ⟨by omega,by omega⟩ ⟨by omega,by omega⟩
   have m5:=eM (x:=a.den) (y:=b.num) ⟨by omega,by omega⟩ ⟨by omega,by omega⟩
   refine ⟨⟨by omega,by omega⟩,⟨by omega,by omega⟩,⟨by omega,by omega⟩,⟨by omega,by omega⟩,zL _ _ (by first | omega | (dsimp only;omega)) (by first | omega | (dsimp only;omega)),?_,?_,?_,trivial⟩
   ·first | (rw [fZ,kE g11 c0];done) | (rw [fZ,gS (.inl g11)];rfl) | (rw [fZ,gS (.inr c0)];rfl)
   ·first | (rw [fZ,kE g11 c0];done) | (rw [fZ,gS (.inl g11)];rfl) | (rw [fZ,gS (.inr c0)];rfl)
   ·first | (rw [fZ,kE g11 c0];done) | (rw [fZ,gS (.inl g11)];rfl) | (rw [fZ,gS (.inr c0)];rfl)
abbrev aAc (a:aC) (b:aC):Prop:=gF Try.prog 65 [.agg [.int .i64 a.num,.int .i64 a.den],.agg [.int .i64 b.num,.int .i64 b.den]] (vI (cG a b)) []
theorem aH2 (a b:aC):aAc a b:=by
 refine cT dR bK Try.func65 (by kernel_rfl) (.call (vB (aT a)) []<| .br (.fin []) (.call (vB (aT b)) []<| .lit<| .lit<| .br (.fin []) (.br (.fin []) (.br (.fin []) (.fin []))))) (p:=eW a∧(((!(aT a))=true→(0:Int)=(cG a b)∧True)∧((!(aT a))=false→eW b∧(((!(aT b))=true→(0:Int)=(cG a b)∧True)∧((!(aT b))=false→dN (a.num*b.den)∧(dN (b.num*a.den)∧(((decide ((a.num*b.den)<(b.num*a.den)))=true→(-1:Int)=(cG a b)∧True)∧((decide ((a.num*b.den)<(b.num*a.den)))=false→((decide ((b.num*a.den)<(a.num*b.den)))=true→(1:Int)=(cG a b)∧True)∧((decide ((b.num*a.den)<(a.num*b.den)))=false→(0:Int)=(cG a b)∧True))))))))) (by kernel_rfl) ?_
 refine ⟨iA a,fun g10=>?_,fun g10=>?_⟩
 ·replace g10:=nt g10
  refine ⟨?_,trivial⟩
  ·first | (rw [cG,gB (.inl g10)];done) | (rw [cG,gB (.inr c0)];done) | (rw [cG,kF g10 c0];first | (rw [if_pos c1];done) | (rw [if_neg c1,if_pos c2];done) | (rw [if_neg c1,if_neg c2];done))
 ·replace g10:=nf g10
  refine ⟨iA b,fun c0=>?_,fun c0=>?_⟩
  ·replace c0:=nt c0
   refine ⟨?_,trivial⟩
   ·first | (rw [cG,gB (.inl g10)];done) | (rw [cG,gB (.inr c0)];done) | (rw [cG,kF g10 c0];first | (rw [if_pos c1];done) | (rw [if_neg c1,if_pos c2];done) | (rw [if_neg c1,if_neg c2];done))
  ·replace c0:=nf c0
   have q1:=cF g10
   have q2:=cF c0
   have m1:=eM (x:=a.num) (y:=b.den) ⟨by omega,by omega⟩ ⟨by omega,by omega⟩
   have m2:=eM (x:=b.num) (y:=a.den) ⟨by omega,by omega⟩ ⟨by omega,by omega⟩
   have m3:=eM (x:=a.den) (y:=b.den) ⟨by omega,by omega⟩ ⟨by omega,by omega⟩
   have m4:=eM (x:=a.num) (y:=b.num) ⟨by omega,by omega⟩ ⟨by omega,by omega⟩
   have m5:=eM (x:=a.den) (y:=b.num) ⟨by omega,by omega⟩ ⟨by omega,by omega⟩
   refine ⟨⟨by omega,by omega⟩,⟨by omega,by omega⟩,fun c1=>?_,fun c1=>?_⟩
   ·replace c1:=yq c1
    refine ⟨?_,trivial⟩
    ·first | (rw [cG,gB (.inl g10)];done) | (rw [cG,gB (.inr c0)];done) | (rw [cG,kF g10 c0];first | (rw [if_pos c1];done) | (rw [if_neg c1,if_pos c2];done) | (rw [if_neg c1,if_neg c2];done))
   ·replace c1:=nq c1
    refine ⟨fun c2=>?_,fun c2=>?_⟩
    ·replace c2:=yq c2
     refine ⟨?_,trivial⟩
     ·first | (rw [cG,gB (.inl g10)];done) | (rw [cG,gB (.inr c0)];done) | (rw [cG,kF g10 c0];first | (rw [if_pos c1];done) | (rw [if_neg c1,if_pos c2];done) | (rw [if_neg c1,if_neg c2];done))
    ·replace c2:=nq c2
     refine ⟨?_,trivial⟩
     ·first | (rw [cG,gB (.inl g10)];done) | (rw [cG,gB (.inr c0)];done) | (rw [cG,kF g10 c0];first | (rw [if_pos c1];done) | (rw [if_neg c1,if_pos c2];done) | (rw [if_neg c1,if_neg c2];done))
abbrev aAd (a:aC) (b:aC):Prop:=gF Try.prog 61 [.agg [.int .i64 a.num,.int .i64 a.den],.agg [.int .i64 b.num,.int .i64 b.den]] (vI (cG a b)) []
theorem aH3 (a b:aC):aAd a b:=by
 refine cT dR bK Try.func61 (by kernel_rfl) (.call (vB (aT a)) []<| .br (.fin []) (.call (vB (aT b)) []<| .lit<| .lit<| .br (.fin []) (.br (.fin []) (.br (.fin []) (.fin []))))) (p:=eX a∧(((!(aT a))=true→(0:Int)=(cG a b)∧True)∧((!(aT a))=false→eX b∧(((!(aT b))=true→(0:Int)=(cG a b)∧True)∧((!(aT b))=false→dN (a.num*b.den)∧(dN (b.num*a.den)∧(((decide ((a.num*b.den)<(b.num*a.den)))=true→(-1:Int)=(cG a b)∧True)∧((decide ((a.num*b.den)<(b.num*a.den)))=false→((decide ((b.num*a.den)<(a.num*b.den)))=true→(1:Int)=(cG a b)∧True)∧((decide ((b.num*a.den)<(a.num*b.den)))=false→(0:Int)=(cG a b)∧True))))))))) (by kernel_rfl) ?_
 refine ⟨iB a,fun g10=>?_,fun g10=>?_⟩
 ·replace g10:=nt g10
  refine ⟨?_,trivial⟩
  ·first | (rw [cG,gB (.inl g10)];done) | (rw [cG,gB (.inr c0)];done) | (rw [cG,kF g10 c0];first | (rw [if_pos c1];done) | (rw [if_neg c1,if_pos c2];done) | (rw [if_neg c1,if_neg c2];done))
 ·replace g10:=nf g10
  refine ⟨iB b,fun c0=>?_,fun c0=>?_⟩
  ·replace c0:=nt c0
   refine ⟨?_,trivial⟩
   ·first | (rw [cG,gB (.inl g10)];done) | (rw [cG,gB (.inr c0)];done) | (rw [cG,kF g10 c0];first | (rw [if_pos c1];done) | (rw [if_neg c1,if_pos c2];done) | (rw [if_neg c1,if_neg c2];done))
  ·replace c0:=nf c0
   have q1:=cF g10
   have q2:=cF c0
   have m1:=eM (x:=a.num) (y:=b.den) ⟨by omega,by omega⟩ ⟨by omega,by omega⟩
   have m2:=eM (x:=b.num) (y:=a.den) ⟨by omega,by omega⟩ ⟨by omega,by omega⟩
   have m3:=eM (x:=a.den) (y:=b.den) ⟨by omega,by omega⟩ ⟨by omega,by omega⟩
   have m4:=eM (x:=a.num) (y:=b.num) ⟨by omega,by omega⟩ ⟨by omega,by omega⟩
   have m5:=eM (x:=a.den) (y:=b.num) ⟨by omega,by omega⟩ ⟨by omega,by omega⟩
   refine ⟨⟨by omega,by omega⟩,⟨by omega,by omega⟩,fun c1=>?_,fun c1=>?_⟩
   ·replace c1:=yq c1
    refine ⟨?_,trivial⟩
    ·first | (rw [cG,gB (.inl g10)];done) | (rw [cG,gB (.inr c0)];done) | (rw [cG,kF g10 c0];first | (rw [if_pos c1];done) | (rw [if_neg c1,if_pos c2];done) | (rw [if_neg c1,if_neg c2];done))
   ·replace c1:=nq c1
    refine ⟨fun c2=>?_,fun c2=>?_⟩
    ·replace c2:=yq c2
     refine ⟨?_,trivial⟩
     ·first | (rw [cG,gB (.inl g10)];done) | (rw [cG,gB (.inr c0)];done) | (rw [cG,kF g10 c0];first | (rw [if_pos c1];done) | (rw [if_neg c1,if_pos c2];done) | (rw [if_neg c1,if_neg c2];done))
    ·replace c2:=nq c2
     refine ⟨?_,trivial⟩
     ·first | (rw [cG,gB (.inl g10)];done) | (rw [cG,gB (.inr c0)];done) | (rw [cG,kF g10 c0];first | (rw [if_pos c1];done) | (rw [if_neg c1,if_pos c2];done) | (rw [if_neg c1,if_neg c2];done))
end Go.Proofs.Ytpoobcnmhnbdlaa
