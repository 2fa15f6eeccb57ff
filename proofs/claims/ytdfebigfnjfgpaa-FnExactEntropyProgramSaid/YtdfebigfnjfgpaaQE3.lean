/-
  Contracts and plain laws, joined: part 4.
-/
import Derived.Test.YtdfebigfnjfgpaaQE2
namespace Go.Proofs.Ytdfebigfnjfgpaa
open Go.ChangeShapes Go.WideShapes Go.ChangeAt Go.RowKit
set_option linter.unusedVariables false
set_option linter.unusedSimpArgs false
set_option maxRecDepth 100000
set_option maxHeartbeats 4000000
def tb:Tb:=⟨[(2,(false,1,8,.int .i64 0)),(3,(false,1,8,.int .i64 0)),(4,(false,1,1,.bool false)),(5,(false,1,1,.int .u8 0)),(6,(false,1,1,.int .u8 0)),(7,(true,4,24,.agg #[.int .i64 0,.int .i64 0,.bool false,.int .u8 0])),(8,(true,4,24,.agg #[.int .i64 0,.int .i64 0,.bool false,.int .u8 0])),(9,(false,1,16,.string ByteArray.empty)),(10,(false,1,16,.string ByteArray.empty)),(11,(false,1,16,.string ByteArray.empty)),(12,(false,1,8,.int .u64 0)),(13,(true,2,24,.agg #[.string ByteArray.empty,.int .u64 0])),(14,(true,2,24,.agg #[.string ByteArray.empty,.int .u64 0])),(21,(false,1,4,.int .i32 0)),(22,(false,1,24,.slice none 0 0)),(24,(false,1,24,.slice none 0 0)),(25,(false,1,24,.slice none 0 0)),(26,(true,3,72,.agg #[.slice none 0 0,.slice none 0 0,.slice none 0 0])),(27,(true,3,72,.agg #[.slice none 0 0,.slice none 0 0,.slice none 0 0])),(30,(false,1,24,.slice none 0 0)),(40,(true,3,24,.agg #[.int .i64 0,.int .i64 0,.int .i64 0])),(41,(true,3,24,.agg #[.int .i64 0,.int .i64 0,.int .i64 0])),(44,(true,3,24,.agg #[.int .i64 0,.int .i64 0,.int .i64 0])),(55,(true,0,0,.agg #[])),(56,(true,0,0,.agg #[])),(58,(false,1,4,.int .u32 0)),(59,(false,1,1,.int .u8 0)),(60,(false,1,1,.int .u8 0)),(63,(false,1,4,.int .i32 0)),(64,(false,1,4,.int .i32 0))],
 [(22,44),(24,3),(25,24),(30,41)],
 [(7,[(0,(0,2)),(1,(1,3)),(2,(2,4)),(3,(3,6))]),(8,[(0,(0,2)),(1,(1,3)),(2,(2,4)),(3,(3,6))]),(13,[(0,(0,9)),(1,(1,12))]),(14,[(0,(0,9)),(1,(1,12))]),(26,[(0,(0,24)),(1,(1,25)),(2,(2,24))]),(27,[(0,(0,24)),(1,(1,25)),(2,(2,24))]),(40,[(0,(0,3)),(1,(1,3)),(2,(2,3))]),(41,[(0,(0,3)),(1,(1,3)),(2,(2,3))]),(44,[(0,(0,3)),(1,(1,3)),(2,(2,3))]),(55,[]),(56,[])],
 [(7,(.agg #[.int .i64 0,.int .i64 0,.bool false,.int .u8 0],[(0,1),(1,1),(2,1),(3,1)])),(8,(.agg #[.int .i64 0,.int .i64 0,.bool false,.int .u8 0],[(0,1),(1,1),(2,1),(3,1)])),(13,(.agg #[.string ByteArray.empty,.int .u64 0],[(0,1),(1,1)])),(14,(.agg #[.string ByteArray.empty,.int .u64 0],[(0,1),(1,1)])),(26,(.agg #[.slice none 0 0,.slice none 0 0,.slice none 0 0],[(0,1),(1,1),(2,1)])),(27,(.agg #[.slice none 0 0,.slice none 0 0,.slice none 0 0],[(0,1),(1,1),(2,1)])),(40,(.agg #[.int .i64 0,.int .i64 0,.int .i64 0],[(0,1),(1,1),(2,1)])),(41,(.agg #[.int .i64 0,.int .i64 0,.int .i64 0],[(0,1),(1,1),(2,1)])),(44,(.agg #[.int .i64 0,.int .i64 0,.int .i64 0],[(0,1),(1,1),(2,1)])),(55,(.agg #[],[(0,0)])),(56,(.agg #[],[(0,0)]))],
 [(4,())],
 [(9,()),(10,()),(11,())],
 [(2,.i64),(3,.i64),(5,.u8),(6,.u8),(12,.u64),(21,.i32),(58,.u32),(59,.u8),(60,.u8),(63,.i32),(64,.i32)],
 [(41,[0,0,0])]⟩
theorem fc {α:Type} {p:Nat→α→Prop} {k:Nat} {v:α} {l:List (Nat × α)} (h:p k v) (t:fM p l):fM p ((k,v)::l):=⟨h,t⟩
theorem cO:Try.prog.follows .mixedOrders=true:=by kernel_rfl
set_option maxRecDepth 100000 in
theorem gL:eD Try.prog tb:=
 ⟨(fc (by kernel_rfl)<| fc (by kernel_rfl)<| fc (by kernel_rfl)<| fc (by kernel_rfl)<| fc (by kernel_rfl)<| fc (by kernel_rfl)<| fc (by kernel_rfl)<| fc (by kernel_rfl)<| fc (by kernel_rfl)<| fc (by kernel_rfl)<| fc (by kernel_rfl)<| fc (by kernel_rfl)<| fc (by kernel_rfl)<| fc (by kernel_rfl)<| fc (by kernel_rfl)<| fc (by kernel_rfl)<| fc (by kernel_rfl)<| fc (by kernel_rfl)<| fc (by kernel_rfl)<| fc (by kernel_rfl)<| fc (by kernel_rfl)<| fc (by kernel_rfl)<| fc (by kernel_rfl)<| fc (by kernel_rfl)<| fc (by kernel_rfl)<| fc (by kernel_rfl)<| fc (by kernel_rfl)<| fc (by kernel_rfl)<| fc (by kernel_rfl)<| fc (by kernel_rfl)<| trivial),
  (fc (by kernel_rfl)<| fc (by kernel_rfl)<| fc (by kernel_rfl)<| fc (by kernel_rfl)<| trivial),
  (fc (fc (by kernel_rfl)<| fc (by kernel_rfl)<| fc (by kernel_rfl)<| fc (by kernel_rfl)<| trivial)<| fc (fc (by kernel_rfl)<| fc (by kernel_rfl)<| fc (by kernel_rfl)<| fc (by kernel_rfl)<| trivial)<| fc (fc (by kernel_rfl)<| fc (by kernel_rfl)<| trivial)<| fc (fc (by kernel_rfl)<| fc (by kernel_rfl)<| trivial)<| fc (fc (by kernel_rfl)<| fc (by kernel_rfl)<| fc (by kernel_rfl)<| trivial)<| fc (fc (by kernel_rfl)<| fc (by kernel_rfl)<| fc (by kernel_rfl)<| trivial)<| fc (fc (by kernel_rfl)<| fc (by kernel_rfl)<| fc (by kernel_rfl)<| trivial)<| fc (fc (by kernel_rfl)<| fc (by kernel_rfl)<| fc (by kernel_rfl)<| trivial)<| fc (fc (by kernel_rfl)<| fc (by kernel_rfl)<| fc (by kernel_rfl)<| trivial)<| fc (trivial)<| fc (trivial)<| trivial),
  (fc (by kernel_rfl)<| fc (by kernel_rfl)<| fc (by kernel_rfl)<| fc (by kernel_rfl)<| fc (by kernel_rfl)<| fc (by kernel_rfl)<| fc (by kernel_rfl)<| fc (by kernel_rfl)<| fc (by kernel_rfl)<| fc (by kernel_rfl)<| fc (by kernel_rfl)<| trivial),
  (fc (by kernel_rfl)<| trivial),
  (fc (by kernel_rfl)<| fc (by kernel_rfl)<| fc (by kernel_rfl)<| trivial),
  (fc (by kernel_rfl)<| fc (by kernel_rfl)<| fc (by kernel_rfl)<| fc (by kernel_rfl)<| fc (by kernel_rfl)<| fc (by kernel_rfl)<| fc (by kernel_rfl)<| fc (by kernel_rfl)<| fc (by kernel_rfl)<| fc (by kernel_rfl)<| fc (by kernel_rfl)<| trivial),
  (fc (by kernel_rfl)<| trivial)⟩
end Go.Proofs.Ytdfebigfnjfgpaa
namespace Go.Proofs.Ytdfebigfnjfgpaa
open Go.ChangeShapes Go.WideShapes Go.ChangeAt Go.RowKit
set_option linter.unusedVariables false
set_option linter.unusedSimpArgs false
set_option maxRecDepth 100000
set_option maxHeartbeats 4000000
abbrev kF (p:AV × List (Nat × Rs)) (t:T):T:= .call p.1 p.2 t
abbrev lL (p:List AV × List (Nat × Rs) × AV × List (Nat × Rs)) (r:List (Nat × Nat)) (t:T):T:= .callx p.1 p.2.1 r p.2.2.1 p.2.2.2 t
theorem yq {p:Prop} [Decidable p] (h:decide p=true):p:=of_decide_eq_true h
theorem nq {p:Prop} [Decidable p] (h:decide p=false): ¬p:=of_decide_eq_false h
abbrev Em {α:Type} (enc:α→List aM) (l:List α) (i:Nat) (P:α→Prop):Prop:=l.map enc=l.map enc∧i<l.length∧ ∀x,l[i]? =some x→P x
abbrev Lm {α:Type} (enc:α→List aM) (l:List α):Prop:=(l.map enc).length=l.length
theorem rdOne {A:Nat→Prop} {w:World} {d:aM} {v:Value} (h:fE A w [d] [v]):dD A w d v:=by
 obtain ⟨u,us,e,h1,_⟩:=h
 injection e with e1
 subst e1;exact h1
theorem rdI {w:World} {c:Value} {n:Int} (h:aBz w [c] n):dD (Lv w) w (.int .i64 n) c:=by
 have e:=h.1
 simp at e
 subst e;exact rdV_int
theorem aEK {n:Nat} {m:Int} (h: ¬iX n m<0):(n:Int)≤m:=by
 unfold iX at h
 split at h
 ·assumption
 ·omega
theorem aA7 {α:Type} {l:List α} {k:Nat} {x z:α} (h:l[k]? =some x):(l.take k++List.replicate (l.length - k) z).set k x=l.take (k+1)++List.replicate (l.length - (k+1)) z:=by
 have hk:k<l.length:=(List.getElem?_eq_some_iff.1 h).1
 rw [show l.length - k=(l.length - (k+1))+1 by omega,List.replicate_succ,List.set_append_right _ _ (by simp;omega),cV h]
 simp [show k - min k l.length=0 by omega]
theorem aBq {α:Type} {l:List α} {k:Nat} {z:α} (h:k≤l.length):(l.take k++List.replicate (l.length - k) z).length=l.length:=by simp;omega
theorem aA8 {α:Type} {l:List α} {k:Nat} {z:α} (h:k≤l.length) (h' : ¬k<l.length):l.take k++List.replicate (l.length - k) z=l:=by
 rw [show k=l.length by omega];simp
theorem aBr {α:Type} {l:List α} {i:Nat} {x y:α} (h:(l.set i y)[i]? =some x):x=y:=by
 rw [List.getElem?_set_self'] at h
 cases hl:l[i]? with
 | none=>simp [hl] at h
 | some z=>simp [hl] at h;exact h.symm
theorem iT {α:Type} {l:List α} {k:Nat} (h:k<l.length): ∃x,l[k]? =some x:=⟨_,List.getElem?_eq_getElem h⟩
def aE (l:List Int):List aM:=[.sl 3 1 (l.map aD)]
def dC (l:List Int):Nat:=l.length
def fQ (l:List (List Int)):Nat:=xJ dC l
theorem yJ (l:List (List Int)):l.length≤fQ l:=aAi _ l
theorem aA9 {l:List (List Int)} {k:Nat} {y:List Int} (h:l[k]? =some y):dC y≤fQ l:=aAj _ h
structure SizeConstraintD where
 src:Int
 dst:Int
 bits:Int
 deriving DecidableEq
def aA (x:SizeConstraintD):List aM:=[.int .i64 x.src,.int .i64 x.dst,.int .i64 x.bits]
def kG (x:SizeConstraintD):Prop:=Fits x.src∧Fits x.dst∧Fits x.bits
def eO (x:SizeConstraintD):Nat:=0
def bF:SizeConstraintD:=⟨(0:Int),(0:Int),(0:Int)⟩
def pA (l:List SizeConstraintD):List aM:=[.sl 41 3 (l.map aA)]
def cY (l:List SizeConstraintD):Prop:= ∀x∈l,kG x
def aY (l:List SizeConstraintD):Nat:=l.length
theorem gM (l:List SizeConstraintD):l.length≤aY l:=Nat.le_refl _
structure aQ where
 objective:List Int
 rows:List (List Int)
 limits:List Int
 deriving DecidableEq
def eZ (x:aQ):Nat:=dC x.objective+fQ x.rows+dC x.limits
def iH:aQ:=⟨[],[],[]⟩
theorem lM {k:Int} (hk:1≤k): ∀i:Nat,1≤k^i
 | 0=>by simp
 | i+1=>by
   rw [Int.pow_succ]
   have h1:=lM hk i
   have h2:1*1≤k^i*k:=Int.mul_le_mul h1 hk (by omega) (by omega)
   omega
theorem tZ {k:Int} (hk:1≤k) {i j:Nat} (h:i≤j):k^i≤k^j:=by
 obtain ⟨t,rfl⟩:=Nat.exists_eq_add_of_le h
 rw [Int.pow_add]
 have h1:=lM hk i
 have h2:=lM hk t
 have h3:k^i*1≤k^i*k^t:=Int.mul_le_mul_of_nonneg_left h2 (by omega)
 omega
theorem aEL {n:Nat} (h:n≤12):(2:Int)^n≤4096:=by
 have:=tZ (k:=2) (by omega) h
 exact Int.le_trans this (by decide)
theorem aJ {i:Nat} (h:i≤12):dV ((1:Int)*2^i):=by
 have h1:=aEL h
 have h2:=lM (k:=2) (by omega) i
 exact ⟨by omega,by omega⟩
abbrev fR (n:Int) (a:Int) (c:Int):Prop:=jP Try.prog 18 [.one (.int .i64 n),.one (.int .i64 a),.one (.int .i64 c)] (vB (decide (a≤n∧n≤c))) []
theorem lW (n a c:Int):fR n a c:=by
 refine eM gL cO Try.func18 (by kernel_rfl) (.br (.fin []) (.fin [])) (p:=((decide (a≤n))=true→((decide (n≤c))=(decide (a≤n∧n≤c)))∧True)∧((decide (a≤n))=false→((false)=(decide (a≤n∧n≤c)))∧True)) (by kernel_rfl) ?_
 refine ⟨fun g10=>?_,fun g10=>?_⟩
 ·replace g10:=yq g10
  refine ⟨?_,trivial⟩
  ·first | (simp [*];done) | (simp;omega)
 ·replace g10:=nq g10
  refine ⟨?_,trivial⟩
  ·first | (simp [*];done) | (simp;omega)
abbrev eE (n:Int) (a:Int) (c:Int):Prop:=jP Try.prog 13 [.one (.int .i64 n),.one (.int .i64 a),.one (.int .i64 c)] (vB (decide (a≤n∧n≤c))) []
theorem iU (n a c:Int):eE n a c:=by
 refine eM gL cO Try.func13 (by kernel_rfl) (.br (.fin []) (.fin [])) (p:=((decide (a≤n))=true→((decide (n≤c))=(decide (a≤n∧n≤c)))∧True)∧((decide (a≤n))=false→((false)=(decide (a≤n∧n≤c)))∧True)) (by kernel_rfl) ?_
 refine ⟨fun g10=>?_,fun g10=>?_⟩
 ·replace g10:=yq g10
  refine ⟨?_,trivial⟩
  ·first | (simp [*];done) | (simp;omega)
 ·replace g10:=nq g10
  refine ⟨?_,trivial⟩
  ·first | (simp [*];done) | (simp;omega)
def mR (r:List Int) (s:Int):List Int:=if 0<s then r.set (s - 1).toNat (IntKind.i64.wrap (r.getD (s - 1).toNat 0+1)) else r
def sR (r:List Int) (s:Int):List Int:=if 0<s then r.set (s - 1).toNat (IntKind.i64.wrap (r.getD (s - 1).toNat 0 - 1)) else r
def cP (al:Int) (p m:List Int):List Int:=m.foldl sR (p.foldl mR (List.replicate al.toNat 0))
def fD (v:Int) (r:List Int) (s:Int):List Int:=if 0<s then r.set (s - 1).toNat v else r
def bQ (al:Int) (p m:List Int):List Int:=m.foldl (fD (-1)) (p.foldl (fD 1) (List.replicate al.toNat 0))
abbrev bE (n:Int):Int:=(1:Int)*2^n.toNat - (1:Int)
abbrev orB (s:Nat) (i:Nat):Int:=bI .or .i64 (s:Int) ((1:Int)*2^i)
abbrev or2 (s i j:Nat):Int:=bI .or .i64 (orB s i) ((1:Int)*2^j)
def kH (row:List Int→List Int→List Int) (hd:Nat→Int) (al:Int):Nat→List (List Int)
 | 0=>[]
 | k+1=>kH row hd al k++[row [hd k] [al]]
def pL (s i:Nat):Bool:=decide (bI .and .i64 ((s:Int)/2^i) (1:Int)=(0:Int))
def oG (row:List Int→List Int→List Int) (i j:Nat):Nat→List (List Int)
 | 0=>[]
 | s+1=>oG row i j s++(if pL s i=true∧pL s j=true then [row [(s:Int),or2 s i j] [orB s i,orB s j]] else [])
def pM (row:List Int→List Int→List Int) (T i:Nat):Nat→List (List Int)
 | 0=>[]
 | m+1=>pM row T i m++oG row i (i+1+m) T
def lX (row:List Int→List Int→List Int) (T n:Nat):Nat→List (List Int)
 | 0=>[]
 | i+1=>lX row T n i++pM row T i (n - (i+1))
def aBs (row:List Int→List Int→List Int) (hd:Nat→Int) (al:Int) (n:Nat):List (List Int):=kH row hd al n++lX row (2^n) n n
def sE (n:Int) (i:Nat):Int:=bI .andNot .i64 (bE n) ((1:Int)*2^i)
def uX (n:Int) (i:Nat):Int:=bE n - (1:Int)*2^i
def kI (n:Int):List (List Int):=if 1≤n∧n≤4 then aBs (cP (bE n)) (sE n) (bE n) n.toNat else []
def bD (n:Int):List (List Int):=if 1≤n∧n≤4 then aBs (bQ (bE n)) (uX n) (bE n) n.toNat else []
theorem uY (n:Int):kI n=bD n:=by
 by_cases h:1≤n∧n≤4
 ·have:n=1∨n=2∨n=3∨n=4:=by omega
  rcases this with rfl | rfl | rfl | rfl<;>decide+kernel
 ·rw [kI,bD,if_neg h,if_neg h]
theorem zT {α:Type} {l:List α} {k:Nat} {x y:α} (h:l[k]? =some x):l.getD k y=x:=by simp [List.getD_eq_getElem?_getD,h]
theorem bW {α β:Type} {f:β→α→β} {l:List α} {k:Nat} {x:α} {z:β} (h:l[k]? =some x):(l.take (k+1)).foldl f z=f ((l.take k).foldl f z) x:=by rw [cV h,List.foldl_append];rfl
theorem wY {r:List Int} {s y:Int} (h:0<s) (hy:r[(s - 1).toNat]? =some y):mR r s=r.set (s - 1).toNat (IntKind.i64.wrap (y+1)):=by rw [mR,if_pos h,zT hy]
theorem wZ {r:List Int} {s y:Int} (h:0<s) (hy:r[(s - 1).toNat]? =some y):sR r s=r.set (s - 1).toNat (IntKind.i64.wrap (y - 1)):=by rw [sR,if_pos h,zT hy]
theorem zU {r:List Int} {s:Int} (h: ¬0<s):mR r s=r:=by rw [mR,if_neg h]
theorem zV {r:List Int} {s:Int} (h: ¬0<s):sR r s=r:=by rw [sR,if_neg h]
theorem gN {r:List Int} {s v:Int} (h:0<s):fD v r s=r.set (s - 1).toNat v:=by rw [fD,if_pos h]
theorem oB {r:List Int} {s v:Int} (h: ¬0<s):fD v r s=r:=by rw [fD,if_neg h]
theorem xA {b:Int}: ∀s∈([]:List Int),s≤b:=by simp
theorem pW {a b:Int} (h:a≤b): ∀s∈[a],s≤b:=by simpa using h
theorem pX {a c b:Int} (h:a≤b) (h' :c≤b): ∀s∈[a,c],s≤b:=by simpa using ⟨h,h'⟩
theorem aEN: ∀(n:_root_.Fin 5) (i j:_root_.Fin 4) (s:_root_.Fin 16),i.1<n.1→j.1<n.1→s.1<2^n.1→orB s.1 i.1≤(1:Int)*2^n.1 - 1∧or2 s.1 i.1 j.1≤(1:Int)*2^n.1 - 1:=by decide+kernel
theorem uZ {n i j s:Nat} (hn:n≤4) (hi:i<n) (hj:j<n) (hs:s<2^n):orB s i≤(1:Int)*2^n - 1∧or2 s i j≤(1:Int)*2^n - 1:=by
 have h16:2^n≤2^4:=Nat.pow_le_pow_right (by omega) hn
 exact aEN ⟨n,by omega⟩ ⟨i,by omega⟩ ⟨j,by omega⟩ ⟨s,by omega⟩ hi hj hs
theorem aCp: ∀(n:_root_.Fin 5) (i:_root_.Fin 4),i.1<n.1→sE (n.1:Int) i.1≤(1:Int)*2^n.1 - 1:=by decide+kernel
theorem aDq {n:Int} {i:Nat} (h:1≤n∧n≤4) (hi:(i:Int)<n):sE n i≤bE n:=by
 have:=aCp ⟨n.toNat,by omega⟩ ⟨i,by omega⟩ (by show i<n.toNat;omega)
 rw [show (((⟨n.toNat,by omega⟩:_root_.Fin 5).1:Nat):Int)=n from by show ((n.toNat:Nat):Int)=n;omega] at this
 exact this
theorem lY {n:Int} (h:1≤n∧n≤4):((2^n.toNat:Nat):Int)=(1:Int)*2^n.toNat∧2≤2^n.toNat∧2^n.toNat≤16:=by
 refine ⟨by simp,?_,?_⟩
 ·have:2^1≤2^n.toNat:=Nat.pow_le_pow_right (by decide) (by omega)
  exact this
 ·have:2^n.toNat≤2^4:=Nat.pow_le_pow_right (by decide) (by omega)
  exact this
theorem zW {n:Int} {i:Nat} (h:n≤4) (hi:(i:Int)<n):(1:Int)≤2^i∧(2:Int)^i≤2^n.toNat:=⟨lM (by omega) i,tZ (by omega) (by omega)⟩
abbrev fS (al:Int) (p:List Int) (m:List Int) (out:List (List Int)):List AV × List (Nat × Rs) × AV × List (Nat × Rs):=([.p none (.sl 3 1 (p.map aD)),.p none (.sl 3 1 (m.map aD)),.rp none [.int .i64 al],.ptr 0 0],[(0,.box 25 [.own 1]),(1,.arr 24 1 true (out.map aE))],.tup [],[(0,.box 25 [.own 2]),(2,.arr 24 1 true ((out++[cP al p m]).map aE))])
abbrev mS (al:Int) (p:List Int) (m:List Int) (out:List (List Int)):Prop:=uP Try.prog 28 (fS al p m out).1 (fS al p m out).2.1 (fS al p m out).2.2.1 (fS al p m out).2.2.2
theorem xB (al:Int) (p m:List Int) (out:List (List Int)) (hal:0≤al∧al≤15) (hp: ∀s∈p,s≤al) (hm: ∀s∈m,s≤al) (ho:out.length≤1000) (hpl:p.length≤100) (hml:m.length≤100):mS al p m out:=by
 refine rS gL cO Try.func28 (by kernel_rfl) (by kernel_rfl) (.mk ((al).toNat) [.int .i64 (0:Int)] ((List.replicate ((al).toNat) (0:Int)).map aD)<| .len p.length<| .loop (Nat × (List Int)) (Q2 Nat (List Int)) [6,8,15,16,17,18,19,20,21,22,23,24,25,26,27,28] [1200] (fun yy0=>[(15,vI (yy0.1:Int)),(6,.own 1200)]) (fun yy0=>[(1200,some (.arr 3 1 true (yy0.2.map aD)))]) (fun yy0=>yy0.1≤p.length∧yy0.2=(p.take yy0.1).foldl mR (List.replicate al.toNat 0)∧yy0.2.length=al.toNat) (fun yy0=>p.length - yy0.1) (fun yy0=> .br (.elem _ aD p (fun e17=> .br (.len yy0.2.length<| .elem _ aD yy0.2 (fun e25=> .raw<| .len yy0.2.length<| .set Int aD yy0.2 (fun s5_7=>IntKind.i64.wrap (e25+(1:Int))) (fun s5_7=> .back [(1200,1200)]))) (.back [(1200,1200)]))) (.len m.length<| .loop (Nat × (List Int)) (Q2 Nat (List Int)) [6,10,31,32,33,34,35,36,37,38,39,40,41,42,43,44] [1200] (fun yy1=>[(31,vI (yy1.1:Int)),(6,.own 1200)]) (fun yy1=>[(1200,some (.arr 3 1 true (yy1.2.map aD)))]) (fun yy1=>yy1.1≤m.length∧yy1.2=(m.take yy1.1).foldl sR (p.foldl mR (List.replicate al.toNat 0))∧yy1.2.length=al.toNat) (fun yy1=>m.length - yy1.1) (fun yy1=> .br (.elem _ aD m (fun e33=> .br (.len yy1.2.length<| .elem _ aD yy1.2 (fun e41=> .raw<| .len yy1.2.length<| .set Int aD yy1.2 (fun s11_7=>IntKind.i64.wrap (e41 - (1:Int))) (fun s11_7=> .back [(1200,1200)]))) (.back [(1200,1200)]))) (.appx (List Int) aE out yy1.2<| .fin [(0,0),(2,4800)]))))) (p:=al=(((al).toNat:Nat):Int)∧al=(((al).toNat:Nat):Int)∧8*((al).toNat)≤281474976710656∧((al).toNat)≤9223372036854775807∧List.replicate ((al).toNat) [.int .i64 (0:Int)]=(List.replicate ((al).toNat) (0:Int)).map aD∧(Lm aD p∧((∃(k:Nat) (r:List Int),(0:Int)=(k:Int)∧(List.replicate ((al).toNat) (0:Int)).map aD=r.map aD∧k≤p.length∧r=(p.take k).foldl mR (List.replicate al.toNat 0)∧r.length=al.toNat)∧ ∀(k:Nat) (r:List Int),(k≤p.length∧r=(p.take k).foldl mR (List.replicate al.toNat 0)∧r.length=al.toNat)→((decide ((k:Int)<((p.length:Nat):Int)))=true→0≤(k:Int)∧Em aD p k fun e17=>((decide ((0:Int)<e17))=true→dV (e17 - (1:Int))∧(0≤(e17 - (1:Int))∧Lm aD r∧(e17 - (1:Int))<((r.length:Nat):Int)∧Em aD r ((e17 - (1:Int)).toNat) fun e25=>0≤(e17 - (1:Int))∧Lm aD r∧(e17 - (1:Int))<((r.length:Nat):Int)∧(r.map aD=r.map aD∧(e17 - (1:Int)).toNat<r.length∧ ∀s5_7,r[(e17 - (1:Int)).toNat]? =some s5_7→dZ (aD s5_7)=true∧0+1≤(aD s5_7).length∧(aD s5_7).take 0++[.int .i64 (IntKind.i64.wrap (e25+(1:Int)))]++(aD s5_7).drop (0+1)=aD (IntKind.i64.wrap (e25+(1:Int)))∧dV ((k:Int)+(1:Int))∧ ∃(k' :Nat) (r' :List Int),((k:Int)+(1:Int))=(k' :Int)∧(r.set ((e17 - (1:Int)).toNat) (IntKind.i64.wrap (e25+(1:Int)))).map aD=r'.map aD∧(k' ≤p.length∧r' =(p.take k').foldl mR (List.replicate al.toNat 0)∧r'.length=al.toNat)∧p.length - k' <p.length - k)))∧((decide ((0:Int)<e17))=false→dV ((k:Int)+(1:Int))∧ ∃(k' :Nat) (r' :List Int),((k:Int)+(1:Int))=(k' :Int)∧r.map aD=r'.map aD∧(k' ≤p.length∧r' =(p.take k').foldl mR (List.replicate al.toNat 0)∧r'.length=al.toNat)∧p.length - k' <p.length - k))∧((decide ((k:Int)<((p.length:Nat):Int)))=false→Lm aD m∧((∃(k2:Nat) (r2:List Int),(0:Int)=(k2:Int)∧r.map aD=r2.map aD∧k2≤m.length∧r2=(m.take k2).foldl sR (p.foldl mR (List.replicate al.toNat 0))∧r2.length=al.toNat)∧ ∀(k2:Nat) (r2:List Int),(k2≤m.length∧r2=(m.take k2).foldl sR (p.foldl mR (List.replicate al.toNat 0))∧r2.length=al.toNat)→((decide ((k2:Int)<((m.length:Nat):Int)))=true→0≤(k2:Int)∧Em aD m k2 fun e33=>((decide ((0:Int)<e33))=true→dV (e33 - (1:Int))∧(0≤(e33 - (1:Int))∧Lm aD r2∧(e33 - (1:Int))<((r2.length:Nat):Int)∧Em aD r2 ((e33 - (1:Int)).toNat) fun e41=>0≤(e33 - (1:Int))∧Lm aD r2∧(e33 - (1:Int))<((r2.length:Nat):Int)∧(r2.map aD=r2.map aD∧(e33 - (1:Int)).toNat<r2.length∧ ∀s11_7,r2[(e33 - (1:Int)).toNat]? =some s11_7→dZ (aD s11_7)=true∧0+1≤(aD s11_7).length∧(aD s11_7).take 0++[.int .i64 (IntKind.i64.wrap (e41 - (1:Int)))]++(aD s11_7).drop (0+1)=aD (IntKind.i64.wrap (e41 - (1:Int)))∧dV ((k2:Int)+(1:Int))∧ ∃(k2' :Nat) (r2' :List Int),((k2:Int)+(1:Int))=(k2' :Int)∧(r2.set ((e33 - (1:Int)).toNat) (IntKind.i64.wrap (e41 - (1:Int)))).map aD=r2'.map aD∧(k2' ≤m.length∧r2' =(m.take k2').foldl sR (p.foldl mR (List.replicate al.toNat 0))∧r2'.length=al.toNat)∧m.length - k2' <m.length - k2)))∧((decide ((0:Int)<e33))=false→dV ((k2:Int)+(1:Int))∧ ∃(k2' :Nat) (r2' :List Int),((k2:Int)+(1:Int))=(k2' :Int)∧r2.map aD=r2'.map aD∧(k2' ≤m.length∧r2' =(m.take k2').foldl sR (p.foldl mR (List.replicate al.toNat 0))∧r2'.length=al.toNat)∧m.length - k2' <m.length - k2))∧((decide ((k2:Int)<((m.length:Nat):Int)))=false→out.map aE=out.map aE∧r2.map aD=r2.map aD∧(out.length+1)*24≤140737488355328∧(out++[r2]).map aE=(out++[cP al p m]).map aE∧True)))))) (by kernel_rfl) ?_
 refine ⟨by omega,by omega,by omega,by omega,by first | (rw [List.map_replicate];done) | (rw [List.map_replicate];rfl),List.length_map _,⟨0,List.replicate ((al).toNat) (0:Int),rfl,rfl,Nat.zero_le _,rfl,List.length_replicate⟩,fun k r ⟨hk,hr,hl⟩=>?_⟩
 refine ⟨fun c0=>?_,fun c0=>?_⟩
 ·replace c0:=yq c0
  refine ⟨by omega,rfl,by first | omega | (rw [hl2];omega) | (rw [hl];omega),fun e17 h17=>?_⟩
  have hx:=hp _ (List.mem_of_getElem? h17)
  refine ⟨fun c1=>?_,fun c1=>?_⟩
  ·replace c1:=yq c1
   refine ⟨⟨by omega,by omega⟩,by omega,List.length_map _,by first | omega | (rw [hl2];omega) | (rw [hl];omega),rfl,by first | omega | (rw [hl2];omega) | (rw [hl];omega),fun e25 h25=>?_⟩
   refine ⟨by omega,List.length_map _,by first | omega | (rw [hl2];omega) | (rw [hl];omega),rfl,by first | omega | (rw [hl2];omega) | (rw [hl];omega),fun s5_7 hs5_7=>⟨rfl,Nat.le_of_ble_eq_true rfl,rfl,?_⟩⟩
   refine ⟨⟨by omega,by omega⟩,?_⟩
   exact ⟨k+1,_,rfl,rfl,⟨by omega,by first | (rw [bW h17,←hr,zU c1];done) | (rw [bW h17,←hr,wY c1 h25]),by first | exact hl | (rw [List.length_set];exact hl)⟩,by omega⟩
  ·replace c1:=nq c1
   refine ⟨⟨by omega,by omega⟩,?_⟩
   exact ⟨k+1,_,rfl,rfl,⟨by omega,by first | (rw [bW h17,←hr,zU c1];done) | (rw [bW h17,←hr,wY c1 h25]),by first | exact hl | (rw [List.length_set];exact hl)⟩,by omega⟩
 ·replace c0:=nq c0
  refine ⟨List.length_map _,⟨0,r,rfl,rfl,Nat.zero_le _,by rw [hr,List.take_of_length_le (by omega)];rfl,hl⟩,fun k2 r2 ⟨hk2,hr2,hl2⟩=>?_⟩
  refine ⟨fun c2=>?_,fun c2=>?_⟩
  ·replace c2:=yq c2
   refine ⟨by omega,rfl,by first | omega | (rw [hl2];omega) | (rw [hl];omega),fun e33 h33=>?_⟩
   have hx:=hm _ (List.mem_of_getElem? h33)
   refine ⟨fun c3=>?_,fun c3=>?_⟩
   ·replace c3:=yq c3
    refine ⟨⟨by omega,by omega⟩,by omega,List.length_map _,by first | omega | (rw [hl2];omega) | (rw [hl];omega),rfl,by first | omega | (rw [hl2];omega) | (rw [hl];omega),fun e41 h41=>?_⟩
    refine ⟨by omega,List.length_map _,by first | omega | (rw [hl2];omega) | (rw [hl];omega),rfl,by first | omega | (rw [hl2];omega) | (rw [hl];omega),fun s11_7 hs11_7=>⟨rfl,Nat.le_of_ble_eq_true rfl,rfl,?_⟩⟩
    refine ⟨⟨by omega,by omega⟩,?_⟩
    exact ⟨k2+1,_,rfl,rfl,⟨by omega,by first | (rw [bW h33,←hr2,zV c3];done) | (rw [bW h33,←hr2,wZ c3 h41]),by first | exact hl2 | (rw [List.length_set];exact hl2)⟩,by omega⟩
   ·replace c3:=nq c3
    refine ⟨⟨by omega,by omega⟩,?_⟩
    exact ⟨k2+1,_,rfl,rfl,⟨by omega,by first | (rw [bW h33,←hr2,zV c3];done) | (rw [bW h33,←hr2,wZ c3 h41]),by first | exact hl2 | (rw [List.length_set];exact hl2)⟩,by omega⟩
  ·replace c2:=nq c2
   refine ⟨rfl,rfl,by omega,?_,trivial⟩
   ·rw [hr2,List.take_of_length_le (by omega)];rfl
abbrev fT (n:Int) (p:List Int) (m:List Int):AV × List (Nat × Rs):=(.own 0,[(0,.arr 3 1 true ((bQ (bE n) p m).map aD))])
abbrev iI (n:Int) (p:List Int) (m:List Int):Prop:=jP Try.prog 14 [.one (.int .i64 n),.one (.sl 3 1 (p.map aD)),.one (.sl 3 1 (m.map aD))] (fT n p m).1 (fT n p m).2
theorem oC (n:Int) (p m:List Int) (hn:1≤n∧n≤4) (hp: ∀s∈p,s≤bE n) (hm: ∀s∈m,s≤bE n) (hpl:p.length≤100) (hml:m.length≤100):iI n p m:=by
 refine eM gL cO Try.func14 (by kernel_rfl) (.mk ((((1:Int)*2^(Int.toNat n)) - (1:Int)).toNat) [.int .i64 (0:Int)] ((List.replicate ((((1:Int)*2^(Int.toNat n)) - (1:Int)).toNat) (0:Int)).map aD)<| .loop (Nat × (List Int)) (Q2 Nat (List Int)) [7,8,14,15,16,17,18,19,20,21,22,23,24,25,26,27,28,29,30,31] [1300] (fun yy0=>[(8,vI (yy0.1:Int)),(7,.own 1300)]) (fun yy0=>[(1300,some (.arr 3 1 true (yy0.2.map aD)))]) (fun yy0=>yy0.1≤p.length∧yy0.2=(p.take yy0.1).foldl (fD 1) (List.replicate (bE n).toNat 0)∧yy0.2.length=(bE n).toNat) (fun yy0=>p.length - yy0.1) (fun yy0=> .len p.length<| .br (.elem _ aD p (fun e22=> .br (.elem _ aD p (fun e28=> .len yy0.2.length<| .set Int aD yy0.2 (fun s6_7=>(1:Int)) (fun s6_7=> .back [(1300,1300)]))) (.back [(1300,1300)]))) (.loop (Nat × (List Int)) (Q2 Nat (List Int)) [7,9,32,33,34,35,36,37,38,39,40,41,42,43,44,45,46,47,48,49] [1300] (fun yy1=>[(9,vI (yy1.1:Int)),(7,.own 1300)]) (fun yy1=>[(1300,some (.arr 3 1 true (yy1.2.map aD)))]) (fun yy1=>yy1.1≤m.length∧yy1.2=(m.take yy1.1).foldl (fD (-1)) (p.foldl (fD 1) (List.replicate (bE n).toNat 0))∧yy1.2.length=(bE n).toNat) (fun yy1=>m.length - yy1.1) (fun yy1=> .len m.length<| .br (.elem _ aD m (fun e40=> .br (.elem _ aD m (fun e46=> .len yy1.2.length<| .set Int aD yy1.2 (fun s11_7=>(-1:Int)) (fun s11_7=> .back [(1300,1300)]))) (.back [(1300,1300)]))) (.fin [(0,1300)]))))) (p:=(p.map aD).length≤9223372036854775807→(m.map aD).length≤9223372036854775807→(0≤n∧n≤64)∧(dV ((1:Int)*2^(Int.toNat n))∧(dV (((1:Int)*2^(Int.toNat n)) - (1:Int))∧((((1:Int)*2^(Int.toNat n)) - (1:Int))=(((((1:Int)*2^(Int.toNat n)) - (1:Int)).toNat:Nat):Int)∧(((1:Int)*2^(Int.toNat n)) - (1:Int))=(((((1:Int)*2^(Int.toNat n)) - (1:Int)).toNat:Nat):Int)∧8*((((1:Int)*2^(Int.toNat n)) - (1:Int)).toNat)≤281474976710656∧((((1:Int)*2^(Int.toNat n)) - (1:Int)).toNat)≤9223372036854775807∧List.replicate ((((1:Int)*2^(Int.toNat n)) - (1:Int)).toNat) [.int .i64 (0:Int)]=(List.replicate ((((1:Int)*2^(Int.toNat n)) - (1:Int)).toNat) (0:Int)).map aD∧((∃(k:Nat) (r:List Int),(0:Int)=(k:Int)∧(List.replicate ((((1:Int)*2^(Int.toNat n)) - (1:Int)).toNat) (0:Int)).map aD=r.map aD∧k≤p.length∧r=(p.take k).foldl (fD 1) (List.replicate (bE n).toNat 0)∧r.length=(bE n).toNat)∧ ∀(k:Nat) (r:List Int),(k≤p.length∧r=(p.take k).foldl (fD 1) (List.replicate (bE n).toNat 0)∧r.length=(bE n).toNat)→Lm aD p∧(((decide ((k:Int)<((p.length:Nat):Int)))=true→0≤(k:Int)∧Em aD p k fun e22=>((decide ((0:Int)<e22))=true→0≤(k:Int)∧Em aD p k fun e28=>dV (e28 - (1:Int))∧(0≤(e28 - (1:Int))∧Lm aD r∧(e28 - (1:Int))<((r.length:Nat):Int)∧(r.map aD=r.map aD∧(e28 - (1:Int)).toNat<r.length∧ ∀s6_7,r[(e28 - (1:Int)).toNat]? =some s6_7→dZ (aD s6_7)=true∧0+1≤(aD s6_7).length∧(aD s6_7).take 0++[.int .i64 (1:Int)]++(aD s6_7).drop (0+1)=aD (1:Int)∧dV ((k:Int)+(1:Int))∧ ∃(k' :Nat) (r' :List Int),((k:Int)+(1:Int))=(k' :Int)∧(r.set ((e28 - (1:Int)).toNat) (1:Int)).map aD=r'.map aD∧(k' ≤p.length∧r' =(p.take k').foldl (fD 1) (List.replicate (bE n).toNat 0)∧r'.length=(bE n).toNat)∧p.length - k' <p.length - k)))∧((decide ((0:Int)<e22))=false→dV ((k:Int)+(1:Int))∧ ∃(k' :Nat) (r' :List Int),((k:Int)+(1:Int))=(k' :Int)∧r.map aD=r'.map aD∧(k' ≤p.length∧r' =(p.take k').foldl (fD 1) (List.replicate (bE n).toNat 0)∧r'.length=(bE n).toNat)∧p.length - k' <p.length - k))∧((decide ((k:Int)<((p.length:Nat):Int)))=false→(∃(k2:Nat) (r2:List Int),(0:Int)=(k2:Int)∧r.map aD=r2.map aD∧k2≤m.length∧r2=(m.take k2).foldl (fD (-1)) (p.foldl (fD 1) (List.replicate (bE n).toNat 0))∧r2.length=(bE n).toNat)∧ ∀(k2:Nat) (r2:List Int),(k2≤m.length∧r2=(m.take k2).foldl (fD (-1)) (p.foldl (fD 1) (List.replicate (bE n).toNat 0))∧r2.length=(bE n).toNat)→Lm aD m∧(((decide ((k2:Int)<((m.length:Nat):Int)))=true→0≤(k2:Int)∧Em aD m k2 fun e40=>((decide ((0:Int)<e40))=true→0≤(k2:Int)∧Em aD m k2 fun e46=>dV (e46 - (1:Int))∧(0≤(e46 - (1:Int))∧Lm aD r2∧(e46 - (1:Int))<((r2.length:Nat):Int)∧(r2.map aD=r2.map aD∧(e46 - (1:Int)).toNat<r2.length∧ ∀s11_7,r2[(e46 - (1:Int)).toNat]? =some s11_7→dZ (aD s11_7)=true∧0+1≤(aD s11_7).length∧(aD s11_7).take 0++[.int .i64 (-1:Int)]++(aD s11_7).drop (0+1)=aD (-1:Int)∧dV ((k2:Int)+(1:Int))∧ ∃(k2' :Nat) (r2' :List Int),((k2:Int)+(1:Int))=(k2' :Int)∧(r2.set ((e46 - (1:Int)).toNat) (-1:Int)).map aD=r2'.map aD∧(k2' ≤m.length∧r2' =(m.take k2').foldl (fD (-1)) (p.foldl (fD 1) (List.replicate (bE n).toNat 0))∧r2'.length=(bE n).toNat)∧m.length - k2' <m.length - k2)))∧((decide ((0:Int)<e40))=false→dV ((k2:Int)+(1:Int))∧ ∃(k2' :Nat) (r2' :List Int),((k2:Int)+(1:Int))=(k2' :Int)∧r2.map aD=r2'.map aD∧(k2' ≤m.length∧r2' =(m.take k2').foldl (fD (-1)) (p.foldl (fD 1) (List.replicate (bE n).toNat 0))∧r2'.length=(bE n).toNat)∧m.length - k2' <m.length - k2))∧((decide ((k2:Int)<((m.length:Nat):Int)))=false→r2.map aD=(bQ (bE n) p m).map aD∧True))))))))) (by kernel_rfl) ?_
 intro n0 n1
 simp only [List.length_map] at n0 n1
 obtain ⟨b1,b2,b3⟩:=lY hn
 have hal:bE n=(1:Int)*2^n.toNat - 1:=rfl
 refine ⟨⟨by omega,by omega⟩,by first | exact aJ (by omega) | exact ⟨by omega,by omega⟩,by first | exact aJ (by omega) | exact ⟨by omega,by omega⟩,by omega,by omega,by omega,by omega,by first | (rw [List.map_replicate];done) | (rw [List.map_replicate];rfl),⟨0,List.replicate ((((1:Int)*2^(Int.toNat n)) - (1:Int)).toNat) (0:Int),rfl,rfl,Nat.zero_le _,rfl,List.length_replicate⟩,fun k r ⟨hk,hr,hl⟩=>?_⟩
 refine ⟨List.length_map _,fun c0=>?_,fun c0=>?_⟩
 ·replace c0:=yq c0
  refine ⟨by omega,rfl,by first | omega | (rw [hl2];omega) | (rw [hl];omega),fun e22 h22=>?_⟩
  have hx:=hp _ (List.mem_of_getElem? h22)
  refine ⟨fun c1=>?_,fun c1=>?_⟩
  ·replace c1:=yq c1
   refine ⟨by omega,rfl,by first | omega | (rw [hl2];omega) | (rw [hl];omega),fun e28 h28=>?_⟩
   obtain rfl:=(cF h22 h28).symm
   refine ⟨by first | exact aJ (by omega) | exact ⟨by omega,by omega⟩,by omega,List.length_map _,by first | omega | (rw [hl2];omega) | (rw [hl];omega),rfl,by first | omega | (rw [hl2];omega) | (rw [hl];omega),fun s6_7 hs6_7=>⟨rfl,Nat.le_of_ble_eq_true rfl,rfl,?_⟩⟩
   refine ⟨by first | exact aJ (by omega) | exact ⟨by omega,by omega⟩,?_⟩
   exact ⟨k+1,_,rfl,rfl,⟨by omega,by first | (rw [bW h22,←hr,oB c1];done) | (rw [bW h22,←hr,gN c1]),by first | exact hl | (rw [List.length_set];exact hl)⟩,by omega⟩
  ·replace c1:=nq c1
   refine ⟨by first | exact aJ (by omega) | exact ⟨by omega,by omega⟩,?_⟩
   exact ⟨k+1,_,rfl,rfl,⟨by omega,by first | (rw [bW h22,←hr,oB c1];done) | (rw [bW h22,←hr,gN c1]),by first | exact hl | (rw [List.length_set];exact hl)⟩,by omega⟩
 ·replace c0:=nq c0
  refine ⟨⟨0,r,rfl,rfl,Nat.zero_le _,by rw [hr,List.take_of_length_le (by omega)];rfl,hl⟩,fun k2 r2 ⟨hk2,hr2,hl2⟩=>?_⟩
  refine ⟨List.length_map _,fun c2=>?_,fun c2=>?_⟩
  ·replace c2:=yq c2
   refine ⟨by omega,rfl,by first | omega | (rw [hl2];omega) | (rw [hl];omega),fun e40 h40=>?_⟩
   have hx:=hm _ (List.mem_of_getElem? h40)
   refine ⟨fun c3=>?_,fun c3=>?_⟩
   ·replace c3:=yq c3
    refine ⟨by omega,rfl,by first | omega | (rw [hl2];omega) | (rw [hl];omega),fun e46 h46=>?_⟩
    obtain rfl:=(cF h40 h46).symm
    refine ⟨by first | exact aJ (by omega) | exact ⟨by omega,by omega⟩,by omega,List.length_map _,by first | omega | (rw [hl2];omega) | (rw [hl];omega),rfl,by first | omega | (rw [hl2];omega) | (rw [hl];omega),fun s11_7 hs11_7=>⟨rfl,Nat.le_of_ble_eq_true rfl,rfl,?_⟩⟩
    refine ⟨by first | exact aJ (by omega) | exact ⟨by omega,by omega⟩,?_⟩
    exact ⟨k2+1,_,rfl,rfl,⟨by omega,by first | (rw [bW h40,←hr2,oB c3];done) | (rw [bW h40,←hr2,gN c3]),by first | exact hl2 | (rw [List.length_set];exact hl2)⟩,by omega⟩
   ·replace c3:=nq c3
    refine ⟨by first | exact aJ (by omega) | exact ⟨by omega,by omega⟩,?_⟩
    exact ⟨k2+1,_,rfl,rfl,⟨by omega,by first | (rw [bW h40,←hr2,oB c3];done) | (rw [bW h40,←hr2,gN c3]),by first | exact hl2 | (rw [List.length_set];exact hl2)⟩,by omega⟩
  ·replace c2:=nq c2
   refine ⟨?_,trivial⟩
   ·rw [hr2,List.take_of_length_le (by omega)];rfl
abbrev lN (n:Int):AV × List (Nat × Rs):=(.own 0,[(0,.arr 24 1 true ((bD n).map aE))])
abbrev pN (n:Int):Prop:=jP Try.prog 15 [.one (.int .i64 n)] (lN n).1 (lN n).2
theorem aAa (n:Int):pN n:=by
 refine eM gL cO Try.func15 (by kernel_rfl) (.call (vB (decide ((1:Int)≤n∧n≤(4:Int)))) []<| .br (.fin [(0,900)]) (.loop (Nat × (List (List Int))) (Q2 Nat (List (List Int))) [3,5,9,17,18,19,20,21,22,23,24,25,26,27,28,29,30,31,32,33] [900,2800,3000,3100,3200,3300] (fun yy0=>[(3,.own 900),(5,vI (yy0.1:Int))]) (fun yy0=>[(900,some (.arr 24 1 true (yy0.2.map aE)))]) (fun yy0=>(yy0.1:Int)≤n∧yy0.2=kH (bQ (bE n)) (uX n) (bE n) yy0.1∧yy0.2.length≤yy0.1) (fun yy0=>n.toNat - yy0.1) (fun yy0=> .br (kF (fT n ([(((1:Int)*2^(Int.toNat n)) - (1:Int)) - ((1:Int)*2^yy0.1)]:List Int) ([((1:Int)*2^(Int.toNat n)) - (1:Int)]:List Int))<| .appx (List Int) aE yy0.2 (bQ (bE n) ([(((1:Int)*2^(Int.toNat n)) - (1:Int)) - ((1:Int)*2^yy0.1)]:List Int) ([((1:Int)*2^(Int.toNat n)) - (1:Int)]:List Int))<| .back [(900,3300)]) (.loop (Nat × (List (List Int))) (Q2 Nat (List (List Int))) [3,6,7,8,34,35,36,37,38,39,40,41,42,43,44,45,46,47,48,49,50,51,52,53,54,55,56,57,58,59,60,61,62,63,64,65,66,67,68,69,70,71,72,73,74,75,76,77,78,79,80,81,82,83,84,85] [900,7300,8200,8300,8400,8500] (fun yy1=>[(3,.own 900),(6,vI (yy1.1:Int))]) (fun yy1=>[(900,some (.arr 24 1 true (yy1.2.map aE)))]) (fun yy1=>(yy1.1:Int)≤n∧yy1.2=kH (bQ (bE n)) (uX n) (bE n) n.toNat++lX (bQ (bE n)) (2^n.toNat) n.toNat yy1.1∧yy1.2.length≤4+yy1.1*64) (fun yy1=>n.toNat - yy1.1) (fun yy1=> .br (.loop (Nat × (List (List Int))) (Q2 Nat (List (List Int))) [3,7,8,41,42,43,44,45,46,47,48,49,50,51,52,53,54,55,56,57,58,59,60,61,62,63,64,65,66,67,68,69,70,71,72,73,74,75,76,77,78,79,80,81,82,83,84,85] [900,7300,8200,8300,8400,8500] (fun yy2=>[(3,.own 900),(7,vI ((yy1.1+1+yy2.1:Nat):Int))]) (fun yy2=>[(900,some (.arr 24 1 true (yy2.2.map aE)))]) (fun yy2=>((yy1.1+1+yy2.1:Nat):Int)≤n∧yy2.2=kH (bQ (bE n)) (uX n) (bE n) n.toNat++lX (bQ (bE n)) (2^n.toNat) n.toNat yy1.1++pM (bQ (bE n)) (2^n.toNat) yy1.1 yy2.1∧yy2.2.length≤4+yy1.1*64+yy2.1*16) (fun yy2=>n.toNat - (yy1.1+1+yy2.1)) (fun yy2=> .br (.loop (Nat × (List (List Int))) (Q2 Nat (List (List Int))) [3,8,46,47,48,49,50,51,52,53,54,55,56,57,58,59,60,61,62,63,64,65,66,67,68,69,70,71,72,73,74,75,76,77,78,79,80,81,82,83,84,85] [900,7300,8200,8300,8400,8500] (fun yy3=>[(3,.own 900),(8,vI (yy3.1:Int))]) (fun yy3=>[(900,some (.arr 24 1 true (yy3.2.map aE)))]) (fun yy3=>yy3.1≤2^n.toNat∧yy3.2=kH (bQ (bE n)) (uX n) (bE n) n.toNat++lX (bQ (bE n)) (2^n.toNat) n.toNat yy1.1++pM (bQ (bE n)) (2^n.toNat) yy1.1 yy2.1++oG (bQ (bE n)) yy1.1 (yy1.1+1+yy2.1) yy3.1∧yy3.2.length≤4+yy1.1*64+yy2.1*16+yy3.1) (fun yy3=>2^n.toNat - yy3.1) (fun yy3=> .br (.br (.lit<| .lit<| .lit<| .lit<| .lit<| .br (kF (fT n ([(yy3.1:Int),bI .or .i64 (bI .or .i64 (yy3.1:Int) ((1:Int)*2^yy1.1)) ((1:Int)*2^(yy1.1+1+yy2.1))]:List Int) ([bI .or .i64 (yy3.1:Int) ((1:Int)*2^yy1.1),bI .or .i64 (yy3.1:Int) ((1:Int)*2^(yy1.1+1+yy2.1))]:List Int))<| .appx (List Int) aE yy3.2 (bQ (bE n) ([(yy3.1:Int),bI .or .i64 (bI .or .i64 (yy3.1:Int) ((1:Int)*2^yy1.1)) ((1:Int)*2^(yy1.1+1+yy2.1))]:List Int) ([bI .or .i64 (yy3.1:Int) ((1:Int)*2^yy1.1),bI .or .i64 (yy3.1:Int) ((1:Int)*2^(yy1.1+1+yy2.1))]:List Int))<| .back [(900,8500)]) (.back [(900,900)])) (.back [(900,900)])) (.back [(900,900)]))) (.back [(900,900)]))) (.fin [(0,900)])))))) (p:=eE n (1:Int) (4:Int)∧(((!(decide ((1:Int)≤n∧n≤(4:Int))))=true→[]=(bD n).map aE∧True)∧((!(decide ((1:Int)≤n∧n≤(4:Int))))=false→(0≤n∧n≤64)∧(dV ((1:Int)*2^(Int.toNat n))∧(dV (((1:Int)*2^(Int.toNat n)) - (1:Int))∧((∃(i:Nat) (o0:List (List Int)),(0:Int)=(i:Int)∧[]=o0.map aE∧(i:Int)≤n∧o0=kH (bQ (bE n)) (uX n) (bE n) i∧o0.length≤i)∧ ∀(i:Nat) (o0:List (List Int)),((i:Int)≤n∧o0=kH (bQ (bE n)) (uX n) (bE n) i∧o0.length≤i)→((decide ((i:Int)<n))=true→(0≤(i:Int)∧(i:Int)≤64)∧dV ((1:Int)*2^i)∧dV ((((1:Int)*2^(Int.toNat n)) - (1:Int)) - ((1:Int)*2^i))∧iI n ([(((1:Int)*2^(Int.toNat n)) - (1:Int)) - ((1:Int)*2^i)]:List Int) ([((1:Int)*2^(Int.toNat n)) - (1:Int)]:List Int)∧o0.map aE=o0.map aE∧(bQ (bE n) ([(((1:Int)*2^(Int.toNat n)) - (1:Int)) - ((1:Int)*2^i)]:List Int) ([((1:Int)*2^(Int.toNat n)) - (1:Int)]:List Int)).map aD=(bQ (bE n) ([(((1:Int)*2^(Int.toNat n)) - (1:Int)) - ((1:Int)*2^i)]:List Int) ([((1:Int)*2^(Int.toNat n)) - (1:Int)]:List Int)).map aD∧(o0.length+1)*24≤140737488355328∧dV ((i:Int)+(1:Int))∧ ∃(i' :Nat) (o0' :List (List Int)),((i:Int)+(1:Int))=(i' :Int)∧(o0++[bQ (bE n) ([(((1:Int)*2^(Int.toNat n)) - (1:Int)) - ((1:Int)*2^i)]:List Int) ([((1:Int)*2^(Int.toNat n)) - (1:Int)]:List Int)]).map aE=o0'.map aE∧((i' :Int)≤n∧o0' =kH (bQ (bE n)) (uX n) (bE n) i' ∧o0'.length≤i')∧n.toNat - i' <n.toNat - i)∧((decide ((i:Int)<n))=false→(∃(i:Nat) (o1:List (List Int)),(0:Int)=(i:Int)∧o0.map aE=o1.map aE∧(i:Int)≤n∧o1=kH (bQ (bE n)) (uX n) (bE n) n.toNat++lX (bQ (bE n)) (2^n.toNat) n.toNat i∧o1.length≤4+i*64)∧ ∀(i:Nat) (o1:List (List Int)),((i:Int)≤n∧o1=kH (bQ (bE n)) (uX n) (bE n) n.toNat++lX (bQ (bE n)) (2^n.toNat) n.toNat i∧o1.length≤4+i*64)→((decide ((i:Int)<n))=true→dV ((i:Int)+(1:Int))∧((∃(j:Nat) (o2:List (List Int)),((i:Int)+(1:Int))=((i+1+j:Nat):Int)∧o1.map aE=o2.map aE∧((i+1+j:Nat):Int)≤n∧o2=kH (bQ (bE n)) (uX n) (bE n) n.toNat++lX (bQ (bE n)) (2^n.toNat) n.toNat i++pM (bQ (bE n)) (2^n.toNat) i j∧o2.length≤4+i*64+j*16)∧ ∀(j:Nat) (o2:List (List Int)),(((i+1+j:Nat):Int)≤n∧o2=kH (bQ (bE n)) (uX n) (bE n) n.toNat++lX (bQ (bE n)) (2^n.toNat) n.toNat i++pM (bQ (bE n)) (2^n.toNat) i j∧o2.length≤4+i*64+j*16)→((decide (((i+1+j:Nat):Int)<n))=true→(∃(s:Nat) (o3:List (List Int)),(0:Int)=(s:Int)∧o2.map aE=o3.map aE∧s≤2^n.toNat∧o3=kH (bQ (bE n)) (uX n) (bE n) n.toNat++lX (bQ (bE n)) (2^n.toNat) n.toNat i++pM (bQ (bE n)) (2^n.toNat) i j++oG (bQ (bE n)) i (i+1+j) s∧o3.length≤4+i*64+j*16+s)∧ ∀(s:Nat) (o3:List (List Int)),(s≤2^n.toNat∧o3=kH (bQ (bE n)) (uX n) (bE n) n.toNat++lX (bQ (bE n)) (2^n.toNat) n.toNat i++pM (bQ (bE n)) (2^n.toNat) i j++oG (bQ (bE n)) i (i+1+j) s∧o3.length≤4+i*64+j*16+s)→((decide ((s:Int)≤(((1:Int)*2^(Int.toNat n)) - (1:Int))))=true→(0≤(i:Int)∧(i:Int)≤64)∧(((decide ((bI .and .i64 ((s:Int)/2^i) (1:Int))=(0:Int)))=true→(0≤((i+1+j:Nat):Int)∧((i+1+j:Nat):Int)≤64)∧(((decide ((bI .and .i64 ((s:Int)/2^(i+1+j)) (1:Int))=(0:Int)))=true→(0≤(i:Int)∧(i:Int)≤64)∧dV ((1:Int)*2^i)∧(0≤((i+1+j:Nat):Int)∧((i+1+j:Nat):Int)≤64)∧dV ((1:Int)*2^(i+1+j))∧(0≤(i:Int)∧(i:Int)≤64)∧dV ((1:Int)*2^i)∧(0≤((i+1+j:Nat):Int)∧((i+1+j:Nat):Int)≤64)∧dV ((1:Int)*2^(i+1+j))∧iI n ([(s:Int),bI .or .i64 (bI .or .i64 (s:Int) ((1:Int)*2^i)) ((1:Int)*2^(i+1+j))]:List Int) ([bI .or .i64 (s:Int) ((1:Int)*2^i),bI .or .i64 (s:Int) ((1:Int)*2^(i+1+j))]:List Int)∧o3.map aE=o3.map aE∧(bQ (bE n) ([(s:Int),bI .or .i64 (bI .or .i64 (s:Int) ((1:Int)*2^i)) ((1:Int)*2^(i+1+j))]:List Int) ([bI .or .i64 (s:Int) ((1:Int)*2^i),bI .or .i64 (s:Int) ((1:Int)*2^(i+1+j))]:List Int)).map aD=(bQ (bE n) ([(s:Int),bI .or .i64 (bI .or .i64 (s:Int) ((1:Int)*2^i)) ((1:Int)*2^(i+1+j))]:List Int) ([bI .or .i64 (s:Int) ((1:Int)*2^i),bI .or .i64 (s:Int) ((1:Int)*2^(i+1+j))]:List Int)).map aD∧(o3.length+1)*24≤140737488355328∧dV ((s:Int)+(1:Int))∧ ∃(s' :Nat) (o3' :List (List Int)),((s:Int)+(1:Int))=(s' :Int)∧(o3++[bQ (bE n) ([(s:Int),bI .or .i64 (bI .or .i64 (s:Int) ((1:Int)*2^i)) ((1:Int)*2^(i+1+j))]:List Int) ([bI .or .i64 (s:Int) ((1:Int)*2^i),bI .or .i64 (s:Int) ((1:Int)*2^(i+1+j))]:List Int)]).map aE=o3'.map aE∧(s' ≤2^n.toNat∧o3' =kH (bQ (bE n)) (uX n) (bE n) n.toNat++lX (bQ (bE n)) (2^n.toNat) n.toNat i++pM (bQ (bE n)) (2^n.toNat) i j++oG (bQ (bE n)) i (i+1+j) s' ∧o3'.length≤4+i*64+j*16+s')∧2^n.toNat - s' <2^n.toNat - s)∧((decide ((bI .and .i64 ((s:Int)/2^(i+1+j)) (1:Int))=(0:Int)))=false→dV ((s:Int)+(1:Int))∧ ∃(s' :Nat) (o3' :List (List Int)),((s:Int)+(1:Int))=(s' :Int)∧o3.map aE=o3'.map aE∧(s' ≤2^n.toNat∧o3' =kH (bQ (bE n)) (uX n) (bE n) n.toNat++lX (bQ (bE n)) (2^n.toNat) n.toNat i++pM (bQ (bE n)) (2^n.toNat) i j++oG (bQ (bE n)) i (i+1+j) s' ∧o3'.length≤4+i*64+j*16+s')∧2^n.toNat - s' <2^n.toNat - s)))∧((decide ((bI .and .i64 ((s:Int)/2^i) (1:Int))=(0:Int)))=false→dV ((s:Int)+(1:Int))∧ ∃(s' :Nat) (o3' :List (List Int)),((s:Int)+(1:Int))=(s' :Int)∧o3.map aE=o3'.map aE∧(s' ≤2^n.toNat∧o3' =kH (bQ (bE n)) (uX n) (bE n) n.toNat++lX (bQ (bE n)) (2^n.toNat) n.toNat i++pM (bQ (bE n)) (2^n.toNat) i j++oG (bQ (bE n)) i (i+1+j) s' ∧o3'.length≤4+i*64+j*16+s')∧2^n.toNat - s' <2^n.toNat - s)))∧((decide ((s:Int)≤(((1:Int)*2^(Int.toNat n)) - (1:Int))))=false→dV (((i+1+j:Nat):Int)+(1:Int))∧ ∃(j' :Nat) (o2' :List (List Int)),(((i+1+j:Nat):Int)+(1:Int))=((i+1+j' :Nat):Int)∧o3.map aE=o2'.map aE∧(((i+1+j' :Nat):Int)≤n∧o2' =kH (bQ (bE n)) (uX n) (bE n) n.toNat++lX (bQ (bE n)) (2^n.toNat) n.toNat i++pM (bQ (bE n)) (2^n.toNat) i j' ∧o2'.length≤4+i*64+j' *16)∧n.toNat - (i+1+j')<n.toNat - (i+1+j)))∧((decide (((i+1+j:Nat):Int)<n))=false→dV ((i:Int)+(1:Int))∧ ∃(i' :Nat) (o1' :List (List Int)),((i:Int)+(1:Int))=(i' :Int)∧o2.map aE=o1'.map aE∧((i' :Int)≤n∧o1' =kH (bQ (bE n)) (uX n) (bE n) n.toNat++lX (bQ (bE n)) (2^n.toNat) n.toNat i' ∧o1'.length≤4+i' *64)∧n.toNat - i' <n.toNat - i)))∧((decide ((i:Int)<n))=false→o1.map aE=(bD n).map aE∧True)))))))) (by kernel_rfl) ?_
 refine ⟨iU _ _ _,fun c0=>?_,fun c0=>?_⟩
 ·replace c0:=nq (nt c0)
  refine ⟨?_,trivial⟩
  ·first | (rw [bD,if_neg (by omega)]<;>rfl) | (rw [ho1,show i=n.toNat by omega,bD,if_pos (by omega)];rfl)
 ·replace c0:=yq (nf c0)
  obtain ⟨b1,b2,b3⟩:=lY (n:=n) (by omega)
  have hal:bE n=(1:Int)*2^n.toNat - 1:=rfl
  refine ⟨⟨by omega,by omega⟩,by first | exact aJ (by omega) | exact ⟨by omega,by omega⟩,by first | exact aJ (by omega) | exact ⟨by omega,by omega⟩,⟨0,([]:List (List Int)),rfl,rfl,by omega,rfl,Nat.zero_le _⟩,fun i o0 ⟨hi,ho,hL⟩=>?_⟩
  refine ⟨fun c1=>?_,fun c1=>?_⟩
  ·replace c1:=yq c1
   have hw:=zW (n:=n) (i:=i) (by omega) (by omega)
   refine ⟨⟨by omega,by omega⟩,by first | exact aJ (by omega) | exact ⟨by omega,by omega⟩,by first | exact aJ (by omega) | exact ⟨by omega,by omega⟩,oC _ ([(((1:Int)*2^(Int.toNat n)) - (1:Int)) - ((1:Int)*2^i)]:List Int) ([((1:Int)*2^(Int.toNat n)) - (1:Int)]:List Int) (by omega) (by first | exact pW (by omega) | exact pX (by omega) (by omega) | exact xA) (by first | exact pW (by omega) | exact pX (by omega) (by omega) | exact xA) (by simp) (by simp),rfl,rfl,by first | omega | (simp;omega),by first | exact aJ (by omega) | exact ⟨by omega,by omega⟩,?_⟩
   exact ⟨i+1,_,rfl,rfl,⟨by omega,by rw [ho];rfl,by simp;omega⟩,by omega⟩
  ·replace c1:=nq c1
   refine ⟨⟨0,o0,rfl,rfl,by omega,by rw [ho,show i=n.toNat by omega];simp [lX],by omega⟩,fun i o1 ⟨hi1,ho1,hL1⟩=>?_⟩
   refine ⟨fun c2=>?_,fun c2=>?_⟩
   ·replace c2:=yq c2
    refine ⟨by first | exact aJ (by omega) | exact ⟨by omega,by omega⟩,⟨0,o1,by first | rfl | omega,by first | rfl | omega,by omega,by rw [ho1];simp [pM],by omega⟩,fun j o2 ⟨hj,ho2,hL2⟩=>?_⟩
    refine ⟨fun c3=>?_,fun c3=>?_⟩
    ·replace c3:=yq c3
     refine ⟨⟨0,o2,rfl,rfl,Nat.zero_le _,by rw [ho2];simp [oG],by omega⟩,fun s o3 ⟨hs,ho3,hL3⟩=>?_⟩
     refine ⟨fun c4=>?_,fun c4=>?_⟩
     ·replace c4:=yq c4
      refine ⟨⟨by omega,by omega⟩,fun g56=>?_,fun g56=>?_⟩
      ·replace g56:=yq g56
       refine ⟨⟨by omega,by omega⟩,fun c5=>?_,fun c5=>?_⟩
       ·replace c5:=yq c5
        obtain ⟨v1,v2⟩:=uZ (n:=n.toNat) (i:=i) (j:=i+1+j) (s:=s) (by omega) (by omega) (by omega) (by omega)
        obtain ⟨v3,v4⟩:=uZ (n:=n.toNat) (i:=i+1+j) (j:=i) (s:=s) (by omega) (by omega) (by omega) (by omega)
        refine ⟨⟨by omega,by omega⟩,by first | exact aJ (by omega) | exact ⟨by omega,by omega⟩,⟨by omega,by omega⟩,by first | exact aJ (by omega) | exact ⟨by omega,by omega⟩,⟨by omega,by omega⟩,by first | exact aJ (by omega) | exact ⟨by omega,by omega⟩,⟨by omega,by omega⟩,by first | exact aJ (by omega) | exact ⟨by omega,by omega⟩,oC _ ([(s:Int),bI .or .i64 (bI .or .i64 (s:Int) ((1:Int)*2^i)) ((1:Int)*2^(i+1+j))]:List Int) ([bI .or .i64 (s:Int) ((1:Int)*2^i),bI .or .i64 (s:Int) ((1:Int)*2^(i+1+j))]:List Int) (by omega) (by first | exact pW (by omega) | exact pX (by omega) (by omega) | exact xA) (by first | exact pW (by omega) | exact pX (by omega) (by omega) | exact xA) (by simp) (by simp),rfl,rfl,by first | omega | (simp;omega),by first | exact aJ (by omega) | exact ⟨by omega,by omega⟩,?_⟩
        exact ⟨s+1,_,rfl,rfl,⟨by omega,by first | (rw [ho3,oG,if_pos ⟨decide_eq_true g56,decide_eq_true c5⟩];simp only [List.append_assoc];done) | (rw [ho3,oG,if_neg (by rintro ⟨q1,q2⟩;simp only [pL,decide_eq_true_eq] at q1 q2;contradiction),List.append_nil]),by first | omega | (simp;omega)⟩,by omega⟩
       ·replace c5:=nq c5
        refine ⟨by first | exact aJ (by omega) | exact ⟨by omega,by omega⟩,?_⟩
        exact ⟨s+1,_,rfl,rfl,⟨by omega,by first | (rw [ho3,oG,if_pos ⟨decide_eq_true g56,decide_eq_true c5⟩];simp only [List.append_assoc];done) | (rw [ho3,oG,if_neg (by rintro ⟨q1,q2⟩;simp only [pL,decide_eq_true_eq] at q1 q2;contradiction),List.append_nil]),by first | omega | (simp;omega)⟩,by omega⟩
      ·replace g56:=nq g56
       refine ⟨by first | exact aJ (by omega) | exact ⟨by omega,by omega⟩,?_⟩
       exact ⟨s+1,_,rfl,rfl,⟨by omega,by first | (rw [ho3,oG,if_pos ⟨decide_eq_true g56,decide_eq_true c5⟩];simp only [List.append_assoc];done) | (rw [ho3,oG,if_neg (by rintro ⟨q1,q2⟩;simp only [pL,decide_eq_true_eq] at q1 q2;contradiction),List.append_nil]),by first | omega | (simp;omega)⟩,by omega⟩
     ·replace c4:=nq c4
      refine ⟨by first | exact aJ (by omega) | exact ⟨by omega,by omega⟩,?_⟩
      exact ⟨j+1,_,by first | rfl | omega,by first | rfl | omega,⟨by omega,by rw [ho3,show s=2^n.toNat by omega,pM,←List.append_assoc],by omega⟩,by omega⟩
    ·replace c3:=nq c3
     refine ⟨by first | exact aJ (by omega) | exact ⟨by omega,by omega⟩,?_⟩
     exact ⟨i+1,_,rfl,rfl,⟨by omega,by rw [ho2,show j=n.toNat - (i+1) by omega,lX,List.append_assoc],by omega⟩,by omega⟩
   ·replace c2:=nq c2
    refine ⟨?_,trivial⟩
    ·first | (rw [bD,if_neg (by omega)]<;>rfl) | (rw [ho1,show i=n.toNat by omega,bD,if_pos (by omega)];rfl)
end Go.Proofs.Ytdfebigfnjfgpaa
