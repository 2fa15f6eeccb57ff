/-
  Contracts and plain laws, joined: part 4.
-/
import Derived.Test.YtpoobcnmhnbdlaaP12
namespace Go.Proofs.Ytpoobcnmhnbdlaa
open Go.ChangeShapes Go.WideShapes Go.ChangeAt Go.RowKit
set_option linter.unusedVariables false
set_option linter.unusedSimpArgs false
set_option maxRecDepth 100000
set_option maxHeartbeats 4000000
def tb:Tb:=⟨[(2,(false,1,8,.int .i64 0)),(3,(false,1,8,.int .i64 0)),(4,(false,1,1,.bool false)),(5,(false,1,1,.int .u8 0)),(6,(false,1,1,.int .u8 0)),(7,(true,4,24,.agg #[.int .i64 0,.int .i64 0,.bool false,.int .u8 0])),(8,(true,4,24,.agg #[.int .i64 0,.int .i64 0,.bool false,.int .u8 0])),(9,(false,1,16,.string ByteArray.empty)),(10,(false,1,16,.string ByteArray.empty)),(11,(false,1,16,.string ByteArray.empty)),(12,(false,1,8,.int .u64 0)),(13,(true,2,24,.agg #[.string ByteArray.empty,.int .u64 0])),(14,(true,2,24,.agg #[.string ByteArray.empty,.int .u64 0])),(15,(false,1,8,.pointer none)),(16,(false,1,8,.pointer none)),(17,(false,1,8,.pointer none)),(21,(false,1,4,.int .i32 0)),(22,(false,1,24,.slice none 0 0)),(23,(false,1,24,.slice none 0 0)),(24,(true,3,72,.agg #[.slice none 0 0,.slice none 0 0,.slice none 0 0])),(25,(true,3,72,.agg #[.slice none 0 0,.slice none 0 0,.slice none 0 0])),(27,(true,2,16,.agg #[.int .i64 0,.int .i64 0])),(28,(true,2,16,.agg #[.int .i64 0,.int .i64 0])),(29,(false,1,24,.slice none 0 0)),(30,(true,4,64,.agg #[.int .i64 0,.int .i64 0,.slice none 0 0,.slice none 0 0])),(31,(true,4,64,.agg #[.int .i64 0,.int .i64 0,.slice none 0 0,.slice none 0 0])),(34,(true,3,72,.agg #[.slice none 0 0,.slice none 0 0,.slice none 0 0])),(41,(false,1,24,.slice none 0 0)),(42,(false,1,24,.slice none 0 0)),(43,(true,2,16,.agg #[.int .i64 0,.int .i64 0])),(44,(true,7,136,.agg #[.slice none 0 0,.slice none 0 0,.slice none 0 0,.slice none 0 0,.slice none 0 0,.int .i64 0,.int .i64 0])),(45,(true,7,136,.agg #[.slice none 0 0,.slice none 0 0,.slice none 0 0,.slice none 0 0,.slice none 0 0,.int .i64 0,.int .i64 0])),(47,(false,1,24,.slice none 0 0)),(48,(true,7,136,.agg #[.slice none 0 0,.slice none 0 0,.slice none 0 0,.slice none 0 0,.slice none 0 0,.int .i64 0,.int .i64 0])),(49,(true,7,136,.agg #[.slice none 0 0,.slice none 0 0,.slice none 0 0,.slice none 0 0,.slice none 0 0,.int .i64 0,.int .i64 0])),(84,(false,1,8,.pointer none)),(85,(true,1,1,.agg #[.bool false])),(86,(true,1,1,.agg #[.bool false])),(100,(false,1,8,.int .u64 0)),(102,(false,1,8,.int .i64 0)),(111,(false,1,4,.int .u32 0)),(113,(false,1,8,.int .u64 0)),(114,(false,1,8,.int .u64 0)),(118,(false,1,8,.pointer none)),(121,(false,1,8,.pointer none)),(128,(true,0,0,.agg #[])),(129,(true,0,0,.agg #[])),(131,(false,1,1,.int .u8 0)),(132,(false,1,1,.int .u8 0)),(134,(false,1,8,.pointer none)),(135,(false,1,4,.int .i32 0)),(136,(false,1,4,.int .i32 0))],
 [(22,3),(23,22),(29,28),(41,42),(42,43),(47,29)],
 [(7,[(0,(0,2)),(1,(1,3)),(2,(2,4)),(3,(3,6))]),(8,[(0,(0,2)),(1,(1,3)),(2,(2,4)),(3,(3,6))]),(13,[(0,(0,9)),(1,(1,12))]),(14,[(0,(0,9)),(1,(1,12))]),(24,[(0,(0,22)),(1,(1,23)),(2,(2,22))]),(25,[(0,(0,22)),(1,(1,23)),(2,(2,22))]),(27,[(0,(0,3)),(1,(1,3))]),(28,[(0,(0,3)),(1,(1,3))]),(30,[(0,(0,28)),(1,(2,29)),(2,(3,29))]),(31,[(0,(0,28)),(1,(2,29)),(2,(3,29))]),(34,[(0,(0,22)),(1,(1,23)),(2,(2,22))]),(43,[(0,(0,3)),(1,(1,3))]),(44,[(0,(0,22)),(1,(1,22)),(2,(2,41)),(3,(3,42)),(4,(4,42)),(5,(5,43))]),(45,[(0,(0,22)),(1,(1,22)),(2,(2,41)),(3,(3,42)),(4,(4,42)),(5,(5,43))]),(48,[(0,(0,22)),(1,(1,22)),(2,(2,47)),(3,(3,29)),(4,(4,29)),(5,(5,28))]),(49,[(0,(0,22)),(1,(1,22)),(2,(2,47)),(3,(3,29)),(4,(4,29)),(5,(5,28))]),(85,[(0,(0,4))]),(86,[(0,(0,4))]),(128,[]),(129,[])],
 [(7,(.agg #[.int .i64 0,.int .i64 0,.bool false,.int .u8 0],[(0,1),(1,1),(2,1),(3,1)])),(8,(.agg #[.int .i64 0,.int .i64 0,.bool false,.int .u8 0],[(0,1),(1,1),(2,1),(3,1)])),(13,(.agg #[.string ByteArray.empty,.int .u64 0],[(0,1),(1,1)])),(14,(.agg #[.string ByteArray.empty,.int .u64 0],[(0,1),(1,1)])),(24,(.agg #[.slice none 0 0,.slice none 0 0,.slice none 0 0],[(0,1),(1,1),(2,1)])),(25,(.agg #[.slice none 0 0,.slice none 0 0,.slice none 0 0],[(0,1),(1,1),(2,1)])),(27,(.agg #[.int .i64 0,.int .i64 0],[(0,1),(1,1)])),(28,(.agg #[.int .i64 0,.int .i64 0],[(0,1),(1,1)])),(30,(.agg #[.int .i64 0,.int .i64 0,.slice none 0 0,.slice none 0 0],[(0,2),(2,1),(3,1)])),(31,(.agg #[.int .i64 0,.int .i64 0,.slice none 0 0,.slice none 0 0],[(0,2),(2,1),(3,1)])),(34,(.agg #[.slice none 0 0,.slice none 0 0,.slice none 0 0],[(0,1),(1,1),(2,1)])),(43,(.agg #[.int .i64 0,.int .i64 0],[(0,1),(1,1)])),(44,(.agg #[.slice none 0 0,.slice none 0 0,.slice none 0 0,.slice none 0 0,.slice none 0 0,.int .i64 0,.int .i64 0],[(0,1),(1,1),(2,1),(3,1),(4,1),(5,2)])),(45,(.agg #[.slice none 0 0,.slice none 0 0,.slice none 0 0,.slice none 0 0,.slice none 0 0,.int .i64 0,.int .i64 0],[(0,1),(1,1),(2,1),(3,1),(4,1),(5,2)])),(48,(.agg #[.slice none 0 0,.slice none 0 0,.slice none 0 0,.slice none 0 0,.slice none 0 0,.int .i64 0,.int .i64 0],[(0,1),(1,1),(2,1),(3,1),(4,1),(5,2)])),(49,(.agg #[.slice none 0 0,.slice none 0 0,.slice none 0 0,.slice none 0 0,.slice none 0 0,.int .i64 0,.int .i64 0],[(0,1),(1,1),(2,1),(3,1),(4,1),(5,2)])),(85,(.agg #[.bool false],[(0,1)])),(86,(.agg #[.bool false],[(0,1)])),(128,(.agg #[],[(0,0)])),(129,(.agg #[],[(0,0)]))],
 [(4,())],
 [(9,()),(10,()),(11,())],
 [(2,.i64),(3,.i64),(5,.u8),(6,.u8),(12,.u64),(21,.i32),(100,.u64),(102,.i64),(111,.u32),(113,.u64),(114,.u64),(131,.u8),(132,.u8),(135,.i32),(136,.i32)],
 [(28,[0,0]),(86,[1])]⟩
theorem fc {α:Type} {p:Nat→α→Prop} {k:Nat} {v:α} {l:List (Nat × α)} (h:p k v) (t:lX p l):lX p ((k,v)::l):=⟨h,t⟩
theorem bK:Try.prog.follows .mixedOrders=true:=by kernel_rfl
set_option maxRecDepth 100000 in
theorem dR:jU Try.prog tb:=
 ⟨(fc (by kernel_rfl)<| fc (by kernel_rfl)<| fc (by kernel_rfl)<| fc (by kernel_rfl)<| fc (by kernel_rfl)<| fc (by kernel_rfl)<| fc (by kernel_rfl)<| fc (by kernel_rfl)<| fc (by kernel_rfl)<| fc (by kernel_rfl)<| fc (by kernel_rfl)<| fc (by kernel_rfl)<| fc (by kernel_rfl)<| fc (by kernel_rfl)<| fc (by kernel_rfl)<| fc (by kernel_rfl)<| fc (by kernel_rfl)<| fc (by kernel_rfl)<| fc (by kernel_rfl)<| fc (by kernel_rfl)<| fc (by kernel_rfl)<| fc (by kernel_rfl)<| fc (by kernel_rfl)<| fc (by kernel_rfl)<| fc (by kernel_rfl)<| fc (by kernel_rfl)<| fc (by kernel_rfl)<| fc (by kernel_rfl)<| fc (by kernel_rfl)<| fc (by kernel_rfl)<| fc (by kernel_rfl)<| fc (by kernel_rfl)<| fc (by kernel_rfl)<| fc (by kernel_rfl)<| fc (by kernel_rfl)<| fc (by kernel_rfl)<| fc (by kernel_rfl)<| fc (by kernel_rfl)<| fc (by kernel_rfl)<| fc (by kernel_rfl)<| fc (by kernel_rfl)<| fc (by kernel_rfl)<| fc (by kernel_rfl)<| fc (by kernel_rfl)<| fc (by kernel_rfl)<| fc (by kernel_rfl)<| fc (by kernel_rfl)<| fc (by kernel_rfl)<| fc (by kernel_rfl)<| fc (by kernel_rfl)<| fc (by kernel_rfl)<| fc (by kernel_rfl)<| trivial),
  (fc (by kernel_rfl)<| fc (by kernel_rfl)<| fc (by kernel_rfl)<| fc (by kernel_rfl)<| fc (by kernel_rfl)<| fc (by kernel_rfl)<| trivial),
  (fc (fc (by kernel_rfl)<| fc (by kernel_rfl)<| fc (by kernel_rfl)<| fc (by kernel_rfl)<| trivial)<| fc (fc (by kernel_rfl)<| fc (by kernel_rfl)<| fc (by kernel_rfl)<| fc (by kernel_rfl)<| trivial)<| fc (fc (by kernel_rfl)<| fc (by kernel_rfl)<| trivial)<| fc (fc (by kernel_rfl)<| fc (by kernel_rfl)<| trivial)<| fc (fc (by kernel_rfl)<| fc (by kernel_rfl)<| fc (by kernel_rfl)<| trivial)<| fc (fc (by kernel_rfl)<| fc (by kernel_rfl)<| fc (by kernel_rfl)<| trivial)<| fc (fc (by kernel_rfl)<| fc (by kernel_rfl)<| trivial)<| fc (fc (by kernel_rfl)<| fc (by kernel_rfl)<| trivial)<| fc (fc (by kernel_rfl)<| fc (by kernel_rfl)<| fc (by kernel_rfl)<| trivial)<| fc (fc (by kernel_rfl)<| fc (by kernel_rfl)<| fc (by kernel_rfl)<| trivial)<| fc (fc (by kernel_rfl)<| fc (by kernel_rfl)<| fc (by kernel_rfl)<| trivial)<| fc (fc (by kernel_rfl)<| fc (by kernel_rfl)<| trivial)<| fc (fc (by kernel_rfl)<| fc (by kernel_rfl)<| fc (by kernel_rfl)<| fc (by kernel_rfl)<| fc (by kernel_rfl)<| fc (by kernel_rfl)<| trivial)<| fc (fc (by kernel_rfl)<| fc (by kernel_rfl)<| fc (by kernel_rfl)<| fc (by kernel_rfl)<| fc (by kernel_rfl)<| fc (by kernel_rfl)<| trivial)<| fc (fc (by kernel_rfl)<| fc (by kernel_rfl)<| fc (by kernel_rfl)<| fc (by kernel_rfl)<| fc (by kernel_rfl)<| fc (by kernel_rfl)<| trivial)<| fc (fc (by kernel_rfl)<| fc (by kernel_rfl)<| fc (by kernel_rfl)<| fc (by kernel_rfl)<| fc (by kernel_rfl)<| fc (by kernel_rfl)<| trivial)<| fc (fc (by kernel_rfl)<| trivial)<| fc (fc (by kernel_rfl)<| trivial)<| fc (trivial)<| fc (trivial)<| trivial),
  (fc (by kernel_rfl)<| fc (by kernel_rfl)<| fc (by kernel_rfl)<| fc (by kernel_rfl)<| fc (by kernel_rfl)<| fc (by kernel_rfl)<| fc (by kernel_rfl)<| fc (by kernel_rfl)<| fc (by kernel_rfl)<| fc (by kernel_rfl)<| fc (by kernel_rfl)<| fc (by kernel_rfl)<| fc (by kernel_rfl)<| fc (by kernel_rfl)<| fc (by kernel_rfl)<| fc (by kernel_rfl)<| fc (by kernel_rfl)<| fc (by kernel_rfl)<| fc (by kernel_rfl)<| fc (by kernel_rfl)<| trivial),
  (fc (by kernel_rfl)<| trivial),
  (fc (by kernel_rfl)<| fc (by kernel_rfl)<| fc (by kernel_rfl)<| trivial),
  (fc (by kernel_rfl)<| fc (by kernel_rfl)<| fc (by kernel_rfl)<| fc (by kernel_rfl)<| fc (by kernel_rfl)<| fc (by kernel_rfl)<| fc (by kernel_rfl)<| fc (by kernel_rfl)<| fc (by kernel_rfl)<| fc (by kernel_rfl)<| fc (by kernel_rfl)<| fc (by kernel_rfl)<| fc (by kernel_rfl)<| fc (by kernel_rfl)<| fc (by kernel_rfl)<| trivial),
  (fc (by kernel_rfl)<| fc (by kernel_rfl)<| trivial)⟩
end Go.Proofs.Ytpoobcnmhnbdlaa
namespace Go.Proofs.Ytpoobcnmhnbdlaa
open Go.ChangeShapes Go.WideShapes Go.ChangeAt Go.RowKit
set_option linter.unusedVariables false
set_option linter.unusedSimpArgs false
set_option maxRecDepth 100000
set_option maxHeartbeats 4000000
abbrev dA (p:AV × List (Nat × Rs)) (t:T):T:= .call p.1 p.2 t
abbrev fN (p:List AV × List (Nat × Rs) × AV × List (Nat × Rs)) (r:List (Nat × Nat)) (t:T):T:= .callx p.1 p.2.1 r p.2.2.1 p.2.2.2 t
theorem yq {p:Prop} [Decidable p] (h:decide p=true):p:=of_decide_eq_true h
theorem nq {p:Prop} [Decidable p] (h:decide p=false): ¬p:=of_decide_eq_false h
abbrev Em {α:Type} (enc:α→List bN) (l:List α) (i:Nat) (P:α→Prop):Prop:=l.map enc=l.map enc∧i<l.length∧ ∀x,l[i]? =some x→P x
abbrev Lm {α:Type} (enc:α→List bN) (l:List α):Prop:=(l.map enc).length=l.length
theorem rdI {w:World} {c:Value} {n:Int} (h:aFT w [c] n):gT (Lv w) w (.int .i64 n) c:=by
 have e:=h.1
 simp at e
 subst e;exact rdV_int
theorem pA {n:Nat} {m:Int} (h: ¬aX n m<0):(n:Int)≤m:=by
 unfold aX at h
 split at h
 ·assumption
 ·omega
theorem pN {n:Nat} {m:Int} (h:aX n m<0): ¬(n:Int)≤m:=by
 unfold aX at h
 split at h
 ·omega
 ·assumption
theorem tS {α:Type} {l:List α} {k:Nat} {x z:α} (h:l[k]? =some x):(l.take k++List.replicate (l.length - k) z).set k x=l.take (k+1)++List.replicate (l.length - (k+1)) z:=by
 have hk:k<l.length:=(List.getElem?_eq_some_iff.1 h).1
 rw [show l.length - k=(l.length - (k+1))+1 by omega,List.replicate_succ,List.set_append_right _ _ (by simp;omega),jA h]
 simp [show k - min k l.length=0 by omega]
theorem wR {α:Type} {l:List α} {k:Nat} {z:α} (h:k≤l.length):(l.take k++List.replicate (l.length - k) z).length=l.length:=by simp;omega
theorem tT {α:Type} {l:List α} {k:Nat} {z:α} (h:k≤l.length) (h' : ¬k<l.length):l.take k++List.replicate (l.length - k) z=l:=by
 rw [show k=l.length by omega];simp
theorem aJz {α:Type} {l:List α} {i:Nat} {x y:α} (h:(l.set i y)[i]? =some x):x=y:=by
 rw [List.getElem?_set_self'] at h
 cases hl:l[i]? with
 | none=>simp [hl] at h
 | some z=>simp [hl] at h;exact h.symm
theorem jV {α:Type} {l:List α} {k:Nat} (h:k<l.length): ∃x,l[k]? =some x:=⟨_,List.getElem?_eq_getElem h⟩
def bD (l:List Int):List bN:=[.sl 3 1 (l.map aG)]
def yS (l:List Int):Prop:= ∀x∈l,Fits x
def bL (l:List Int):Nat:=l.length
theorem aBx (l:List Int):l.length≤bL l:=Nat.le_refl _
def aKA (l:List (List Int)):List bN:=[.sl 22 1 (l.map bD)]
def aCb (l:List (List Int)):Prop:= ∀x∈l,yS x
def gV (l:List (List Int)):Nat:=aCr bL l
theorem aA2 (l:List (List Int)):l.length≤gV l:=aCs _ l
theorem nT {l:List (List Int)} {k:Nat} {y:List Int} (h:l[k]? =some y):bL y≤gV l:=aCt _ h
structure aC where
 num:Int
 den:Int
 deriving DecidableEq
def aA (x:aC):List bN:=[.int .i64 x.num,.int .i64 x.den]
def yD (x:aC):Prop:=Fits x.num∧Fits x.den
def qC (x:aC):Nat:=0
def gL:aC:=⟨(0:Int),(0:Int)⟩
def aD (l:List aC):List bN:=[.sl 28 2 (l.map aA)]
def mB (l:List aC):Prop:= ∀x∈l,yD x
def aV (l:List aC):Nat:=l.length
theorem sY (l:List aC):l.length≤aV l:=Nat.le_refl _
def aDd (l:List (List aC)):List bN:=[.sl 29 1 (l.map aD)]
def pB (l:List (List aC)):Prop:= ∀x∈l,mB x
def bQ (l:List (List aC)):Nat:=aCr aV l
theorem rL (l:List (List aC)):l.length≤bQ l:=aCs _ l
theorem oJ {l:List (List aC)} {k:Nat} {y:List aC} (h:l[k]? =some y):aV y≤bQ l:=aCt _ h
structure ProgramD where
 objective:List Int
 rows:List (List Int)
 limits:List Int
 deriving DecidableEq
def aHU (x:ProgramD):List bN:=[.sl 3 1 (x.objective.map aG),.sl 22 1 (x.rows.map bD),.sl 3 1 (x.limits.map aG)]
def aA3 (x:ProgramD):Prop:=yS x.objective∧aCb x.rows∧yS x.limits
def fB (x:ProgramD):Nat:=bL x.objective+gV x.rows+bL x.limits
structure DictionaryD where
 basic:List Int
 others:List Int
 table:List (List aC)
 limits:List aC
 costs:List aC
 value:aC
 deriving DecidableEq
def aDe (x:DictionaryD):List bN:=[.sl 3 1 (x.basic.map aG),.sl 3 1 (x.others.map aG),.sl 29 1 (x.table.map aD),.sl 28 2 (x.limits.map aA),.sl 28 2 (x.costs.map aA),.int .i64 x.value.num,.int .i64 x.value.den]
def sZ (x:DictionaryD):Prop:=yS x.basic∧yS x.others∧pB x.table∧mB x.limits∧mB x.costs∧yD x.value
def bU (x:DictionaryD):Nat:=bL x.basic+bL x.others+bQ x.table+aV x.limits+aV x.costs
structure fO where
 value:aC
 primal:List aC
 dual:List aC
 deriving DecidableEq
def kW (x:fO):Nat:=aV x.primal+aV x.dual
def cL (n d:Int):Bool:=inB d 1 2147483647&&inB n (-2147483647) 2147483647&&decide (Int.gcd n d=1)
theorem aA4 {n d:Int} (h:cL n d=true):1≤d∧d≤2147483647∧ -2147483647≤n∧n≤2147483647∧Int.gcd n d=1:=by
 simp only [cL,Bool.and_eq_true,decide_eq_true_eq] at h
 obtain ⟨⟨h1,h2⟩,h3⟩:=h
 have:=aCq h1
 have:=aCq h2
 exact ⟨by omega,by omega,by omega,by omega,h3⟩
def bG (n d:Int):Int × Int × Bool:=
 if d=0 then (0,0,false) else
 let n1:=if d<0 then -n else n
 let d1:=if d<0 then -d else d
 let g:Int:=Int.gcd n1 d1
 if cL (n1.tdiv g) (d1.tdiv g)=true then (n1.tdiv g,d1.tdiv g,true) else (0,0,false)
def aCc (a b c d:Int):Int × Int × Bool:=if cL a b=true∧cL c d=true then bG (a*d+c*b) (b*d) else (0,0,false)
def aCd (a b c d:Int):Int × Int × Bool:=if cL a b=true∧cL c d=true then bG (a*d - c*b) (b*d) else (0,0,false)
def aFw (a b c d:Int):Int × Int × Bool:=if cL a b=true∧cL c d=true then bG (a*c) (b*d) else (0,0,false)
def aBT (a b c d:Int):Int × Int × Bool:=if cL a b=true∧cL c d=true then bG (a*d) (b*c) else (0,0,false)
def aHV (a b c d:Int):Int:=if cL a b=true∧cL c d=true then (if a*d<c*b then -1 else if c*b<a*d then 1 else 0) else 0
theorem aDf (x y:Int):Int.gcd y (x.tmod y)=Int.gcd x y:=by
 rw [Int.gcd_comm x y]
 unfold Int.gcd
 rw [Int.natAbs_tmod,Nat.gcd_comm y.natAbs (x.natAbs%y.natAbs),←Nat.gcd_rec]
theorem aIl (x:Int):(Int.gcd x 0:Int)=(if x< -x then -x else x):=by
 rw [Int.gcd_zero_right]
 split<;>omega
theorem wS {x y:Int} (h:y≠0):(x.tmod y).natAbs<y.natAbs:=by
 rw [Int.natAbs_tmod]
 exact Nat.mod_lt _ (by omega)
theorem aA5 {x:Int} {n:Nat} (h:x.natAbs<n) (hn:n≤9223372036854775807): -9223372036854775807≤x∧x≤9223372036854775807:=by omega
theorem aHW (n g:Int) (hn: -9223372036854775807≤n∧n≤9223372036854775807): -9223372036854775807≤n.tdiv g∧n.tdiv g≤9223372036854775807:=by
 have h1:(n.tdiv g).natAbs=n.natAbs/g.natAbs:=Int.natAbs_tdiv n g
 have h2:n.natAbs/g.natAbs≤n.natAbs:=Nat.div_le_self _ _
 omega
theorem kK {n d:Int} (h:d≠0):1≤(Int.gcd n d:Int):=by
 have:0<Int.gcd n d:=Int.gcd_pos_of_ne_zero_right n h
 omega
theorem kO (n:Int):bG n 0=(0,0,false):=by simp [bG]
theorem aFx {n d g:Int} (h:0<d) (hg:g=Int.gcd n d):bG n d=if cL (n.tdiv g) (d.tdiv g)=true then (n.tdiv g,d.tdiv g,true) else (0,0,false):=by
 subst hg
 unfold bG
 rw [if_neg (by omega)]
 simp only [if_neg (show ¬d<0 by omega)]
theorem aFy {n d g:Int} (h:d<0) (hg:g=Int.gcd (-n) (-d)):bG n d=if cL ((-n).tdiv g) ((-d).tdiv g)=true then ((-n).tdiv g,(-d).tdiv g,true) else (0,0,false):=by
 subst hg
 unfold bG
 rw [if_neg (by omega)]
 simp only [if_pos h]
theorem eM {x y:Int} (hx: -2147483647≤x∧x≤2147483647) (hy: -2147483647≤y∧y≤2147483647): -4611686014132420609≤x*y∧x*y≤4611686014132420609:=by
 have h1:(x*y).natAbs=x.natAbs*y.natAbs:=Int.natAbs_mul x y
 have h2:x.natAbs*y.natAbs≤2147483647*2147483647:=Nat.mul_le_mul (by omega) (by omega)
 omega
theorem dF {a b c d:Int} (h:cL a b=false∨cL c d=false):aCc a b c d=(0,0,false):=by rcases h with h | h<;>simp [aCc,h]
theorem fC {a b c d:Int} (h:cL a b=true) (h' :cL c d=true):aCc a b c d=bG (a*d+c*b) (b*d):=by simp [aCc,h,h']
theorem gS {a b c d:Int} (h:cL a b=false∨cL c d=false):aCd a b c d=(0,0,false):=by rcases h with h | h<;>simp [aCd,h]
theorem kE {a b c d:Int} (h:cL a b=true) (h' :cL c d=true):aCd a b c d=bG (a*d - c*b) (b*d):=by simp [aCd,h,h']
theorem dG {a b c d:Int} (h:cL a b=false∨cL c d=false):aFw a b c d=(0,0,false):=by rcases h with h | h<;>simp [aFw,h]
theorem eT {a b c d:Int} (h:cL a b=true) (h' :cL c d=true):aFw a b c d=bG (a*c) (b*d):=by simp [aFw,h,h']
theorem cS {a b c d:Int} (h:cL a b=false∨cL c d=false):aBT a b c d=(0,0,false):=by rcases h with h | h<;>simp [aBT,h]
theorem dZ {a b c d:Int} (h:cL a b=true) (h' :cL c d=true):aBT a b c d=bG (a*d) (b*c):=by simp [aBT,h,h']
theorem gX {a b d:Int}:aBT a b 0 d=(0,0,false):=by unfold aBT;split<;>simp [bG]
theorem gB {a b c d:Int} (h:cL a b=false∨cL c d=false):aHV a b c d=0:=by rcases h with h | h<;>simp [aHV,h]
theorem kF {a b c d:Int} (h:cL a b=true) (h' :cL c d=true):aHV a b c d=if a*d<c*b then -1 else if c*b<a*d then 1 else 0:=by simp [aHV,h,h']
def aT (r:aC):Bool:=cL r.num r.den
def fV (q:Int × Int × Bool):aC × Bool:=(⟨q.1,q.2.1⟩,q.2.2)
def cN (a b:aC):aC × Bool:=fV (aCc a.num a.den b.num b.den)
def fZ (a b:aC):aC × Bool:=fV (aCd a.num a.den b.num b.den)
def bR (a b:aC):aC × Bool:=fV (aFw a.num a.den b.num b.den)
def aQ (a b:aC):aC × Bool:=fV (aBT a.num a.den b.num b.den)
def cG (a b:aC):Int:=aHV a.num a.den b.num b.den
theorem cF {r:aC} (h:aT r=true):1≤r.den∧r.den≤2147483647∧ -2147483647≤r.num∧r.num≤2147483647∧Int.gcd r.num r.den=1:=aA4 h
theorem cX {n d:Int}:Int.gcd ((n.natAbs:Nat):Int) d=Int.gcd n d:=by simp [Int.gcd]
theorem mC {n d:Int}:cL n d=(decide (1≤d∧d≤2147483647)&&(decide (-2147483647≤n∧n≤2147483647)&&decide (((Int.gcd n d:Nat):Int)=1))):=by
 have e:decide (((Int.gcd n d:Nat):Int)=1)=decide (Int.gcd n d=1):=by congr 1;simp;omega
 rw [e]
 simp only [cL,Bool.and_assoc]
 congr 1
 ·simp [inB,Bool.decide_and]
 ·congr 1
  simp [inB,Bool.decide_and]
abbrev jW (n:Int) (a:Int) (c:Int):Prop:=gF Try.prog 54 [.one (.int .i64 n),.one (.int .i64 a),.one (.int .i64 c)] (vB (decide (a≤n∧n≤c))) []
theorem pC (n a c:Int):jW n a c:=by
 refine cT dR bK Try.func54 (by kernel_rfl) (.br (.fin []) (.fin [])) (p:=((decide (a≤n))=true→((decide (n≤c))=(decide (a≤n∧n≤c)))∧True)∧((decide (a≤n))=false→((false)=(decide (a≤n∧n≤c)))∧True)) (by kernel_rfl) ?_
 refine ⟨fun g10=>?_,fun g10=>?_⟩
 ·replace g10:=yq g10
  refine ⟨?_,trivial⟩
  ·first | (simp [*];done) | (simp;omega)
 ·replace g10:=nq g10
  refine ⟨?_,trivial⟩
  ·first | (simp [*];done) | (simp;omega)
abbrev iJ (n:Int) (a:Int) (c:Int):Prop:=gF Try.prog 46 [.one (.int .i64 n),.one (.int .i64 a),.one (.int .i64 c)] (vB (decide (a≤n∧n≤c))) []
theorem mL (n a c:Int):iJ n a c:=by
 refine cT dR bK Try.func46 (by kernel_rfl) (.br (.fin []) (.fin [])) (p:=((decide (a≤n))=true→((decide (n≤c))=(decide (a≤n∧n≤c)))∧True)∧((decide (a≤n))=false→((false)=(decide (a≤n∧n≤c)))∧True)) (by kernel_rfl) ?_
 refine ⟨fun g10=>?_,fun g10=>?_⟩
 ·replace g10:=yq g10
  refine ⟨?_,trivial⟩
  ·first | (simp [*];done) | (simp;omega)
 ·replace g10:=nq g10
  refine ⟨?_,trivial⟩
  ·first | (simp [*];done) | (simp;omega)
abbrev mD (a:Int) (c:Int):Prop:=gF Try.prog 86 [.one (.int .i64 a),.one (.int .i64 c)] (vI ((Int.gcd a c:Nat):Int)) []
theorem tA (a c:Int) (ha: -9223372036854775807≤a∧a≤9223372036854775807) (hc: -9223372036854775807≤c∧c≤9223372036854775807):mD a c:=by
 refine cT dR bK Try.func86 (by kernel_rfl) (.loop (Int × Int) (Q2 Int Int) [0,1,5,6,7,8,9,10] [] (fun yy0=>[(0,vI yy0.1),(1,vI yy0.2)]) (fun yy0=>[]) (fun yy0=>(-9223372036854775807≤yy0.1∧yy0.1≤9223372036854775807)∧(-9223372036854775807≤yy0.2∧yy0.2≤9223372036854775807)∧Int.gcd yy0.1 yy0.2=Int.gcd a c) (fun yy0=>yy0.2.natAbs) (fun yy0=> .br (.back []) (.fin []))) (p:=(∃(x:Int) (y:Int),a=x∧c=y∧(-9223372036854775807≤x∧x≤9223372036854775807)∧(-9223372036854775807≤y∧y≤9223372036854775807)∧Int.gcd x y=Int.gcd a c)∧ ∀(x:Int) (y:Int),((-9223372036854775807≤x∧x≤9223372036854775807)∧(-9223372036854775807≤y∧y≤9223372036854775807)∧Int.gcd x y=Int.gcd a c)→((!(decide (y=(0:Int))))=true→y≠0∧ ∃(x' :Int) (y' :Int),y=x' ∧(Int.tmod x y)=y' ∧((-9223372036854775807≤x' ∧x' ≤9223372036854775807)∧(-9223372036854775807≤y' ∧y' ≤9223372036854775807)∧Int.gcd x' y' =Int.gcd a c)∧y'.natAbs<y.natAbs)∧((!(decide (y=(0:Int))))=false→dN (-x)∧(if x<(-x) then (-x) else x)=((Int.gcd a c:Nat):Int)∧True)) (by kernel_rfl) ?_
 refine ⟨⟨a,c,rfl,rfl,ha,hc,rfl⟩,fun x y ⟨hx,hy,hg⟩=>?_⟩
 refine ⟨fun c0=>?_,fun c0=>?_⟩
 ·replace c0:=nq (nt c0)
  refine ⟨by omega,?_⟩
  exact ⟨y,Int.tmod x y,rfl,rfl,⟨hy,aA5 (wS c0) (by omega),by rw [aDf];exact hg⟩,wS c0⟩
 ·replace c0:=yq (nf c0)
  refine ⟨⟨by omega,by omega⟩,?_,trivial⟩
  ·subst c0;rw [←hg,aIl]
abbrev qR (a:Int) (c:Int):Prop:=gF Try.prog 82 [.one (.int .i64 a),.one (.int .i64 c)] (vI ((Int.gcd a c:Nat):Int)) []
theorem aA6 (a c:Int) (ha:0≤a∧a≤9223372036854775807) (hc:0≤c∧c≤9223372036854775807):qR a c:=by
 refine cT dR bK Try.func82 (by kernel_rfl) (.loop (Int × Int) (Q2 Int Int) [0,1,5,6,7,8,9,10,11,12] [] (fun yy0=>[(0,vI yy0.1),(1,vI yy0.2)]) (fun yy0=>[]) (fun yy0=>(0≤yy0.1∧yy0.1≤9223372036854775807)∧(0≤yy0.2∧yy0.2≤9223372036854775807)∧Int.gcd yy0.1 yy0.2=Int.gcd a c) (fun yy0=>yy0.2.natAbs) (fun yy0=> .br (.back []) (.fin []))) (p:=(∃(x:Int) (y:Int),a=x∧c=y∧(0≤x∧x≤9223372036854775807)∧(0≤y∧y≤9223372036854775807)∧Int.gcd x y=Int.gcd a c)∧ ∀(x:Int) (y:Int),((0≤x∧x≤9223372036854775807)∧(0≤y∧y≤9223372036854775807)∧Int.gcd x y=Int.gcd a c)→((!(decide (y=(0:Int))))=true→y≠0∧ ∃(x' :Int) (y' :Int),y=x' ∧(Int.tmod x y)=y' ∧((0≤x' ∧x' ≤9223372036854775807)∧(0≤y' ∧y' ≤9223372036854775807)∧Int.gcd x' y' =Int.gcd a c)∧y'.natAbs<y.natAbs)∧((!(decide (y=(0:Int))))=false→x=((Int.gcd a c:Nat):Int)∧True)) (by kernel_rfl) ?_
 refine ⟨⟨a,c,rfl,rfl,ha,hc,rfl⟩,fun x y ⟨hx,hy,hg⟩=>?_⟩
 refine ⟨fun c0=>?_,fun c0=>?_⟩
 ·replace c0:=nq (nt c0)
  refine ⟨by omega,?_⟩
  exact ⟨y,Int.tmod x y,rfl,rfl,⟨hy,⟨Int.tmod_nonneg _ hx.1,(aA5 (wS c0) (by omega)).2⟩,by rw [aDf];exact hg⟩,wS c0⟩
 ·replace c0:=yq (nf c0)
  refine ⟨?_,trivial⟩
  ·subst c0;rw [←hg,Int.gcd_zero_right];omega
abbrev qS (n:Int):Prop:=gF Try.prog 83 [.one (.int .i64 n)] (vI ((n.natAbs:Nat):Int)) []
theorem aA7 (n:Int) (hn: -9223372036854775807≤n∧n≤9223372036854775807):qS n:=by
 refine cT dR bK Try.func83 (by kernel_rfl) (.br (.fin []) (.fin [])) (p:=((decide (n<(0:Int)))=true→dN (-n)∧(-n)=((n.natAbs:Nat):Int)∧True)∧((decide (n<(0:Int)))=false→n=((n.natAbs:Nat):Int)∧True)) (by kernel_rfl) ?_
 refine ⟨fun c0=>?_,fun c0=>?_⟩
 ·replace c0:=yq c0
  refine ⟨⟨by omega,by omega⟩,?_,trivial⟩
  ·omega
 ·replace c0:=nq c0
  refine ⟨?_,trivial⟩
  ·omega
abbrev eW (r:aC):Prop:=gF Try.prog 78 [.agg [.int .i64 r.num,.int .i64 r.den]] (vB (aT r)) []
theorem iA (r:aC):eW r:=by
 refine cT dR bK Try.func78 (by kernel_rfl) (.call (vB (decide ((1:Int)≤r.den∧r.den≤(2147483647:Int)))) []<| .br (.call (vB (decide ((-2147483647:Int)≤r.num∧r.num≤(2147483647:Int)))) []<| .lit<| .br (.call (vI ((Int.gcd r.num r.den:Nat):Int)) []<| .fin []) (.fin [])) (.fin [])) (p:=jW r.den (1:Int) (2147483647:Int)∧(((decide ((1:Int)≤r.den∧r.den≤(2147483647:Int)))=true→jW r.num (-2147483647:Int) (2147483647:Int)∧(((decide ((-2147483647:Int)≤r.num∧r.num≤(2147483647:Int)))=true→mD r.num r.den∧(decide (((Int.gcd r.num r.den:Nat):Int)=(1:Int)))=(aT r)∧True)∧((decide ((-2147483647:Int)≤r.num∧r.num≤(2147483647:Int)))=false→(false)=(aT r)∧True)))∧((decide ((1:Int)≤r.den∧r.den≤(2147483647:Int)))=false→(false)=(aT r)∧True))) (by kernel_rfl) ?_
 refine ⟨pC _ _ _,fun g6=>?_,fun g6=>?_⟩
 ·replace g6:=yq g6
  refine ⟨pC _ _ _,fun g11=>?_,fun g11=>?_⟩
  ·replace g11:=yq g11
   refine ⟨tA _ _ (by first | omega | (dsimp only;omega)) (by first | omega | (dsimp only;omega)),?_,trivial⟩
   ·(try rw [cX]);rw [aT,mC];simp [*]
  ·replace g11:=nq g11
   refine ⟨?_,trivial⟩
   ·(try rw [cX]);rw [aT,mC];simp [*]
 ·replace g6:=nq g6
  refine ⟨?_,trivial⟩
  ·(try rw [cX]);rw [aT,mC];simp [*]
abbrev eX (r:aC):Prop:=gF Try.prog 73 [.agg [.int .i64 r.num,.int .i64 r.den]] (vB (aT r)) []
theorem iB (r:aC):eX r:=by
 refine cT dR bK Try.func73 (by kernel_rfl) (.call (vB (decide ((1:Int)≤r.den∧r.den≤(2147483647:Int)))) []<| .br (.call (vB (decide ((-2147483647:Int)≤r.num∧r.num≤(2147483647:Int)))) []<| .lit<| .br (.call (vI ((r.num.natAbs:Nat):Int)) []<| .call (vI ((Int.gcd ((r.num.natAbs:Nat):Int) r.den:Nat):Int)) []<| .fin []) (.fin [])) (.fin [])) (p:=iJ r.den (1:Int) (2147483647:Int)∧(((decide ((1:Int)≤r.den∧r.den≤(2147483647:Int)))=true→iJ r.num (-2147483647:Int) (2147483647:Int)∧(((decide ((-2147483647:Int)≤r.num∧r.num≤(2147483647:Int)))=true→qS r.num∧qR ((r.num.natAbs:Nat):Int) r.den∧(decide (((Int.gcd ((r.num.natAbs:Nat):Int) r.den:Nat):Int)=(1:Int)))=(aT r)∧True)∧((decide ((-2147483647:Int)≤r.num∧r.num≤(2147483647:Int)))=false→(false)=(aT r)∧True)))∧((decide ((1:Int)≤r.den∧r.den≤(2147483647:Int)))=false→(false)=(aT r)∧True))) (by kernel_rfl) ?_
 refine ⟨mL _ _ _,fun g6=>?_,fun g6=>?_⟩
 ·replace g6:=yq g6
  refine ⟨mL _ _ _,fun g11=>?_,fun g11=>?_⟩
  ·replace g11:=yq g11
   refine ⟨aA7 _ (by first | omega | (dsimp only;omega)),aA6 _ _ (by first | omega | (dsimp only;omega)) (by first | omega | (dsimp only;omega)),?_,trivial⟩
   ·(try rw [cX]);rw [aT,mC];simp [*]
  ·replace g11:=nq g11
   refine ⟨?_,trivial⟩
   ·(try rw [cX]);rw [aT,mC];simp [*]
 ·replace g6:=nq g6
  refine ⟨?_,trivial⟩
  ·(try rw [cX]);rw [aT,mC];simp [*]
end Go.Proofs.Ytpoobcnmhnbdlaa
