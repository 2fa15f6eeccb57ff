/-
  Contracts and plain laws, joined: part 4.
-/
import Derived.Test.Ytafmaholhcgakaaer2
import Derived.Laws.Strings
import Derived.IntWalk
namespace Go.Proofs.Ytafmaholhcgakaa
open Go.ChangeShapes Go.WideShapes Go.ChangeAt Go.RowKit
set_option linter.unusedVariables false
set_option linter.unusedSimpArgs false
set_option maxRecDepth 100000
set_option maxHeartbeats 4000000
def tb:Tb:=⟨[(2,(false,1,8,.int .i64 0)),(3,(false,1,8,.int .i64 0)),(4,(false,1,1,.bool false)),(5,(false,1,1,.int .u8 0)),(6,(false,1,1,.int .u8 0)),(7,(true,4,24,.agg #[.int .i64 0,.int .i64 0,.bool false,.int .u8 0])),(8,(true,4,24,.agg #[.int .i64 0,.int .i64 0,.bool false,.int .u8 0])),(9,(false,1,16,.string ByteArray.empty)),(10,(false,1,16,.string ByteArray.empty)),(11,(false,1,16,.string ByteArray.empty)),(12,(false,1,8,.int .u64 0)),(13,(true,2,24,.agg #[.string ByteArray.empty,.int .u64 0])),(14,(true,2,24,.agg #[.string ByteArray.empty,.int .u64 0])),(15,(false,1,8,.pointer none)),(16,(false,1,8,.pointer none)),(17,(false,1,8,.pointer none)),(21,(false,1,4,.int .i32 0)),(22,(false,1,24,.slice none 0 0)),(24,(false,1,24,.slice none 0 0)),(27,(false,1,24,.slice none 0 0)),(28,(false,1,24,.slice none 0 0)),(29,(true,3,72,.agg #[.slice none 0 0,.slice none 0 0,.slice none 0 0])),(30,(true,3,72,.agg #[.slice none 0 0,.slice none 0 0,.slice none 0 0])),(38,(false,1,8,.pointer none)),(41,(true,3,24,.agg #[.int .i64 0,.int .i64 0,.int .i64 0])),(42,(true,3,24,.agg #[.int .i64 0,.int .i64 0,.int .i64 0])),(49,(true,3,40,.agg #[.slice none 0 0,.int .i64 0,.int .i64 0])),(50,(true,3,40,.agg #[.slice none 0 0,.int .i64 0,.int .i64 0])),(51,(false,1,24,.slice none 0 0)),(52,(true,1,24,.agg #[.slice none 0 0])),(53,(true,1,24,.agg #[.slice none 0 0])),(54,(false,1,24,.slice none 0 0)),(55,(true,2,32,.agg #[.int .i64 0,.slice none 0 0])),(56,(true,2,32,.agg #[.int .i64 0,.slice none 0 0])),(57,(false,1,24,.slice none 0 0)),(58,(false,1,24,.slice none 0 0)),(59,(true,5,104,.agg #[.slice none 0 0,.int .i64 0,.slice none 0 0,.slice none 0 0,.slice none 0 0])),(60,(true,5,104,.agg #[.slice none 0 0,.int .i64 0,.slice none 0 0,.slice none 0 0,.slice none 0 0])),(61,(false,1,24,.slice none 0 0)),(62,(true,2,32,.agg #[.int .i64 0,.slice none 0 0])),(63,(true,2,32,.agg #[.int .i64 0,.slice none 0 0])),(75,(false,1,24,.slice none 0 0)),(76,(true,4,56,.agg #[.string ByteArray.empty,.int .i64 0,.int .i64 0,.slice none 0 0])),(77,(true,4,56,.agg #[.string ByteArray.empty,.int .i64 0,.int .i64 0,.slice none 0 0])),(79,(true,2,40,.agg #[.string ByteArray.empty,.slice none 0 0])),(80,(true,2,40,.agg #[.string ByteArray.empty,.slice none 0 0])),(86,(false,1,8,.int .u64 0)),(88,(true,3,48,.agg #[.string ByteArray.empty,.slice none 0 0,.int .i64 0])),(89,(true,3,48,.agg #[.string ByteArray.empty,.slice none 0 0,.int .i64 0])),(92,(true,4,48,.agg #[.string ByteArray.empty,.int .i64 0,.string ByteArray.empty,.int .i64 0])),(93,(true,4,48,.agg #[.string ByteArray.empty,.int .i64 0,.string ByteArray.empty,.int .i64 0])),(98,(false,1,24,.slice none 0 0)),(113,(true,3,48,.agg #[.string ByteArray.empty,.int .i64 0,.slice none 0 0])),(114,(true,3,48,.agg #[.string ByteArray.empty,.int .i64 0,.slice none 0 0])),(144,(true,3,72,.agg #[.slice none 0 0,.slice none 0 0,.slice none 0 0])),(145,(true,3,72,.agg #[.slice none 0 0,.slice none 0 0,.slice none 0 0])),(154,(true,0,0,.agg #[])),(155,(true,0,0,.agg #[])),(157,(false,1,4,.int .u32 0)),(158,(false,1,1,.int .u8 0)),(159,(false,1,1,.int .u8 0)),(161,(false,1,8,.pointer none)),(162,(false,1,4,.int .i32 0)),(163,(false,1,4,.int .i32 0))],
 [(22,5),(24,42),(27,3),(28,27),(51,114),(54,77),(57,89),(58,93),(61,80),(75,145),(98,9)],
 [(7,[(0,(0,2)),(1,(1,3)),(2,(2,4)),(3,(3,6))]),(8,[(0,(0,2)),(1,(1,3)),(2,(2,4)),(3,(3,6))]),(13,[(0,(0,9)),(1,(1,12))]),(14,[(0,(0,9)),(1,(1,12))]),(29,[(0,(0,27)),(1,(1,28)),(2,(2,27))]),(30,[(0,(0,27)),(1,(1,28)),(2,(2,27))]),(41,[(0,(0,3)),(1,(1,3)),(2,(2,3))]),(42,[(0,(0,3)),(1,(1,3)),(2,(2,3))]),(49,[(0,(0,22)),(1,(1,3)),(2,(2,3))]),(50,[(0,(0,22)),(1,(1,3)),(2,(2,3))]),(52,[(0,(0,51))]),(53,[(0,(0,51))]),(55,[(0,(0,3)),(1,(1,54))]),(56,[(0,(0,3)),(1,(1,54))]),(59,[(0,(0,53)),(1,(1,56)),(2,(3,57)),(3,(4,58))]),(60,[(0,(0,53)),(1,(1,56)),(2,(3,57)),(3,(4,58))]),(62,[(0,(0,3)),(1,(1,61))]),(63,[(0,(0,3)),(1,(1,61))]),(76,[(0,(0,9)),(1,(1,3)),(2,(2,3)),(3,(3,75))]),(77,[(0,(0,9)),(1,(1,3)),(2,(2,3)),(3,(3,75))]),(79,[(0,(0,9)),(1,(1,27))]),(80,[(0,(0,9)),(1,(1,27))]),(88,[(0,(0,9)),(1,(1,27)),(2,(2,3))]),(89,[(0,(0,9)),(1,(1,27)),(2,(2,3))]),(92,[(0,(0,9)),(1,(1,3)),(2,(2,9)),(3,(3,3))]),(93,[(0,(0,9)),(1,(1,3)),(2,(2,9)),(3,(3,3))]),(113,[(0,(0,9)),(1,(1,3)),(2,(2,28))]),(114,[(0,(0,9)),(1,(1,3)),(2,(2,28))]),(144,[(0,(0,27)),(1,(1,28)),(2,(2,27))]),(145,[(0,(0,27)),(1,(1,28)),(2,(2,27))]),(154,[]),(155,[])],
 [(7,(.agg #[.int .i64 0,.int .i64 0,.bool false,.int .u8 0],[(0,1),(1,1),(2,1),(3,1)])),(8,(.agg #[.int .i64 0,.int .i64 0,.bool false,.int .u8 0],[(0,1),(1,1),(2,1),(3,1)])),(13,(.agg #[.string ByteArray.empty,.int .u64 0],[(0,1),(1,1)])),(14,(.agg #[.string ByteArray.empty,.int .u64 0],[(0,1),(1,1)])),(29,(.agg #[.slice none 0 0,.slice none 0 0,.slice none 0 0],[(0,1),(1,1),(2,1)])),(30,(.agg #[.slice none 0 0,.slice none 0 0,.slice none 0 0],[(0,1),(1,1),(2,1)])),(41,(.agg #[.int .i64 0,.int .i64 0,.int .i64 0],[(0,1),(1,1),(2,1)])),(42,(.agg #[.int .i64 0,.int .i64 0,.int .i64 0],[(0,1),(1,1),(2,1)])),(49,(.agg #[.slice none 0 0,.int .i64 0,.int .i64 0],[(0,1),(1,1),(2,1)])),(50,(.agg #[.slice none 0 0,.int .i64 0,.int .i64 0],[(0,1),(1,1),(2,1)])),(52,(.agg #[.slice none 0 0],[(0,1)])),(53,(.agg #[.slice none 0 0],[(0,1)])),(55,(.agg #[.int .i64 0,.slice none 0 0],[(0,1),(1,1)])),(56,(.agg #[.int .i64 0,.slice none 0 0],[(0,1),(1,1)])),(59,(.agg #[.slice none 0 0,.int .i64 0,.slice none 0 0,.slice none 0 0,.slice none 0 0],[(0,1),(1,2),(3,1),(4,1)])),(60,(.agg #[.slice none 0 0,.int .i64 0,.slice none 0 0,.slice none 0 0,.slice none 0 0],[(0,1),(1,2),(3,1),(4,1)])),(62,(.agg #[.int .i64 0,.slice none 0 0],[(0,1),(1,1)])),(63,(.agg #[.int .i64 0,.slice none 0 0],[(0,1),(1,1)])),(76,(.agg #[.string ByteArray.empty,.int .i64 0,.int .i64 0,.slice none 0 0],[(0,1),(1,1),(2,1),(3,1)])),(77,(.agg #[.string ByteArray.empty,.int .i64 0,.int .i64 0,.slice none 0 0],[(0,1),(1,1),(2,1),(3,1)])),(79,(.agg #[.string ByteArray.empty,.slice none 0 0],[(0,1),(1,1)])),(80,(.agg #[.string ByteArray.empty,.slice none 0 0],[(0,1),(1,1)])),(88,(.agg #[.string ByteArray.empty,.slice none 0 0,.int .i64 0],[(0,1),(1,1),(2,1)])),(89,(.agg #[.string ByteArray.empty,.slice none 0 0,.int .i64 0],[(0,1),(1,1),(2,1)])),(92,(.agg #[.string ByteArray.empty,.int .i64 0,.string ByteArray.empty,.int .i64 0],[(0,1),(1,1),(2,1),(3,1)])),(93,(.agg #[.string ByteArray.empty,.int .i64 0,.string ByteArray.empty,.int .i64 0],[(0,1),(1,1),(2,1),(3,1)])),(113,(.agg #[.string ByteArray.empty,.int .i64 0,.slice none 0 0],[(0,1),(1,1),(2,1)])),(114,(.agg #[.string ByteArray.empty,.int .i64 0,.slice none 0 0],[(0,1),(1,1),(2,1)])),(144,(.agg #[.slice none 0 0,.slice none 0 0,.slice none 0 0],[(0,1),(1,1),(2,1)])),(145,(.agg #[.slice none 0 0,.slice none 0 0,.slice none 0 0],[(0,1),(1,1),(2,1)])),(154,(.agg #[],[(0,0)])),(155,(.agg #[],[(0,0)]))],
 [(4,())],
 [(9,()),(10,()),(11,())],
 [(2,.i64),(3,.i64),(5,.u8),(6,.u8),(12,.u64),(21,.i32),(86,.u64),(157,.u32),(158,.u8),(159,.u8),(162,.i32),(163,.i32)],
 [(42,[0,0,0]),(93,[2,0,2,0])]⟩
theorem fc {α:Type}{p:Nat->α->Prop}{k:Nat}{v:α}{l:List (Nat × α)}(h:p k v)(t:mC p l):mC p ((k,v)::l):=⟨h,t⟩
theorem aMb:Try.prog.follows .mixedOrders=true:=by kernel_rfl
set_option maxRecDepth 100000 in
theorem aRg:iU Try.prog tb:=
 by
 refine⟨?_,?_,?_,?_,?_,?_,?_,?_⟩<;>repeat' (first|refine fc ?_ ?_|exact trivial|kernel_rfl)
end Go.Proofs.Ytafmaholhcgakaa
namespace Go.Proofs.Ytafmaholhcgakaa
open Go.ChangeShapes Go.WideShapes Go.ChangeAt Go.RowKit
set_option linter.unusedVariables false
set_option linter.unusedSimpArgs false
set_option maxRecDepth 100000
set_option maxHeartbeats 4000000
abbrev dT (p:AV × List (Nat × Rs))(t:T):T:= .call p.1 p.2 t
abbrev aMc (p:List AV × List (Nat × Rs) × AV × List (Nat × Rs))(r:List (Nat × Nat))(t:T):T:= .callx p.1 p.2.1 r p.2.2.1 p.2.2.2 t
abbrev aQ (p:List AV × List (Nat × Rs) × AV × List (Nat × Rs))(r:List (Nat × Nat))(t:T):T:= .callxs p.1 p.2.1 r p.2.2.1 p.2.2.2 t
abbrev rg (a n:Nat):List Nat:=List.range' a n
abbrev Br (p:Prop)[Decidable p](X Y:Prop):Prop:=(decide p=true->X)/\(decide p=false->Y)
abbrev Nb (p:Prop)[Decidable p](X Y:Prop):Prop:=((!decide p)=true->X)/\((!decide p)=false->Y)
abbrev Bb (b:Bool)(X Y:Prop):Prop:=(b=true->X)/\(b=false->Y)
abbrev Nr (b:Bool)(X Y:Prop):Prop:=((!b)=true->X)/\((!b)=false->Y)
theorem dd {p:Prop}[Decidable p]{X Y:Prop}(hx:p->X)(hy: ¬p->Y):Br p X Y:=⟨fun h=>hx (of_decide_eq_true h),fun h=>hy (of_decide_eq_false h)⟩
theorem dn {p:Prop}[Decidable p]{X Y:Prop}(hx: ¬p->X)(hy:p->Y):Nb p X Y:=⟨fun h=>hx (of_decide_eq_false (nt h)),fun h=>hy (of_decide_eq_true (nf h))⟩
theorem db {b:Bool}{X Y:Prop}(hx:b=true->X)(hy:b=false->Y):Bb b X Y:=⟨hx,hy⟩
theorem dm {b:Bool}{X Y:Prop}(hx:b=false->X)(hy:b=true->Y):Nr b X Y:=⟨fun h=>hx (nt h),fun h=>hy (nf h)⟩
abbrev Lx {α:Type}(l:List α)(A:Prop):Prop:=l.length<=9223372036854775807->A
theorem lx {α β:Type}{f:α->β}{l:List α}{A:Prop}(h:l.length<=9223372036854775807->A):Lx (l.map f) A:=fun q=>h (by simpa using q)
abbrev Cn (f:FuncId)(args:List Ar)(rv:AV)(rr:List (Nat × Rs)):Prop:=Con Try.prog f args rv rr
abbrev Cm (f:FuncId)(args:List AV)(ri:List (Nat × Rs))(rv:AV)(ro:List (Nat × Rs)):Prop:=aG2 Try.prog f args ri rv ro
theorem cq {f:FuncId}{fn:Func}{args:List Ar}{rv:AV}{rr:List (Nat × Rs)}(hf:Try.prog.funcs[f]? =some fn)(t:T){p:Prop}(h:(match aDp fn args.length with | true=>aJZ Try.prog tb fn args rv rr t | false=>False)=p)(hp:p):Con Try.prog f args rv rr:=by
 cases hc:aDp fn args.length with
 | true=>rw[hc] at h;exact aRe aRg aMb hf hc t h hp
 | false=>rw[hc] at h;rw[<-h] at hp;exact hp.elim
theorem cqx {f:FuncId}{fn:Func}{args:List AV}{ri:List (Nat × Rs)}{rv:AV}{ro:List (Nat × Rs)}(hf:Try.prog.funcs[f]? =some fn)(t:T){p:Prop}(h:(match aDp fn args.length&&ri.all fun q=>Nat.blt q.1 100 with | true=>aJ0 Try.prog tb fn args ri rv ro t | false=>False)=p)(hp:p):aG2 Try.prog f args ri rv ro:=by
 cases hc:(aDp fn args.length&&ri.all fun q=>Nat.blt q.1 100) with
 | true=>rw[hc] at h;rw[aA1] at hc;exact aRA aRg aMb hf hc.1 hc.2 t h hp
 | false=>rw[hc] at h;rw[<-h] at hp;exact hp.elim
abbrev Em {α:Type}(enc:α->List bF)(l:List α)(i:Nat)(P:α->Prop):Prop:=l.map enc=l.map enc/\i<l.length/\ ∀x,l[i]? =some x->P x
abbrev Lm {α:Type}(enc:α->List bF)(l:List α):Prop:=(l.map enc).length=l.length
abbrev Ap {α:Type}(enc:α->List bF)(l m:List α)(n:Nat)(R:Prop):Prop:=l.map enc=l.map enc/\m.map enc=m.map enc/\(∀x,lS (enc x)=true)/\(l.length+m.length)*n<=140737488355328/\R
theorem ap {α:Type}{enc:α->List bF}{l m:List α}{n:Nat}{R:Prop}(r:R)(hf: ∀x,lS (enc x)=true)(h:(l.length+m.length)*n<=140737488355328):Ap enc l m n R:=⟨rfl,rfl,hf,h,r⟩
def eT (s:ByteArray):List bF:=[.str s]
theorem rdOne {A:Nat->Prop}{w:World}{d:bF}{v:Value}(h:jW A w [d] [v]):fZ A w d v:=by
 obtain⟨u,us,e,h1,_⟩:=h;injection e with e1
 subst e1;exact h1
theorem jJ {α:Type}{l:List α}{k:Nat}(h:k<l.length): ∃x,l[k]? =some x:=⟨_,aBM h⟩
def aD (l:List Int):List bF:=[.sl 3 1 (l.map aC)]
def dW (l:List Int):Nat:=l.length
def cS (l:List (List Int)):Nat:=kX dW l
theorem iY (l:List (List Int)):l.length<=cS l:=tA _ l
theorem aK8 {l:List (List Int)}{k:Nat}{y:List Int}(h:l[k]? =some y):dW y<=cS l:=qG _ h
structure bA where
 name:ByteArray
 arity:Int
 rows:List (List Int)
 deriving DecidableEq
def aM (x:bA):List bF:=[.str x.name,.int .i64 x.arity,.sl 27 1 (x.rows.map aD)]
def gZ (x:bA):Nat:=ByteArray.size x.name+cS x.rows
def oM:bA:=⟨ByteArray.empty,(0:Int),[]⟩
def yT (l:List bA):Nat:=kX gZ l
theorem aGd (l:List bA):l.length<=yT l:=tA _ l
theorem aC0 {l:List bA}{k:Nat}{y:bA}(h:l[k]? =some y):gZ y<=yT l:=qG _ h
structure aO where
 tables:List bA
 deriving DecidableEq
def cT (x:aO):Nat:=yT x.tables
def aK9:aO:=⟨[]⟩
structure bX where
 name:ByteArray
 vars:List Int
 deriving DecidableEq
def bD (x:bX):List bF:=[.str x.name,.sl 3 1 (x.vars.map aC)]
def lT (x:bX):Nat:=ByteArray.size x.name+dW x.vars
def jM:bX:=⟨ByteArray.empty,[]⟩
def kH (l:List bX):Nat:=kX lT l
theorem aE3 {l:List bX}{k:Nat}{y:bX}(h:l[k]? =some y):lT y<=kH l:=qG _ h
structure aX where
 variableCount:Int
 atoms:List bX
 deriving DecidableEq
def rS (x:aX):Nat:=kH x.atoms
def wZ:aX:=⟨(0:Int),[]⟩
structure bG where
 columns:List Int
 values:List (List Int)
 counts:List Int
 deriving DecidableEq
def aJ (x:bG):List bF:=[.sl 3 1 (x.columns.map aC),.sl 27 1 (x.values.map aD),.sl 3 1 (x.counts.map aC)]
def gL (x:bG):Nat:=dW x.columns+cS x.values+dW x.counts
def aAl:bG:=⟨[],[],[]⟩
def iG (l:List bG):Nat:=kX gL l
theorem mH (l:List bG):l.length<=iG l:=tA _ l
theorem kC {l:List bG}{k:Nat}{y:bG}(h:l[k]? =some y):gL y<=iG l:=qG _ h
structure aL where
 name:ByteArray
 arity:Int
 rowCount:Int
 groups:List bG
 deriving DecidableEq
def aH (x:aL):List bF:=[.str x.name,.int .i64 x.arity,.int .i64 x.rowCount,.sl 145 3 (x.groups.map aJ)]
def cO (x:aL):Nat:=ByteArray.size x.name+iG x.groups
def pK:aL:=⟨ByteArray.empty,(0:Int),(0:Int),[]⟩
def fS (l:List aL):Nat:=kX cO l
theorem nP {l:List aL}{k:Nat}{y:aL}(h:l[k]? =some y):cO y<=fS l:=qG _ h
structure dY where
 version:Int
 tables:List aL
 deriving DecidableEq
def dP (x:dY):Nat:=fS x.tables
def xA:dY:=⟨(0:Int),[]⟩
structure aW where
 name:ByteArray
 src:List Int
 dst:Int
 deriving DecidableEq
def aI (x:aW):List bF:=[.str x.name,.sl 3 1 (x.src.map aC),.int .i64 x.dst]
def fV (x:aW):Nat:=ByteArray.size x.name+dW x.src
def cI (l:List aW):Nat:=kX fV l
theorem qQ (l:List aW):l.length<=cI l:=tA _ l
theorem aBW {l:List aW}{k:Nat}{y:aW}(h:l[k]? =some y):fV y<=cI l:=qG _ h
structure bC where
 name:ByteArray
 column:Int
 into:ByteArray
 intoColumn:Int
 deriving DecidableEq
def aP (x:bC):List bF:=[.str x.name,.int .i64 x.column,.str x.into,.int .i64 x.intoColumn]
def iZ (x:bC):Nat:=ByteArray.size x.name+ByteArray.size x.into
def cY (l:List bC):Nat:=kX iZ l
theorem iJ (l:List bC):l.length<=cY l:=tA _ l
structure dE where
 database:aO
 catalogue:dY
 dependencies:List aW
 inclusions:List bC
 deriving DecidableEq
def iH (x:dE):Nat:=cT x.database+dP x.catalogue+cI x.dependencies+cY x.inclusions
def aMd:dE:=⟨aK9,xA,[],[]⟩
structure aF where
 src:Int
 dst:Int
 bits:Int
 deriving DecidableEq
def aE (x:aF):List bF:=[.int .i64 x.src,.int .i64 x.dst,.int .i64 x.bits]
def aBX (x:aF):Prop:=aFv x.src/\aFv x.dst/\aFv x.bits
def aBY:aF:=⟨(0:Int),(0:Int),(0:Int)⟩
def fX (l:List aF):Prop:= ∀x∈l,aBX x
structure cZ where
 objective:List Int
 rows:List (List Int)
 limits:List Int
 deriving DecidableEq
def yU (x:cZ):Nat:=dW x.objective+cS x.rows+dW x.limits
def oN:cZ:=⟨[],[],[]⟩
theorem qF (s t:ByteArray):(s.toList==t.toList)=decide (s=t):=by
 rw[ByteArray.toList_eq,ByteArray.toList_eq];by_cases h:s=t
 ·simp[h]
 have: ¬s.data.toList=t.data.toList:=fun e=>h (by cases s;cases t;simp at e;simp[e]);simp only[h,decide_false,beq_eq_false_iff_ne];exact this
theorem aAR {α:Type}{l m:List α}{k:Nat}{x:α}(h:l[k]? =some x)(h' :m[k]? =some x)(e:l.take k=m.take k):l.take (k+1)=m.take (k+1):=by rw[bQ h,bQ h',e]
theorem aAS {α:Type}{l m:List α}{k:Nat}(hk:l.length<=k)(hl:l.length=m.length)(e:l.take k=m.take k):l=m:=by rwa [aCu hk,aCu (by omega)] at e
theorem lC (a b:aL):decide (a=b)=(decide (a.name=b.name)&&(decide (a.arity=b.arity)&&(decide (a.rowCount=b.rowCount)&&decide (a.groups=b.groups)))):=by
 obtain⟨a0,a1,a2,a3⟩:=a;obtain⟨b0,b1,b2,b3⟩:=b;simp[Bool.and_assoc]
theorem wF (a b:dY):decide (a=b)=(decide (a.version=b.version)&&decide (a.tables=b.tables)):=by
 obtain⟨a0,a1⟩:=a;obtain⟨b0,b1⟩:=b;simp[Bool.and_assoc]
def cM:List Int->List Int->Int
 | [],[]=>0
 | [],_::_=> -1
 | _::_,[]=>1
 | a::l,b::m=>if a<b then -1 else if b<a then 1 else cM l m
theorem dU: ∀{l m:List Int},cM l m=0↔l=m
 | [],[]=>by simp[cM]
 | [],_::_=>by simp[cM]
 | _::_,[]=>by simp[cM]
 | a::l,b::m=>by
   unfold cM;split
   ·simp;omega
   split
   ·simp;omega
   rw[dU];have:a=b:=by omega
   simp[this]
theorem nV {α:Type}{l:List α}{k:Nat}{x:α}(h:l[k]? =some x):l.drop k=x::l.drop (k+1):=by
 obtain⟨hk,rfl⟩:=aBa.1 h;exact List.drop_eq_getElem_cons hk
theorem uA {α:Type}{l:List α}{k:Nat}(h:l.length<=k):l.drop k= []:=List.drop_eq_nil_of_le h
theorem oA {l m:List Int}{k:Nat}(hk:k<=l.length/\k<=m.length)(hs: ¬k<l.length\/ ¬k<m.length):cM (l.drop k) (m.drop k)=if l.length<m.length then -1 else if m.length<l.length then 1 else 0:=by
 by_cases h1:k<l.length
 ·obtain⟨x,hx⟩:=jJ h1;rw[nV hx,uA (l:=m) (by omega),cM,if_neg (by omega),if_pos (by omega)]
 rw[uA (l:=l) (by omega)];by_cases h2:k<m.length
 ·obtain⟨x,hx⟩:=jJ h2;rw[nV hx,cM,if_pos (by omega)]
 rw[uA (l:=m) (by omega),cM,if_neg (by omega),if_neg (by omega)]
abbrev eK (l:List Int)(m:List Int):Prop:=Cn 86 [.one (.sl 3 1 (l.map aC)),.one (.sl 3 1 (m.map aC))] (vI (cM l m)) []
theorem gM (l m:List Int):eK l m:=by
 refine cq Try.func86 (.loop Nat (Q1 Nat) (rg 5 31) [] (fun k=>[(5,vI (k:Int))]) (fun k=>[]) (fun k=>(k<=l.length/\k<=m.length)/\cM (l.drop k) (m.drop k)=cM l m) (fun k=>l.length - k) (fun k=> .len l.length<| .br (.len m.length<| .lit<| .lit<| .br (.elem _ aC l (fun e20=> .elem _ aC m (fun e24=> .br (.fin []) (.elem _ aC l (fun e29=> .elem _ aC m (fun e33=> .br (.fin []) (.back []))))))) (.len l.length<| .len m.length<| .br (.fin []) (.len l.length<| .len m.length<| .br (.fin []) (.fin [])))) (.len l.length<| .len m.length<| .br (.fin []) (.len l.length<| .len m.length<| .br (.fin []) (.fin []))))) (p:=Lx (l.map aC)<| Lx (m.map aC)<| (∃(k:Nat),0=(k:Int)/\(k<=l.length/\k<=m.length)/\cM (l.drop k) (m.drop k)=cM l m)/\ ∀(k:Nat),((k<=l.length/\k<=m.length)/\cM (l.drop k) (m.drop k)=cM l m)->Lm aC l/\Br ((k:Int)<(l.length:Int)) (Lm aC m/\Br ((k:Int)<(m.length:Int)) (0<=(k:Int)/\Em aC l k fun e20=>0<=(k:Int)/\Em aC m k fun e24=>Br (e20<e24) ((-1:Int)=(cM l m)/\True) (0<=(k:Int)/\Em aC l k fun e29=>0<=(k:Int)/\Em aC m k fun e33=>Br (e33<e29) (1=(cM l m)/\True) (bS ((k:Int)+1)/\ ∃(k' :Nat),((k:Int)+1)=(k' :Int)/\((k' <=l.length/\k' <=m.length)/\cM (l.drop k') (m.drop k')=cM l m)/\l.length - k' <l.length - k))) (Lm aC l/\Lm aC m/\Br ((l.length:Int)<(m.length:Int)) ((-1:Int)=(cM l m)/\True) (Lm aC l/\Lm aC m/\Br ((m.length:Int)<(l.length:Int)) (1=(cM l m)/\True) (0=(cM l m)/\True)))) (Lm aC l/\Lm aC m/\Br ((l.length:Int)<(m.length:Int)) ((-1:Int)=(cM l m)/\True) (Lm aC l/\Lm aC m/\Br ((m.length:Int)<(l.length:Int)) (1=(cM l m)/\True) (0=(cM l m)/\True)))) (by kernel_rfl) ?_;refine lx fun n0=>lx fun n1=>?_;refine⟨⟨0,rfl,⟨aAc _,aAc _⟩,rfl⟩,fun k ⟨hk,hv⟩=>?_⟩;refine⟨aA0 _,dd (fun g10=>?_) fun g10=>?_⟩
 ·refine⟨aA0 _,dd (fun c0=>?_) fun c0=>?_⟩
  ·obtain⟨x,hx⟩:=jJ (l:=l) (k:=k) (by omega);obtain⟨y,hy⟩:=jJ (l:=m) (k:=k) (by omega);have hd:cM l m=if x<y then -1 else if y<x then 1 else cM (l.drop (k+1)) (m.drop (k+1)):=by rw[<-hv,nV hx,nV hy,cM]
   refine⟨by omega,rfl,by omega,fun e20 h20=>?_⟩;obtain rfl:=(bE hx h20).symm;refine⟨by omega,rfl,by omega,fun e24 h24=>?_⟩;obtain rfl:=(bE hy h24).symm;refine dd (fun c1=>?_) fun c1=>?_
   ·apply et1
    ·(rw[hd,if_pos c1];done)
   ·refine⟨by omega,rfl,by omega,fun e29 h29=>?_⟩;obtain rfl:=(bE hx h29).symm;refine⟨by omega,rfl,by omega,fun e33 h33=>?_⟩;obtain rfl:=(bE hy h33).symm;refine dd (fun c2=>?_) fun c2=>?_
    ·apply et1
     ·(rw[hd,if_neg c1,if_pos c2];done)
    ·refine⟨⟨by omega,by omega⟩,?_⟩;exact⟨k+1,rfl,⟨by omega,by rw[hd,if_neg c1,if_neg c2]⟩,by omega⟩
  ·refine⟨aA0 _,aA0 _,dd (fun c3=>?_) fun c3=>?_⟩
   ·apply et1
    ·(rw[<-hv,oA hk (by omega),if_pos (by omega)];done)
   ·refine⟨aA0 _,aA0 _,dd (fun c4=>?_) fun c4=>?_⟩
    ·apply et1
     ·(rw[<-hv,oA hk (by omega),if_neg (by omega),if_pos (by omega)];done)
    ·apply et1
     ·(rw[<-hv,oA hk (by omega),if_neg (by omega),if_neg (by omega)];done)
 ·refine⟨aA0 _,aA0 _,dd (fun c3=>?_) fun c3=>?_⟩
  ·apply et1
   ·(rw[<-hv,oA hk (by omega),if_pos (by omega)];done)
  ·refine⟨aA0 _,aA0 _,dd (fun c4=>?_) fun c4=>?_⟩
   ·apply et1
    ·(rw[<-hv,oA hk (by omega),if_neg (by omega),if_pos (by omega)];done)
   ·apply et1
    ·(rw[<-hv,oA hk (by omega),if_neg (by omega),if_neg (by omega)];done)
theorem aRB {x y:bG}(h1:x.columns=y.columns)(h2:x.values=y.values)(h3:x.counts=y.counts):x=y:=by
 obtain⟨a,b,c⟩:=x;obtain⟨d,e,f⟩:=y;simp at h1 h2 h3;subst h1 h2 h3;rfl
abbrev oO (a:aL)(b:aL):Prop:=Cn 79 [.agg [.str a.name,.int .i64 a.arity,.int .i64 a.rowCount,.sl 145 3 (a.groups.map aJ)],.agg [.str b.name,.int .i64 b.arity,.int .i64 b.rowCount,.sl 145 3 (b.groups.map aJ)]] (vB (decide (a=b))) []
theorem yV (a b:aL)(ha:cO a<=1048576):oO a b:=by
 refine cq Try.func79 (.br (.fin []) (.lit<| .lit<| .lit<| .lit<| .lit<| .br (.fin []) (.lit<| .lit<| .lit<| .lit<| .lit<| .br (.fin []) (.len a.groups.length<| .len b.groups.length<| .lit<| .lit<| .br (.fin []) (.loop Nat (Q1 Nat) ([5,6,7,8]++rg 37 59) [600,700] (fun i=>[(5,vI (i:Int))]) (fun i=>[]) (fun i=>i<=a.groups.length/\a.groups.take i=b.groups.take i) (fun i=>a.groups.length - i) (fun i=> .len a.groups.length<| .br (.elem _ aJ a.groups (fun e47=> .elem _ aJ b.groups (fun e52=> .call (vI (cM e47.columns e52.columns)) []<| .br (.fin []) (.call (vI (cM e47.counts e52.counts)) []<| .lit<| .lit<| .br (.fin []) (.len e47.values.length<| .len e52.values.length<| .lit<| .lit<| .br (.fin []) (.loop Nat (Q1 Nat) ([8]++rg 77 19) [] (fun k=>[(8,vI (k:Int))]) (fun k=>[]) (fun k=>k<=e47.values.length/\e47.values.take k=e52.values.take k) (fun k=>e47.values.length - k) (fun k=> .len e47.values.length<| .br (.elem _ aD e47.values (fun e87=> .elem _ aD e52.values (fun e92=> .call (vI (cM e87 e92)) []<| .br (.fin []) (.back [])))) (.back [])))))))) (.fin []))))))) (p:=Lx (a.groups.map aJ)<| Lx (b.groups.map aJ)<| Nr (a.name.toList==b.name.toList) ((false)=(decide (a=b))/\True) (Nb (a.arity=b.arity) ((false)=(decide (a=b))/\True) (Nb (a.rowCount=b.rowCount) ((false)=(decide (a=b))/\True) (Lm aJ a.groups/\(Lm aJ b.groups/\Nb ((a.groups.length:Int)=(b.groups.length:Int)) ((false)=(decide (a=b))/\True) ((∃(i:Nat),0=(i:Int)/\i<=a.groups.length/\a.groups.take i=b.groups.take i)/\ ∀(i:Nat),(i<=a.groups.length/\a.groups.take i=b.groups.take i)->Lm aJ a.groups/\Br ((i:Int)<(a.groups.length:Int)) (0<=(i:Int)/\Em aJ a.groups i fun e47=>0<=(i:Int)/\Em aJ b.groups i fun e52=>eK e47.columns e52.columns/\Nb ((cM e47.columns e52.columns)=0) ((false)=(decide (a=b))/\True) (eK e47.counts e52.counts/\Nb ((cM e47.counts e52.counts)=0) ((false)=(decide (a=b))/\True) (Lm aD e47.values/\(Lm aD e52.values/\Nb ((e47.values.length:Int)=(e52.values.length:Int)) ((false)=(decide (a=b))/\True) ((∃(k:Nat),0=(k:Int)/\k<=e47.values.length/\e47.values.take k=e52.values.take k)/\ ∀(k:Nat),(k<=e47.values.length/\e47.values.take k=e52.values.take k)->Lm aD e47.values/\Br ((k:Int)<(e47.values.length:Int)) (0<=(k:Int)/\Em aD e47.values k fun e87=>0<=(k:Int)/\Em aD e52.values k fun e92=>eK e87 e92/\Nb ((cM e87 e92)=0) ((false)=(decide (a=b))/\True) (bS ((k:Int)+1)/\ ∃(k' :Nat),((k:Int)+1)=(k' :Int)/\(k' <=e47.values.length/\e47.values.take k' =e52.values.take k')/\e47.values.length - k' <e47.values.length - k)) (bS ((i:Int)+1)/\ ∃(i' :Nat),((i:Int)+1)=(i' :Int)/\(i' <=a.groups.length/\a.groups.take i' =b.groups.take i')/\a.groups.length - i' <a.groups.length - i)))))) ((true)=(decide (a=b))/\True))))))) (by kernel_rfl) ?_;refine lx fun n0=>lx fun n1=>?_;refine dm (fun g14=>?_) fun g14=>?_
 ·apply et1
  ·(rw[lC];simp_all [qF];done)
 ·refine dn (fun g21=>?_) fun g21=>?_
  ·apply et1
   ·(rw[lC];simp_all [qF];done)
  ·refine dn (fun g28=>?_) fun g28=>?_
   ·apply et1
    ·(rw[lC];simp_all [qF];done)
   ·refine⟨aA0 _,aA0 _,dn (fun c0=>?_) fun c0=>?_⟩
    ·have hne: ¬a=b:=fun e=>c0 (by rw[e]);apply et1
     ·(simp[hne];done)
    ·have hl:a.groups.length=b.groups.length:=by omega
     refine⟨⟨0,rfl,aAc _,rfl⟩,fun i ⟨hi,ht⟩=>?_⟩;refine⟨aA0 _,dd (fun c1=>?_) fun c1=>?_⟩
     ·refine⟨by omega,rfl,by omega,fun e47 h47=>?_⟩;have q1:=kC h47;have q2:cO a=a.name.size+iG a.groups:=rfl;have q3:gL e47=dW e47.columns+cS e47.values+dW e47.counts:=rfl;have q4:=iY e47.values;refine⟨by omega,rfl,by omega,fun e52 h52=>?_⟩;refine⟨gM _ _,dn (fun g60=>?_) fun g60=>?_⟩
      ·have hne: ¬a=b:=fun e=>by subst e;have q:=bE h47 h52;subst q;exact g60 (dU.2 rfl)
       apply et1
       ·(simp[hne];done)
      ·refine⟨gM _ _,dn (fun g68=>?_) fun g68=>?_⟩
       ·have hne: ¬a=b:=fun e=>by subst e;have q:=bE h47 h52;subst q;exact g68 (dU.2 rfl)
        apply et1
        ·(simp[hne];done)
       ·refine⟨aA0 _,aA0 _,dn (fun c2=>?_) fun c2=>?_⟩
        ·have hne: ¬a=b:=fun e=>by subst e;have q:=bE h47 h52;subst q;exact c2 rfl
         apply et1
         ·(simp[hne];done)
        ·refine⟨⟨0,rfl,aAc _,rfl⟩,fun k ⟨hk,hv⟩=>?_⟩;refine⟨aA0 _,dd (fun c3=>?_) fun c3=>?_⟩
         ·refine⟨by omega,rfl,by omega,fun e87 h87=>?_⟩;refine⟨by omega,rfl,by omega,fun e92 h92=>?_⟩;refine⟨gM _ _,dn (fun c4=>?_) fun c4=>?_⟩
          ·have hne: ¬a=b:=fun e=>by subst e;have q:=bE h47 h52;subst q;have q:=bE h87 h92;subst q;exact c4 (dU.2 rfl)
           apply et1
           ·(simp[hne];done)
          ·refine⟨⟨by omega,by omega⟩,?_⟩;exact⟨k+1,rfl,⟨by omega,aAR h87 (by rw[h92,dU.1 c4]) hv⟩,by omega⟩
         ·have hxy:e52=e47:=(aRB (dU.1 g60) (aAS (by omega) (by omega) hv) (dU.1 g68)).symm;refine⟨⟨by omega,by omega⟩,?_⟩;exact⟨i+1,rfl,⟨by omega,aAR h47 (by rw[h52,hxy]) ht⟩,by omega⟩
     ·have hg:=aAS (by omega) hl ht;apply et1
      ·(rw[lC];simp_all [qF];done)
abbrev yW (a:dY)(b:dY):Prop:=Cn 76 [.agg [.int .i64 a.version,.sl 77 4 (a.tables.map aH)],.agg [.int .i64 b.version,.sl 77 4 (b.tables.map aH)]] (vB (decide (a=b))) []
theorem aIG (a b:dY)(ha:dP a<=1048576):yW a b:=by
 refine cq Try.func76 (.br (.fin []) (.len a.tables.length<| .len b.tables.length<| .lit<| .lit<| .br (.fin []) (.loop Nat (Q1 Nat) ([5]++rg 20 19) [] (fun k=>[(5,vI (k:Int))]) (fun k=>[]) (fun k=>k<=a.tables.length/\a.tables.take k=b.tables.take k) (fun k=>a.tables.length - k) (fun k=> .len a.tables.length<| .br (.elem _ aH a.tables (fun e30=> .elem _ aH b.tables (fun e35=> .call (vB (decide (e30=e35))) []<| .br (.fin []) (.back [])))) (.fin []))))) (p:=Lx (a.tables.map aH)<| Lx (b.tables.map aH)<| Nb (a.version=b.version) ((false)=(decide (a=b))/\True) (Lm aH a.tables/\(Lm aH b.tables/\Nb ((a.tables.length:Int)=(b.tables.length:Int)) ((false)=(decide (a=b))/\True) ((∃(k:Nat),0=(k:Int)/\k<=a.tables.length/\a.tables.take k=b.tables.take k)/\ ∀(k:Nat),(k<=a.tables.length/\a.tables.take k=b.tables.take k)->Lm aH a.tables/\Br ((k:Int)<(a.tables.length:Int)) (0<=(k:Int)/\Em aH a.tables k fun e30=>0<=(k:Int)/\Em aH b.tables k fun e35=>oO e30 e35/\Nb (e30=e35) ((false)=(decide (a=b))/\True) (bS ((k:Int)+1)/\ ∃(k' :Nat),((k:Int)+1)=(k' :Int)/\(k' <=a.tables.length/\a.tables.take k' =b.tables.take k')/\a.tables.length - k' <a.tables.length - k)) ((true)=(decide (a=b))/\True))))) (by kernel_rfl) ?_;refine lx fun n0=>lx fun n1=>?_;have hS:dP a=fS a.tables:=rfl;refine dn (fun g11=>?_) fun g11=>?_
 ·apply et1
  ·(rw[wF];simp_all;done)
 ·refine⟨aA0 _,aA0 _,dn (fun c0=>?_) fun c0=>?_⟩
  ·have hne: ¬a=b:=fun e=>c0 (by rw[e]);apply et1
   ·(simp[hne];done)
  ·have hl:a.tables.length=b.tables.length:=by omega
   refine⟨⟨0,rfl,aAc _,rfl⟩,fun k ⟨hk,ht⟩=>?_⟩;refine⟨aA0 _,dd (fun c1=>?_) fun c1=>?_⟩
   ·refine⟨by omega,rfl,by omega,fun e30 h30=>?_⟩;refine⟨by omega,rfl,by omega,fun e35 h35=>?_⟩;refine⟨yV _ _ (by have:=nP h30;omega),dn (fun c2=>?_) fun c2=>?_⟩
    ·have hne: ¬a=b:=fun e=>by subst e;exact c2 (bE h35 h30)
     apply et1
     ·(simp[hne];done)
    ·refine⟨⟨by omega,by omega⟩,?_⟩;exact⟨k+1,rfl,⟨by omega,aAR h30 (by rw[h35,c2]) ht⟩,by omega⟩
   ·have hg:=aAS (by omega) hl ht;apply et1
    ·(rw[wF];simp_all;done)
abbrev aE4 (n:Int)(a:Int)(b:Int):Prop:=Cn 18 [.one (.int .i64 n),.one (.int .i64 a),.one (.int .i64 b)] (vB (fB n a b)) []
theorem aPE (n a b:Int):aE4 n a b:=by
 refine cq Try.func18 (.br (.fin []) (.fin [])) (p:=Br (a<=n) ((decide (n<=b))=(fB n a b)/\True) ((false)=(fB n a b)/\True)) (by kernel_rfl) ?_;refine dd (fun g10=>?_) fun g10=>?_
 ·apply et1
  ·(simp[fB,g10];done)
 ·apply et1
  ·(simp[fB,g10];done)
abbrev dN (n:Int)(a:Int)(b:Int):Prop:=Cn 20 [.one (.int .i64 n),.one (.int .i64 a),.one (.int .i64 b)] (vB (fB n a b)) []
theorem fT (n a b:Int):dN n a b:=by
 refine cq Try.func20 (.br (.fin []) (.fin [])) (p:=Br (a<=n) ((decide (n<=b))=(fB n a b)/\True) ((false)=(fB n a b)/\True)) (by kernel_rfl) ?_;refine dd (fun g10=>?_) fun g10=>?_
 ·apply et1
  ·(simp[fB,g10];done)
 ·apply et1
  ·(simp[fB,g10];done)
def aGe (v:Int):Bool:=fB v 0 9
def nS (n:Int)(r:List Int):Bool:=r.all aGe&&decide ((r.length:Int)=n)
def iM (s:ByteArray):Bool:=decide ((s.size:Int)=1)&&(decide (97<=oI s 0)&&decide (oI s 0<=122))
abbrev aC1 (r:List Int)(n:Int):Prop:=Cn 95 [.one (.sl 3 1 (r.map aC)),.one (.int .i64 n)] (vB (nS n r)) []
theorem aMe (r:List Int)(n:Int):aC1 r n:=by
 refine cq Try.func95 (.loop Nat (Q1 Nat) (rg 5 13) [] (fun k=>[(5,vI (k:Int))]) (fun k=>[]) (fun k=>k<=r.length/\(r.take k).all aGe=true) (fun k=>r.length - k) (fun k=> .len r.length<| .br (.elem _ aC r (fun e14=> .call (vB (fB e14 (0:Int) (9:Int))) []<| .br (.fin []) (.back []))) (.len r.length<| .fin []))) (p:=Lx (r.map aC)<| (∃(k:Nat),0=(k:Int)/\k<=r.length/\(r.take k).all aGe=true)/\ ∀(k:Nat),(k<=r.length/\(r.take k).all aGe=true)->Lm aC r/\Br ((k:Int)<(r.length:Int)) (0<=(k:Int)/\Em aC r k fun e14=>dN e14 (0:Int) (9:Int)/\Nr (fB e14 (0:Int) (9:Int)) ((false)=(nS n r)/\True) (bS ((k:Int)+1)/\ ∃(k' :Nat),((k:Int)+1)=(k' :Int)/\(k' <=r.length/\(r.take k').all aGe=true)/\r.length - k' <r.length - k)) (Lm aC r/\(decide ((r.length:Int)=n))=(nS n r)/\True)) (by kernel_rfl) ?_;refine lx fun n0=>?_;refine⟨⟨0,rfl,aAc _,rfl⟩,fun k ⟨hk,ha⟩=>?_⟩;refine⟨aA0 _,dd (fun c0=>?_) fun c0=>?_⟩
 ·refine⟨by omega,rfl,by omega,fun e14 h14=>?_⟩;refine⟨fT _ _ _,dm (fun c1=>?_) fun c1=>?_⟩
  ·apply et1
   ·(rw[nS,gI h14 c1];rfl)
  ·refine⟨⟨by omega,by omega⟩,?_⟩;exact⟨k+1,rfl,⟨by omega,dB h14 ha c1⟩,by omega⟩
 ·refine⟨aA0 _,?_,trivial⟩
  ·(rw[nS,dZ (by omega) ha];simp)
abbrev uB (s:ByteArray):Prop:=Cn 61 [.one (.str s)] (vB (iM s)) []
theorem aE5 (s:ByteArray):uB s:=by
 refine cq Try.func61 (.br (.lit<| .lit<| .lit<| .br (.fin []) (.fin [])) (.fin [])) (p:=Br ((s.size:Int)=1) (0<=(0:Int)/\0<(s.size:Int)/\Br (97<=(oI s 0)) (0<=(0:Int)/\0<(s.size:Int)/\(decide ((oI s 0)<=122))=(iM s)/\True) ((false)=(iM s)/\True)) ((false)=(iM s)/\True)) (by kernel_rfl) ?_;refine dd (fun g6=>?_) fun g6=>?_
 ·refine⟨by omega,by omega,dd (fun g11=>?_) fun g11=>?_⟩
  ·refine⟨by omega,by omega,?_,trivial⟩
   ·(simp[iM,g6,g11];done)
  ·apply et1
   ·(simp[iM,g6,g11];done)
 ·apply et1
  ·(simp[iM,g6];done)
def qR (l:List (List Int))(i:Nat):Bool:=decide (cM (l.getD i []) (l.getD (i+1) [])<0)
def aKa (l:List (List Int)):Bool:=(List.range (l.length - 1)).all (qR l)
def aT (t:bA):Bool:=t.rows.all (nS t.arity)&&(iM t.name&&(fB t.arity 1 3&&(decide ((t.rows.length:Int)<=8)&&aKa t.rows)))
theorem oP {p:Nat->Bool}{k:Nat}(h:(List.range k).all p=true)(hk:p k=true):(List.range (k+1)).all p=true:=by
 rw[List.range_succ,List.all_append,h];simp[hk]
theorem mI {p:Nat->Bool}{n k:Nat}(hk:k<n)(h:p k=false):(List.range n).all p=false:=by
 rw[List.all_eq_false];exact⟨k,aGS.2 hk,by simp[h]⟩
theorem bB {α:Type}{l:List α}{k:Nat}{x y:α}(h:l[k]? =some x):l.getD k y=x:=by simp[aD6,h]
abbrev mJ (t:bA):Prop:=Cn 91 [.agg [.str t.name,.int .i64 t.arity,.sl 27 1 (t.rows.map aD)]] (vB (aT t)) []
theorem uC (t:bA):mJ t:=by
 refine cq Try.func91 (.call (vB (iM t.name)) []<| .br (.fin []) (.call (vB (fB t.arity (1:Int) (3:Int))) []<| .lit<| .lit<| .br (.fin []) (.len t.rows.length<| .lit<| .lit<| .br (.fin []) (.loop Nat (Q1 Nat) ([3]++rg 20 35) [] (fun k=>[(3,vI (k:Int))]) (fun k=>[]) (fun k=>k<=t.rows.length/\(t.rows.take k).all (nS t.arity)=true/\(List.range (k - 1)).all (qR t.rows)=true) (fun k=>t.rows.length - k) (fun k=> .len t.rows.length<| .br (.elem _ aD t.rows (fun e30=> .call (vB (nS t.arity e30)) []<| .br (.fin []) (.lit<| .lit<| .br (.elem _ aD t.rows (fun e44=> .elem _ aD t.rows (fun e49=> .call (vI (cM e44 e49)) []<| .lit<| .lit<| .lit<| .lit<| .br (.fin []) (.back [])))) (.back [])))) (.fin [])))))) (p:=Lx (t.rows.map aD)<| uB t.name/\Nr (iM t.name) ((false)=(aT t)/\True) (dN t.arity (1:Int) (3:Int)/\Nr (fB t.arity (1:Int) (3:Int)) ((false)=(aT t)/\True) (Lm aD t.rows/\Br (8<(t.rows.length:Int)) ((false)=(aT t)/\True) ((∃(k:Nat),0=(k:Int)/\k<=t.rows.length/\(t.rows.take k).all (nS t.arity)=true/\(List.range (k - 1)).all (qR t.rows)=true)/\ ∀(k:Nat),(k<=t.rows.length/\(t.rows.take k).all (nS t.arity)=true/\(List.range (k - 1)).all (qR t.rows)=true)->Lm aD t.rows/\Br ((k:Int)<(t.rows.length:Int)) (0<=(k:Int)/\Em aD t.rows k fun e30=>aC1 e30 t.arity/\Nr (nS t.arity e30) ((false)=(aT t)/\True) (Br (0<(k:Int)) (bS ((k:Int) - 1)/\0<=((k:Int) - 1)/\Em aD t.rows (((k:Int) - 1).toNat) fun e44=>0<=(k:Int)/\Em aD t.rows k fun e49=>eK e44 e49/\Br (0<=(cM e44 e49)) ((false)=(aT t)/\True) (bS ((k:Int)+1)/\ ∃(k' :Nat),((k:Int)+1)=(k' :Int)/\(k' <=t.rows.length/\(t.rows.take k').all (nS t.arity)=true/\(List.range (k' - 1)).all (qR t.rows)=true)/\t.rows.length - k' <t.rows.length - k)) (bS ((k:Int)+1)/\ ∃(k' :Nat),((k:Int)+1)=(k' :Int)/\(k' <=t.rows.length/\(t.rows.take k').all (nS t.arity)=true/\(List.range (k' - 1)).all (qR t.rows)=true)/\t.rows.length - k' <t.rows.length - k))) ((true)=(aT t)/\True))))) (by kernel_rfl) ?_;refine lx fun n0=>?_;refine⟨aE5 _,dm (fun g8=>?_) fun g8=>?_⟩
 ·apply et1
  ·(simp[aT, *];done)
 ·refine⟨fT _ _ _,dm (fun g14=>?_) fun g14=>?_⟩
  ·apply et1
   ·(simp[aT, *];done)
  ·refine⟨aA0 _,dd (fun c0=>?_) fun c0=>?_⟩
   ·have h8:decide ((t.rows.length:Int)<=8)=false:=by simp;omega
    apply et1
    ·(rw[aT,h8];simp[*];done)
   ·have h8:decide ((t.rows.length:Int)<=8)=true:=by simp;omega
    refine⟨⟨0,rfl,aAc _,rfl,rfl⟩,fun k ⟨hk,ha,hs⟩=>?_⟩;refine⟨aA0 _,dd (fun c1=>?_) fun c1=>?_⟩
    ·refine⟨by omega,rfl,by omega,fun e30 h30=>?_⟩;refine⟨aMe _ _,dm (fun g36=>?_) fun g36=>?_⟩
     ·apply et1
      ·(rw[aT,gI h30 g36];rfl)
     ·refine dd (fun g39=>?_) fun g39=>?_
      ·refine⟨⟨by omega,by omega⟩,by omega,rfl,by omega,fun e44 h44=>?_⟩;have i44:t.rows[k - 1]? =some e44:=by rw[<-h44];congr 1;omega
       refine⟨by omega,rfl,by omega,fun e49 h49=>?_⟩;refine⟨gM _ _,dd (fun c2=>?_) fun c2=>?_⟩
       ·have hp:qR t.rows (k - 1)=false:=by rw[qR,bB i44,show k - 1+1=k by omega,bB h49];simp;omega
        have hz:aKa t.rows=false:=mI (by omega) hp;apply et1
        ·(rw[aT,h8,hz];simp[*];done)
       ·have hp:qR t.rows (k - 1)=true:=by rw[qR,bB i44,show k - 1+1=k by omega,bB h49];simp;omega
        have hs2:(List.range (k+1 - 1)).all (qR t.rows)=true:=by rw[show k+1 - 1=(k - 1)+1 by omega];exact oP hs hp
        refine⟨⟨by omega,by omega⟩,?_⟩;exact⟨k+1,rfl,⟨by omega,dB h30 ha g36,hs2⟩,by omega⟩
      ·have hs2:(List.range (k+1 - 1)).all (qR t.rows)=true:=by rw[show k=0 by omega];rfl
       refine⟨⟨by omega,by omega⟩,?_⟩;exact⟨k+1,rfl,⟨by omega,dB h30 ha g36,hs2⟩,by omega⟩
    ·have hall:=dZ (by omega) ha;have hz:aKa t.rows=true:=by rw[aKa,show t.rows.length - 1=k - 1 by omega,hs]
     apply et1
     ·(rw[aT,h8,hz];simp[*];done)
def aGf (n:Int)(cols:List Int):Bool:=cols.all fun c=>fB c 0 (n - 1)
def wG (r:List Int)(c:Int):Int:=r.getD c.toNat 0
def iN (r cols:List Int):List Int × Bool:=if aGf r.length cols=true then (cols.map (wG r),true) else ([],false)
theorem aGg {r cols:List Int}(h:cols.all (fun c=>fB c 0 ((r.length:Int) - 1))=true):iN r cols=(cols.map (wG r),true):=by rw[iN,if_pos (show aGf _ _=true from h)]
theorem aPF {r cols:List Int}(h:cols.all (fun c=>fB c 0 ((r.length:Int) - 1))=false):iN r cols=([],false):=by rw[iN,if_neg (by rw[show aGf _ _=false from h];decide)]
theorem aMf {r:List Int}{c x:Int}(h:r[c.toNat]? =some x):wG r c=x:=bB h
theorem aC2 (r cols:List Int):(iN r cols).1.length<=cols.length:=by
 unfold iN;split<;>simp
def lU (b:Int)(cols:List Int)(i:Nat):Bool:=fB (cols.getD i 0) 0 b&&(decide (i=0) || decide (cols.getD (i - 1) 0<cols.getD i 0))
def eL (b:Int)(cols:List Int):Bool:=(List.range cols.length).all (lU b cols)
abbrev mK (r:List Int)(cols:List Int):AV × List (Nat × Rs):=(.tup [.own 0,vB ((iN r cols).2)],[(0,.arr 3 1 true ((iN r cols).1.map aC))])
abbrev oQ (r:List Int)(cols:List Int):Prop:=Cn 85 [.one (.sl 3 1 (r.map aC)),.one (.sl 3 1 (cols.map aC))] (mK r cols).1 (mK r cols).2
theorem yX (r cols:List Int)(hl:cols.length<=1048576):oQ r cols:=by
 refine cq Try.func85 (.loop (Nat × (List Int)) (Q2 Nat (List Int)) (rg 6 18++rg 25 10) [800,3300,3400] (fun yy0=>[(7,vI (yy0.1:Int)),(6,.own 800)]) (fun yy0=>[(800,some (.arr 3 1 true (yy0.2.map aC)))]) (fun yy0=>yy0.1<=cols.length/\yy0.2=(cols.take yy0.1).map (wG r)/\(cols.take yy0.1).all (fun c=>fB c 0 ((r.length:Int) - 1))=true) (fun yy0=>cols.length - yy0.1) (fun yy0=> .len cols.length<| .br (.elem _ aC cols (fun e17=> .len r.length<| .call (vB (fB e17 (0:Int) ((r.length:Int) - 1))) []<| .br (.fin [(0,2400)]) (.elem _ aC cols (fun e29=> .elem _ aC r (fun e31=> .app Int aC yy0.2 ([e31]:List Int)<| .back [(800,3400)]))))) (.fin [(0,800)]))) (p:=Lx (r.map aC)<| Lx (cols.map aC)<| (∃(k:Nat) (out:List Int),0=(k:Int)/\[]=out.map aC/\k<=cols.length/\out=(cols.take k).map (wG r)/\(cols.take k).all (fun c=>fB c 0 ((r.length:Int) - 1))=true)/\ ∀(k:Nat) (out:List Int),(k<=cols.length/\out=(cols.take k).map (wG r)/\(cols.take k).all (fun c=>fB c 0 ((r.length:Int) - 1))=true)->Lm aC cols/\Br ((k:Int)<(cols.length:Int)) (0<=(k:Int)/\Em aC cols k fun e17=>Lm aC r/\bS ((r.length:Int) - 1)/\dN e17 (0:Int) ((r.length:Int) - 1)/\Nr (fB e17 (0:Int) ((r.length:Int) - 1)) ((false)=((iN r cols).2)/\[]=(iN r cols).1.map aC/\True) (0<=(k:Int)/\Em aC cols k fun e29=>0<=e29/\Em aC r ((e29).toNat) fun e31=>Ap aC out ([e31]:List Int) 8 (bS ((k:Int)+1)/\ ∃(k' :Nat) (out' :List Int),((k:Int)+1)=(k' :Int)/\(out++[e31]).map aC=out'.map aC/\(k' <=cols.length/\out' =(cols.take k').map (wG r)/\(cols.take k').all (fun c=>fB c 0 ((r.length:Int) - 1))=true)/\cols.length - k' <cols.length - k))) ((true)=((iN r cols).2)/\out.map aC=(iN r cols).1.map aC/\True)) (by kernel_rfl) ?_;refine lx fun n0=>lx fun n1=>?_;refine⟨⟨0,([]:List Int),rfl,rfl,aAc _,rfl,rfl⟩,fun k out ⟨hk,ho,ha⟩=>?_⟩;refine⟨aA0 _,dd (fun c0=>?_) fun c0=>?_⟩
 ·refine⟨by omega,rfl,by omega,fun e17 h17=>?_⟩;refine⟨aA0 _,⟨by omega,by omega⟩,fT _ _ _,dm (fun c1=>?_) fun c1=>?_⟩
  ·refine⟨?_,?_,trivial⟩<;>((rw[aPF (gI h17 c1)]<;>rfl))
  ·have hb:=dS c1;refine⟨by omega,rfl,by omega,fun e29 h29=>?_⟩;obtain rfl:=(bE h17 h29).symm;refine⟨by omega,rfl,by omega,fun e31 h31=>?_⟩;refine ap ?_ (fun _=>rfl) (by simp[ho];omega);refine⟨⟨by omega,by omega⟩,?_⟩;exact⟨k+1,_,rfl,rfl,⟨by omega,by rw[ho,bQ h17,aDj,aDa,List.map_nil,aMf h31],dB h17 ha c1⟩,by omega⟩
 ·refine⟨?_,?_,trivial⟩<;>(first|(rw[aGg (dZ (by omega) ha),ho,aCu (by omega)]<;>rfl)|(rw[aGg (dZ (by omega) ha)]<;>rfl))
theorem cP {t:bA}(h:aT t=true):1<=t.arity/\t.arity<=3/\t.rows.length<=8:=by
 simp only[aT,aA1,aH9] at h;have:=dS h.2.2.1;omega
theorem aC3 {t:bA}(h:aT t=true):IntKind.i64.wrap (t.arity - 1)=t.arity - 1:=by
 have:=cP h;exact IntWalk.i64_in _ ⟨by omega,by omega⟩
theorem aMg {t:bA}{cols:List Int}(h:eL (IntKind.i64.wrap (t.arity - 1)) cols=false):(aT t&&eL (t.arity - 1) cols)=false:=by
 cases e:aT t with
 | false=>rfl
 | true=>rw[aC3 e] at h;rw[h];rfl
theorem aPG {t:bA}{cols:List Int}(h:eL (IntKind.i64.wrap (t.arity - 1)) cols=true):(aT t&&eL (t.arity - 1) cols)=aT t:=by
 cases e:aT t with
 | false=>rfl
 | true=>rw[aC3 e] at h;rw[h];rfl
abbrev uD (t:bA)(cols:List Int):Prop:=Cn 84 [.agg [.str t.name,.int .i64 t.arity,.sl 27 1 (t.rows.map aD)],.one (.sl 3 1 (cols.map aC))] (vB (aT t&&eL (t.arity - 1) cols)) []
theorem aE6 (t:bA)(cols:List Int):uD t cols:=by
 refine cq Try.func84 (.loop Nat (Q1 Nat) (rg 5 32) [] (fun k=>[(5,vI (k:Int))]) (fun k=>[]) (fun k=>k<=cols.length/\(List.range k).all (lU (IntKind.i64.wrap (t.arity - 1)) cols)=true) (fun k=>cols.length - k) (fun k=> .len cols.length<| .br (.elem _ aC cols (fun e14=> .raw<| .call (vB (fB e14 (0:Int) (IntKind.i64.wrap (t.arity - 1)))) []<| .br (.fin []) (.lit<| .lit<| .br (.elem _ aC cols (fun e28=> .elem _ aC cols (fun e32=> .lit<| .lit<| .lit<| .lit<| .lit<| .br (.fin []) (.back [])))) (.back [])))) (.call (vB (aT t)) []<| .fin []))) (p:=Lx (t.rows.map aD)<| Lx (cols.map aC)<| (∃(k:Nat),0=(k:Int)/\k<=cols.length/\(List.range k).all (lU (IntKind.i64.wrap (t.arity - 1)) cols)=true)/\ ∀(k:Nat),(k<=cols.length/\(List.range k).all (lU (IntKind.i64.wrap (t.arity - 1)) cols)=true)->Lm aC cols/\Br ((k:Int)<(cols.length:Int)) (0<=(k:Int)/\Em aC cols k fun e14=>dN e14 (0:Int) (IntKind.i64.wrap (t.arity - 1))/\Nr (fB e14 (0:Int) (IntKind.i64.wrap (t.arity - 1))) ((false)=(aT t&&eL (t.arity - 1) cols)/\True) (Br (0<(k:Int)) (bS ((k:Int) - 1)/\0<=((k:Int) - 1)/\Em aC cols (((k:Int) - 1).toNat) fun e28=>0<=(k:Int)/\Em aC cols k fun e32=>Br (e32<=e28) ((false)=(aT t&&eL (t.arity - 1) cols)/\True) (bS ((k:Int)+1)/\ ∃(k' :Nat),((k:Int)+1)=(k' :Int)/\(k' <=cols.length/\(List.range k').all (lU (IntKind.i64.wrap (t.arity - 1)) cols)=true)/\cols.length - k' <cols.length - k)) (bS ((k:Int)+1)/\ ∃(k' :Nat),((k:Int)+1)=(k' :Int)/\(k' <=cols.length/\(List.range k').all (lU (IntKind.i64.wrap (t.arity - 1)) cols)=true)/\cols.length - k' <cols.length - k))) (mJ t/\(aT t)=(aT t&&eL (t.arity - 1) cols)/\True)) (by kernel_rfl) ?_;refine lx fun n0=>lx fun n1=>?_;refine⟨⟨0,rfl,aAc _,rfl⟩,fun k ⟨hk,hv⟩=>?_⟩;refine⟨aA0 _,dd (fun c0=>?_) fun c0=>?_⟩
 ·refine⟨by omega,rfl,by omega,fun e14 h14=>?_⟩;refine⟨fT _ _ _,dm (fun g21=>?_) fun g21=>?_⟩
  ·have hp:lU (IntKind.i64.wrap (t.arity - 1)) cols k=false:=by rw[lU,bB h14,g21];rfl
   apply et1
   ·(rw[aMg (by rw[eL,mI (by omega) hp])];done)
  ·refine dd (fun g24=>?_) fun g24=>?_
   ·refine⟨⟨by omega,by omega⟩,by omega,rfl,by omega,fun e28 h28=>?_⟩;have i28:cols[k - 1]? =some e28:=by rw[<-h28];congr 1;omega
    refine⟨by omega,rfl,by omega,fun e32 h32=>?_⟩;obtain rfl:=(bE h14 h32).symm;refine dd (fun c1=>?_) fun c1=>?_
    ·have hp:lU (IntKind.i64.wrap (t.arity - 1)) cols k=false:=by rw[lU,bB h14,bB i28,show decide (e28<e14)=false by simp;omega,show decide (k=0)=false by simp;omega];simp
     apply et1
     ·(rw[aMg (by rw[eL,mI (by omega) hp])];done)
    ·have hp:lU (IntKind.i64.wrap (t.arity - 1)) cols k=true:=by rw[lU,bB h14,g21,bB i28,show decide (e28<e14)=true by simp;omega];simp
     refine⟨⟨by omega,by omega⟩,?_⟩;exact⟨k+1,rfl,⟨by omega,oP hv hp⟩,by omega⟩
   ·have hp:lU (IntKind.i64.wrap (t.arity - 1)) cols k=true:=by rw[lU,bB h14,g21,show decide (k=0)=true by simp;omega];rfl
    refine⟨⟨by omega,by omega⟩,?_⟩;exact⟨k+1,rfl,⟨by omega,oP hv hp⟩,by omega⟩
 ·refine⟨uC t,?_,trivial⟩
  ·(rw[aPG (by rw[eL,show cols.length=k by omega,hv])];done)
theorem aAT (l:List Int):cM l l=0:=dU.2 rfl
theorem qS: ∀{l m:List Int},cM l m<0↔0<cM m l
 | [],[]=>by simp[cM]
 | [],_::_=>by simp[cM]
 | _::_,[]=>by simp[cM]
 | a::l,b::m=>by
   simp only[cM];by_cases h1:a<b
   ·simp[h1,show ¬b<a by omega]
   by_cases h2:b<a
   ·simp[h1,h2]
   simp only[h1,h2,if_false];exact qS
theorem mL: ∀{l m n:List Int},cM l m<0->cM m n<0->cM l n<0
 | [],[],n,h1,_=>by simp[cM] at h1
 | [],_::_,[],_,h2=>by simp[cM] at h2
 | [],_::_,_::_,_,_=>by simp[cM]
 | _::_,[],n,h1,_=>by simp[cM] at h1
 | a::l,b::m,[],_,h2=>by simp[cM] at h2
 | a::l,b::m,c::n,h1,h2=>by
   simp only[cM] at*;rcases Int.lt_trichotomy a b with ab | ab | ab
   ·rcases Int.lt_trichotomy b c with bc | bc | bc
    ·rw[if_pos (by omega)];decide
    ·subst bc;rw[if_pos ab];decide
    rw[if_neg (by omega),if_pos bc] at h2;exact absurd h2 (by decide)
   ·subst ab;rcases Int.lt_trichotomy a c with bc | bc | bc
    ·rw[if_pos bc];decide
    ·subst bc;rw[if_neg (by omega),if_neg (by omega)] at*;exact mL h1 h2
    rw[if_neg (by omega),if_pos bc] at h2;exact absurd h2 (by decide)
   rw[if_neg (by omega),if_pos ab] at h1;exact absurd h1 (by decide)
theorem aGh {l m n:List Int}(h1: ¬cM l m<0)(h2: ¬cM m n<0): ¬cM l n<0:=by
 intro h;by_cases e:cM l m=0
 ·rw[dU.1 e] at h;exact h2 h
 exact h2 (mL (qS.2 (by omega)) h)
def leR (a b:List Int):Bool:=decide (cM a b<=0)
theorem aJ1 {a b:List Int}:leR a b=true↔ ¬cM b a<0:=by
 rw[leR,aH9];constructor
 ·intro h q;have:=qS.1 q;omega
 intro h;have: ¬0<cM a b:=fun q=>h (qS.2 q);omega
def aGi (l:List (List Int)):List (List Int):=l.mergeSort leR
theorem aIH (l:List (List Int)):(aGi l).Perm l:=List.mergeSort_perm l leR
theorem aII (l:List (List Int)):(aGi l).Pairwise (fun a b=>leR a b=true):=
 List.pairwise_mergeSort (fun a b c h1 h2=>by rw[aJ1] at*;exact aGh h2 h1) (fun a b=>by
  by_cases h:cM b a<0
  ·have:leR b a=true:=by rw[leR,aH9];omega
   simp[this]
  have:leR a b=true:=aJ1.2 h;simp[this]) l
def aRh (l:List (List Int))(i j:Nat):Bool:=decide (l.getD i []=l.getD j [])
def aKb (l:List (List Int)):List Nat:=(List.range l.length).filter fun j=>decide (j=0) || !aRh l j (j - 1)
def aKc (l:List (List Int)):List (List Int):=(aKb l).map fun i=>l.getD i []
theorem aPH {l:List (List Int)}{i:Nat}(h:i∈aKb l):i<l.length:=aGS.1 (aL4.1 h).1
def iO (t:bA)(cols:List Int):List (List Int):=t.rows.map fun r=>(iN r cols).1
def jN (all:List (List Int))(g:List Int):Int:=(((all.filter fun x=>decide (g=x)).length:Nat):Int)
def aIJ (t:bA)(cols:List Int):List (List Int):=aKc (aGi (iO t cols))
def aIK (t:bA)(cols:List Int):List Int:=(aIJ t cols).map (jN (iO t cols))
def gN (t:bA)(cols:List Int):List (List Int) × List Int:=if (aT t&&eL (t.arity - 1) cols)=true then (aIJ t cols,aIK t cols) else ([],[])
theorem uE {t:bA}{cols:List Int}(h:(aT t&&eL (t.arity - 1) cols)=true):gN t cols=(aIJ t cols,aIK t cols):=by rw[gN,if_pos h]
theorem aFU {t:bA}{cols:List Int}(h:(aT t&&eL (t.arity - 1) cols)=false):gN t cols=([],[]):=by rw[gN,if_neg (by rw[h];decide)]
theorem aPI {all:List (List Int)}{g x:List Int}{j:Nat}(hx:all[j]? =some x)(h:g=x):jN (all.take (j+1)) g=jN (all.take j) g+1:=by
 subst h;rw[jN,jN,bQ hx,List.filter_append];simp
theorem aRC {all:List (List Int)}{g x:List Int}{j:Nat}(hx:all[j]? =some x)(h: ¬g=x):jN (all.take (j+1)) g=jN (all.take j) g:=by
 rw[jN,jN,bQ hx,List.filter_append];simp[h]
theorem aRD (all:List (List Int))(g:List Int):0<=jN all g/\jN all g<=all.length:=by
 have:=List.length_filter_le (fun x=>decide (g=x)) all;unfold jN;omega
theorem aC4 {b:Int}{cols:List Int}(h:eL b cols=true): ∀i,i<cols.length->(i:Int)<=cols.getD i 0/\cols.getD i 0<=b
 | 0,hi=>by
   have:=aDW.1 h 0 (aGS.2 hi);simp only[lU,aA1] at this;have:=dS this.1;exact⟨by simpa using this.1,this.2⟩
 | i+1,hi=>by
   have ih:=aC4 h i (by omega);have:=aDW.1 h (i+1) (aGS.2 hi);simp only[lU,aA1,Bool.or_eq_true,aH9,Nat.add_sub_cancel] at this;have h2:=dS this.1;rcases this.2 with q | q
   ·omega
   exact⟨by omega,h2.2⟩
theorem yY {b:Int}{cols:List Int}(h:eL b cols=true)(hb:b<=2):cols.length<=3:=by
 by_cases h3:3<cols.length
 ·have:=aC4 h 3 h3;omega
 omega
theorem xB {α:Type}{ct:α->Nat}{m:Nat}: ∀{l:List α},(∀x∈l,ct x<=m)->wM ct l<=l.length*m
 | [],_=>by simp[wM]
 | a::l,h=>by
   have h1:=h a (by simp);have h2:=xB (l:=l) fun x hx=>h x (by simp[hx]);simp only[wM,aDa,List.sum_cons,aFt,Nat.add_mul,Nat.one_mul] at*;omega
theorem rT {l:List (List Int)}{m:Nat}(h: ∀r∈l,r.length<=m):cS l<=l.length+l.length*m:=by
 have h1:=xB (ct:=dW) (m:=m) (l:=l) fun r hr=>h r hr;have h2:cS l=l.length+wM dW l:=rfl;omega
theorem aIL {t:bA}{cols:List Int}(h:(aT t&&eL (t.arity - 1) cols)=true):(iO t cols).length<=8/\cS (iO t cols)<=32:=by
 rw[aA1] at h;have ha:=cP h.1;have hc:=yY h.2 (by omega);have hl:(iO t cols).length=t.rows.length:=aA0 _
 have:=rT (l:=iO t cols) (m:=3) fun r hr=>by
  obtain⟨q,_,rfl⟩:=aFm.1 hr;have:=aC2 q cols;omega
 omega
theorem aGj {α:Type}(f:α->Nat){x:α}: ∀{l:List α},x∈l->f x<=wM f l
 | a::l,h=>by
   simp only[wM,aDa,List.sum_cons];rcases aEx.1 h with q | q
   ·subst q;omega
   have:=aGj f q;simp only[wM] at this;omega
theorem vH {l:List (List Int)}{i:Nat}{x:List Int}(h:l[i]? =some x):x.length<=cS l:=by
 have h1:cS l=l.length+wM dW l:=rfl;have h2:x.length<=wM dW l:=aGj dW (aAm h);omega
def pgo (row:List Int):Bool->List (List Int)->List (List Int)
 | p,[]=>if p=true then [] else [row]
 | p,x::xs=>if 0<cM x row/\p=false then row::x::pgo row true xs else x::pgo row (p || decide (cM x row=0)) xs
def iI (row:List Int)(rows:List (List Int)):List (List Int):=pgo row false rows
theorem aMh {row x:List Int}{xs:List (List Int)}(h:0<cM x row):pgo row false (x::xs)=row::x::pgo row true xs:=by rw[pgo,if_pos ⟨h,rfl⟩]
theorem aIM {row x:List Int}{xs:List (List Int)}{p:Bool}(h:cM x row=0):pgo row p (x::xs)=x::pgo row true xs:=by rw[pgo,if_neg (by omega),h];simp
theorem aMi {row x:List Int}{xs:List (List Int)}:pgo row true (x::xs)=x::pgo row true xs:=by rw[pgo,if_neg (by simp)];rfl
theorem aMj {row x:List Int}{xs:List (List Int)}{p:Bool}(h: ¬0<cM x row)(h' : ¬cM x row=0):pgo row p (x::xs)=x::pgo row p xs:=by rw[pgo,if_neg (by omega)];simp[h']
abbrev oR (rows:List (List Int))(row:List Int):AV × List (Nat × Rs):=(.own 0,[(0,.arr 27 1 true ((iI row rows).map aD))])
abbrev rU (rows:List (List Int))(row:List Int):Prop:=Cn 83 [.one (.sl 27 1 (rows.map aD)),.one (.sl 3 1 (row.map aC))] (oR rows row).1 (oR rows row).2
theorem aC5 (rows:List (List Int))(row:List Int)(hl:rows.length<=1000000)(hc:cS rows<=1048576)(hr:row.length<=1048576):rU rows row:=by
 refine cq Try.func83 (.loop (Nat × (List (List Int)) × Bool) (Q3 Nat (List (List Int)) Bool) (rg 5 40) [900,3100,3300,3400,3500,3700,4200,4300,4400] (fun yy0=>[(7,vI (yy0.1:Int)),(5,.own 900),(6,vB yy0.2.2)]) (fun yy0=>[(900,some (.arr 27 1 true (yy0.2.1.map aD)))]) (fun yy0=>yy0.1<=rows.length/\yy0.2.1.length<=2*yy0.1/\yy0.2.1++pgo row yy0.2.2 (rows.drop yy0.1)=iI row rows) (fun yy0=>rows.length - yy0.1) (fun yy0=> .len rows.length<| .br (.elem _ aD rows (fun e18=> .call (vI (cM e18 row)) []<| .br (.br (.elem _ aD rows (fun e40=> .app Int aC ([]:List Int) e40<| .appx (List Int) aD yy0.2.1 (([]:List Int)++e40)<| .back [(900,4400)])) (.elem _ aD rows (fun e40=> .app Int aC ([]:List Int) e40<| .appx (List Int) aD yy0.2.1 (([]:List Int)++e40)<| .back [(900,4400)]))) (.br (.lit<| .lit<| .br (.app Int aC ([]:List Int) row<| .appx (List Int) aD yy0.2.1 (([]:List Int)++row)<| .elem _ aD rows (fun e40=> .app Int aC ([]:List Int) e40<| .appx (List Int) aD (yy0.2.1++[([]:List Int)++row]) (([]:List Int)++e40)<| .back [(900,4400)])) (.elem _ aD rows (fun e40=> .app Int aC ([]:List Int) e40<| .appx (List Int) aD yy0.2.1 (([]:List Int)++e40)<| .back [(900,4400)]))) (.elem _ aD rows (fun e40=> .app Int aC ([]:List Int) e40<| .appx (List Int) aD yy0.2.1 (([]:List Int)++e40)<| .back [(900,4400)]))))) (.br (.app Int aC ([]:List Int) row<| .appx (List Int) aD yy0.2.1 (([]:List Int)++row)<| .fin [(0,5200)]) (.fin [(0,900)])))) (p:=Lx (rows.map aD)<| Lx (row.map aC)<| (∃(k:Nat) (out:List (List Int)) (p:Bool),0=(k:Int)/\(false)=p/\[]=out.map aD/\k<=rows.length/\out.length<=2*k/\out++pgo row p (rows.drop k)=iI row rows)/\ ∀(k:Nat) (out:List (List Int)) (p:Bool),(k<=rows.length/\out.length<=2*k/\out++pgo row p (rows.drop k)=iI row rows)->Lm aD rows/\Br ((k:Int)<(rows.length:Int)) (0<=(k:Int)/\Em aD rows k fun e18=>eK e18 row/\Br ((cM e18 row)=0) (Br (0<(cM e18 row)) (0<=(k:Int)/\Em aD rows k fun e40=>Ap aC ([]:List Int) e40 8 (out.map aD=out.map aD/\(([]:List Int)++e40).map aC=(([]:List Int)++e40).map aC/\(out.length+1)*24<=140737488355328/\bS ((k:Int)+1)/\ ∃(k' :Nat) (out' :List (List Int)) (p' :Bool),((k:Int)+1)=(k' :Int)/\(true)=p' /\(out++[([]:List Int)++e40]).map aD=out'.map aD/\(k' <=rows.length/\out'.length<=2*k' /\out' ++pgo row p' (rows.drop k')=iI row rows)/\rows.length - k' <rows.length - k)) (0<=(k:Int)/\Em aD rows k fun e40=>Ap aC ([]:List Int) e40 8 (out.map aD=out.map aD/\(([]:List Int)++e40).map aC=(([]:List Int)++e40).map aC/\(out.length+1)*24<=140737488355328/\bS ((k:Int)+1)/\ ∃(k' :Nat) (out' :List (List Int)) (p' :Bool),((k:Int)+1)=(k' :Int)/\(true)=p' /\(out++[([]:List Int)++e40]).map aD=out'.map aD/\(k' <=rows.length/\out'.length<=2*k' /\out' ++pgo row p' (rows.drop k')=iI row rows)/\rows.length - k' <rows.length - k))) (Br (0<(cM e18 row)) (Nr (p) (Ap aC ([]:List Int) row 8 (out.map aD=out.map aD/\(([]:List Int)++row).map aC=(([]:List Int)++row).map aC/\(out.length+1)*24<=140737488355328/\0<=(k:Int)/\Em aD rows k fun e40=>Ap aC ([]:List Int) e40 8 ((out++[([]:List Int)++row]).map aD=(out++[([]:List Int)++row]).map aD/\(([]:List Int)++e40).map aC=(([]:List Int)++e40).map aC/\((out++[([]:List Int)++row]).length+1)*24<=140737488355328/\bS ((k:Int)+1)/\ ∃(k' :Nat) (out' :List (List Int)) (p' :Bool),((k:Int)+1)=(k' :Int)/\(true)=p' /\((out++[([]:List Int)++row])++[([]:List Int)++e40]).map aD=out'.map aD/\(k' <=rows.length/\out'.length<=2*k' /\out' ++pgo row p' (rows.drop k')=iI row rows)/\rows.length - k' <rows.length - k))) (0<=(k:Int)/\Em aD rows k fun e40=>Ap aC ([]:List Int) e40 8 (out.map aD=out.map aD/\(([]:List Int)++e40).map aC=(([]:List Int)++e40).map aC/\(out.length+1)*24<=140737488355328/\bS ((k:Int)+1)/\ ∃(k' :Nat) (out' :List (List Int)) (p' :Bool),((k:Int)+1)=(k' :Int)/\(p)=p' /\(out++[([]:List Int)++e40]).map aD=out'.map aD/\(k' <=rows.length/\out'.length<=2*k' /\out' ++pgo row p' (rows.drop k')=iI row rows)/\rows.length - k' <rows.length - k))) (0<=(k:Int)/\Em aD rows k fun e40=>Ap aC ([]:List Int) e40 8 (out.map aD=out.map aD/\(([]:List Int)++e40).map aC=(([]:List Int)++e40).map aC/\(out.length+1)*24<=140737488355328/\bS ((k:Int)+1)/\ ∃(k' :Nat) (out' :List (List Int)) (p' :Bool),((k:Int)+1)=(k' :Int)/\(p)=p' /\(out++[([]:List Int)++e40]).map aD=out'.map aD/\(k' <=rows.length/\out'.length<=2*k' /\out' ++pgo row p' (rows.drop k')=iI row rows)/\rows.length - k' <rows.length - k)))) (Nr (p) (Ap aC ([]:List Int) row 8 (out.map aD=out.map aD/\(([]:List Int)++row).map aC=(([]:List Int)++row).map aC/\(out.length+1)*24<=140737488355328/\(out++[([]:List Int)++row]).map aD=(iI row rows).map aD/\True)) (out.map aD=(iI row rows).map aD/\True))) (by kernel_rfl) ?_;refine lx fun n0=>lx fun n1=>?_;refine⟨⟨0,([]:List (List Int)),false,rfl,rfl,rfl,aAc _,by simp,rfl⟩,fun k out p ⟨hk,ho,hv⟩=>?_⟩;refine⟨aA0 _,dd (fun c0=>?_) fun c0=>?_⟩
 ·refine⟨by omega,rfl,by omega,fun e18 h18=>?_⟩;have hsz:=vH h18;refine⟨gM _ _,dd (fun c1=>?_) fun c1=>?_⟩
  ·refine dd (fun g26=>?_) fun g26=>?_
   ·refine⟨by omega,rfl,by omega,fun e40 h40=>?_⟩;obtain rfl:=(bE h18 h40).symm;refine ap ?_ (fun _=>rfl) (by omega);refine⟨rfl,rfl,by omega,⟨by omega,by omega⟩,?_⟩;exact⟨k+1,_,_,rfl,rfl,rfl,⟨by omega,by simp;omega,by rw[<-hv,nV h18];(rw[aIM c1];simp;done)⟩,by omega⟩
   ·refine⟨by omega,rfl,by omega,fun e40 h40=>?_⟩;obtain rfl:=(bE h18 h40).symm;refine ap ?_ (fun _=>rfl) (by (simp;omega));refine⟨rfl,rfl,by omega,⟨by omega,by omega⟩,?_⟩;exact⟨k+1,_,_,rfl,rfl,rfl,⟨by omega,by simp;omega,by rw[<-hv,nV h18];(rw[aIM c1];simp;done)⟩,by omega⟩
  ·refine dd (fun g26=>?_) fun g26=>?_
   ·refine dm (fun c2=>?_) fun c2=>?_
    ·refine ap ?_ (fun _=>rfl) (by (simp;omega));refine⟨rfl,rfl,by omega,by omega,rfl,by omega,fun e40 h40=>?_⟩;obtain rfl:=(bE h18 h40).symm;refine ap ?_ (fun _=>rfl) (by (simp;omega));refine⟨rfl,rfl,by (simp;omega),⟨by omega,by omega⟩,?_⟩;exact⟨k+1,_,_,rfl,rfl,rfl,⟨by omega,by simp;omega,by rw[<-hv,nV h18];(subst c2;rw[aMh g26];simp;done)⟩,by omega⟩
    ·refine⟨by omega,rfl,by omega,fun e40 h40=>?_⟩;obtain rfl:=(bE h18 h40).symm;refine ap ?_ (fun _=>rfl) (by (simp;omega));refine⟨rfl,rfl,by omega,⟨by omega,by omega⟩,?_⟩;exact⟨k+1,_,_,rfl,rfl,rfl,⟨by omega,by simp;omega,by rw[<-hv,nV h18];(subst c2;rw[aMi];simp;done)⟩,by omega⟩
   ·refine⟨by omega,rfl,by omega,fun e40 h40=>?_⟩;obtain rfl:=(bE h18 h40).symm;refine ap ?_ (fun _=>rfl) (by (simp;omega));refine⟨rfl,rfl,by omega,⟨by omega,by omega⟩,?_⟩;exact⟨k+1,_,_,rfl,rfl,rfl,⟨by omega,by simp;omega,by rw[<-hv,nV h18];(rw[aMj g26 c1];simp;done)⟩,by omega⟩
 ·refine dm (fun c3=>?_) fun c3=>?_
  ·refine ap ?_ (fun _=>rfl) (by (simp;omega));refine⟨rfl,rfl,by omega,?_,trivial⟩
   ·rw[<-hv,uA (by omega),pgo];simp[c3]
  ·apply et1
   ·rw[<-hv,uA (by omega),pgo];simp[c3]
theorem aC6 {row:List Int}: ∀xs:List (List Int),pgo row true xs=xs
 | []=>rfl
 | x::xs=>by rw[aMi,aC6 xs]
theorem yZ {row:List Int}:iI row []= [row]:=rfl
theorem zA {row x:List Int}{xs:List (List Int)}(h:0<cM x row):iI row (x::xs)=row::x::xs:=by rw[iI,aMh h,aC6]
theorem zB {row x:List Int}{xs:List (List Int)}(h:cM x row=0):iI row (x::xs)=x::xs:=by rw[iI,aIM h,aC6]
theorem zC {row x:List Int}{xs:List (List Int)}(h: ¬0<cM x row)(h' : ¬cM x row=0):iI row (x::xs)=x::iI row xs:=by rw[iI,aMj h h',iI]
theorem zD {row y:List Int}: ∀{xs:List (List Int)},y∈iI row xs↔y=row\/y∈xs
 | []=>by simp[yZ]
 | x::xs=>by
   by_cases h:0<cM x row
   ·rw[zA h];simp
   by_cases h' :cM x row=0
   ·rw[zB h',dU.1 h'];constructor
    ·exact Or.inr
    rintro(rfl | q)
    ·simp
    exact q
   rw[zC h h',aEx,aEx,zD];constructor
   ·rintro(q | q | q)
    ·exact .inr (.inl q)
    ·exact .inl q
    exact .inr (.inr q)
   rintro(q | q | q)
   ·exact .inr (.inl q)
   ·exact .inl q
   exact .inr (.inr q)
abbrev Asc (l:List (List Int)):Prop:=l.Pairwise fun a b=>cM a b<0
theorem aGk {row:List Int}: ∀{xs:List (List Int)},Asc xs->Asc (iI row xs)
 | [],_=>by rw[yZ];exact List.pairwise_singleton _ _
 | x::xs,hx=>by
   have h1:=List.pairwise_cons.1 hx;by_cases h:0<cM x row
   ·rw[zA h];refine List.pairwise_cons.2 ⟨fun y hy=>?_,hx⟩;have hrx:cM row x<0:=qS.2 h;rcases aEx.1 hy with rfl | q
    ·exact hrx
    exact mL hrx (h1.1 y q)
   by_cases h' :cM x row=0
   ·rw[zB h'];exact hx
   rw[zC h h'];refine List.pairwise_cons.2 ⟨fun y hy=>?_,aGk h1.2⟩;rcases zD.1 hy with rfl | q
   ·omega
   exact h1.1 y q
theorem aC7 {row:List Int}: ∀{xs:List (List Int)},(iI row xs).length<=xs.length+1
 | []=>by simp[yZ]
 | x::xs=>by
   by_cases h:0<cM x row
   ·rw[zA h];simp
   by_cases h' :cM x row=0
   ·rw[zB h'];simp
   rw[zC h h'];have:=aC7 (row:=row) (xs:=xs);simp only[aFt];omega
def bP (l:List (List Int)):List (List Int):=l.foldl (fun acc x=>iI x acc) []
theorem pL (l:List (List Int)): ∀acc,Asc acc->Asc (l.foldl (fun acc x=>iI x acc) acc)/\(∀y,y∈l.foldl (fun acc x=>iI x acc) acc↔y∈acc\/y∈l)/\(l.foldl (fun acc x=>iI x acc) acc).length<=acc.length+l.length:=by
 induction l with
 | nil=>intro acc h;simp[h]
 | cons x l ih=>
   intro acc h;obtain⟨h1,h2,h3⟩:=ih _ (aGk (row:=x) h);refine⟨h1,fun y=>?_,?_⟩
   ·rw[List.foldl_cons,h2,zD,aEx];constructor
    ·rintro((q | q) | q)
     ·exact .inr (.inl q)
     ·exact .inl q
     exact .inr (.inr q)
    rintro(q | q | q)
    ·exact .inl (.inr q)
    ·exact .inl (.inl q)
    exact .inr q
   have:=aC7 (row:=x) (xs:=acc);rw[List.foldl_cons,aFt];omega
theorem zE {l:List (List Int)}{x:List Int}:bP (l++[x])=iI x (bP l):=by simp[bP,List.foldl_append]
theorem aB7: ∀{l m:List (List Int)},Asc l->Asc m->(∀x,x∈l↔x∈m)->l=m
 | [],[],_,_,_=>rfl
 | [],b::m,_,_,h=>by have:=(h b).2 (by simp);simp at this
 | a::l,[],_,_,h=>by have:=(h a).1 (by simp);simp at this
 | a::l,b::m,hl,hm,h=>by
   have hl' :=List.pairwise_cons.1 hl;have hm' :=List.pairwise_cons.1 hm
   have hab:a=b:=by
    rcases aEx.1 ((h a).1 (by simp)) with q | q
    ·exact q
    rcases aEx.1 ((h b).2 (by simp)) with r | r
    ·exact r.symm
    have h1:=hm'.1 a q;have h2:=hl'.1 b r;have:=mL h1 h2;rw[aAT] at this;omega
   subst hab
   congr 1
   refine aB7 hl'.2 hm'.2 fun x=>⟨fun hx=>?_,fun hx=>?_⟩
   ·rcases aEx.1 ((h x).1 (by simp[hx])) with q | q
    ·subst q;have:=hl'.1 _ hx;rw[aAT] at this;omega
    exact q
   rcases aEx.1 ((h x).2 (by simp[hx])) with q | q
   ·subst q;have:=hm'.1 _ hx;rw[aAT] at this;omega
   exact q
theorem aC8 {s:List (List Int)}{i:Nat}:i∈aKb s↔i<s.length/\(i=0\/ ¬s.getD i []=s.getD (i - 1) []):=by
 rw[aKb,aL4,aGS];simp[aRh]
theorem aE7 (s:List (List Int)): ∀n,n<s.length-> ∃i,i∈aKb s/\s.getD i []=s.getD n []
 | 0,h=>⟨0,aC8.2 ⟨h,.inl rfl⟩,rfl⟩
 | n+1,h=>by
   by_cases e:s.getD (n+1) []=s.getD n []
   ·obtain⟨i,h1,h2⟩:=aE7 s n (by omega);exact⟨i,h1,by rw[h2,e]⟩
   exact⟨n+1,aC8.2 ⟨h,.inr e⟩,rfl⟩
theorem aMl {s:List (List Int)}{x:List Int}:x∈aKc s↔x∈s:=by
 constructor
 ·intro h;obtain⟨i,hi,rfl⟩:=aFm.1 h;obtain⟨y,hy⟩:=jJ (aPH hi);rw[bB hy];exact aAm hy
 intro h;obtain⟨n,hn,hx⟩:=List.mem_iff_getElem.1 h;obtain⟨i,h1,h2⟩:=aE7 s n hn;refine aFm.2 ⟨i,h1,?_⟩;rw[h2,<-hx];simp[hn]
theorem aMm {s:List (List Int)}(hs:s.Pairwise (fun a b=>leR a b=true)):Asc (aKc s):=by
 rw[aKc,Asc,List.pairwise_map];have h0:(aKb s).Pairwise (· < ·):=List.Pairwise.filter _ List.pairwise_lt_range;refine List.Pairwise.imp_of_mem ?_ h0;intro i j hi hj hij;have h1:=aC8.1 hj;have hp:=List.pairwise_iff_getElem.1 hs
 have hg: ∀a b,a<b->b<s.length->leR (s.getD a []) (s.getD b [])=true:=by
  intro a b hab hb;have:=hp a b (by omega) hb hab;simpa [hb,show a<s.length by omega] using this
 have h2:=hg (j - 1) j (by omega) h1.1;rw[leR,aH9] at h2
 have h3:cM (s.getD (j - 1) []) (s.getD j [])<0:=by
  have: ¬cM (s.getD (j - 1) []) (s.getD j [])=0:=fun q=>by
   have:=dU.1 q;rcases h1.2 with r | r
   ·omega
   exact r this.symm
  omega
 by_cases e:i=j - 1
 ·rw[e];exact h3
 have h4:=hg i (j - 1) (by omega) (by omega);rw[leR,aH9] at h4;by_cases z:cM (s.getD i []) (s.getD (j - 1) [])=0
 ·rw[dU.1 z];exact h3
 exact mL (by omega) h3
theorem pM (l:List (List Int)):bP l=aKc (aGi l):=by
 obtain⟨h1,h2,_⟩:=pL l [] List.Pairwise.nil
 exact aB7 h1 (aMm (aII l)) fun x=>by
  have h2' :=h2 x;rw[show l.foldl (fun acc x=>iI x acc) []=bP l from rfl] at h2';rw[h2',aMl,(aIH l).mem_iff];simp
theorem aDq {l:List (List Int)}{m:Nat}(h: ∀x∈l,x.length<=m):(bP l).length<=l.length/\cS (bP l)<=l.length+l.length*m:=by
 obtain⟨_,h2,h3⟩:=pL l [] List.Pairwise.nil
 have h4:(bP l).length<=l.length:=by
  rw[List.length_nil,Nat.zero_add] at h3;exact h3
 have:=rT (l:=bP l) (m:=m) fun x hx=>h x (by simpa using (h2 x).1 hx);have:=Nat.mul_le_mul_right m h4;exact⟨h4,by omega⟩
theorem aFV {t:bA}{cols:List Int}{j:Nat}{e:List Int}(h:t.rows[j]? =some e):(iO t cols)[j]? =some (iN e cols).1:=by simp[iO,h]
theorem aFW {t:bA}{cols:List Int}{k:Nat}(h:(aT t&&eL (t.arity - 1) cols)=true):(bP ((iO t cols).take k)).length<=8/\cS (bP ((iO t cols).take k))<=64:=by
 have h0:=h;rw[aA1] at h;have ha:=cP h.1;have hc:=yY h.2 (by omega);have hl:(iO t cols).length=t.rows.length:=aA0 _
 have:=aDq (l:=(iO t cols).take k) (m:=3) fun r hr=>by
  obtain⟨q,_,rfl⟩:=aFm.1 (List.mem_of_mem_take hr);have:=aC2 q cols;omega
 have h5:((iO t cols).take k).length<=8:=by simp;omega
 omega
abbrev xC (t:bA)(cols:List Int):AV × List (Nat × Rs):=(.tup [.own 0,.own 1],[(0,.arr 27 1 true ((gN t cols).1.map aD)),(1,.arr 3 1 true ((gN t cols).2.map aC))])
abbrev aC9 (t:bA)(cols:List Int):Prop:=Cn 93 [.agg [.str t.name,.int .i64 t.arity,.sl 27 1 (t.rows.map aD)],.one (.sl 3 1 (cols.map aC))] (xC t cols).1 (xC t cols).2
theorem aMn (t:bA)(cols:List Int)(hl:cols.length<=1048576):aC9 t cols:=by
 refine cq Try.func93 (.call (vB (aT t&&eL (t.arity - 1) cols)) []<| .br (.fin [(0,1600),(1,1700)]) (.loop (Nat × (List (List Int))) (Q2 Nat (List (List Int))) ([6,8,9,10,16]++rg 24 20) [1600,3800,4300] (fun yy0=>[(8,vI (yy0.1:Int)),(6,.own 1600)]) (fun yy0=>[(1600,some (.arr 27 1 true (yy0.2.map aD)))]) (fun yy0=>yy0.1<=t.rows.length/\yy0.2=bP ((iO t cols).take yy0.1)) (fun yy0=>t.rows.length - yy0.1) (fun yy0=> .len t.rows.length<| .br (.elem _ aD t.rows (fun e35=>dT (mK e35 cols)<| dT (oR yy0.2 ((iN e35 cols).1))<| .back [(1600,4300)])) (.loop (Nat × (List Int)) (Q2 Nat (List Int)) ([7,11,12,13,14,15,17]++rg 44 36) [1700,6400,7800,7900] (fun yy1=>[(11,vI (yy1.1:Int)),(7,.own 1700)]) (fun yy1=>[(1700,some (.arr 3 1 true (yy1.2.map aC)))]) (fun yy1=>yy1.1<=yy0.2.length/\yy1.2=(yy0.2.take yy1.1).map (jN (iO t cols))) (fun yy1=>yy0.2.length - yy1.1) (fun yy1=> .len yy0.2.length<| .br (.loop (Nat × Int) (Q2 Nat Int) ([12,13,14,15]++rg 50 26) [6400] (fun yy2=>[(12,vI yy2.2),(13,vI (yy2.1:Int))]) (fun yy2=>[]) (fun yy2=>yy2.1<=t.rows.length/\yy2.2=jN ((iO t cols).take yy2.1) (yy0.2.getD yy1.1 [])) (fun yy2=>t.rows.length - yy2.1) (fun yy2=> .len t.rows.length<| .br (.elem _ aD t.rows (fun e61=>dT (mK e61 cols)<| .len yy0.2.length<| .elem _ aD yy0.2 (fun e71=> .call (vI (cM ((iN e61 cols).1) e71)) []<| .br (.back []) (.back [])))) (.app Int aC yy1.2 ([yy2.2]:List Int)<| .back [(1700,7900)]))) (.fin [(0,1600),(1,1700)])))))) (p:=Lx (t.rows.map aD)<| Lx (cols.map aC)<| uD t cols/\Nr (aT t&&eL (t.arity - 1) cols) ([]=(gN t cols).1.map aD/\[]=(gN t cols).2.map aC/\True) ((∃(k:Nat) (out:List (List Int)),0=(k:Int)/\[]=out.map aD/\k<=t.rows.length/\out=bP ((iO t cols).take k))/\ ∀(k:Nat) (out:List (List Int)),(k<=t.rows.length/\out=bP ((iO t cols).take k))->Lm aD t.rows/\Br ((k:Int)<(t.rows.length:Int)) (0<=(k:Int)/\Em aD t.rows k fun e35=>oQ e35 cols/\rU out ((iN e35 cols).1)/\bS ((k:Int)+1)/\ ∃(k' :Nat) (out' :List (List Int)),((k:Int)+1)=(k' :Int)/\(iI ((iN e35 cols).1) out).map aD=out'.map aD/\(k' <=t.rows.length/\out' =bP ((iO t cols).take k'))/\t.rows.length - k' <t.rows.length - k) ((∃(i:Nat) (c:List Int),0=(i:Int)/\[]=c.map aC/\i<=out.length/\c=(out.take i).map (jN (iO t cols)))/\ ∀(i:Nat) (c:List Int),(i<=out.length/\c=(out.take i).map (jN (iO t cols)))->Lm aD out/\Br ((i:Int)<(out.length:Int)) ((∃(j:Nat) (z:Int),0=z/\0=(j:Int)/\j<=t.rows.length/\z=jN ((iO t cols).take j) (out.getD i []))/\ ∀(j:Nat) (z:Int),(j<=t.rows.length/\z=jN ((iO t cols).take j) (out.getD i []))->Lm aD t.rows/\Br ((j:Int)<(t.rows.length:Int)) (0<=(j:Int)/\Em aD t.rows j fun e61=>oQ e61 cols/\0<=(i:Int)/\Lm aD out/\(i:Int)<(out.length:Int)/\Em aD out i fun e71=>eK ((iN e61 cols).1) e71/\Br ((cM ((iN e61 cols).1) e71)=0) (bS (z+1)/\bS ((j:Int)+1)/\ ∃(j' :Nat) (z' :Int),(z+1)=z' /\((j:Int)+1)=(j' :Int)/\(j' <=t.rows.length/\z' =jN ((iO t cols).take j') (out.getD i []))/\t.rows.length - j' <t.rows.length - j) (bS ((j:Int)+1)/\ ∃(j' :Nat) (z' :Int),z=z' /\((j:Int)+1)=(j' :Int)/\(j' <=t.rows.length/\z' =jN ((iO t cols).take j') (out.getD i []))/\t.rows.length - j' <t.rows.length - j)) (Ap aC c ([z]:List Int) 8 (bS ((i:Int)+1)/\ ∃(i' :Nat) (c' :List Int),((i:Int)+1)=(i' :Int)/\(c++[z]).map aC=c'.map aC/\(i' <=out.length/\c' =(out.take i').map (jN (iO t cols)))/\out.length - i' <out.length - i))) (out.map aD=(gN t cols).1.map aD/\c.map aC=(gN t cols).2.map aC/\True)))) (by kernel_rfl) ?_;refine lx fun n0=>lx fun n1=>?_;refine⟨aE6 t _,dm (fun c0=>?_) fun c0=>?_⟩
 ·have hbad:(aT t&&eL (t.arity - 1) cols)=false:=by simpa using c0
  refine⟨?_,?_,trivial⟩<;>((rw[aFU hbad]<;>rfl))
 ·have hok:(aT t&&eL (t.arity - 1) cols)=true:=by simpa using c0
  obtain⟨hs1,hs2⟩:=aIL hok;refine⟨⟨0,([]:List (List Int)),rfl,rfl,aAc _,rfl⟩,fun k out ⟨hk,ho⟩=>?_⟩;refine⟨aA0 _,dd (fun c1=>?_) fun c1=>?_⟩
  ·have hp:=aFW (k:=k) hok;rw[<-ho] at hp;refine⟨by omega,rfl,by omega,fun e35 h35=>?_⟩;have hsl:=aC2 e35 cols;refine⟨yX _ _ (by omega),aC5 out ((iN e35 cols).1) (by omega) (by omega) (by omega),⟨by omega,by omega⟩,?_⟩;exact⟨k+1,_,rfl,rfl,⟨by omega,by rw[ho,bQ (aFV h35),zE]⟩,by omega⟩
  ·have hV:out=aIJ t cols:=by rw[ho,aCu (by simp[iO];omega),pM];rfl
   have hp:=aFW (k:=k) hok;rw[<-ho] at hp;refine⟨⟨0,([]:List Int),rfl,rfl,aAc _,rfl⟩,fun i c ⟨hi,hc⟩=>?_⟩;refine⟨aA0 _,dd (fun c2=>?_) fun c2=>?_⟩
   ·obtain⟨g,hg⟩:=jJ (l:=out) (k:=i) (by omega);refine⟨⟨0,0,rfl,rfl,aAc _,rfl⟩,fun j z ⟨hj,hz⟩=>?_⟩;refine⟨aA0 _,dd (fun c3=>?_) fun c3=>?_⟩
    ·refine⟨by omega,rfl,by omega,fun e61 h61=>?_⟩;refine⟨yX _ _ (by omega),by omega,aA0 _,by omega,rfl,by omega,fun e71 h71=>?_⟩;have hg71:out.getD i []=e71:=bB h71;refine⟨gM _ _,dd (fun c4=>?_) fun c4=>?_⟩
     ·have hcl:=aRD ((iO t cols).take j) e71;rw[<-hg71,<-hz] at hcl;have hjl:((iO t cols).take j).length<=8:=by simp;omega
      refine⟨⟨by omega,by omega⟩,⟨by omega,by omega⟩,?_⟩;exact⟨j+1,_,rfl,rfl,⟨by omega,by rw[hz,hg71,aPI (aFV h61) (dU.1 c4).symm]⟩,by omega⟩
     ·refine⟨⟨by omega,by omega⟩,?_⟩;exact⟨j+1,_,rfl,rfl,⟨by omega,by rw[hz,hg71,aRC (aFV h61) (fun q=>c4 (dU.2 q.symm))]⟩,by omega⟩
    ·refine ap ?_ (fun _=>rfl) (by (rw[hc];simp;omega));refine⟨⟨by omega,by omega⟩,?_⟩;exact⟨i+1,_,rfl,rfl,⟨by omega,by rw[hc,hz,bQ hg,bB hg,aDj,aCu (l:=iO t cols) (i:=j) (by simp[iO];omega)];rfl⟩,by omega⟩
   ·have hC:c=aIK t cols:=by rw[hc,aCu (by omega),hV];rfl
    refine⟨?_,?_,trivial⟩<;>(first|(rw[uE hok,hV]<;>rfl)|(rw[uE hok,hC]<;>rfl))
def fK (s:Int)(v:Nat):Bool:=decide (bJ .and .i64 (s/2^v) 1=1)
def nG (s:Int)(k:Nat):List Int:=((List.range k).filter (fK s)).map fun v:Nat=>(v:Int)
def jO (s:Int):List Int:=nG s 3
theorem aE8 {s:Int}{k:Nat}(h:bJ .and .i64 (s/2^k) 1=1):nG s (k+1)=nG s k++[(k:Int)]:=by
 rw[nG,List.range_succ,List.filter_append,aDj];simp[nG,fK,h]
theorem aGl {s:Int}{k:Nat}(h: ¬bJ .and .i64 (s/2^k) 1=1):nG s (k+1)=nG s k:=by
 rw[nG,List.range_succ,List.filter_append,aDj];simp[nG,fK,h]
theorem aAU (s:Int)(k:Nat):(nG s k).length<=k:=by
 rw[nG,aA0];have:=(List.filter_sublist (l:=List.range k) (p:=fK s)).length_le;rw[List.length_range] at this;exact this
theorem vJ {n:Int}(h:1<=n/\n<=3):2<=(2:Int)^n.toNat/\(2:Int)^n.toNat<=8:=by
 have:n=1\/n=2\/n=3:=by omega
 rcases this with rfl | rfl | rfl<;>decide
def wH (k:Nat):List (List Int):=(List.range k).map fun i=>jO ((i+1:Nat):Int)
def cN (n:Int):List (List Int):=wH ((2:Int)^n.toNat - 1).toNat
theorem aIN (k:Nat):wH (k+1)=wH k++[jO ((k+1:Nat):Int)]:=by rw[wH,List.range_succ,aDj];rfl
abbrev pN (s:Int):AV × List (Nat × Rs):=(.own 0,[(0,.arr 3 1 true ((jO s).map aC))])
abbrev uF (s:Int):Prop:=Cn 59 [.one (.int .i64 s)] (pN s).1 (pN s).2
theorem aE9 (s:Int)(hs:0<=s/\s<=7):uF s:=by
 refine cq Try.func59 (.loop (Nat × (List Int)) (Q2 Nat (List Int)) (rg 3 16) [500,1700,1800] (fun yy0=>[(4,vI (yy0.1:Int)),(3,.own 500)]) (fun yy0=>[(500,some (.arr 3 1 true (yy0.2.map aC)))]) (fun yy0=>yy0.1<=3/\yy0.2=nG s yy0.1) (fun yy0=>3 - yy0.1) (fun yy0=> .br (.br (.app Int aC yy0.2 ([(yy0.1:Int)]:List Int)<| .back [(500,1800)]) (.back [(500,500)])) (.fin [(0,500)]))) (p:=(∃(k:Nat) (out:List Int),0=(k:Int)/\[]=out.map aC/\k<=3/\out=nG s k)/\ ∀(k:Nat) (out:List Int),(k<=3/\out=nG s k)->Br ((k:Int)<3) ((0<=(k:Int)/\(k:Int)<=64)/\Br ((bJ .and .i64 (s/2^k) (1:Int))=1) (Ap aC out ([(k:Int)]:List Int) 8 (bS ((k:Int)+1)/\ ∃(k' :Nat) (out' :List Int),((k:Int)+1)=(k' :Int)/\(out++[(k:Int)]).map aC=out'.map aC/\(k' <=3/\out' =nG s k')/\3 - k' <3 - k)) (bS ((k:Int)+1)/\ ∃(k' :Nat) (out' :List Int),((k:Int)+1)=(k' :Int)/\out.map aC=out'.map aC/\(k' <=3/\out' =nG s k')/\3 - k' <3 - k)) (out.map aC=(jO s).map aC/\True)) (by kernel_rfl) ?_;refine⟨⟨0,([]:List Int),rfl,rfl,by omega,rfl⟩,fun k out ⟨hk,ho⟩=>?_⟩;refine dd (fun c0=>?_) fun c0=>?_
 ·skip
  have hln:=aAU s k;refine⟨⟨by omega,by omega⟩,dd (fun c1=>?_) fun c1=>?_⟩
  ·refine ap ?_ (fun _=>rfl) (by (simp[ho];omega));refine⟨⟨by omega,by omega⟩,?_⟩;exact⟨k+1,_,rfl,rfl,⟨by omega,by (rw[ho,aE8 c1];done)⟩,by omega⟩
  ·refine⟨⟨by omega,by omega⟩,?_⟩;exact⟨k+1,_,rfl,rfl,⟨by omega,by (rw[ho,aGl c1];done)⟩,by omega⟩
 ·apply et1
  ·(rw[ho];exact congrArg _ (by rw[jO,show 3=k by omega]))
abbrev uG (n:Int):AV × List (Nat × Rs):=(.own 0,[(0,.arr 27 1 true ((cN n).map aD))])
abbrev aAn (n:Int):Prop:=Cn 92 [.one (.int .i64 n)] (uG n).1 (uG n).2
theorem aKd (n:Int)(hn:1<=n/\n<=3):aAn n:=by
 refine cq Try.func92 (.loop (Nat × (List (List Int))) (Q2 Nat (List (List Int))) (rg 3 18) [500,1800,1900,2000] (fun yy0=>[(4,vI ((yy0.1+1:Nat):Int)),(3,.own 500)]) (fun yy0=>[(500,some (.arr 27 1 true (yy0.2.map aD)))]) (fun yy0=>yy0.1<=((2:Int)^n.toNat - 1).toNat/\yy0.2=wH yy0.1) (fun yy0=>((2:Int)^n.toNat - 1).toNat - yy0.1) (fun yy0=> .call (vB (fB n (1:Int) (3:Int))) []<| .br (.lit<| .lit<| .lit<| .lit<| .br (dT (pN ((yy0.1+1:Nat):Int))<| .appx (List Int) aD yy0.2 (jO ((yy0.1+1:Nat):Int))<| .back [(500,2000)]) (.fin [(0,500)])) (.fin [(0,500)]))) (p:=(∃(k:Nat) (out:List (List Int)),1=((k+1:Nat):Int)/\[]=out.map aD/\k<=((2:Int)^n.toNat - 1).toNat/\out=wH k)/\ ∀(k:Nat) (out:List (List Int)),(k<=((2:Int)^n.toNat - 1).toNat/\out=wH k)->dN n (1:Int) (3:Int)/\Bb (fB n (1:Int) (3:Int)) ((0<=n/\n<=64)/\bS ((1:Int)*2^(Int.toNat n))/\Br (((k+1:Nat):Int)<((1:Int)*2^(Int.toNat n))) (uF ((k+1:Nat):Int)/\out.map aD=out.map aD/\(jO ((k+1:Nat):Int)).map aC=(jO ((k+1:Nat):Int)).map aC/\(out.length+1)*24<=140737488355328/\bS (((k+1:Nat):Int)+1)/\ ∃(k' :Nat) (out' :List (List Int)),(((k+1:Nat):Int)+1)=((k' +1:Nat):Int)/\(out++[jO ((k+1:Nat):Int)]).map aD=out'.map aD/\(k' <=((2:Int)^n.toNat - 1).toNat/\out' =wH k')/\((2:Int)^n.toNat - 1).toNat - k' <((2:Int)^n.toNat - 1).toNat - k) (out.map aD=(cN n).map aD/\True)) (out.map aD=(cN n).map aD/\True)) (by kernel_rfl) ?_;have hb:=vJ hn;have hin:fB n 1 3=true:=zZ hn.1 hn.2;refine⟨⟨0,([]:List (List Int)),rfl,rfl,aAc _,rfl⟩,fun k out ⟨hk,ho⟩=>?_⟩;refine⟨fT _ _ _,db (fun g8=>?_) fun g8=>?_⟩
 ·refine⟨⟨by omega,by omega⟩,⟨by omega,by omega⟩,dd (fun c0=>?_) fun c0=>?_⟩
  ·refine⟨aE9 ((k+1:Nat):Int) (by omega),rfl,rfl,by (simp[ho,wH];omega),⟨by omega,by omega⟩,?_⟩;exact⟨(k+1),_,rfl,rfl,⟨by omega,by rw[ho,aIN]⟩,by omega⟩
  ·apply et1
   ·(rw[ho,cN];congr 2;omega)
 ·apply et1
  ·(exfalso;simp[hin] at*;done)
def vW (t:bA)(cols:List Int):bG:=⟨cols,(gN t cols).1,(gN t cols).2⟩
def bW (t:bA):aL:=if aT t=true then ⟨t.name,t.arity,(t.rows.length:Nat),(cN t.arity).map (vW t)⟩ else pK
theorem jA {t:bA}(h:aT t=true):bW t=⟨t.name,t.arity,(t.rows.length:Nat),(cN t.arity).map (vW t)⟩:=by rw[bW,if_pos h]
theorem aCa {t:bA}(h:aT t=false):bW t=pK:=by rw[bW,if_neg (by rw[h];decide)]
theorem aPJ {α:Type}{l:List α}{k:Nat}(h:k<l.length):l.drop k≠[]:=fun e=>by
 have:=congrArg List.length e;simp at this;omega
theorem aPK {α:Type}{l l2:List α}{k:Nat}{x:α}(h:l.drop k=x::l2):l2=l.drop (k+1):=by rw[<-List.tail_drop,h];rfl
theorem aPL {α:Type}{l l2:List α}{k:Nat}{x:α}(h:l.drop k=x::l2):l[k]? =some x:=by
 have:=congrArg List.head? h;simpa [List.head?_drop] using this
theorem aCb {n:Int}{k:Nat}{x:List Int}(h:(cN n)[k]? =some x):x.length<=3:=by
 obtain⟨i,_,rfl⟩:=aFm.1 (aAm h);exact aAU _ 3
theorem aAo {n:Int}(h:1<=n/\n<=3):(cN n).length<=7:=by
 have:=vJ h;simp only[cN,wH,aA0,List.length_range];omega
abbrev vK (t:bA):AV × List (Nat × Rs):=(.agg [.p none (.str ((bW t).name)),vI ((bW t).arity),vI ((bW t).rowCount),.own 0],[(0,.arr 145 3 true ((bW t).groups.map aJ))])
abbrev aAV (t:bA):Prop:=Cn 80 [.agg [.str t.name,.int .i64 t.arity,.sl 27 1 (t.rows.map aD)]] (vK t).1 (vK t).2
theorem aJ2 (t:bA):aAV t:=by
 refine cq Try.func80 (.call (vB (aT t)) []<| .br (.fin []) (.len t.rows.length<| dT (uG t.arity)<| .loop (Nat × (List (List Int)) × (List bG)) (Q3 Nat (List (List Int)) (List bG)) ([5,6,7]++rg 23 27) [300,2200,3500,3501,4700,4800,9000,50807] (fun yy0=>[(5,vI (yy0.1:Int))]) (fun yy0=>[(300,some (.box 77 [.p none (.str t.name),vI t.arity,vI (t.rows.length:Int),.own 9000])),(9000,some (.arr 145 3 true (yy0.2.2.map aJ))),(2200,some (.arr 27 1 true (List.replicate yy0.1 [bF.gone]++yy0.2.1.map aD)))]) (fun yy0=>yy0.1<=(cN t.arity).length/\yy0.2.1=(cN t.arity).drop yy0.1/\yy0.2.2=((cN t.arity).take yy0.1).map (vW t)) (fun yy0=>(cN t.arity).length - yy0.1) (fun yy0=> .len (yy0.1+yy0.2.1.length)<| .br (.takeg 8 2200 yy0.1 50807 (List Int) aD yy0.2.1 (fun x8 l8=> .len (yy0.1+(l8.length+1))<| dT (xC t x8)<| .len (yy0.1+(l8.length+1))<| .appx bG aJ yy0.2.2 (⟨x8,(gN t x8).1,(gN t x8).2⟩:bG)<| .leave 7 2200 yy0.1 50807 (List Int) aD x8 l8 (.back [(300,300),(2200,2200),(9000,4800)]))) (.fin [(0,9000)])))) (p:=Lx (t.rows.map aD)<| mJ t/\Nr (aT t) (ByteArray.empty=((bW t).name)/\0=((bW t).arity)/\0=((bW t).rowCount)/\[]=(bW t).groups.map aJ/\True) (Lm aD t.rows/\(aAn t.arity/\((∃(k:Nat) (l2:List (List Int)) (out:List bG),0=(k:Int)/\t.name=t.name/\t.arity=t.arity/\(t.rows.length:Int)=(t.rows.length:Int)/\[]=out.map aJ/\(cN t.arity).map aD=List.replicate k [bF.gone]++l2.map aD/\k<=(cN t.arity).length/\l2=(cN t.arity).drop k/\out=((cN t.arity).take k).map (vW t))/\ ∀(k:Nat) (l2:List (List Int)) (out:List bG),(k<=(cN t.arity).length/\l2=(cN t.arity).drop k/\out=((cN t.arity).take k).map (vW t))->(List.replicate k [bF.gone]++l2.map aD).length=k+l2.length/\Br ((k:Int)<((k+l2.length:Nat):Int)) (List.replicate k [bF.gone]++l2.map aD=List.replicate k [bF.gone]++l2.map aD/\l2≠[]/\ ∀x8 l8,l2=x8::l8->0<=(k:Int)/\(List.replicate k [bF.gone]++(x8::l8).map aD).length=k+(l8.length+1)/\(k:Int)<((k+(l8.length+1):Nat):Int)/\k=k/\aC9 t x8/\0<=(k:Int)/\(List.replicate k [bF.gone]++(x8::l8).map aD).length=k+(l8.length+1)/\(k:Int)<((k+(l8.length+1):Nat):Int)/\k=k/\out.map aJ=out.map aJ/\x8.map aC=(⟨x8,(gN t x8).1,(gN t x8).2⟩:bG).columns.map aC/\(gN t x8).1.map aD=(⟨x8,(gN t x8).1,(gN t x8).2⟩:bG).values.map aD/\(gN t x8).2.map aC=(⟨x8,(gN t x8).1,(gN t x8).2⟩:bG).counts.map aC/\(out.length+1)*72<=140737488355328/\List.replicate k [bF.gone]++(x8::l8).map aD=List.replicate k [bF.gone]++(x8::l8).map aD/\k=k/\bS ((k:Int)+1)/\ ∃(k' :Nat) (l2' :List (List Int)) (out' :List bG),((k:Int)+1)=(k' :Int)/\t.name=t.name/\t.arity=t.arity/\(t.rows.length:Int)=(t.rows.length:Int)/\(out++[(⟨x8,(gN t x8).1,(gN t x8).2⟩:bG)]).map aJ=out'.map aJ/\List.replicate (k+1) [bF.gone]++l8.map aD=List.replicate k' [bF.gone]++l2'.map aD/\(k' <=(cN t.arity).length/\l2' =(cN t.arity).drop k' /\out' =((cN t.arity).take k').map (vW t))/\(cN t.arity).length - k' <(cN t.arity).length - k) (t.name=((bW t).name)/\t.arity=((bW t).arity)/\(t.rows.length:Int)=((bW t).rowCount)/\out.map aJ=(bW t).groups.map aJ/\True))))) (by kernel_rfl) ?_;refine lx fun n0=>?_;refine⟨uC t,dm (fun c0=>?_) fun c0=>?_⟩
 ·have hbad:aT t=false:=by simpa using c0
  apply et4<;>((rw[aCa hbad]<;>rfl))
 ·have hok:aT t=true:=by simpa using c0
  have hT:=cP hok;have hn:=aAo (n:=t.arity) ⟨hT.1,hT.2.1⟩;refine⟨aA0 _,aKd t.arity (by omega),⟨0,cN t.arity,([]:List bG),rfl,rfl,rfl,rfl,rfl,rfl,aAc _,rfl,rfl⟩,fun k l2 out ⟨hk,hl,ho⟩=>?_⟩;have hlen:l2.length=(cN t.arity).length - k:=by rw[hl,aJm]
  refine⟨by simp,dd (fun c1=>?_) fun c1=>?_⟩
  ·refine⟨rfl,(by rw[hl];exact aPJ (by omega)),fun x8 l8 t8=>?_⟩;have hdx:=hl.symm.trans t8;have hx:=aPL hdx;have hx3:=aCb hx;refine⟨by omega,by simp,by omega,rfl,aMn t x8 (by omega),by omega,by simp,by omega,rfl,rfl,rfl,rfl,rfl,by (simp[ho];omega),rfl,rfl,⟨by omega,by omega⟩,?_⟩;exact⟨k+1,_,_,rfl,rfl,rfl,rfl,rfl,rfl,⟨by omega,aPK hdx,by rw[ho,bQ hx,aDj];rfl⟩,by omega⟩
  ·apply et4<;>(first|(rw[jA hok]<;>rfl)|(rw[jA hok,ho,aCu (by omega)]))
def kP (x:aL):List (List Int):=(x.groups.getD (x.groups.length - 1) aAl).values
def gC (x:aL):bA:=⟨x.name,x.arity,kP x⟩
def dF (x:aL):Bool:=aT (gC x)&&decide (bW (gC x)=x)
theorem aMo {x:aL}{g:bG}(h:x.groups[x.groups.length - 1]? =some g):kP x=g.values:=by rw[kP,bB h]
theorem jB (a:List Int)(l:List (List Int)):cS (a::l)=cS l+1+a.length:=by
 simp only[cS,kX,dW,aDa,List.sum_cons,aFt];omega
theorem aGm (l:List (List Int)): ∀k,cS (l.take k)<=cS l:=by
 induction l with
 | nil=>intro k;simp
 | cons a l ih=>
   intro k;cases k with
   | zero=>rw[List.take_zero];exact aAc _
   | succ k=>rw[List.take_succ_cons,jB,jB];have:=ih k;omega
theorem aGn {row:List Int}: ∀{xs:List (List Int)},cS (iI row xs)<=cS xs+1+row.length
 | []=>by rw[yZ,jB];exact aHF _
 | x::xs=>by
   by_cases h:0<cM x row
   ·rw[zA h,jB];omega
   by_cases h' :cM x row=0
   ·rw[zB h'];omega
   rw[zC h h',jB,jB];have:=aGn (row:=row) (xs:=xs);omega
theorem aJ3 {row:List Int}: ∀{xs:List (List Int)},xs.length<=(iI row xs).length
 | []=>by simp
 | x::xs=>by
   by_cases h:0<cM x row
   ·rw[zA h];simp
   by_cases h' :cM x row=0
   ·rw[zB h'];simp
   rw[zC h h'];have:=aJ3 (row:=row) (xs:=xs);simp only[aFt];omega
theorem aGo (l:List (List Int)): ∀acc,cS (l.foldl (fun acc x=>iI x acc) acc)<=cS acc+cS l/\acc.length<=(l.foldl (fun acc x=>iI x acc) acc).length:=by
 induction l with
 | nil=>intro acc;simp
 | cons x l ih=>
   intro acc;obtain⟨h1,h2⟩:=ih (iI x acc);have h3:=aGn (row:=x) (xs:=acc);have h4:=aJ3 (row:=x) (xs:=acc);rw[List.foldl_cons,jB];exact⟨by omega,by omega⟩
theorem aGp (l:List (List Int))(k:Nat):cS (bP (l.take k))<=cS l:=by
 have h1:=(aGo (l.take k) []).1;have h2:=aGm l k;have h3:cS ([]:List (List Int))=0:=rfl;unfold bP;omega
theorem aFX (l:List (List Int))(k:Nat):(bP (l.take k)).length<=(bP l).length:=by
 have h:=(aGo (l.drop k) (bP (l.take k))).2
 have e:bP l=(l.drop k).foldl (fun acc x=>iI x acc) (bP (l.take k)):=by
  unfold bP;rw[<-List.foldl_append,List.take_append_drop]
 rw[e];exact h
def kW (name:ByteArray)(arity:Int)(rows:List (List Int)):bA × Bool:=if aT ⟨name,arity,bP rows⟩=true then (⟨name,arity,bP rows⟩,true) else (oM,false)
theorem qT {name:ByteArray}{arity:Int}{rows:List (List Int)}(h:aT ⟨name,arity,bP rows⟩=true):kW name arity rows=(⟨name,arity,bP rows⟩,true):=by rw[kW,if_pos h]
theorem aFY {name:ByteArray}{arity:Int}{rows:List (List Int)}(h:aT ⟨name,arity,bP rows⟩=false):kW name arity rows=(oM,false):=by rw[kW,if_neg (by rw[h];decide)]
theorem aAp {t:bA}(h:8<t.rows.length):aT t=false:=by
 cases e:aT t with
 | false=>rfl
 | true=>have:=cP e;omega
theorem aGq {name:ByteArray}{arity:Int}{rows:List (List Int)}{k:Nat}{acc:List (List Int)}(ha:acc=bP (rows.take k))(h:rows.length<=k\/8<acc.length):aT ⟨name,arity,acc⟩=aT ⟨name,arity,bP rows⟩/\(aT ⟨name,arity,acc⟩=true->acc=bP rows):=by
 by_cases h1:8<acc.length
 ·have h2:=aFX rows k;rw[<-ha] at h2;have q1:=aAp (t:=⟨name,arity,acc⟩) h1;rw[q1,aAp (t:=⟨name,arity,bP rows⟩) (show 8<(bP rows).length by omega)];exact⟨rfl,fun q=>by cases q⟩
 have e:acc=bP rows:=by rw[ha,aCu (by omega)]
 rw[e];exact⟨rfl,fun _=>rfl⟩
theorem aMp: ∀{l:List (List Int)},(∀i,i+1<l.length->cM (l.getD i []) (l.getD (i+1) [])<0)->Asc l
 | [],_=>List.Pairwise.nil
 | [a],_=>List.pairwise_singleton _ _
 | a::b::l,h=>by
   have ih:=aMp (l:=b::l) fun i hi=>by
    have:=h (i+1) (by simpa using hi);simpa using this
   have h0:cM a b<0:=by
    have:=h 0 (by simp);simpa using this
   refine List.pairwise_cons.2 ⟨fun y hy=>?_,ih⟩;rcases aEx.1 hy with rfl | q
   ·exact h0
   exact mL h0 ((List.pairwise_cons.1 ih).1 y q)
theorem aGr {l:List (List Int)}(h:aKa l=true):Asc l:=aMp fun i hi=>by
 have:=aDW.1 h i (aGS.2 (by omega));simpa [qR] using this
theorem mS {t:bA}(h:aT t=true):t.rows.all (nS t.arity)=true/\iM t.name=true/\aKa t.rows=true:=by
 simp only[aT,aA1] at h;exact⟨h.1,h.2.1,h.2.2.2.2⟩
theorem aAq {l:List (List Int)}(h:Asc l):bP l=l:=by
 obtain⟨h1,h2,_⟩:=pL l [] List.Pairwise.nil;exact aB7 h1 h fun x=>by have:=h2 x;simpa [bP] using this
theorem vL {t:bA}(h:aT t=true){r:List Int}(hr:r∈t.rows):(r.length:Int)=t.arity:=by
 have:=aDW.1 (mS h).1 r hr;simp only[nS,aA1,aH9] at this;exact this.2
def aIO (n:Int):List Int:=jO ((2:Int)^n.toNat - 1)
theorem aPM {n:Int}(hn:1<=n/\n<=3){r:List Int}(h:(r.length:Int)=n):(iN r (aIO n)).1=r:=by
 have h1:n=1\/n=2\/n=3:=by omega
 rcases h1 with rfl | rfl | rfl
 ·match r,h with
  | [a],_=>rfl
  | [],h=>simp at h
  | _::_::_,h=>simp at h;omega
 ·match r,h with
  | [a,b],_=>rfl
  | [],h=>simp at h
  | [_],h=>simp at h
  | _::_::_::_,h=>simp at h;omega
 match r,h with
 | [a,b,c],_=>rfl
 | [],h=>simp at h
 | [_],h=>simp at h
 | [_,_],h=>simp at h
 | _::_::_::_::_,h=>simp at h;omega
theorem aMq {n:Int}(hn:1<=n/\n<=3):eL (n - 1) (aIO n)=true:=by
 have h1:n=1\/n=2\/n=3:=by omega
 rcases h1 with rfl | rfl | rfl<;>decide
theorem aFZ {n:Int}(hn:1<=n/\n<=3):0<(cN n).length/\(cN n)[(cN n).length - 1]? =some (aIO n):=by
 have h1:n=1\/n=2\/n=3:=by omega
 rcases h1 with rfl | rfl | rfl<;>decide
theorem aMr {t:bA}(h:aT t=true):(gN t (aIO t.arity)).1=t.rows:=by
 have hT:=cP h;have hc:=aMq (n:=t.arity) ⟨hT.1,hT.2.1⟩;rw[uE (by rw[h,hc];rfl)]
 have e:iO t (aIO t.arity)=t.rows:=by
  rw[iO]
  conv=>rhs;rw[<-List.map_id t.rows]
  exact List.map_congr_left fun r hr=>aPM ⟨hT.1,hT.2.1⟩ (vL h hr)
 show aKc (aGi (iO t (aIO t.arity)))=t.rows;rw[e,<-pM,aAq (aGr (mS h).2.2)]
theorem aAr {t:bA}(h:aT t=true):kP (bW t)=t.rows/\(bW t).groups≠[]:=by
 have hT:=cP h;obtain⟨h0,h1⟩:=aFZ (n:=t.arity) ⟨hT.1,hT.2.1⟩;rw[jA h];constructor
 ·rw[kP];show (((cN t.arity).map (vW t)).getD (((cN t.arity).map (vW t)).length - 1) aAl).values=t.rows;rw[aA0,bB (x:=vW t (aIO t.arity)) (by rw[aL2,h1];rfl)];exact aMr h
 intro e;have:((cN t.arity).map (vW t)).length=0:=congrArg List.length e;rw[aA0] at this;omega
def lD (x:aL):bA × Bool:=if x.groups.length=0 then (oM,false) else kW x.name x.arity (kP x)
theorem aPN {x:aL}(h:dF x=true):lD x=(gC x,true):=by
 simp only[dF,aA1,aH9] at h;have h2:=(aAr h.1).2;rw[h.2] at h2;rw[lD,if_neg (fun e=>h2 (aD7 e))];have e:=aAq (aGr (mS h.1).2.2);rw[show (gC x).rows=kP x from rfl] at e;rw[qT (by rw[e];exact h.1),e];rfl
theorem aKe (x:aL):((lD x).2&&decide (bW (lD x).1=x))=dF x:=by
 cases h:dF x with
 | true=>
   rw[aPN h];simp only[dF,aA1,aH9] at h;simp[h.2]
 | false=>
   rw[lD];split
   ·rfl
   cases e:aT ⟨x.name,x.arity,bP (kP x)⟩ with
   | false=>rw[aFY e];rfl
   | true=>
     rw[qT e];simp only[Bool.true_and];by_cases q:bW ⟨x.name,x.arity,bP (kP x)⟩=x
     ·exfalso;have h3:=(aAr e).1;rw[q] at h3
      have h4:gC x=⟨x.name,x.arity,bP (kP x)⟩:=by
       rw[gC]
       congr 1
      rw[dF,h4,e,q] at h;simp at h
     simp[q]
theorem qU {x:aL}(h:dF x=true):aT (gC x)=true/\bW (gC x)=x:=by
 simpa only [dF,aA1,aH9] using h
theorem aCc {x:aL}(h:dF x=true):x.groups=(cN x.arity).map (vW (gC x)):=by
 obtain⟨h1,h2⟩:=qU h;rw[jA h1] at h2;exact(congrArg aL.groups h2).symm
theorem aKf {x:aL}(h:dF x=true):x.rowCount=((kP x).length:Nat):=by
 obtain⟨h1,h2⟩:=qU h;rw[jA h1] at h2;exact(congrArg aL.rowCount h2).symm
theorem aAW {x:aL}(h:dF x=true):1<=x.arity/\x.arity<=3:=by
 have:=cP (qU h).1;exact⟨this.1,this.2.1⟩
theorem aJ4 {α:Type}{p:α->Bool}{l:List α}{k:Nat}{x:α}(h:l[k]? =some x)(ha:(l.take k).all (fun y=> !p y)=true)(hx:p x=true):l.find? p=some x:=by
 rw[List.find?_eq_some_iff_getElem];obtain⟨hk,rfl⟩:=aBa.1 h;refine⟨hx,k,hk,rfl,fun j hj=>?_⟩;have:=aDW.1 ha l[j] (List.mem_iff_getElem.2 ⟨j,by simp;omega,by simp⟩);exact this
theorem aJ5 {α:Type}{p:α->Bool}{l:List α}(ha:l.all (fun y=> !p y)=true):l.find? p=none:=by
 rw[List.find?_eq_none];intro x hx;have:=aDW.1 ha x hx;simpa using this
def lE (l:List bA)(i:Nat):Bool:=Op.bytesLess (l.getD i oM).name.toList (l.getD (i+1) oM).name.toList
def lF (d:aO):Bool:=d.tables.all aT&&((List.range (d.tables.length - 1)).all (lE d.tables)&&decide ((d.tables.length:Int)<=6))
abbrev aAX (t:aO):Prop:=Cn 87 [.agg [.sl 114 3 (t.tables.map aM)]] (vB (lF t)) []
theorem aJ6 (t:aO):aAX t:=by
 refine cq Try.func87 (.loop Nat (Q1 Nat) (rg 3 35) [] (fun k=>[(3,vI (k:Int))]) (fun k=>[]) (fun k=>k<=t.tables.length/\(t.tables.take k).all aT=true/\(List.range (k - 1)).all (lE t.tables)=true) (fun k=>t.tables.length - k) (fun k=> .len t.tables.length<| .br (.elem _ aM t.tables (fun e14=> .call (vB (aT e14)) []<| .br (.fin []) (.lit<| .lit<| .br (.elem _ aM t.tables (fun e26=> .elem _ aM t.tables (fun e32=> .lit<| .lit<| .lit<| .lit<| .lit<| .lit<| .br (.fin []) (.back [])))) (.back [])))) (.len t.tables.length<| .fin []))) (p:=Lx (t.tables.map aM)<| (∃(k:Nat),0=(k:Int)/\k<=t.tables.length/\(t.tables.take k).all aT=true/\(List.range (k - 1)).all (lE t.tables)=true)/\ ∀(k:Nat),(k<=t.tables.length/\(t.tables.take k).all aT=true/\(List.range (k - 1)).all (lE t.tables)=true)->Lm aM t.tables/\Br ((k:Int)<(t.tables.length:Int)) (0<=(k:Int)/\Em aM t.tables k fun e14=>mJ e14/\Nr (aT e14) ((false)=(lF t)/\True) (Br (0<(k:Int)) (bS ((k:Int) - 1)/\0<=((k:Int) - 1)/\Em aM t.tables (((k:Int) - 1).toNat) fun e26=>0<=(k:Int)/\Em aM t.tables k fun e32=>Nr (Op.bytesLess e26.name.toList e32.name.toList) ((false)=(lF t)/\True) (bS ((k:Int)+1)/\ ∃(k' :Nat),((k:Int)+1)=(k' :Int)/\(k' <=t.tables.length/\(t.tables.take k').all aT=true/\(List.range (k' - 1)).all (lE t.tables)=true)/\t.tables.length - k' <t.tables.length - k)) (bS ((k:Int)+1)/\ ∃(k' :Nat),((k:Int)+1)=(k' :Int)/\(k' <=t.tables.length/\(t.tables.take k').all aT=true/\(List.range (k' - 1)).all (lE t.tables)=true)/\t.tables.length - k' <t.tables.length - k))) (Lm aM t.tables/\(decide ((t.tables.length:Int)<=6))=(lF t)/\True)) (by kernel_rfl) ?_;refine lx fun n0=>?_;refine⟨⟨0,rfl,aAc _,rfl,rfl⟩,fun k ⟨hk,ha,hs⟩=>?_⟩;refine⟨aA0 _,dd (fun c0=>?_) fun c0=>?_⟩
 ·refine⟨by omega,rfl,by omega,fun e14 h14=>?_⟩;refine⟨uC e14,dm (fun g18=>?_) fun g18=>?_⟩
  ·apply et1
   ·(rw[lF,gI h14 g18];rfl)
  ·refine dd (fun g21=>?_) fun g21=>?_
   ·refine⟨⟨by omega,by omega⟩,by omega,rfl,by omega,fun e26 h26=>?_⟩;have i1:t.tables[k - 1]? =some e26:=by rw[<-h26];congr 1;omega
    refine⟨by omega,rfl,by omega,fun e32 h32=>?_⟩;refine dm (fun c1=>?_) fun c1=>?_
    ·have hp:lE t.tables (k - 1)=false:=by rw[lE,bB i1,show k - 1+1=k by omega,bB h32];simpa using c1
     have hz:(List.range (t.tables.length - 1)).all (lE t.tables)=false:=mI (by omega) hp;apply et1
     ·(rw[lF,hz];simp[*];done)
    ·have hp:lE t.tables (k - 1)=true:=by rw[lE,bB i1,show k - 1+1=k by omega,bB h32];simpa using c1
     have hs2:(List.range (k+1 - 1)).all (lE t.tables)=true:=by rw[show k+1 - 1=(k - 1)+1 by omega];exact oP hs hp
     refine⟨⟨by omega,by omega⟩,?_⟩;exact⟨k+1,rfl,⟨by omega,dB h14 ha g18,hs2⟩,by omega⟩
   ·have hs2:(List.range (k+1 - 1)).all (lE t.tables)=true:=by rw[show k=0 by omega];rfl
    refine⟨⟨by omega,by omega⟩,?_⟩;exact⟨k+1,rfl,⟨by omega,dB h14 ha g18,hs2⟩,by omega⟩
 ·have hall:=dZ (by omega) ha;have hz:(List.range (t.tables.length - 1)).all (lE t.tables)=true:=by rw[show t.tables.length - 1=k - 1 by omega,hs]
  refine⟨aA0 _,?_,trivial⟩
  ·(rw[lF,hz];simp[*];done)
def eO (d:aO)(v:Int):dY × Bool:=if (lF d&&fB v 1 999)=true then (⟨v,d.tables.map bW⟩,true) else (xA,false)
theorem vM {d:aO}{v:Int}(h:(lF d&&fB v 1 999)=true):eO d v=(⟨v,d.tables.map bW⟩,true):=by rw[eO,if_pos h]
theorem zF {d:aO}{v:Int}(h:(lF d&&fB v 1 999)=false):eO d v=(xA,false):=by rw[eO,if_neg (by rw[h];decide)]
theorem aGs {d:aO}(h:lF d=true):d.tables.length<=6:=by
 simp only[lF,aA1,aH9] at h;omega
abbrev rV (d:aO)(v:Int):AV × List (Nat × Rs):=(.tup [.agg [vI ((eO d v).1.version),.own 0],vB ((eO d v).2)],[(0,.arr 77 4 true ((eO d v).1.tables.map aH))])
abbrev xD (d:aO)(v:Int):Prop:=Cn 68 [.agg [.sl 114 3 (d.tables.map aM)],.one (.int .i64 v)] (rV d v).1 (rV d v).2
theorem aGt (d:aO)(v:Int):xD d v:=by
 refine cq Try.func68 (.call (vB (lF d)) []<| .br (.fin []) (.call (vB (fB v (1:Int) (999:Int))) []<| .lit<| .lit<| .br (.fin []) (.loop (Nat × (List aL)) (Q2 Nat (List aL)) ([7,8]++rg 20 19) [600,800,3200,3600,3700,9000] (fun yy0=>[(7,vI (yy0.1:Int))]) (fun yy0=>[(600,some (.box 56 [vI v,.own 9000])),(9000,some (.arr 77 4 true (yy0.2.map aH)))]) (fun yy0=>yy0.1<=d.tables.length/\yy0.2=(d.tables.take yy0.1).map bW) (fun yy0=>d.tables.length - yy0.1) (fun yy0=> .len d.tables.length<| .br (.elem _ aM d.tables (fun e30=>dT (vK e30)<| .appx aL aH yy0.2 (bW e30)<| .back [(600,600),(9000,3700)])) (.fin [(0,9000)]))))) (p:=Lx (d.tables.map aM)<| aAX d/\Nr (lF d) (0=((eO d v).1.version)/\(false)=((eO d v).2)/\[]=(eO d v).1.tables.map aH/\True) (dN v (1:Int) (999:Int)/\Nr (fB v (1:Int) (999:Int)) (0=((eO d v).1.version)/\(false)=((eO d v).2)/\[]=(eO d v).1.tables.map aH/\True) ((∃(k:Nat) (out:List aL),0=(k:Int)/\v=v/\[]=out.map aH/\k<=d.tables.length/\out=(d.tables.take k).map bW)/\ ∀(k:Nat) (out:List aL),(k<=d.tables.length/\out=(d.tables.take k).map bW)->Lm aM d.tables/\Br ((k:Int)<(d.tables.length:Int)) (0<=(k:Int)/\Em aM d.tables k fun e30=>aAV e30/\out.map aH=out.map aH/\((bW e30).name)=((bW e30).name)/\((bW e30).arity)=((bW e30).arity)/\((bW e30).rowCount)=((bW e30).rowCount)/\(bW e30).groups.map aJ=(bW e30).groups.map aJ/\(out.length+1)*56<=140737488355328/\bS ((k:Int)+1)/\ ∃(k' :Nat) (out' :List aL),((k:Int)+1)=(k' :Int)/\v=v/\(out++[(bW e30)]).map aH=out'.map aH/\(k' <=d.tables.length/\out' =(d.tables.take k').map bW)/\d.tables.length - k' <d.tables.length - k) (v=((eO d v).1.version)/\(true)=((eO d v).2)/\out.map aH=(eO d v).1.tables.map aH/\True)))) (by kernel_rfl) ?_;refine lx fun n0=>?_;refine⟨aJ6 d,dm (fun g12=>?_) fun g12=>?_⟩
 ·have hbad:(lF d&&fB v 1 999)=false:=by simp_all
  apply et3<;>((rw[zF hbad]<;>rfl))
 ·refine⟨fT _ _ _,dm (fun c0=>?_) fun c0=>?_⟩
  ·have hbad:(lF d&&fB v 1 999)=false:=by simp_all
   apply et3<;>((rw[zF hbad]<;>rfl))
  ·have hok:(lF d&&fB v 1 999)=true:=by simp_all
   have h6:=aGs (by simp_all:lF d=true);refine⟨⟨0,([]:List aL),rfl,rfl,rfl,aAc _,rfl⟩,fun k out ⟨hk,ho⟩=>?_⟩;refine⟨aA0 _,dd (fun c1=>?_) fun c1=>?_⟩
   ·refine⟨by omega,rfl,by omega,fun e30 h30=>?_⟩;refine⟨aJ2 e30,rfl,rfl,rfl,rfl,rfl,by (simp[ho];omega),⟨by omega,by omega⟩,?_⟩;exact⟨k+1,_,rfl,rfl,rfl,⟨by omega,by rw[ho,bQ h30,aDj];rfl⟩,by omega⟩
   ·apply et3<;>(first|(rw[vM hok]<;>rfl)|(rw[vM hok,ho,aCu (by omega)]))
theorem aCd {α:Type}{c:α->Nat}{m:Nat}{l:List α}(h: ∀x∈l,c x<=m):kX c l<=l.length+l.length*m:=by
 have h1:=xB (ct:=c) (m:=m) (l:=l) h;have h2:kX c l=l.length+wM c l:=rfl;omega
theorem aKg (t:bA)(cols:List Int):cS (gN t cols).1<=64/\(gN t cols).2.length<=8:=by
 cases h:(aT t&&eL (t.arity - 1) cols) with
 | false=>rw[aFU h];exact⟨by decide,by decide⟩
 | true=>
   have:=aFW (k:=(iO t cols).length) h;rw[aHL,pM] at this;rw[uE h];exact⟨this.2,by simp only[aIK,aA0,aIJ];exact this.1⟩
theorem aF0 {t:bA}(h:aT t=true):t.name.size=1:=by
 simp only[aT,iM,aA1,aH9] at h;omega
theorem aAs (t:bA):cO (bW t)<=2000:=by
 cases h:aT t with
 | false=>rw[aCa h];decide
 | true=>
   have hT:=cP h;have hn:=aF0 h;have hl:=aAo (n:=t.arity) ⟨hT.1,hT.2.1⟩;rw[jA h]
   have h1:=aCd (c:=gL) (m:=75) (l:=(cN t.arity).map (vW t)) fun x hx=>by
    obtain⟨c,hc,rfl⟩:=aFm.1 hx;obtain⟨k,hk,hc⟩:=List.mem_iff_getElem.1 hc;have h3:=aCb (aBa.2 ⟨hk,hc⟩);have h4:=aKg t c;have h5:gL (vW t c)=c.length+cS (gN t c).1+(gN t c).2.length:=rfl;omega
   rw[aA0] at h1;have h2:cO ⟨t.name,t.arity,(t.rows.length:Nat),(cN t.arity).map (vW t)⟩=t.name.size+kX gL ((cN t.arity).map (vW t)):=rfl;omega
theorem aAY (d:aO)(v:Int):dP (eO d v).1<=20000:=by
 cases h:(lF d&&fB v 1 999) with
 | false=>rw[zF h];decide
 | true=>
   have h6:=aGs (by simp_all:lF d=true);rw[vM h]
   have h1:=aCd (c:=cO) (m:=2000) (l:=d.tables.map bW) fun x hx=>by
    obtain⟨t,_,rfl⟩:=aFm.1 hx;exact aAs t
   rw[aA0] at h1;have h2:dP ⟨v,d.tables.map bW⟩=kX cO (d.tables.map bW):=rfl;show dP ⟨v,d.tables.map bW⟩<=20000;omega
def aGu {α:Type}(p:α->Bool)(l:List α):Int:=match l.findIdx? p with | some k=>(k:Int) | none=> -1
theorem aPO {α:Type}{p:α->Bool}{l:List α}(ha:l.all (fun y=> !p y)=true):aGu p l= -1:=by
 have:l.findIdx? p=none:=by
  rw[List.findIdx?_eq_none_iff];intro x hx;have:=aDW.1 ha x hx;simpa using this
 rw[aGu,this]
abbrev rW (t:bA):AV × List (Nat × Rs):=(.agg [.p none (.str t.name),vI t.arity,.own 0],[(0,.arr 27 1 true (t.rows.map aD))])
abbrev xE (t:bA):Prop:=Cn 88 [.agg [.str t.name,.int .i64 t.arity,.sl 27 1 (t.rows.map aD)]] (rW t).1 (rW t).2
theorem aGv (t:bA)(hc:gZ t<=1048576):xE t:=by
 refine cq Try.func88 (.loop (Nat × (List (List Int))) (Q2 Nat (List (List Int))) ([4]++rg 10 19) [300,1900,2500,2600,2700,9000] (fun yy0=>[(4,vI (yy0.1:Int))]) (fun yy0=>[(300,some (.box 114 [.p none (.str t.name),vI t.arity,.own 9000])),(9000,some (.arr 27 1 true (yy0.2.map aD)))]) (fun yy0=>yy0.1<=t.rows.length/\yy0.2=t.rows.take yy0.1) (fun yy0=>t.rows.length - yy0.1) (fun yy0=> .len t.rows.length<| .br (.elem _ aD t.rows (fun e23=> .app Int aC ([]:List Int) e23<| .appx (List Int) aD yy0.2 (([]:List Int)++e23)<| .back [(300,300),(9000,2700)])) (.fin [(0,9000)]))) (p:=Lx (t.rows.map aD)<| (∃(k:Nat) (out:List (List Int)),0=(k:Int)/\t.name=t.name/\t.arity=t.arity/\[]=out.map aD/\k<=t.rows.length/\out=t.rows.take k)/\ ∀(k:Nat) (out:List (List Int)),(k<=t.rows.length/\out=t.rows.take k)->Lm aD t.rows/\Br ((k:Int)<(t.rows.length:Int)) (0<=(k:Int)/\Em aD t.rows k fun e23=>Ap aC ([]:List Int) e23 8 (out.map aD=out.map aD/\(([]:List Int)++e23).map aC=(([]:List Int)++e23).map aC/\(out.length+1)*24<=140737488355328/\bS ((k:Int)+1)/\ ∃(k' :Nat) (out' :List (List Int)),((k:Int)+1)=(k' :Int)/\t.name=t.name/\t.arity=t.arity/\(out++[([]:List Int)++e23]).map aD=out'.map aD/\(k' <=t.rows.length/\out' =t.rows.take k')/\t.rows.length - k' <t.rows.length - k)) (t.name=t.name/\t.arity=t.arity/\out.map aD=t.rows.map aD/\True)) (by kernel_rfl) ?_;refine lx fun n0=>?_;have q1:gZ t=t.name.size+cS t.rows:=rfl;have q2:=iY t.rows;refine⟨⟨0,([]:List (List Int)),rfl,rfl,rfl,rfl,aAc _,rfl⟩,fun k out ⟨hk,ho⟩=>?_⟩;refine⟨aA0 _,dd (fun c0=>?_) fun c0=>?_⟩
 ·refine⟨by omega,rfl,by omega,fun e23 h23=>?_⟩;have hp3:=vH h23;refine ap ?_ (fun _=>rfl) (by (simp;omega));refine⟨rfl,rfl,by (simp[ho];omega),⟨by omega,by omega⟩,?_⟩;exact⟨k+1,_,rfl,rfl,rfl,rfl,⟨by omega,by rw[ho,bQ h23];rfl⟩,by omega⟩
 ·refine⟨rfl,rfl,?_,trivial⟩
  ·(rw[ho,aCu (by omega)])
end Go.Proofs.Ytafmaholhcgakaa
