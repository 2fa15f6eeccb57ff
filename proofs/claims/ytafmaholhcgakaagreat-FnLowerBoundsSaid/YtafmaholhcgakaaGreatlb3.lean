/-
  Contracts and plain laws, joined: part 4.
-/
import Derived.Test.YtafmaholhcgakaaGreatlb2
import Derived.Laws.Strings
import Derived.IntWalk
import Derived.Deep.RegionHeld3
import Derived.BigRegion
import Derived.Deep.LoopGhost
import Derived.Shelf.SlSortCmp.Insertion
import Derived.Shelf.SlSortCmp.Whole1
import Derived.Shelf.SlSortCmp.NoneTotal
import Derived.Ground.SlsfProg
import Derived.Shelf.RegionOpenPlain
import Derived.Deep.Draws
namespace Go.Proofs.YtafmaholhcgakaaGreat
open Go.ChangeShapes Go.WideShapes Go.ChangeAt Go.RowKit
set_option linter.unusedVariables false
set_option linter.unusedSimpArgs false
set_option maxRecDepth 100000
set_option maxHeartbeats 4000000
def tb:Tb:=⟨[(2,(false,1,8,.int .i64 0)),(3,(false,1,8,.int .i64 0)),(4,(false,1,1,.bool false)),(5,(false,1,1,.int .u8 0)),(6,(false,1,1,.int .u8 0)),(7,(true,4,24,.agg #[.int .i64 0,.int .i64 0,.bool false,.int .u8 0])),(8,(true,4,24,.agg #[.int .i64 0,.int .i64 0,.bool false,.int .u8 0])),(9,(false,1,16,.string ByteArray.empty)),(10,(false,1,16,.string ByteArray.empty)),(11,(false,1,16,.string ByteArray.empty)),(12,(false,1,8,.int .u64 0)),(13,(true,2,24,.agg #[.string ByteArray.empty,.int .u64 0])),(14,(true,2,24,.agg #[.string ByteArray.empty,.int .u64 0])),(15,(false,1,8,.pointer none)),(16,(false,1,8,.pointer none)),(17,(false,1,8,.pointer none)),(21,(false,1,4,.int .i32 0)),(22,(false,1,24,.slice none 0 0)),(24,(false,1,24,.slice none 0 0)),(25,(true,1,24,.agg #[.slice none 0 0])),(26,(true,1,24,.agg #[.slice none 0 0])),(27,(false,1,24,.slice none 0 0)),(28,(true,2,32,.agg #[.int .i64 0,.slice none 0 0])),(29,(true,2,32,.agg #[.int .i64 0,.slice none 0 0])),(30,(false,1,24,.slice none 0 0)),(31,(false,1,24,.slice none 0 0)),(32,(true,5,104,.agg #[.slice none 0 0,.int .i64 0,.slice none 0 0,.slice none 0 0,.slice none 0 0])),(33,(true,5,104,.agg #[.slice none 0 0,.int .i64 0,.slice none 0 0,.slice none 0 0,.slice none 0 0])),(34,(false,1,24,.slice none 0 0)),(35,(true,3,48,.agg #[.string ByteArray.empty,.bool false,.slice none 0 0])),(36,(true,3,48,.agg #[.string ByteArray.empty,.bool false,.slice none 0 0])),(44,(false,1,24,.slice none 0 0)),(52,(false,1,24,.slice none 0 0)),(53,(true,2,32,.agg #[.int .i64 0,.slice none 0 0])),(54,(true,2,32,.agg #[.int .i64 0,.slice none 0 0])),(65,(false,1,8,.pointer none)),(76,(true,3,48,.agg #[.string ByteArray.empty,.slice none 0 0,.int .i64 0])),(77,(true,3,48,.agg #[.string ByteArray.empty,.slice none 0 0,.int .i64 0])),(80,(true,4,48,.agg #[.string ByteArray.empty,.int .i64 0,.string ByteArray.empty,.int .i64 0])),(81,(true,4,48,.agg #[.string ByteArray.empty,.int .i64 0,.string ByteArray.empty,.int .i64 0])),(86,(false,1,24,.slice none 0 0)),(87,(true,3,48,.agg #[.string ByteArray.empty,.int .i64 0,.slice none 0 0])),(88,(true,3,48,.agg #[.string ByteArray.empty,.int .i64 0,.slice none 0 0])),(89,(false,1,24,.slice none 0 0)),(90,(true,4,56,.agg #[.string ByteArray.empty,.int .i64 0,.int .i64 0,.slice none 0 0])),(91,(true,4,56,.agg #[.string ByteArray.empty,.int .i64 0,.int .i64 0,.slice none 0 0])),(100,(true,2,48,.agg #[.slice none 0 0,.slice none 0 0])),(101,(true,2,48,.agg #[.slice none 0 0,.slice none 0 0])),(114,(true,3,40,.agg #[.slice none 0 0,.int .i64 0,.int .i64 0])),(115,(true,3,40,.agg #[.slice none 0 0,.int .i64 0,.int .i64 0])),(122,(false,1,24,.slice none 0 0)),(137,(true,3,72,.agg #[.slice none 0 0,.slice none 0 0,.slice none 0 0])),(138,(true,3,72,.agg #[.slice none 0 0,.slice none 0 0,.slice none 0 0])),(145,(true,2,40,.agg #[.string ByteArray.empty,.slice none 0 0])),(146,(true,2,40,.agg #[.string ByteArray.empty,.slice none 0 0])),(175,(false,1,24,.slice none 0 0)),(179,(false,1,8,.int .u64 0)),(200,(false,1,8,.int .i64 0)),(208,(false,1,4,.int .u32 0)),(210,(false,1,8,.int .u64 0)),(218,(false,1,8,.int .u64 0)),(222,(false,1,8,.pointer none)),(227,(false,1,8,.pointer none)),(235,(true,0,0,.agg #[])),(236,(true,0,0,.agg #[])),(238,(false,1,1,.int .u8 0)),(239,(false,1,1,.int .u8 0)),(241,(false,1,8,.pointer none)),(242,(false,1,4,.int .i32 0)),(243,(false,1,4,.int .i32 0))],
 [(22,5),(24,88),(27,91),(30,77),(31,81),(34,3),(44,36),(52,146),(86,34),(89,138),(122,9),(175,4)],
 [(7,[(0,(0,2)),(1,(1,3)),(2,(2,4)),(3,(3,6))]),(8,[(0,(0,2)),(1,(1,3)),(2,(2,4)),(3,(3,6))]),(13,[(0,(0,9)),(1,(1,12))]),(14,[(0,(0,9)),(1,(1,12))]),(25,[(0,(0,24))]),(26,[(0,(0,24))]),(28,[(0,(0,3)),(1,(1,27))]),(29,[(0,(0,3)),(1,(1,27))]),(32,[(0,(0,26)),(1,(1,29)),(2,(3,30)),(3,(4,31))]),(33,[(0,(0,26)),(1,(1,29)),(2,(3,30)),(3,(4,31))]),(35,[(0,(0,9)),(1,(1,4)),(2,(2,34))]),(36,[(0,(0,9)),(1,(1,4)),(2,(2,34))]),(53,[(0,(0,3)),(1,(1,52))]),(54,[(0,(0,3)),(1,(1,52))]),(76,[(0,(0,9)),(1,(1,34)),(2,(2,3))]),(77,[(0,(0,9)),(1,(1,34)),(2,(2,3))]),(80,[(0,(0,9)),(1,(1,3)),(2,(2,9)),(3,(3,3))]),(81,[(0,(0,9)),(1,(1,3)),(2,(2,9)),(3,(3,3))]),(87,[(0,(0,9)),(1,(1,3)),(2,(2,86))]),(88,[(0,(0,9)),(1,(1,3)),(2,(2,86))]),(90,[(0,(0,9)),(1,(1,3)),(2,(2,3)),(3,(3,89))]),(91,[(0,(0,9)),(1,(1,3)),(2,(2,3)),(3,(3,89))]),(100,[(0,(0,34)),(1,(1,86))]),(101,[(0,(0,34)),(1,(1,86))]),(114,[(0,(0,22)),(1,(1,3)),(2,(2,3))]),(115,[(0,(0,22)),(1,(1,3)),(2,(2,3))]),(137,[(0,(0,34)),(1,(1,86)),(2,(2,34))]),(138,[(0,(0,34)),(1,(1,86)),(2,(2,34))]),(145,[(0,(0,9)),(1,(1,34))]),(146,[(0,(0,9)),(1,(1,34))]),(235,[]),(236,[])],
 [(7,(.agg #[.int .i64 0,.int .i64 0,.bool false,.int .u8 0],[(0,1),(1,1),(2,1),(3,1)])),(8,(.agg #[.int .i64 0,.int .i64 0,.bool false,.int .u8 0],[(0,1),(1,1),(2,1),(3,1)])),(13,(.agg #[.string ByteArray.empty,.int .u64 0],[(0,1),(1,1)])),(14,(.agg #[.string ByteArray.empty,.int .u64 0],[(0,1),(1,1)])),(25,(.agg #[.slice none 0 0],[(0,1)])),(26,(.agg #[.slice none 0 0],[(0,1)])),(28,(.agg #[.int .i64 0,.slice none 0 0],[(0,1),(1,1)])),(29,(.agg #[.int .i64 0,.slice none 0 0],[(0,1),(1,1)])),(32,(.agg #[.slice none 0 0,.int .i64 0,.slice none 0 0,.slice none 0 0,.slice none 0 0],[(0,1),(1,2),(3,1),(4,1)])),(33,(.agg #[.slice none 0 0,.int .i64 0,.slice none 0 0,.slice none 0 0,.slice none 0 0],[(0,1),(1,2),(3,1),(4,1)])),(35,(.agg #[.string ByteArray.empty,.bool false,.slice none 0 0],[(0,1),(1,1),(2,1)])),(36,(.agg #[.string ByteArray.empty,.bool false,.slice none 0 0],[(0,1),(1,1),(2,1)])),(53,(.agg #[.int .i64 0,.slice none 0 0],[(0,1),(1,1)])),(54,(.agg #[.int .i64 0,.slice none 0 0],[(0,1),(1,1)])),(76,(.agg #[.string ByteArray.empty,.slice none 0 0,.int .i64 0],[(0,1),(1,1),(2,1)])),(77,(.agg #[.string ByteArray.empty,.slice none 0 0,.int .i64 0],[(0,1),(1,1),(2,1)])),(80,(.agg #[.string ByteArray.empty,.int .i64 0,.string ByteArray.empty,.int .i64 0],[(0,1),(1,1),(2,1),(3,1)])),(81,(.agg #[.string ByteArray.empty,.int .i64 0,.string ByteArray.empty,.int .i64 0],[(0,1),(1,1),(2,1),(3,1)])),(87,(.agg #[.string ByteArray.empty,.int .i64 0,.slice none 0 0],[(0,1),(1,1),(2,1)])),(88,(.agg #[.string ByteArray.empty,.int .i64 0,.slice none 0 0],[(0,1),(1,1),(2,1)])),(90,(.agg #[.string ByteArray.empty,.int .i64 0,.int .i64 0,.slice none 0 0],[(0,1),(1,1),(2,1),(3,1)])),(91,(.agg #[.string ByteArray.empty,.int .i64 0,.int .i64 0,.slice none 0 0],[(0,1),(1,1),(2,1),(3,1)])),(100,(.agg #[.slice none 0 0,.slice none 0 0],[(0,1),(1,1)])),(101,(.agg #[.slice none 0 0,.slice none 0 0],[(0,1),(1,1)])),(114,(.agg #[.slice none 0 0,.int .i64 0,.int .i64 0],[(0,1),(1,1),(2,1)])),(115,(.agg #[.slice none 0 0,.int .i64 0,.int .i64 0],[(0,1),(1,1),(2,1)])),(137,(.agg #[.slice none 0 0,.slice none 0 0,.slice none 0 0],[(0,1),(1,1),(2,1)])),(138,(.agg #[.slice none 0 0,.slice none 0 0,.slice none 0 0],[(0,1),(1,1),(2,1)])),(145,(.agg #[.string ByteArray.empty,.slice none 0 0],[(0,1),(1,1)])),(146,(.agg #[.string ByteArray.empty,.slice none 0 0],[(0,1),(1,1)])),(235,(.agg #[],[(0,0)])),(236,(.agg #[],[(0,0)]))],
 [(4,())],
 [(9,()),(10,()),(11,())],
 [(2,.i64),(3,.i64),(5,.u8),(6,.u8),(12,.u64),(21,.i32),(179,.u64),(200,.i64),(208,.u32),(210,.u64),(218,.u64),(238,.u8),(239,.u8),(242,.i32),(243,.i32)],
 [(81,[2,0,2,0])]⟩
theorem fc {α:Type}{p:Nat->α->Prop}{k:Nat}{v:α}{l:List (Nat × α)}(h:p k v)(t:nW p l):nW p ((k,v)::l):=⟨h,t⟩
theorem aII:Tryz.prog.follows .mixedOrders=true:=by kernel_rfl
set_option maxRecDepth 100000 in
theorem aVi:kQ Tryz.prog tb:=
 by
 refine⟨?_,?_,?_,?_,?_,?_,?_,?_⟩<;>repeat' (first|refine fc ?_ ?_|exact trivial|kernel_rfl)
end Go.Proofs.YtafmaholhcgakaaGreat
namespace Go.Proofs.YtafmaholhcgakaaGreat
open Go.ChangeShapes Go.WideShapes Go.ChangeAt Go.RowKit
set_option linter.unusedVariables false
set_option linter.unusedSimpArgs false
set_option maxRecDepth 100000
set_option maxHeartbeats 4000000
abbrev cH (p:AV × List (Nat × Rs))(t:T):T:= .call p.1 p.2 t
abbrev aW (p:List AV × List (Nat × Rs) × AV × List (Nat × Rs))(r:List (Nat × Nat))(t:T):T:= .callxs p.1 p.2.1 r p.2.2.1 p.2.2.2 t
abbrev rg (a n:Nat):List Nat:=List.range' a n
abbrev Br (p:Prop)[Decidable p](X Y:Prop):Prop:=(decide p=true->X)/\(decide p=false->Y)
abbrev Nb (p:Prop)[Decidable p](X Y:Prop):Prop:=((!decide p)=true->X)/\((!decide p)=false->Y)
abbrev Bb (b:Bool)(X Y:Prop):Prop:=(b=true->X)/\(b=false->Y)
abbrev Nr (b:Bool)(X Y:Prop):Prop:=((!b)=true->X)/\((!b)=false->Y)
theorem dd {p:Prop}[Decidable p]{X Y:Prop}(hx:p->X)(hy: ¬p->Y):Br p X Y:=⟨fun h=>hx (of_decide_eq_true h),fun h=>hy (of_decide_eq_false h)⟩
theorem dn {p:Prop}[Decidable p]{X Y:Prop}(hx: ¬p->X)(hy:p->Y):Nb p X Y:=⟨fun h=>hx (of_decide_eq_false (nt h)),fun h=>hy (of_decide_eq_true (nf h))⟩
theorem db {b:Bool}{X Y:Prop}(hx:b=true->X)(hy:b=false->Y):Bb b X Y:=⟨hx,hy⟩
theorem dm {b:Bool}{X Y:Prop}(hx:b=false->X)(hy:b=true->Y):Nr b X Y:=⟨fun h=>hx (nt h),fun h=>hy (nf h)⟩
abbrev Lx {α:Type}(l:List α)(A:Prop):Prop:=l.length<=9223372036854775807->A
theorem lx {α β:Type}{f:α->β}{l:List α}{A:Prop}(h:l.length<=9223372036854775807->A):Lx (l.map f) A:=fun q=>h (by simpa using q)
abbrev Cn (f:FuncId)(args:List Ar)(rv:AV)(rr:List (Nat × Rs)):Prop:=vX Tryz.prog f args rv rr
abbrev Cm (f:FuncId)(args:List AV)(ri:List (Nat × Rs))(rv:AV)(ro:List (Nat × Rs)):Prop:=pN Tryz.prog f args ri rv ro
theorem cq {f:FuncId}{fn:Func}{args:List Ar}{rv:AV}{rr:List (Nat × Rs)}(hf:Tryz.prog.funcs[f]? =some fn)(t:T){p:Prop}(h:(match aG6 fn args.length with | true=>aMd Tryz.prog tb fn args rv rr t | false=>False)=p)(hp:p):vX Tryz.prog f args rv rr:=by
 cases hc:aG6 fn args.length with
 | true=>rw[hc] at h;exact aVg aVi aII hf hc t h hp
 | false=>rw[hc] at h;rw[<-h] at hp;exact hp.elim
theorem cqx {f:FuncId}{fn:Func}{args:List AV}{ri:List (Nat × Rs)}{rv:AV}{ro:List (Nat × Rs)}(hf:Tryz.prog.funcs[f]? =some fn)(t:T){p:Prop}(h:(match aG6 fn args.length&&ri.all fun q=>Nat.blt q.1 100 with | true=>aMe Tryz.prog tb fn args ri rv ro t | false=>False)=p)(hp:p):pN Tryz.prog f args ri rv ro:=by
 cases hc:(aG6 fn args.length&&ri.all fun q=>Nat.blt q.1 100) with
 | true=>rw[hc] at h;rw[aAS] at hc;exact aUv aVi aII hf hc.1 hc.2 t h hp
 | false=>rw[hc] at h;rw[<-h] at hp;exact hp.elim
theorem nq {p:Prop}[Decidable p](h:decide p=false): ¬p:=of_decide_eq_false h
abbrev Em {α:Type}(enc:α->List bG)(l:List α)(i:Nat)(P:α->Prop):Prop:=l.map enc=l.map enc/\i<l.length/\ ∀x,l[i]? =some x->P x
abbrev Lm {α:Type}(enc:α->List bG)(l:List α):Prop:=(l.map enc).length=l.length
abbrev Ap {α:Type}(enc:α->List bG)(l m:List α)(n:Nat)(R:Prop):Prop:=l.map enc=l.map enc/\m.map enc=m.map enc/\(∀x,rZ (enc x)=true)/\(l.length+m.length)*n<=140737488355328/\R
theorem ap {α:Type}{enc:α->List bG}{l m:List α}{n:Nat}{R:Prop}(r:R)(hf: ∀x,rZ (enc x)=true)(h:(l.length+m.length)*n<=140737488355328):Ap enc l m n R:=⟨rfl,rfl,hf,h,r⟩
def fI (s:ByteArray):List bG:=[.str s]
def jF (b:Bool):List bG:=[.bool b]
theorem rdOne {A:Nat->Prop}{w:World}{d:bG}{v:Value}(h:lQ A w [d] [v]):iB A w d v:=by
 obtain⟨u,us,e,h1,_⟩:=h;injection e with e1
 subst e1;exact h1
theorem aUw {α:Type}{l:List α}{i:Nat}{x y:α}(h:(l.set i y)[i]? =some x):x=y:=by
 rw[List.getElem?_set_self'] at h;cases hl:l[i]? with
 | none=>simp[hl] at h
 | some z=>simp[hl] at h;exact h.symm
theorem cP {α:Type}{l:List α}{k:Nat}(h:k<l.length): ∃x,l[k]? =some x:=⟨_,aBJ h⟩
def aD (l:List Int):List bG:=[.sl 3 1 (l.map intD)]
def gT (l:List Int):Nat:=l.length
def cV (l:List (List Int)):Nat:=nA gT l
theorem iG (l:List (List Int)):l.length<=cV l:=wI _ l
theorem aNs {l:List (List Int)}{k:Nat}{y:List Int}(h:l[k]? =some y):gT y<=cV l:=sY _ h
structure aP where
 name:ByteArray
 arity:Int
 rows:List (List Int)
 deriving DecidableEq
def aG (x:aP):List bG:=[.str x.name,.int .i64 x.arity,.sl 34 1 (x.rows.map aD)]
def iP (x:aP):Nat:=ByteArray.size x.name+cV x.rows
def mI:aP:=⟨ByteArray.empty,(0:Int),[]⟩
def zK (l:List aP):Nat:=nA iP l
theorem aJ9 (l:List aP):l.length<=zK l:=wI _ l
theorem aA7 {l:List aP}{k:Nat}{y:aP}(h:l[k]? =some y):iP y<=zK l:=sY _ h
structure aL where
 tables:List aP
 deriving DecidableEq
def bO (x:aL):Nat:=zK x.tables
def aNt:aL:=⟨[]⟩
structure bH where
 name:ByteArray
 vars:List Int
 deriving DecidableEq
def aN (x:bH):List bG:=[.str x.name,.sl 3 1 (x.vars.map intD)]
def pR (x:bH):Nat:=ByteArray.size x.name+gT x.vars
def cS:bH:=⟨ByteArray.empty,[]⟩
def nF (l:List bH):Nat:=nA pR l
theorem aNu {l:List bH}{k:Nat}{y:bH}(h:l[k]? =some y):pR y<=nF l:=sY _ h
structure aI where
 variableCount:Int
 atoms:List bH
 deriving DecidableEq
def aA8 (x:aI):Nat:=nF x.atoms
def aA9:aI:=⟨(0:Int),[]⟩
structure aS where
 columns:List Int
 values:List (List Int)
 counts:List Int
 deriving DecidableEq
def aH (x:aS):List bG:=[.sl 3 1 (x.columns.map intD),.sl 34 1 (x.values.map aD),.sl 3 1 (x.counts.map intD)]
def gZ (x:aS):Nat:=gT x.columns+cV x.values+gT x.counts
def aDM:aS:=⟨[],[],[]⟩
def iW (l:List aS):Nat:=nA gZ l
theorem lH (l:List aS):l.length<=iW l:=wI _ l
theorem kC {l:List aS}{k:Nat}{y:aS}(h:l[k]? =some y):gZ y<=iW l:=sY _ h
structure aQ where
 name:ByteArray
 arity:Int
 rowCount:Int
 groups:List aS
 deriving DecidableEq
def aB (x:aQ):List bG:=[.str x.name,.int .i64 x.arity,.int .i64 x.rowCount,.sl 138 3 (x.groups.map aH)]
def dE (x:aQ):Nat:=ByteArray.size x.name+iW x.groups
def sC:aQ:=⟨ByteArray.empty,(0:Int),(0:Int),[]⟩
def gW (l:List aQ):Nat:=nA dE l
theorem pO {l:List aQ}{k:Nat}{y:aQ}(h:l[k]? =some y):dE y<=gW l:=sY _ h
structure dH where
 version:Int
 tables:List aQ
 deriving DecidableEq
def dN (x:dH):Nat:=gW x.tables
def aAa:dH:=⟨(0:Int),[]⟩
structure aU where
 name:ByteArray
 src:List Int
 dst:Int
 deriving DecidableEq
def aF (x:aU):List bG:=[.str x.name,.sl 3 1 (x.src.map intD),.int .i64 x.dst]
def hJ (x:aU):Nat:=ByteArray.size x.name+gT x.src
def cD (l:List aU):Nat:=nA hJ l
theorem tH (l:List aU):l.length<=cD l:=wI _ l
theorem aDi {l:List aU}{k:Nat}{y:aU}(h:l[k]? =some y):hJ y<=cD l:=sY _ h
structure aO where
 name:ByteArray
 column:Int
 into:ByteArray
 intoColumn:Int
 deriving DecidableEq
def aJ (x:aO):List bG:=[.str x.name,.int .i64 x.column,.str x.into,.int .i64 x.intoColumn]
def kZ (x:aO):Nat:=ByteArray.size x.name+ByteArray.size x.into
def cW (l:List aO):Nat:=nA kZ l
theorem gO (l:List aO):l.length<=cW l:=wI _ l
structure aV where
 database:aL
 catalogue:dH
 dependencies:List aU
 inclusions:List aO
 deriving DecidableEq
def eC (x:aV):Nat:=bO x.database+dN x.catalogue+cD x.dependencies+cW x.inclusions
def aPx:aV:=⟨aNt,aAa,[],[]⟩
theorem jD (s t:ByteArray):(s.toList==t.toList)=decide (s=t):=by
 rw[ByteArray.toList_eq,ByteArray.toList_eq];by_cases h:s=t
 ·simp[h]
 have: ¬s.data.toList=t.data.toList:=fun e=>h (by cases s;cases t;simp at e;simp[e]);simp only[h,decide_false,beq_eq_false_iff_ne];exact this
theorem mQ {α:Type}{l m:List α}{k:Nat}{x:α}(h:l[k]? =some x)(h' :m[k]? =some x)(e:l.take k=m.take k):l.take (k+1)=m.take (k+1):=by rw[bS h,bS h',e]
theorem aMf {α:Type}{l m:List α}{k:Nat}{x y:α}(h:l[k]? =some x)(h' :m[k]? =some y)(e: ¬x=y): ¬l=m:=by
 rintro rfl;rw[h] at h';exact e (by injection h')
theorem aEr {α:Type}{l m:List α}(h: ¬(l.length:Int)=m.length): ¬l=m:=fun e=>h (by rw[e])
theorem mR {α:Type}{l m:List α}{k:Nat}(hk:l.length<=k)(hl:l.length=m.length)(e:l.take k=m.take k):l=m:=by rwa [aCy hk,aCy (by omega)] at e
abbrev qG (l:List Int)(m:List Int):Prop:=Cn 102 [.one (.sl 3 1 (l.map intD)),.one (.sl 3 1 (m.map intD))] (vB (decide (l=m))) []
theorem aB5 (l m:List Int):qG l m:=by
 refine cq Tryz.func102 (.len l.length<| .len m.length<| .br (.fin []) (.len l.length<| .loop Nat (Q1 Nat) ([5]++rg 13 13) [] (fun k=>[(13,vI (k:Int))]) (fun k=>[]) (fun k=>k<=l.length/\l.take k=m.take k) (fun k=>l.length - k) (fun k=> .br (.elem _ intD l (fun e18=> .elem _ intD m (fun e22=> .br (.fin []) (.back [])))) (.fin [])))) (p:=Lx (l.map intD)<| Lx (m.map intD)<| Lm intD l/\(Lm intD m/\Nb ((l.length:Int)=(m.length:Int)) ((false)=(decide (l=m))/\True) (Lm intD l/\((∃(k:Nat),0=(k:Int)/\k<=l.length/\l.take k=m.take k)/\ ∀(k:Nat),(k<=l.length/\l.take k=m.take k)->Br ((k:Int)<(l.length:Int)) (0<=(k:Int)/\Em intD l k fun e18=>0<=(k:Int)/\Em intD m k fun e22=>Nb (e18=e22) ((false)=(decide (l=m))/\True) (bW ((k:Int)+1)/\ ∃(k' :Nat),((k:Int)+1)=(k' :Int)/\(k' <=l.length/\l.take k' =m.take k')/\l.length - k' <l.length - k)) ((true)=(decide (l=m))/\True))))) (by kernel_rfl) ?_;refine lx fun n0=>lx fun n1=>?_;refine⟨aAJ _,aAJ _,dn (fun c0=>?_) fun c0=>?_⟩
 ·apply et1
  ·(simp[aEr c0];done)
 ·have hl:l.length=m.length:=by omega
  refine⟨aAJ _,⟨0,rfl,aAU _,rfl⟩,fun k ⟨hk,ht⟩=>?_⟩;refine dd (fun c1=>?_) fun c1=>?_
  ·obtain⟨x,hx⟩:=cP (l:=l) (k:=k) (by omega);obtain⟨y,hy⟩:=cP (l:=m) (k:=k) (by omega);refine⟨by omega,rfl,by omega,fun e18 h18=>?_⟩;obtain rfl:=(bF hx h18).symm;refine⟨by omega,rfl,by omega,fun e22 h22=>?_⟩;obtain rfl:=(bF hy h22).symm;refine dn (fun c2=>?_) fun c2=>?_
   ·have hxy: ¬x=y:=by simpa using c2
    apply et1
    ·(simp[aMf hx hy hxy];done)
   ·have hxy:x=y:=by simpa using c2
    refine⟨⟨by omega,by omega⟩,?_⟩;exact⟨k+1,rfl,⟨by omega,mQ hx (by rw[hy,hxy]) ht⟩,by omega⟩
  ·apply et1
   ·(simp[mR (by omega) hl ht];done)
abbrev aPy (l:List Int)(m:List Int):Prop:=Cn 192 [.one (.sl 3 1 (l.map intD)),.one (.sl 3 1 (m.map intD))] (vB (decide (l=m))) []
theorem aW0 (l m:List Int):aPy l m:=by
 refine cq Tryz.func192 (.call (vB (decide (l=m))) []<| .fin []) (p:=Lx (l.map intD)<| Lx (m.map intD)<| qG l m/\(decide (l=m))=(decide (l=m))/\True) (by kernel_rfl) ?_;refine lx fun n0=>lx fun n1=>?_;refine⟨aB5 _ _,?_,trivial⟩
 ·rfl
abbrev aDN (l:List (List Int))(m:List (List Int)):Prop:=Cn 191 [.one (.sl 34 1 (l.map aD)),.one (.sl 34 1 (m.map aD)),.fn 192 []] (vB (decide (l=m))) []
theorem aNv (l m:List (List Int)):aDN l m:=by
 refine cq Tryz.func191 (.len l.length<| .len m.length<| .br (.fin []) (.len l.length<| .loop Nat (Q1 Nat) ([7,8,9]++rg 17 15) [] (fun k=>[(17,vI (k:Int))]) (fun k=>[]) (fun k=>k<=l.length/\l.take k=m.take k) (fun k=>l.length - k) (fun k=> .br (.elem _ aD l (fun e20=> .elem _ aD m (fun e24=> .call (vB (decide (e20=e24))) []<| .br (.fin []) (.back [])))) (.fin [])))) (p:=Lx (l.map aD)<| Lx (m.map aD)<| Lm aD l/\(Lm aD m/\Nb ((l.length:Int)=(m.length:Int)) ((false)=(decide (l=m))/\True) (Lm aD l/\((∃(k:Nat),0=(k:Int)/\k<=l.length/\l.take k=m.take k)/\ ∀(k:Nat),(k<=l.length/\l.take k=m.take k)->Br ((k:Int)<(l.length:Int)) (0<=(k:Int)/\Em aD l k fun e20=>0<=(k:Int)/\Em aD m k fun e24=>aPy e20 e24/\Nb (e20=e24) ((false)=(decide (l=m))/\True) (bW ((k:Int)+1)/\ ∃(k' :Nat),((k:Int)+1)=(k' :Int)/\(k' <=l.length/\l.take k' =m.take k')/\l.length - k' <l.length - k)) ((true)=(decide (l=m))/\True))))) (by kernel_rfl) ?_;refine lx fun n0=>lx fun n1=>?_;refine⟨aAJ _,aAJ _,dn (fun c0=>?_) fun c0=>?_⟩
 ·apply et1
  ·(simp[aEr c0];done)
 ·have hl:l.length=m.length:=by omega
  refine⟨aAJ _,⟨0,rfl,aAU _,rfl⟩,fun k ⟨hk,ht⟩=>?_⟩;refine dd (fun c1=>?_) fun c1=>?_
  ·obtain⟨x,hx⟩:=cP (l:=l) (k:=k) (by omega);obtain⟨y,hy⟩:=cP (l:=m) (k:=k) (by omega);refine⟨by omega,rfl,by omega,fun e20 h20=>?_⟩;obtain rfl:=(bF hx h20).symm;refine⟨by omega,rfl,by omega,fun e24 h24=>?_⟩;obtain rfl:=(bF hy h24).symm;refine⟨aW0 _ _,dn (fun c2=>?_) fun c2=>?_⟩
   ·have hxy: ¬x=y:=by simpa using c2
    apply et1
    ·(simp[aMf hx hy hxy];done)
   ·have hxy:x=y:=by simpa using c2
    refine⟨⟨by omega,by omega⟩,?_⟩;exact⟨k+1,rfl,⟨by omega,mQ hx (by rw[hy,hxy]) ht⟩,by omega⟩
  ·apply et1
   ·(simp[mR (by omega) hl ht];done)
abbrev aAQ (l:List (List Int))(m:List (List Int)):Prop:=Cn 159 [.one (.sl 34 1 (l.map aD)),.one (.sl 34 1 (m.map aD))] (vB (decide (l=m))) []
theorem aJa (l m:List (List Int)):aAQ l m:=by
 refine cq Tryz.func159 (.call (vB (decide (l=m))) []<| .fin []) (p:=Lx (l.map aD)<| Lx (m.map aD)<| aDN l m/\(decide (l=m))=(decide (l=m))/\True) (by kernel_rfl) ?_;refine lx fun n0=>lx fun n1=>?_;refine⟨aNv _ _,?_,trivial⟩
 ·rfl
theorem qY (a b:aS):decide (a=b)=(decide (a.columns=b.columns)&&(decide (a.values=b.values)&&decide (a.counts=b.counts))):=by
 obtain⟨a0,a1,a2⟩:=a;obtain⟨b0,b1,b2⟩:=b;simp[Bool.and_assoc]
abbrev aEs (a:aS)(b:aS):Prop:=Cn 112 [.agg [.sl 3 1 (a.columns.map intD),.sl 34 1 (a.values.map aD),.sl 3 1 (a.counts.map intD)],.agg [.sl 3 1 (b.columns.map intD),.sl 34 1 (b.values.map aD),.sl 3 1 (b.counts.map intD)]] (vB (decide (a=b))) []
theorem aPz (a b:aS):aEs a b:=by
 refine cq Tryz.func112 (.call (vB (decide (a.columns=b.columns))) []<| .br (.call (vB (decide (a.values=b.values))) []<| .lit<| .br (.call (vB (decide (a.counts=b.counts))) []<| .fin []) (.fin [])) (.fin [])) (p:=Lx (a.columns.map intD)<| Lx (a.values.map aD)<| Lx (a.counts.map intD)<| Lx (b.columns.map intD)<| Lx (b.values.map aD)<| Lx (b.counts.map intD)<| qG a.columns b.columns/\Br (a.columns=b.columns) (aAQ a.values b.values/\Br (a.values=b.values) (qG a.counts b.counts/\(decide (a.counts=b.counts))=(decide (a=b))/\True) ((false)=(decide (a=b))/\True)) ((false)=(decide (a=b))/\True)) (by kernel_rfl) ?_;refine lx fun n0=>lx fun n1=>lx fun n2=>lx fun n3=>lx fun n4=>lx fun n5=>?_;refine⟨aB5 _ _,dd (fun g10=>?_) fun g10=>?_⟩
 ·refine⟨aJa _ _,dd (fun g17=>?_) fun g17=>?_⟩
  ·refine⟨aB5 _ _,?_,trivial⟩
   ·(rw[qY];simp_all [jD];done)
  ·apply et1
   ·(rw[qY];simp_all [jD];done)
 ·apply et1
  ·(rw[qY];simp_all [jD];done)
abbrev sD (l:List aS)(m:List aS):Prop:=Cn 111 [.one (.sl 138 3 (l.map aH)),.one (.sl 138 3 (m.map aH)),.fn 112 []] (vB (decide (l=m))) []
theorem aDj (l m:List aS):sD l m:=by
 refine cq Tryz.func111 (.len l.length<| .len m.length<| .br (.fin []) (.len l.length<| .loop Nat (Q1 Nat) ([7,8,9]++rg 17 15) [800,900] (fun k=>[(17,vI (k:Int))]) (fun k=>[]) (fun k=>k<=l.length/\l.take k=m.take k) (fun k=>l.length - k) (fun k=> .br (.elem _ aH l (fun e20=> .elem _ aH m (fun e24=> .call (vB (decide (e20=e24))) []<| .br (.fin []) (.back [])))) (.fin [])))) (p:=Lx (l.map aH)<| Lx (m.map aH)<| Lm aH l/\(Lm aH m/\Nb ((l.length:Int)=(m.length:Int)) ((false)=(decide (l=m))/\True) (Lm aH l/\((∃(k:Nat),0=(k:Int)/\k<=l.length/\l.take k=m.take k)/\ ∀(k:Nat),(k<=l.length/\l.take k=m.take k)->Br ((k:Int)<(l.length:Int)) (0<=(k:Int)/\Em aH l k fun e20=>0<=(k:Int)/\Em aH m k fun e24=>aEs e20 e24/\Nb (e20=e24) ((false)=(decide (l=m))/\True) (bW ((k:Int)+1)/\ ∃(k' :Nat),((k:Int)+1)=(k' :Int)/\(k' <=l.length/\l.take k' =m.take k')/\l.length - k' <l.length - k)) ((true)=(decide (l=m))/\True))))) (by kernel_rfl) ?_;refine lx fun n0=>lx fun n1=>?_;refine⟨aAJ _,aAJ _,dn (fun c0=>?_) fun c0=>?_⟩
 ·apply et1
  ·(simp[aEr c0];done)
 ·have hl:l.length=m.length:=by omega
  refine⟨aAJ _,⟨0,rfl,aAU _,rfl⟩,fun k ⟨hk,ht⟩=>?_⟩;refine dd (fun c1=>?_) fun c1=>?_
  ·obtain⟨x,hx⟩:=cP (l:=l) (k:=k) (by omega);obtain⟨y,hy⟩:=cP (l:=m) (k:=k) (by omega);refine⟨by omega,rfl,by omega,fun e20 h20=>?_⟩;obtain rfl:=(bF hx h20).symm;refine⟨by omega,rfl,by omega,fun e24 h24=>?_⟩;obtain rfl:=(bF hy h24).symm;refine⟨aPz _ _,dn (fun c2=>?_) fun c2=>?_⟩
   ·have hxy: ¬x=y:=by simpa using c2
    apply et1
    ·(simp[aMf hx hy hxy];done)
   ·have hxy:x=y:=by simpa using c2
    refine⟨⟨by omega,by omega⟩,?_⟩;exact⟨k+1,rfl,⟨by omega,mQ hx (by rw[hy,hxy]) ht⟩,by omega⟩
  ·apply et1
   ·(simp[mR (by omega) hl ht];done)
theorem gC (a b:aQ):decide (a=b)=(decide (a.name=b.name)&&(decide (a.arity=b.arity)&&(decide (a.rowCount=b.rowCount)&&decide (a.groups=b.groups)))):=by
 obtain⟨a0,a1,a2,a3⟩:=a;obtain⟨b0,b1,b2,b3⟩:=b;simp[Bool.and_assoc]
abbrev nG (a:aQ)(b:aQ):Prop:=Cn 56 [.agg [.str a.name,.int .i64 a.arity,.int .i64 a.rowCount,.sl 138 3 (a.groups.map aH)],.agg [.str b.name,.int .i64 b.arity,.int .i64 b.rowCount,.sl 138 3 (b.groups.map aH)]] (vB (decide (a=b))) []
theorem uN (a b:aQ):nG a b:=by
 refine cq Tryz.func56 (.br (.lit<| .lit<| .lit<| .lit<| .lit<| .br (.lit<| .lit<| .lit<| .lit<| .lit<| .br (.call (vB (decide (a.groups=b.groups))) []<| .fin []) (.fin [])) (.fin [])) (.fin [])) (p:=Lx (a.groups.map aH)<| Lx (b.groups.map aH)<| Bb (a.name.toList==b.name.toList) (Br (a.arity=b.arity) (Br (a.rowCount=b.rowCount) (sD a.groups b.groups/\(decide (a.groups=b.groups))=(decide (a=b))/\True) ((false)=(decide (a=b))/\True)) ((false)=(decide (a=b))/\True)) ((false)=(decide (a=b))/\True)) (by kernel_rfl) ?_;refine lx fun n0=>lx fun n1=>?_;refine db (fun g10=>?_) fun g10=>?_
 ·refine dd (fun g17=>?_) fun g17=>?_
  ·refine dd (fun g24=>?_) fun g24=>?_
   ·refine⟨aDj _ _,?_,trivial⟩
    ·(rw[gC];simp_all [jD];done)
   ·apply et1
    ·(rw[gC];simp_all [jD];done)
  ·apply et1
   ·(rw[gC];simp_all [jD];done)
 ·apply et1
  ·(rw[gC];simp_all [jD];done)
abbrev sE (l:List aQ)(m:List aQ):Prop:=Cn 55 [.one (.sl 91 4 (l.map aB)),.one (.sl 91 4 (m.map aB)),.fn 56 []] (vB (decide (l=m))) []
theorem aDk (l m:List aQ):sE l m:=by
 refine cq Tryz.func55 (.len l.length<| .len m.length<| .br (.fin []) (.len l.length<| .loop Nat (Q1 Nat) ([7,8,9]++rg 17 15) [800,900] (fun k=>[(17,vI (k:Int))]) (fun k=>[]) (fun k=>k<=l.length/\l.take k=m.take k) (fun k=>l.length - k) (fun k=> .br (.elem _ aB l (fun e20=> .elem _ aB m (fun e24=> .call (vB (decide (e20=e24))) []<| .br (.fin []) (.back [])))) (.fin [])))) (p:=Lx (l.map aB)<| Lx (m.map aB)<| Lm aB l/\(Lm aB m/\Nb ((l.length:Int)=(m.length:Int)) ((false)=(decide (l=m))/\True) (Lm aB l/\((∃(k:Nat),0=(k:Int)/\k<=l.length/\l.take k=m.take k)/\ ∀(k:Nat),(k<=l.length/\l.take k=m.take k)->Br ((k:Int)<(l.length:Int)) (0<=(k:Int)/\Em aB l k fun e20=>0<=(k:Int)/\Em aB m k fun e24=>nG e20 e24/\Nb (e20=e24) ((false)=(decide (l=m))/\True) (bW ((k:Int)+1)/\ ∃(k' :Nat),((k:Int)+1)=(k' :Int)/\(k' <=l.length/\l.take k' =m.take k')/\l.length - k' <l.length - k)) ((true)=(decide (l=m))/\True))))) (by kernel_rfl) ?_;refine lx fun n0=>lx fun n1=>?_;refine⟨aAJ _,aAJ _,dn (fun c0=>?_) fun c0=>?_⟩
 ·apply et1
  ·(simp[aEr c0];done)
 ·have hl:l.length=m.length:=by omega
  refine⟨aAJ _,⟨0,rfl,aAU _,rfl⟩,fun k ⟨hk,ht⟩=>?_⟩;refine dd (fun c1=>?_) fun c1=>?_
  ·obtain⟨x,hx⟩:=cP (l:=l) (k:=k) (by omega);obtain⟨y,hy⟩:=cP (l:=m) (k:=k) (by omega);refine⟨by omega,rfl,by omega,fun e20 h20=>?_⟩;obtain rfl:=(bF hx h20).symm;refine⟨by omega,rfl,by omega,fun e24 h24=>?_⟩;obtain rfl:=(bF hy h24).symm;refine⟨uN _ _,dn (fun c2=>?_) fun c2=>?_⟩
   ·have hxy: ¬x=y:=by simpa using c2
    apply et1
    ·(simp[aMf hx hy hxy];done)
   ·have hxy:x=y:=by simpa using c2
    refine⟨⟨by omega,by omega⟩,?_⟩;exact⟨k+1,rfl,⟨by omega,mQ hx (by rw[hy,hxy]) ht⟩,by omega⟩
  ·apply et1
   ·(simp[mR (by omega) hl ht];done)
theorem oP (a b:dH):decide (a=b)=(decide (a.version=b.version)&&decide (a.tables=b.tables)):=by
 obtain⟨a0,a1⟩:=a;obtain⟨b0,b1⟩:=b;simp[Bool.and_assoc]
abbrev aB6 (a:dH)(b:dH):Prop:=Cn 19 [.agg [.int .i64 a.version,.sl 91 4 (a.tables.map aB)],.agg [.int .i64 b.version,.sl 91 4 (b.tables.map aB)]] (vB (decide (a=b))) []
theorem aLU (a b:dH):aB6 a b:=by
 refine cq Tryz.func19 (.br (.call (vB (decide (a.tables=b.tables))) []<| .fin []) (.fin [])) (p:=Lx (a.tables.map aB)<| Lx (b.tables.map aB)<| Br (a.version=b.version) (sE a.tables b.tables/\(decide (a.tables=b.tables))=(decide (a=b))/\True) ((false)=(decide (a=b))/\True)) (by kernel_rfl) ?_;refine lx fun n0=>lx fun n1=>?_;refine dd (fun g10=>?_) fun g10=>?_
 ·refine⟨aDk _ _,?_,trivial⟩
  ·(rw[oP];simp_all [jD];done)
 ·apply et1
  ·(rw[oP];simp_all [jD];done)
def bT:List Int->List Int->Int
 | [],[]=>0
 | [],_::_=> -1
 | _::_,[]=>1
 | a::l,b::m=>if a<b then -1 else if b<a then 1 else bT l m
theorem eV: ∀{l m:List Int},bT l m=0↔l=m
 | [],[]=>by simp[bT]
 | [],_::_=>by simp[bT]
 | _::_,[]=>by simp[bT]
 | a::l,b::m=>by
   unfold bT;split
   ·simp;omega
   split
   ·simp;omega
   rw[eV];have:a=b:=by omega
   simp[this]
theorem kL {α:Type}{l:List α}{k:Nat}{x:α}(h:l[k]? =some x):l.drop k=x::l.drop (k+1):=by
 obtain⟨hk,rfl⟩:=aCx.1 h;exact List.drop_eq_getElem_cons hk
theorem xI {α:Type}{l:List α}{k:Nat}(h:l.length<=k):l.drop k= []:=List.drop_eq_nil_of_le h
theorem jN {l m:List Int}{k:Nat}(hk:k<=l.length/\k<=m.length)(hs: ¬k<l.length\/ ¬k<m.length):bT (l.drop k) (m.drop k)=if l.length<m.length then -1 else if m.length<l.length then 1 else 0:=by
 by_cases h1:k<l.length
 ·obtain⟨x,hx⟩:=cP h1;rw[kL hx,xI (l:=m) (by omega),bT,if_neg (by omega),if_pos (by omega)]
 rw[xI (l:=l) (by omega)];by_cases h2:k<m.length
 ·obtain⟨x,hx⟩:=cP h2;rw[kL hx,bT,if_pos (by omega)]
 rw[xI (l:=m) (by omega),bT,if_neg (by omega),if_neg (by omega)]
abbrev gD (l:List Int)(m:List Int):Prop:=Cn 47 [.one (.sl 3 1 (l.map intD)),.one (.sl 3 1 (m.map intD))] (vI (bT l m)) []
theorem kA (l m:List Int):gD l m:=by
 refine cq Tryz.func47 (.loop Nat (Q1 Nat) (rg 5 31) [] (fun k=>[(5,vI (k:Int))]) (fun k=>[]) (fun k=>(k<=l.length/\k<=m.length)/\bT (l.drop k) (m.drop k)=bT l m) (fun k=>l.length - k) (fun k=> .len l.length<| .br (.len m.length<| .lit<| .lit<| .br (.elem _ intD l (fun e20=> .elem _ intD m (fun e24=> .br (.fin []) (.elem _ intD l (fun e29=> .elem _ intD m (fun e33=> .br (.fin []) (.back []))))))) (.len l.length<| .len m.length<| .br (.fin []) (.len l.length<| .len m.length<| .br (.fin []) (.fin [])))) (.len l.length<| .len m.length<| .br (.fin []) (.len l.length<| .len m.length<| .br (.fin []) (.fin []))))) (p:=Lx (l.map intD)<| Lx (m.map intD)<| (∃(k:Nat),0=(k:Int)/\(k<=l.length/\k<=m.length)/\bT (l.drop k) (m.drop k)=bT l m)/\ ∀(k:Nat),((k<=l.length/\k<=m.length)/\bT (l.drop k) (m.drop k)=bT l m)->Lm intD l/\Br ((k:Int)<(l.length:Int)) (Lm intD m/\Br ((k:Int)<(m.length:Int)) (0<=(k:Int)/\Em intD l k fun e20=>0<=(k:Int)/\Em intD m k fun e24=>Br (e20<e24) ((-1:Int)=(bT l m)/\True) (0<=(k:Int)/\Em intD l k fun e29=>0<=(k:Int)/\Em intD m k fun e33=>Br (e33<e29) (1=(bT l m)/\True) (bW ((k:Int)+1)/\ ∃(k' :Nat),((k:Int)+1)=(k' :Int)/\((k' <=l.length/\k' <=m.length)/\bT (l.drop k') (m.drop k')=bT l m)/\l.length - k' <l.length - k))) (Lm intD l/\Lm intD m/\Br ((l.length:Int)<(m.length:Int)) ((-1:Int)=(bT l m)/\True) (Lm intD l/\Lm intD m/\Br ((m.length:Int)<(l.length:Int)) (1=(bT l m)/\True) (0=(bT l m)/\True)))) (Lm intD l/\Lm intD m/\Br ((l.length:Int)<(m.length:Int)) ((-1:Int)=(bT l m)/\True) (Lm intD l/\Lm intD m/\Br ((m.length:Int)<(l.length:Int)) (1=(bT l m)/\True) (0=(bT l m)/\True)))) (by kernel_rfl) ?_;refine lx fun n0=>lx fun n1=>?_;refine⟨⟨0,rfl,⟨aAU _,aAU _⟩,rfl⟩,fun k ⟨hk,hv⟩=>?_⟩;refine⟨aAJ _,dd (fun g10=>?_) fun g10=>?_⟩
 ·refine⟨aAJ _,dd (fun c0=>?_) fun c0=>?_⟩
  ·obtain⟨x,hx⟩:=cP (l:=l) (k:=k) (by omega);obtain⟨y,hy⟩:=cP (l:=m) (k:=k) (by omega);have hd:bT l m=if x<y then -1 else if y<x then 1 else bT (l.drop (k+1)) (m.drop (k+1)):=by rw[<-hv,kL hx,kL hy,bT]
   refine⟨by omega,rfl,by omega,fun e20 h20=>?_⟩;obtain rfl:=(bF hx h20).symm;refine⟨by omega,rfl,by omega,fun e24 h24=>?_⟩;obtain rfl:=(bF hy h24).symm;refine dd (fun c1=>?_) fun c1=>?_
   ·apply et1
    ·(rw[hd,if_pos c1];done)
   ·refine⟨by omega,rfl,by omega,fun e29 h29=>?_⟩;obtain rfl:=(bF hx h29).symm;refine⟨by omega,rfl,by omega,fun e33 h33=>?_⟩;obtain rfl:=(bF hy h33).symm;refine dd (fun c2=>?_) fun c2=>?_
    ·apply et1
     ·(rw[hd,if_neg c1,if_pos c2];done)
    ·refine⟨⟨by omega,by omega⟩,?_⟩;exact⟨k+1,rfl,⟨by omega,by rw[hd,if_neg c1,if_neg c2]⟩,by omega⟩
  ·refine⟨aAJ _,aAJ _,dd (fun c3=>?_) fun c3=>?_⟩
   ·apply et1
    ·(rw[<-hv,jN hk (by omega),if_pos (by omega)];done)
   ·refine⟨aAJ _,aAJ _,dd (fun c4=>?_) fun c4=>?_⟩
    ·apply et1
     ·(rw[<-hv,jN hk (by omega),if_neg (by omega),if_pos (by omega)];done)
    ·apply et1
     ·(rw[<-hv,jN hk (by omega),if_neg (by omega),if_neg (by omega)];done)
 ·refine⟨aAJ _,aAJ _,dd (fun c3=>?_) fun c3=>?_⟩
  ·apply et1
   ·(rw[<-hv,jN hk (by omega),if_pos (by omega)];done)
  ·refine⟨aAJ _,aAJ _,dd (fun c4=>?_) fun c4=>?_⟩
   ·apply et1
    ·(rw[<-hv,jN hk (by omega),if_neg (by omega),if_pos (by omega)];done)
   ·apply et1
    ·(rw[<-hv,jN hk (by omega),if_neg (by omega),if_neg (by omega)];done)
theorem aUx {x y:aS}(h1:x.columns=y.columns)(h2:x.values=y.values)(h3:x.counts=y.counts):x=y:=by
 obtain⟨a,b,c⟩:=x;obtain⟨d,e,f⟩:=y;simp at h1 h2 h3;subst h1 h2 h3;rfl
abbrev qZ (a:aQ)(b:aQ):Prop:=Cn 103 [.agg [.str a.name,.int .i64 a.arity,.int .i64 a.rowCount,.sl 138 3 (a.groups.map aH)],.agg [.str b.name,.int .i64 b.arity,.int .i64 b.rowCount,.sl 138 3 (b.groups.map aH)]] (vB (decide (a=b))) []
theorem aB7 (a b:aQ)(ha:dE a<=1048576):qZ a b:=by
 refine cq Tryz.func103 (.br (.fin []) (.lit<| .lit<| .lit<| .lit<| .lit<| .br (.fin []) (.lit<| .lit<| .lit<| .lit<| .lit<| .br (.fin []) (.len a.groups.length<| .len b.groups.length<| .lit<| .lit<| .br (.fin []) (.loop Nat (Q1 Nat) ([5,6,7,8]++rg 37 59) [600,700] (fun i=>[(5,vI (i:Int))]) (fun i=>[]) (fun i=>i<=a.groups.length/\a.groups.take i=b.groups.take i) (fun i=>a.groups.length - i) (fun i=> .len a.groups.length<| .br (.elem _ aH a.groups (fun e47=> .elem _ aH b.groups (fun e52=> .call (vI (bT e47.columns e52.columns)) []<| .br (.fin []) (.call (vI (bT e47.counts e52.counts)) []<| .lit<| .lit<| .br (.fin []) (.len e47.values.length<| .len e52.values.length<| .lit<| .lit<| .br (.fin []) (.loop Nat (Q1 Nat) ([8]++rg 77 19) [] (fun k=>[(8,vI (k:Int))]) (fun k=>[]) (fun k=>k<=e47.values.length/\e47.values.take k=e52.values.take k) (fun k=>e47.values.length - k) (fun k=> .len e47.values.length<| .br (.elem _ aD e47.values (fun e87=> .elem _ aD e52.values (fun e92=> .call (vI (bT e87 e92)) []<| .br (.fin []) (.back [])))) (.back [])))))))) (.fin []))))))) (p:=Lx (a.groups.map aH)<| Lx (b.groups.map aH)<| Nr (a.name.toList==b.name.toList) ((false)=(decide (a=b))/\True) (Nb (a.arity=b.arity) ((false)=(decide (a=b))/\True) (Nb (a.rowCount=b.rowCount) ((false)=(decide (a=b))/\True) (Lm aH a.groups/\(Lm aH b.groups/\Nb ((a.groups.length:Int)=(b.groups.length:Int)) ((false)=(decide (a=b))/\True) ((∃(i:Nat),0=(i:Int)/\i<=a.groups.length/\a.groups.take i=b.groups.take i)/\ ∀(i:Nat),(i<=a.groups.length/\a.groups.take i=b.groups.take i)->Lm aH a.groups/\Br ((i:Int)<(a.groups.length:Int)) (0<=(i:Int)/\Em aH a.groups i fun e47=>0<=(i:Int)/\Em aH b.groups i fun e52=>gD e47.columns e52.columns/\Nb ((bT e47.columns e52.columns)=0) ((false)=(decide (a=b))/\True) (gD e47.counts e52.counts/\Nb ((bT e47.counts e52.counts)=0) ((false)=(decide (a=b))/\True) (Lm aD e47.values/\(Lm aD e52.values/\Nb ((e47.values.length:Int)=(e52.values.length:Int)) ((false)=(decide (a=b))/\True) ((∃(k:Nat),0=(k:Int)/\k<=e47.values.length/\e47.values.take k=e52.values.take k)/\ ∀(k:Nat),(k<=e47.values.length/\e47.values.take k=e52.values.take k)->Lm aD e47.values/\Br ((k:Int)<(e47.values.length:Int)) (0<=(k:Int)/\Em aD e47.values k fun e87=>0<=(k:Int)/\Em aD e52.values k fun e92=>gD e87 e92/\Nb ((bT e87 e92)=0) ((false)=(decide (a=b))/\True) (bW ((k:Int)+1)/\ ∃(k' :Nat),((k:Int)+1)=(k' :Int)/\(k' <=e47.values.length/\e47.values.take k' =e52.values.take k')/\e47.values.length - k' <e47.values.length - k)) (bW ((i:Int)+1)/\ ∃(i' :Nat),((i:Int)+1)=(i' :Int)/\(i' <=a.groups.length/\a.groups.take i' =b.groups.take i')/\a.groups.length - i' <a.groups.length - i)))))) ((true)=(decide (a=b))/\True))))))) (by kernel_rfl) ?_;refine lx fun n0=>lx fun n1=>?_;refine dm (fun g14=>?_) fun g14=>?_
 ·apply et1
  ·(rw[gC];simp_all [jD];done)
 ·refine dn (fun g21=>?_) fun g21=>?_
  ·apply et1
   ·(rw[gC];simp_all [jD];done)
  ·refine dn (fun g28=>?_) fun g28=>?_
   ·apply et1
    ·(rw[gC];simp_all [jD];done)
   ·refine⟨aAJ _,aAJ _,dn (fun c0=>?_) fun c0=>?_⟩
    ·have hne: ¬a=b:=fun e=>c0 (by rw[e]);apply et1
     ·(simp[hne];done)
    ·have hl:a.groups.length=b.groups.length:=by omega
     refine⟨⟨0,rfl,aAU _,rfl⟩,fun i ⟨hi,ht⟩=>?_⟩;refine⟨aAJ _,dd (fun c1=>?_) fun c1=>?_⟩
     ·refine⟨by omega,rfl,by omega,fun e47 h47=>?_⟩;have q1:=kC h47;have q2:dE a=a.name.size+iW a.groups:=rfl;have q3:gZ e47=gT e47.columns+cV e47.values+gT e47.counts:=rfl;have q4:=iG e47.values;refine⟨by omega,rfl,by omega,fun e52 h52=>?_⟩;refine⟨kA _ _,dn (fun g60=>?_) fun g60=>?_⟩
      ·have hne: ¬a=b:=fun e=>by subst e;have q:=bF h47 h52;subst q;exact g60 (eV.2 rfl)
       apply et1
       ·(simp[hne];done)
      ·refine⟨kA _ _,dn (fun g68=>?_) fun g68=>?_⟩
       ·have hne: ¬a=b:=fun e=>by subst e;have q:=bF h47 h52;subst q;exact g68 (eV.2 rfl)
        apply et1
        ·(simp[hne];done)
       ·refine⟨aAJ _,aAJ _,dn (fun c2=>?_) fun c2=>?_⟩
        ·have hne: ¬a=b:=fun e=>by subst e;have q:=bF h47 h52;subst q;exact c2 rfl
         apply et1
         ·(simp[hne];done)
        ·refine⟨⟨0,rfl,aAU _,rfl⟩,fun k ⟨hk,hv⟩=>?_⟩;refine⟨aAJ _,dd (fun c3=>?_) fun c3=>?_⟩
         ·refine⟨by omega,rfl,by omega,fun e87 h87=>?_⟩;refine⟨by omega,rfl,by omega,fun e92 h92=>?_⟩;refine⟨kA _ _,dn (fun c4=>?_) fun c4=>?_⟩
          ·have hne: ¬a=b:=fun e=>by subst e;have q:=bF h47 h52;subst q;have q:=bF h87 h92;subst q;exact c4 (eV.2 rfl)
           apply et1
           ·(simp[hne];done)
          ·refine⟨⟨by omega,by omega⟩,?_⟩;exact⟨k+1,rfl,⟨by omega,mQ h87 (by rw[h92,eV.1 c4]) hv⟩,by omega⟩
         ·have hxy:e52=e47:=(aUx (eV.1 g60) (mR (by omega) (by omega) hv) (eV.1 g68)).symm;refine⟨⟨by omega,by omega⟩,?_⟩;exact⟨i+1,rfl,⟨by omega,mQ h47 (by rw[h52,hxy]) ht⟩,by omega⟩
     ·have hg:=mR (by omega) hl ht;apply et1
      ·(rw[gC];simp_all [jD];done)
abbrev aB8 (a:dH)(b:dH):Prop:=Cn 45 [.agg [.int .i64 a.version,.sl 91 4 (a.tables.map aB)],.agg [.int .i64 b.version,.sl 91 4 (b.tables.map aB)]] (vB (decide (a=b))) []
theorem aLV (a b:dH)(ha:dN a<=1048576):aB8 a b:=by
 refine cq Tryz.func45 (.br (.fin []) (.len a.tables.length<| .len b.tables.length<| .lit<| .lit<| .br (.fin []) (.loop Nat (Q1 Nat) ([5]++rg 20 19) [] (fun k=>[(5,vI (k:Int))]) (fun k=>[]) (fun k=>k<=a.tables.length/\a.tables.take k=b.tables.take k) (fun k=>a.tables.length - k) (fun k=> .len a.tables.length<| .br (.elem _ aB a.tables (fun e30=> .elem _ aB b.tables (fun e35=> .call (vB (decide (e30=e35))) []<| .br (.fin []) (.back [])))) (.fin []))))) (p:=Lx (a.tables.map aB)<| Lx (b.tables.map aB)<| Nb (a.version=b.version) ((false)=(decide (a=b))/\True) (Lm aB a.tables/\(Lm aB b.tables/\Nb ((a.tables.length:Int)=(b.tables.length:Int)) ((false)=(decide (a=b))/\True) ((∃(k:Nat),0=(k:Int)/\k<=a.tables.length/\a.tables.take k=b.tables.take k)/\ ∀(k:Nat),(k<=a.tables.length/\a.tables.take k=b.tables.take k)->Lm aB a.tables/\Br ((k:Int)<(a.tables.length:Int)) (0<=(k:Int)/\Em aB a.tables k fun e30=>0<=(k:Int)/\Em aB b.tables k fun e35=>qZ e30 e35/\Nb (e30=e35) ((false)=(decide (a=b))/\True) (bW ((k:Int)+1)/\ ∃(k' :Nat),((k:Int)+1)=(k' :Int)/\(k' <=a.tables.length/\a.tables.take k' =b.tables.take k')/\a.tables.length - k' <a.tables.length - k)) ((true)=(decide (a=b))/\True))))) (by kernel_rfl) ?_;refine lx fun n0=>lx fun n1=>?_;have hS:dN a=gW a.tables:=rfl;refine dn (fun g11=>?_) fun g11=>?_
 ·apply et1
  ·(rw[oP];simp_all;done)
 ·refine⟨aAJ _,aAJ _,dn (fun c0=>?_) fun c0=>?_⟩
  ·have hne: ¬a=b:=fun e=>c0 (by rw[e]);apply et1
   ·(simp[hne];done)
  ·have hl:a.tables.length=b.tables.length:=by omega
   refine⟨⟨0,rfl,aAU _,rfl⟩,fun k ⟨hk,ht⟩=>?_⟩;refine⟨aAJ _,dd (fun c1=>?_) fun c1=>?_⟩
   ·refine⟨by omega,rfl,by omega,fun e30 h30=>?_⟩;refine⟨by omega,rfl,by omega,fun e35 h35=>?_⟩;refine⟨aB7 _ _ (by have:=pO h30;omega),dn (fun c2=>?_) fun c2=>?_⟩
    ·have hne: ¬a=b:=fun e=>by subst e;exact c2 (bF h35 h30)
     apply et1
     ·(simp[hne];done)
    ·refine⟨⟨by omega,by omega⟩,?_⟩;exact⟨k+1,rfl,⟨by omega,mQ h30 (by rw[h35,c2]) ht⟩,by omega⟩
   ·have hg:=mR (by omega) hl ht;apply et1
    ·(rw[oP];simp_all;done)
abbrev eW (n:Int)(a:Int)(b:Int):Prop:=Cn 50 [.one (.int .i64 n),.one (.int .i64 a),.one (.int .i64 b)] (vB (dV n a b)) []
theorem jJ (n a b:Int):eW n a b:=by
 refine cq Tryz.func50 (.br (.fin []) (.fin [])) (p:=Br (a<=n) ((decide (n<=b))=(dV n a b)/\True) ((false)=(dV n a b)/\True)) (by kernel_rfl) ?_;refine dd (fun g10=>?_) fun g10=>?_
 ·apply et1
  ·(simp[dV,g10];done)
 ·apply et1
  ·(simp[dV,g10];done)
abbrev dZ (n:Int)(a:Int)(b:Int):Prop:=Cn 53 [.one (.int .i64 n),.one (.int .i64 a),.one (.int .i64 b)] (vB (dV n a b)) []
theorem gX (n a b:Int):dZ n a b:=by
 refine cq Tryz.func53 (.br (.fin []) (.fin [])) (p:=Br (a<=n) ((decide (n<=b))=(dV n a b)/\True) ((false)=(dV n a b)/\True)) (by kernel_rfl) ?_;refine dd (fun g10=>?_) fun g10=>?_
 ·apply et1
  ·(simp[dV,g10];done)
 ·apply et1
  ·(simp[dV,g10];done)
def aB9 (v:Int):Bool:=dV v 0 9
def jG (n:Int)(r:List Int):Bool:=r.all aB9&&decide ((r.length:Int)=n)
def fF (s:ByteArray):Bool:=decide ((s.size:Int)=1)&&(decide (97<=nX s 0)&&decide (nX s 0<=122))
abbrev aEt (r:List Int)(n:Int):Prop:=Cn 141 [.one (.sl 3 1 (r.map intD)),.one (.int .i64 n)] (vB (jG n r)) []
theorem aQA (r:List Int)(n:Int):aEt r n:=by
 refine cq Tryz.func141 (.len r.length<| .loop Nat (Q1 Nat) ([6]++rg 9 8) [] (fun k=>[(9,vI (k:Int))]) (fun k=>[]) (fun k=>k<=r.length/\(r.take k).all aB9=true) (fun k=>r.length - k) (fun k=> .br (.elem _ intD r (fun e11=> .call (vB (dV e11 (0:Int) (9:Int))) []<| .br (.fin []) (.back []))) (.len r.length<| .fin []))) (p:=Lx (r.map intD)<| Lm intD r/\((∃(k:Nat),0=(k:Int)/\k<=r.length/\(r.take k).all aB9=true)/\ ∀(k:Nat),(k<=r.length/\(r.take k).all aB9=true)->Br ((k:Int)<(r.length:Int)) (0<=(k:Int)/\Em intD r k fun e11=>eW e11 (0:Int) (9:Int)/\Nr (dV e11 (0:Int) (9:Int)) ((false)=(jG n r)/\True) (bW ((k:Int)+1)/\ ∃(k' :Nat),((k:Int)+1)=(k' :Int)/\(k' <=r.length/\(r.take k').all aB9=true)/\r.length - k' <r.length - k)) (Lm intD r/\(decide ((r.length:Int)=n))=(jG n r)/\True))) (by kernel_rfl) ?_;refine lx fun n0=>?_;refine⟨aAJ _,⟨0,rfl,aAU _,rfl⟩,fun k ⟨hk,ha⟩=>?_⟩;refine dd (fun c0=>?_) fun c0=>?_
 ·refine⟨by omega,rfl,by omega,fun e11 h11=>?_⟩;refine⟨jJ _ _ _,dm (fun c1=>?_) fun c1=>?_⟩
  ·apply et1
   ·(rw[jG,fP h11 c1];rfl)
  ·refine⟨⟨by omega,by omega⟩,?_⟩;exact⟨k+1,rfl,⟨by omega,cI h11 ha c1⟩,by omega⟩
 ·refine⟨aAJ _,?_,trivial⟩
  ·(rw[jG,cK (by omega) ha];simp)
abbrev aEu (r:List Int)(n:Int):Prop:=Cn 152 [.one (.sl 3 1 (r.map intD)),.one (.int .i64 n)] (vB (jG n r)) []
theorem aQB (r:List Int)(n:Int):aEu r n:=by
 refine cq Tryz.func152 (.loop Nat (Q1 Nat) (rg 5 13) [] (fun k=>[(5,vI (k:Int))]) (fun k=>[]) (fun k=>k<=r.length/\(r.take k).all aB9=true) (fun k=>r.length - k) (fun k=> .len r.length<| .br (.elem _ intD r (fun e14=> .call (vB (dV e14 (0:Int) (9:Int))) []<| .br (.fin []) (.back []))) (.len r.length<| .fin []))) (p:=Lx (r.map intD)<| (∃(k:Nat),0=(k:Int)/\k<=r.length/\(r.take k).all aB9=true)/\ ∀(k:Nat),(k<=r.length/\(r.take k).all aB9=true)->Lm intD r/\Br ((k:Int)<(r.length:Int)) (0<=(k:Int)/\Em intD r k fun e14=>dZ e14 (0:Int) (9:Int)/\Nr (dV e14 (0:Int) (9:Int)) ((false)=(jG n r)/\True) (bW ((k:Int)+1)/\ ∃(k' :Nat),((k:Int)+1)=(k' :Int)/\(k' <=r.length/\(r.take k').all aB9=true)/\r.length - k' <r.length - k)) (Lm intD r/\(decide ((r.length:Int)=n))=(jG n r)/\True)) (by kernel_rfl) ?_;refine lx fun n0=>?_;refine⟨⟨0,rfl,aAU _,rfl⟩,fun k ⟨hk,ha⟩=>?_⟩;refine⟨aAJ _,dd (fun c0=>?_) fun c0=>?_⟩
 ·refine⟨by omega,rfl,by omega,fun e14 h14=>?_⟩;refine⟨gX _ _ _,dm (fun c1=>?_) fun c1=>?_⟩
  ·apply et1
   ·(rw[jG,fP h14 c1];rfl)
  ·refine⟨⟨by omega,by omega⟩,?_⟩;exact⟨k+1,rfl,⟨by omega,cI h14 ha c1⟩,by omega⟩
 ·refine⟨aAJ _,?_,trivial⟩
  ·(rw[jG,cK (by omega) ha];simp)
abbrev xJ (s:ByteArray):Prop:=Cn 160 [.one (.str s)] (vB (fF s)) []
theorem aHI (s:ByteArray):xJ s:=by
 refine cq Tryz.func160 (.br (.lit<| .lit<| .lit<| .br (.fin []) (.fin [])) (.fin [])) (p:=Br ((s.size:Int)=1) (0<=(0:Int)/\0<(s.size:Int)/\Br (97<=(nX s 0)) (0<=(0:Int)/\0<(s.size:Int)/\(decide ((nX s 0)<=122))=(fF s)/\True) ((false)=(fF s)/\True)) ((false)=(fF s)/\True)) (by kernel_rfl) ?_;refine dd (fun g6=>?_) fun g6=>?_
 ·refine⟨by omega,by omega,dd (fun g11=>?_) fun g11=>?_⟩
  ·refine⟨by omega,by omega,?_,trivial⟩
   ·(simp[fF,g6,g11];done)
  ·apply et1
   ·(simp[fF,g6,g11];done)
 ·apply et1
  ·(simp[fF,g6];done)
abbrev xK (s:ByteArray):Prop:=Cn 165 [.one (.str s)] (vB (fF s)) []
theorem aHJ (s:ByteArray):xK s:=by
 refine cq Tryz.func165 (.br (.lit<| .lit<| .lit<| .br (.fin []) (.fin [])) (.fin [])) (p:=Br ((s.size:Int)=1) (0<=(0:Int)/\0<(s.size:Int)/\Br (97<=(nX s 0)) (0<=(0:Int)/\0<(s.size:Int)/\(decide ((nX s 0)<=122))=(fF s)/\True) ((false)=(fF s)/\True)) ((false)=(fF s)/\True)) (by kernel_rfl) ?_;refine dd (fun g6=>?_) fun g6=>?_
 ·refine⟨by omega,by omega,dd (fun g11=>?_) fun g11=>?_⟩
  ·refine⟨by omega,by omega,?_,trivial⟩
   ·(simp[fF,g6,g11];done)
  ·apply et1
   ·(simp[fF,g6,g11];done)
 ·apply et1
  ·(simp[fF,g6];done)
abbrev aCc (n:Int):Prop:=Cn 230 [.one (.int .i64 n)] (vB false) []
theorem aMg (n:Int):aCc n:=by
 refine cq Tryz.func230 (.fin []) (p:=(!(decide (n=n)))=false/\True) (by kernel_rfl) ?_;apply et1
 ·simp
def sU (a b:Int):Int:=if a<b then -1 else if b<a then 1 else 0
abbrev aHK (a:Int)(b:Int):Prop:=Cn 215 [.one (.int .i64 a),.one (.int .i64 b)] (vI (sU a b)) []
theorem aSm (a b:Int):aHK a b:=by
 refine cq Tryz.func215 (.call (vB false) []<| .call (vB false) []<| .lit<| .lit<| .br (.fin []) (.br (.fin []) (.fin []))) (p:=aCc a/\aCc b/\Br (a<b) ((-1:Int)=(sU a b)/\True) (Br (b<a) (1=(sU a b)/\True) (0=(sU a b)/\True))) (by kernel_rfl) ?_;refine⟨aMg _,aMg _,dd (fun c3=>?_) fun c3=>?_⟩
 ·apply et1
  ·simp[sU, *];try omega
 ·refine dd (fun c4=>?_) fun c4=>?_
  ·apply et1
   ·simp[sU, *];try omega
  ·apply et1
   ·simp[sU, *];try omega
theorem aHL (a b:Int)(l m:List Int):bT (a::l) (b::m)=if sU a b=0 then bT l m else sU a b:=by
 unfold sU;rw[bT];by_cases h1:a<b
 ·simp[h1]
 by_cases h2:b<a
 ·simp[h1,h2]
 simp[h1,h2]
abbrev aQC (l:List Int)(m:List Int):Prop:=Cn 201 [.one (.sl 3 1 (l.map intD)),.one (.sl 3 1 (m.map intD))] (vI (bT l m)) []
theorem aW1 (l m:List Int):aQC l m:=by
 refine cq Tryz.func201 (.len l.length<| .loop Nat (Q1 Nat) ([5,6,7,8]++rg 11 18++[30]) [] (fun k=>[(11,vI (k:Int))]) (fun k=>[]) (fun k=>(k<=l.length/\k<=m.length)/\bT (l.drop k) (m.drop k)=bT l m) (fun k=>l.length - k) (fun k=> .br (.elem _ intD l (fun e14=> .len m.length<| .br (.fin []) (.elem _ intD m (fun e22=> .call (vI (sU e14 e22)) []<| .br (.fin []) (.back []))))) (.len l.length<| .len m.length<| .br (.fin []) (.fin [])))) (p:=Lx (l.map intD)<| Lx (m.map intD)<| Lm intD l/\((∃(k:Nat),0=(k:Int)/\(k<=l.length/\k<=m.length)/\bT (l.drop k) (m.drop k)=bT l m)/\ ∀(k:Nat),((k<=l.length/\k<=m.length)/\bT (l.drop k) (m.drop k)=bT l m)->Br ((k:Int)<(l.length:Int)) (0<=(k:Int)/\Em intD l k fun e14=>Lm intD m/\Br ((m.length:Int)<=(k:Int)) (1=(bT l m)/\True) (0<=(k:Int)/\Em intD m k fun e22=>aHK e14 e22/\Nb ((sU e14 e22)=0) ((sU e14 e22)=(bT l m)/\True) (bW ((k:Int)+1)/\ ∃(k' :Nat),((k:Int)+1)=(k' :Int)/\((k' <=l.length/\k' <=m.length)/\bT (l.drop k') (m.drop k')=bT l m)/\l.length - k' <l.length - k))) (Lm intD l/\Lm intD m/\Br ((l.length:Int)<(m.length:Int)) ((-1:Int)=(bT l m)/\True) (0=(bT l m)/\True)))) (by kernel_rfl) ?_;refine lx fun n0=>lx fun n1=>?_;refine⟨aAJ _,⟨0,rfl,⟨aAU _,aAU _⟩,rfl⟩,fun k ⟨hk,hv⟩=>?_⟩;refine dd (fun c0=>?_) fun c0=>?_
 ·obtain⟨x,hx⟩:=cP (l:=l) (k:=k) (by omega);refine⟨by omega,rfl,by omega,fun e14 h14=>?_⟩;obtain rfl:=(bF hx h14).symm;refine⟨aAJ _,dd (fun c1=>?_) fun c1=>?_⟩
  ·apply et1
   ·(rw[<-hv,jN hk (by omega),if_neg (by omega),if_pos (by omega)];done)
  ·obtain⟨y,hy⟩:=cP (l:=m) (k:=k) (by omega);have hd:bT l m=if sU x y=0 then bT (l.drop (k+1)) (m.drop (k+1)) else sU x y:=by rw[<-hv,kL hx,kL hy,aHL]
   refine⟨by omega,rfl,by omega,fun e22 h22=>?_⟩;obtain rfl:=(bF hy h22).symm;refine⟨aSm _ _,dn (fun c2=>?_) fun c2=>?_⟩
   ·apply et1
    ·(rw[hd,if_neg c2];done)
   ·refine⟨⟨by omega,by omega⟩,?_⟩;exact⟨k+1,rfl,⟨by omega,by rw[hd,if_pos c2]⟩,by omega⟩
 ·refine⟨aAJ _,aAJ _,dd (fun c3=>?_) fun c3=>?_⟩
  ·apply et1
   ·(rw[<-hv,jN hk (by omega),if_pos (by omega)];done)
  ·apply et1
   ·(rw[<-hv,jN hk (by omega),if_neg (by omega),if_neg (by omega)];done)
abbrev xL (l:List Int)(m:List Int):Prop:=Cn 186 [.one (.sl 3 1 (l.map intD)),.one (.sl 3 1 (m.map intD))] (vI (bT l m)) []
theorem aIJ (l m:List Int):xL l m:=by
 refine cq Tryz.func186 (.call (vI (bT l m)) []<| .fin []) (p:=Lx (l.map intD)<| Lx (m.map intD)<| aQC l m/\(bT l m)=(bT l m)/\True) (by kernel_rfl) ?_;refine lx fun n0=>lx fun n1=>?_;refine⟨aW1 _ _,?_⟩;exact⟨rfl,trivial⟩
def mC (l:List (List Int))(i:Nat):Bool:=decide (bT (l.getD i []) (l.getD (i+1) [])<0)
def aCd (l:List (List Int)):Bool:=(List.range (l.length - 1)).all (mC l)
def aR (t:aP):Bool:=t.rows.all (jG t.arity)&&(fF t.name&&(dV t.arity 1 3&&(decide ((t.rows.length:Int)<=8)&&aCd t.rows)))
theorem jE {p:Nat->Bool}{k:Nat}(h:(List.range k).all p=true)(hk:p k=true):(List.range (k+1)).all p=true:=by
 rw[List.range_succ,List.all_append,h];simp[hk]
theorem gP {p:Nat->Bool}{n k:Nat}(hk:k<n)(h:p k=false):(List.range n).all p=false:=by
 rw[List.all_eq_false];exact⟨k,aJg.2 hk,by simp[h]⟩
theorem aT {α:Type}{l:List α}{k:Nat}{x y:α}(h:l[k]? =some x):l.getD k y=x:=by simp[aEE,h]
abbrev aEv (l:List (List Int)):Prop:=Cn 161 [.one (.sl 34 1 (l.map aD))] (vB (aCd l)) []
theorem aQD (l:List (List Int)):aEv l:=by
 refine cq Tryz.func161 (.loop Nat (Q1 Nat) (rg 3 18) [] (fun k=>[(3,vI ((k:Int)+1))]) (fun k=>[]) (fun k=>(k+1<=l.length\/k=0)/\(List.range k).all (mC l)=true) (fun k=>l.length - k) (fun k=> .len l.length<| .br (.elem _ aD l (fun e13=> .elem _ aD l (fun e17=> .call (vI (bT e13 e17)) []<| .br (.fin []) (.back [])))) (.fin []))) (p:=Lx (l.map aD)<| (∃(k:Nat),1=((k:Int)+1)/\(k+1<=l.length\/k=0)/\(List.range k).all (mC l)=true)/\ ∀(k:Nat),((k+1<=l.length\/k=0)/\(List.range k).all (mC l)=true)->Lm aD l/\Br (((k:Int)+1)<(l.length:Int)) (bW (((k:Int)+1) - 1)/\0<=(((k:Int)+1) - 1)/\Em aD l ((((k:Int)+1) - 1).toNat) fun e13=>0<=((k:Int)+1)/\Em aD l (k+1) fun e17=>xL e13 e17/\Br (0<=(bT e13 e17)) ((false)=(aCd l)/\True) (bW (((k:Int)+1)+1)/\ ∃(k' :Nat),(((k:Int)+1)+1)=(((k' :Nat):Int)+1)/\((k' +1<=l.length\/k' =0)/\(List.range k').all (mC l)=true)/\l.length - k' <l.length - k)) ((true)=(aCd l)/\True)) (by kernel_rfl) ?_;refine lx fun n0=>?_;refine⟨⟨0,rfl,.inr rfl,rfl⟩,fun k ⟨hk,ha⟩=>?_⟩;refine⟨aAJ _,dd (fun c0=>?_) fun c0=>?_⟩
 ·refine⟨⟨by omega,by omega⟩,by omega,rfl,by omega,fun e13 h13=>?_⟩;have i13:l[k]? =some e13:=by rw[<-h13];congr 1;omega
  refine⟨by omega,rfl,by omega,fun e17 h17=>?_⟩;refine⟨aIJ _ _,dd (fun c1=>?_) fun c1=>?_⟩
  ·have hp:mC l k=false:=by rw[mC,aT i13,aT h17];simp;omega
   apply et1
   ·(rw[aCd,gP (by omega) hp];done)
  ·have hp:mC l k=true:=by rw[mC,aT i13,aT h17];simp;omega
   refine⟨⟨by omega,by omega⟩,?_⟩;exact⟨k+1,rfl,⟨by omega,jE ha hp⟩,by omega⟩
 ·apply et1
  ·(rw[aCd,show l.length - 1=k by omega,ha];done)
abbrev rA (t:aP):Prop:=Cn 105 [.agg [.str t.name,.int .i64 t.arity,.sl 34 1 (t.rows.map aD)]] (vB (aR t)) []
theorem xM (t:aP):rA t:=by
 refine cq Tryz.func105 (.len t.rows.length<| .loop Nat (Q1 Nat) ([4]++rg 8 10) [] (fun k=>[(8,vI (k:Int))]) (fun k=>[]) (fun k=>k<=t.rows.length/\(t.rows.take k).all (jG t.arity)=true) (fun k=>t.rows.length - k) (fun k=> .br (.elem _ aD t.rows (fun e10=> .call (vB (jG t.arity e10)) []<| .br (.fin []) (.back []))) (.call (vB (fF t.name)) []<| .br (.call (vB (dV t.arity (1:Int) (3:Int))) []<| .lit<| .br (.len t.rows.length<| .lit<| .lit<| .br (.call (vB (aCd t.rows)) []<| .fin []) (.fin [])) (.fin [])) (.fin [])))) (p:=Lx (t.rows.map aD)<| Lm aD t.rows/\((∃(k:Nat),0=(k:Int)/\k<=t.rows.length/\(t.rows.take k).all (jG t.arity)=true)/\ ∀(k:Nat),(k<=t.rows.length/\(t.rows.take k).all (jG t.arity)=true)->Br ((k:Int)<(t.rows.length:Int)) (0<=(k:Int)/\Em aD t.rows k fun e10=>aEt e10 t.arity/\Nr (jG t.arity e10) ((false)=(aR t)/\True) (bW ((k:Int)+1)/\ ∃(k' :Nat),((k:Int)+1)=(k' :Int)/\(k' <=t.rows.length/\(t.rows.take k').all (jG t.arity)=true)/\t.rows.length - k' <t.rows.length - k)) (xJ t.name/\Bb (fF t.name) (eW t.arity (1:Int) (3:Int)/\Bb (dV t.arity (1:Int) (3:Int)) (Lm aD t.rows/\Br ((t.rows.length:Int)<=8) (aEv t.rows/\(aCd t.rows)=(aR t)/\True) ((false)=(aR t)/\True)) ((false)=(aR t)/\True)) ((false)=(aR t)/\True)))) (by kernel_rfl) ?_;refine lx fun n0=>?_;refine⟨aAJ _,⟨0,rfl,aAU _,rfl⟩,fun k ⟨hk,ha⟩=>?_⟩;refine dd (fun c0=>?_) fun c0=>?_
 ·refine⟨by omega,rfl,by omega,fun e10 h10=>?_⟩;refine⟨aQA _ _,dm (fun c1=>?_) fun c1=>?_⟩
  ·apply et1
   ·(rw[aR,fP h10 c1];rfl)
  ·refine⟨⟨by omega,by omega⟩,?_⟩;exact⟨k+1,rfl,⟨by omega,cI h10 ha c1⟩,by omega⟩
 ·have hall:=cK (by omega) ha;refine⟨aHI _,db (fun g21=>?_) fun g21=>?_⟩
  ·refine⟨jJ _ _ _,db (fun g26=>?_) fun g26=>?_⟩
   ·refine⟨aAJ _,dd (fun g32=>?_) fun g32=>?_⟩
    ·refine⟨aQD _,?_,trivial⟩
     ·(simp[aR,hall, *];done)
    ·apply et1
     ·(simp[aR,hall, *];done)
   ·apply et1
    ·(simp[aR,hall, *];done)
  ·apply et1
   ·(simp[aR,hall, *];done)
abbrev oC (t:aP):Prop:=Cn 108 [.agg [.str t.name,.int .i64 t.arity,.sl 34 1 (t.rows.map aD)]] (vB (aR t)) []
theorem xN (t:aP):oC t:=by
 refine cq Tryz.func108 (.call (vB (fF t.name)) []<| .br (.fin []) (.call (vB (dV t.arity (1:Int) (3:Int))) []<| .lit<| .lit<| .br (.fin []) (.len t.rows.length<| .lit<| .lit<| .br (.fin []) (.loop Nat (Q1 Nat) ([3]++rg 20 35) [] (fun k=>[(3,vI (k:Int))]) (fun k=>[]) (fun k=>k<=t.rows.length/\(t.rows.take k).all (jG t.arity)=true/\(List.range (k - 1)).all (mC t.rows)=true) (fun k=>t.rows.length - k) (fun k=> .len t.rows.length<| .br (.elem _ aD t.rows (fun e30=> .call (vB (jG t.arity e30)) []<| .br (.fin []) (.lit<| .lit<| .br (.elem _ aD t.rows (fun e44=> .elem _ aD t.rows (fun e49=> .call (vI (bT e44 e49)) []<| .lit<| .lit<| .lit<| .lit<| .br (.fin []) (.back [])))) (.back [])))) (.fin [])))))) (p:=Lx (t.rows.map aD)<| xK t.name/\Nr (fF t.name) ((false)=(aR t)/\True) (dZ t.arity (1:Int) (3:Int)/\Nr (dV t.arity (1:Int) (3:Int)) ((false)=(aR t)/\True) (Lm aD t.rows/\Br (8<(t.rows.length:Int)) ((false)=(aR t)/\True) ((∃(k:Nat),0=(k:Int)/\k<=t.rows.length/\(t.rows.take k).all (jG t.arity)=true/\(List.range (k - 1)).all (mC t.rows)=true)/\ ∀(k:Nat),(k<=t.rows.length/\(t.rows.take k).all (jG t.arity)=true/\(List.range (k - 1)).all (mC t.rows)=true)->Lm aD t.rows/\Br ((k:Int)<(t.rows.length:Int)) (0<=(k:Int)/\Em aD t.rows k fun e30=>aEu e30 t.arity/\Nr (jG t.arity e30) ((false)=(aR t)/\True) (Br (0<(k:Int)) (bW ((k:Int) - 1)/\0<=((k:Int) - 1)/\Em aD t.rows (((k:Int) - 1).toNat) fun e44=>0<=(k:Int)/\Em aD t.rows k fun e49=>gD e44 e49/\Br (0<=(bT e44 e49)) ((false)=(aR t)/\True) (bW ((k:Int)+1)/\ ∃(k' :Nat),((k:Int)+1)=(k' :Int)/\(k' <=t.rows.length/\(t.rows.take k').all (jG t.arity)=true/\(List.range (k' - 1)).all (mC t.rows)=true)/\t.rows.length - k' <t.rows.length - k)) (bW ((k:Int)+1)/\ ∃(k' :Nat),((k:Int)+1)=(k' :Int)/\(k' <=t.rows.length/\(t.rows.take k').all (jG t.arity)=true/\(List.range (k' - 1)).all (mC t.rows)=true)/\t.rows.length - k' <t.rows.length - k))) ((true)=(aR t)/\True))))) (by kernel_rfl) ?_;refine lx fun n0=>?_;refine⟨aHJ _,dm (fun g8=>?_) fun g8=>?_⟩
 ·apply et1
  ·(simp[aR, *];done)
 ·refine⟨gX _ _ _,dm (fun g14=>?_) fun g14=>?_⟩
  ·apply et1
   ·(simp[aR, *];done)
  ·refine⟨aAJ _,dd (fun c0=>?_) fun c0=>?_⟩
   ·have h8:decide ((t.rows.length:Int)<=8)=false:=by simp;omega
    apply et1
    ·(rw[aR,h8];simp[*];done)
   ·have h8:decide ((t.rows.length:Int)<=8)=true:=by simp;omega
    refine⟨⟨0,rfl,aAU _,rfl,rfl⟩,fun k ⟨hk,ha,hs⟩=>?_⟩;refine⟨aAJ _,dd (fun c1=>?_) fun c1=>?_⟩
    ·refine⟨by omega,rfl,by omega,fun e30 h30=>?_⟩;refine⟨aQB _ _,dm (fun g36=>?_) fun g36=>?_⟩
     ·apply et1
      ·(rw[aR,fP h30 g36];rfl)
     ·refine dd (fun g39=>?_) fun g39=>?_
      ·refine⟨⟨by omega,by omega⟩,by omega,rfl,by omega,fun e44 h44=>?_⟩;have i44:t.rows[k - 1]? =some e44:=by rw[<-h44];congr 1;omega
       refine⟨by omega,rfl,by omega,fun e49 h49=>?_⟩;refine⟨kA _ _,dd (fun c2=>?_) fun c2=>?_⟩
       ·have hp:mC t.rows (k - 1)=false:=by rw[mC,aT i44,show k - 1+1=k by omega,aT h49];simp;omega
        have hz:aCd t.rows=false:=gP (by omega) hp;apply et1
        ·(rw[aR,h8,hz];simp[*];done)
       ·have hp:mC t.rows (k - 1)=true:=by rw[mC,aT i44,show k - 1+1=k by omega,aT h49];simp;omega
        have hs2:(List.range (k+1 - 1)).all (mC t.rows)=true:=by rw[show k+1 - 1=(k - 1)+1 by omega];exact jE hs hp
        refine⟨⟨by omega,by omega⟩,?_⟩;exact⟨k+1,rfl,⟨by omega,cI h30 ha g36,hs2⟩,by omega⟩
      ·have hs2:(List.range (k+1 - 1)).all (mC t.rows)=true:=by rw[show k=0 by omega];rfl
       refine⟨⟨by omega,by omega⟩,?_⟩;exact⟨k+1,rfl,⟨by omega,cI h30 ha g36,hs2⟩,by omega⟩
    ·have hall:=cK (by omega) ha;have hz:aCd t.rows=true:=by rw[aCd,show t.rows.length - 1=k - 1 by omega,hs]
     apply et1
     ·(rw[aR,h8,hz];simp[*];done)
def aQE (n:Int)(cols:List Int):Bool:=cols.all fun c=>dV c 0 (n - 1)
def xO (r:List Int)(c:Int):Int:=r.getD c.toNat 0
def gB (r cols:List Int):List Int × Bool:=if aQE r.length cols=true then (cols.map (xO r),true) else ([],false)
theorem aBa {r cols:List Int}(h:cols.all (fun c=>dV c 0 ((r.length:Int) - 1))=true):gB r cols=(cols.map (xO r),true):=by rw[gB,if_pos (show aQE _ _=true from h)]
theorem aMh {r cols:List Int}(h:cols.all (fun c=>dV c 0 ((r.length:Int) - 1))=false):gB r cols=([],false):=by rw[gB,if_neg (by rw[show aQE _ _=false from h];decide)]
theorem aJb {r:List Int}{c x:Int}(h:r[c.toNat]? =some x):xO r c=x:=aT h
theorem aEw (r cols:List Int):(gB r cols).1.length<=cols.length:=by
 unfold gB;split<;>simp
def iX (b:Int)(cols:List Int)(i:Nat):Bool:=dV (cols.getD i 0) 0 b&&(decide (i=0) || decide (cols.getD (i - 1) 0<cols.getD i 0))
def dI (b:Int)(cols:List Int):Bool:=(List.range cols.length).all (iX b cols)
abbrev rB (r:List Int)(cols:List Int):AV × List (Nat × Rs):=(.tup [.own 0,vB ((gB r cols).2)],[(0,.arr 3 1 true ((gB r cols).1.map intD))])
abbrev uO (r:List Int)(cols:List Int):Prop:=Cn 164 [.one (.sl 3 1 (r.map intD)),.one (.sl 3 1 (cols.map intD))] (rB r cols).1 (rB r cols).2
theorem aEx (r cols:List Int)(hl:cols.length<=1048576):uO r cols:=by
 refine cq Tryz.func164 (.len cols.length<| .loop (Nat × (List Int)) (Q2 Nat (List Int)) ([6,8,9]++rg 12 18) [900,2700,2800] (fun yy0=>[(12,vI (yy0.1:Int)),(6,.own 900)]) (fun yy0=>[(900,some (.arr 3 1 true (yy0.2.map intD)))]) (fun yy0=>yy0.1<=cols.length/\yy0.2=(cols.take yy0.1).map (xO r)/\(cols.take yy0.1).all (fun c=>dV c 0 ((r.length:Int) - 1))=true) (fun yy0=>cols.length - yy0.1) (fun yy0=> .br (.elem _ intD cols (fun e14=> .len r.length<| .call (vB (dV e14 (0:Int) ((r.length:Int) - 1))) []<| .br (.fin []) (.elem _ intD r (fun e25=> .app Int intD yy0.2 ([e25]:List Int)<| .back [(900,2800)])))) (.fin [(0,900)]))) (p:=Lx (r.map intD)<| Lx (cols.map intD)<| Lm intD cols/\((∃(k:Nat) (out:List Int),0=(k:Int)/\[]=out.map intD/\k<=cols.length/\out=(cols.take k).map (xO r)/\(cols.take k).all (fun c=>dV c 0 ((r.length:Int) - 1))=true)/\ ∀(k:Nat) (out:List Int),(k<=cols.length/\out=(cols.take k).map (xO r)/\(cols.take k).all (fun c=>dV c 0 ((r.length:Int) - 1))=true)->Br ((k:Int)<(cols.length:Int)) (0<=(k:Int)/\Em intD cols k fun e14=>Lm intD r/\bW ((r.length:Int) - 1)/\eW e14 (0:Int) ((r.length:Int) - 1)/\Nr (dV e14 (0:Int) ((r.length:Int) - 1)) ((false)=((gB r cols).2)/\[]=(gB r cols).1.map intD/\True) (0<=e14/\Em intD r ((e14).toNat) fun e25=>Ap intD out ([e25]:List Int) 8 (bW ((k:Int)+1)/\ ∃(k' :Nat) (out' :List Int),((k:Int)+1)=(k' :Int)/\(out++[e25]).map intD=out'.map intD/\(k' <=cols.length/\out' =(cols.take k').map (xO r)/\(cols.take k').all (fun c=>dV c 0 ((r.length:Int) - 1))=true)/\cols.length - k' <cols.length - k))) ((true)=((gB r cols).2)/\out.map intD=(gB r cols).1.map intD/\True))) (by kernel_rfl) ?_;refine lx fun n0=>lx fun n1=>?_;refine⟨aAJ _,⟨0,([]:List Int),rfl,rfl,aAU _,rfl,rfl⟩,fun k out ⟨hk,ho,ha⟩=>?_⟩;refine dd (fun c0=>?_) fun c0=>?_
 ·refine⟨by omega,rfl,by omega,fun e14 h14=>?_⟩;refine⟨aAJ _,⟨by omega,by omega⟩,jJ _ _ _,dm (fun c1=>?_) fun c1=>?_⟩
  ·apply et2<;>((rw[aMh (fP h14 c1)]<;>rfl))
  ·have hb:=dB c1;refine⟨by omega,rfl,by omega,fun e25 h25=>?_⟩;refine ap ?_ (fun _=>rfl) (by simp[ho];omega);refine⟨⟨by omega,by omega⟩,?_⟩;exact⟨k+1,_,rfl,rfl,⟨by omega,by rw[ho,bS h14,aGO,aGN,List.map_nil,aJb h25],cI h14 ha c1⟩,by omega⟩
 ·apply et2<;>(first|(rw[aBa (cK (by omega) ha),ho,aCy (by omega)]<;>rfl)|(rw[aBa (cK (by omega) ha)]<;>rfl))
abbrev oD (r:List Int)(cols:List Int):AV × List (Nat × Rs):=(.tup [.own 0,vB ((gB r cols).2)],[(0,.arr 3 1 true ((gB r cols).1.map intD))])
abbrev rC (r:List Int)(cols:List Int):Prop:=Cn 168 [.one (.sl 3 1 (r.map intD)),.one (.sl 3 1 (cols.map intD))] (oD r cols).1 (oD r cols).2
theorem aBb (r cols:List Int)(hl:cols.length<=1048576):rC r cols:=by
 refine cq Tryz.func168 (.loop (Nat × (List Int)) (Q2 Nat (List Int)) (rg 6 18++rg 25 10) [800,3300,3400] (fun yy0=>[(7,vI (yy0.1:Int)),(6,.own 800)]) (fun yy0=>[(800,some (.arr 3 1 true (yy0.2.map intD)))]) (fun yy0=>yy0.1<=cols.length/\yy0.2=(cols.take yy0.1).map (xO r)/\(cols.take yy0.1).all (fun c=>dV c 0 ((r.length:Int) - 1))=true) (fun yy0=>cols.length - yy0.1) (fun yy0=> .len cols.length<| .br (.elem _ intD cols (fun e17=> .len r.length<| .call (vB (dV e17 (0:Int) ((r.length:Int) - 1))) []<| .br (.fin [(0,2400)]) (.elem _ intD cols (fun e29=> .elem _ intD r (fun e31=> .app Int intD yy0.2 ([e31]:List Int)<| .back [(800,3400)]))))) (.fin [(0,800)]))) (p:=Lx (r.map intD)<| Lx (cols.map intD)<| (∃(k:Nat) (out:List Int),0=(k:Int)/\[]=out.map intD/\k<=cols.length/\out=(cols.take k).map (xO r)/\(cols.take k).all (fun c=>dV c 0 ((r.length:Int) - 1))=true)/\ ∀(k:Nat) (out:List Int),(k<=cols.length/\out=(cols.take k).map (xO r)/\(cols.take k).all (fun c=>dV c 0 ((r.length:Int) - 1))=true)->Lm intD cols/\Br ((k:Int)<(cols.length:Int)) (0<=(k:Int)/\Em intD cols k fun e17=>Lm intD r/\bW ((r.length:Int) - 1)/\dZ e17 (0:Int) ((r.length:Int) - 1)/\Nr (dV e17 (0:Int) ((r.length:Int) - 1)) ((false)=((gB r cols).2)/\[]=(gB r cols).1.map intD/\True) (0<=(k:Int)/\Em intD cols k fun e29=>0<=e29/\Em intD r ((e29).toNat) fun e31=>Ap intD out ([e31]:List Int) 8 (bW ((k:Int)+1)/\ ∃(k' :Nat) (out' :List Int),((k:Int)+1)=(k' :Int)/\(out++[e31]).map intD=out'.map intD/\(k' <=cols.length/\out' =(cols.take k').map (xO r)/\(cols.take k').all (fun c=>dV c 0 ((r.length:Int) - 1))=true)/\cols.length - k' <cols.length - k))) ((true)=((gB r cols).2)/\out.map intD=(gB r cols).1.map intD/\True)) (by kernel_rfl) ?_;refine lx fun n0=>lx fun n1=>?_;refine⟨⟨0,([]:List Int),rfl,rfl,aAU _,rfl,rfl⟩,fun k out ⟨hk,ho,ha⟩=>?_⟩;refine⟨aAJ _,dd (fun c0=>?_) fun c0=>?_⟩
 ·refine⟨by omega,rfl,by omega,fun e17 h17=>?_⟩;refine⟨aAJ _,⟨by omega,by omega⟩,gX _ _ _,dm (fun c1=>?_) fun c1=>?_⟩
  ·apply et2<;>((rw[aMh (fP h17 c1)]<;>rfl))
  ·have hb:=dB c1;refine⟨by omega,rfl,by omega,fun e29 h29=>?_⟩;obtain rfl:=(bF h17 h29).symm;refine⟨by omega,rfl,by omega,fun e31 h31=>?_⟩;refine ap ?_ (fun _=>rfl) (by simp[ho];omega);refine⟨⟨by omega,by omega⟩,?_⟩;exact⟨k+1,_,rfl,rfl,⟨by omega,by rw[ho,bS h17,aGO,aGN,List.map_nil,aJb h31],cI h17 ha c1⟩,by omega⟩
 ·apply et2<;>(first|(rw[aBa (cK (by omega) ha),ho,aCy (by omega)]<;>rfl)|(rw[aBa (cK (by omega) ha)]<;>rfl))
abbrev xP (cols:List Int)(a:Int):Prop:=Cn 163 [.one (.sl 3 1 (cols.map intD)),.one (.int .i64 a)] (vB (dI (a - 1) cols)) []
theorem aHM (cols:List Int)(a:Int)(ha:1<=a/\a<=3):xP cols a:=by
 refine cq Tryz.func163 (.len cols.length<| .loop Nat (Q1 Nat) ([5,6]++rg 9 24) [] (fun k=>[(9,vI (k:Int))]) (fun k=>[]) (fun k=>k<=cols.length/\(List.range k).all (iX (a - 1) cols)=true) (fun k=>cols.length - k) (fun k=> .br (.elem _ intD cols (fun e12=> .call (vB (dV e12 (0:Int) (a - 1))) []<| .br (.fin []) (.lit<| .lit<| .br (.elem _ intD cols (fun e26=> .lit<| .lit<| .lit<| .lit<| .lit<| .lit<| .br (.fin []) (.back []))) (.back [])))) (.fin []))) (p:=Lx (cols.map intD)<| Lm intD cols/\((∃(k:Nat),0=(k:Int)/\k<=cols.length/\(List.range k).all (iX (a - 1) cols)=true)/\ ∀(k:Nat),(k<=cols.length/\(List.range k).all (iX (a - 1) cols)=true)->Br ((k:Int)<(cols.length:Int)) (0<=(k:Int)/\Em intD cols k fun e12=>bW (a - 1)/\eW e12 (0:Int) (a - 1)/\Nr (dV e12 (0:Int) (a - 1)) ((false)=(dI (a - 1) cols)/\True) (Br (0<(k:Int)) (bW ((k:Int) - 1)/\0<=((k:Int) - 1)/\Em intD cols (((k:Int) - 1).toNat) fun e26=>Br (e12<=e26) ((false)=(dI (a - 1) cols)/\True) (bW ((k:Int)+1)/\ ∃(k' :Nat),((k:Int)+1)=(k' :Int)/\(k' <=cols.length/\(List.range k').all (iX (a - 1) cols)=true)/\cols.length - k' <cols.length - k)) (bW ((k:Int)+1)/\ ∃(k' :Nat),((k:Int)+1)=(k' :Int)/\(k' <=cols.length/\(List.range k').all (iX (a - 1) cols)=true)/\cols.length - k' <cols.length - k))) ((true)=(dI (a - 1) cols)/\True))) (by kernel_rfl) ?_;refine lx fun n0=>?_;refine⟨aAJ _,⟨0,rfl,aAU _,rfl⟩,fun k ⟨hk,hv⟩=>?_⟩;refine dd (fun c0=>?_) fun c0=>?_
 ·refine⟨by omega,rfl,by omega,fun e12 h12=>?_⟩;refine⟨⟨by omega,by omega⟩,jJ _ _ _,dm (fun g19=>?_) fun g19=>?_⟩
  ·have hp:iX (a - 1) cols k=false:=by rw[iX,aT h12,g19];rfl
   apply et1
   ·(rw[dI,gP (by omega) hp];done)
  ·refine dd (fun g22=>?_) fun g22=>?_
   ·refine⟨⟨by omega,by omega⟩,by omega,rfl,by omega,fun e26 h26=>?_⟩;have i26:cols[k - 1]? =some e26:=by rw[<-h26];congr 1;omega
    refine dd (fun c1=>?_) fun c1=>?_
    ·have hp:iX (a - 1) cols k=false:=by rw[iX,aT h12,aT i26,show decide (e26<e12)=false by simp;omega,show decide (k=0)=false by simp;omega];simp
     apply et1
     ·(rw[dI,gP (by omega) hp];done)
    ·have hp:iX (a - 1) cols k=true:=by rw[iX,aT h12,g19,aT i26,show decide (e26<e12)=true by simp;omega];simp
     refine⟨⟨by omega,by omega⟩,?_⟩;exact⟨k+1,rfl,⟨by omega,jE hv hp⟩,by omega⟩
   ·have hp:iX (a - 1) cols k=true:=by rw[iX,aT h12,g19,show decide (k=0)=true by simp;omega];rfl
    refine⟨⟨by omega,by omega⟩,?_⟩;exact⟨k+1,rfl,⟨by omega,jE hv hp⟩,by omega⟩
 ·apply et1
  ·(rw[dI,show cols.length=k by omega,hv];done)
theorem bP {t:aP}(h:aR t=true):1<=t.arity/\t.arity<=3/\t.rows.length<=8:=by
 simp only[aR,aAS,aLF] at h;have:=dB h.2.2.1;omega
theorem aEy {t:aP}(h:aR t=true):IntKind.i64.wrap (t.arity - 1)=t.arity - 1:=by
 have:=bP h;exact IntWalk.i64_in _ ⟨by omega,by omega⟩
theorem aQF {t:aP}{cols:List Int}(h:dI (IntKind.i64.wrap (t.arity - 1)) cols=false):(aR t&&dI (t.arity - 1) cols)=false:=by
 cases e:aR t with
 | false=>rfl
 | true=>rw[aEy e] at h;rw[h];rfl
theorem aSn {t:aP}{cols:List Int}(h:dI (IntKind.i64.wrap (t.arity - 1)) cols=true):(aR t&&dI (t.arity - 1) cols)=aR t:=by
 cases e:aR t with
 | false=>rfl
 | true=>rw[aEy e] at h;rw[h];rfl
abbrev xQ (t:aP)(cols:List Int):Prop:=Cn 167 [.agg [.str t.name,.int .i64 t.arity,.sl 34 1 (t.rows.map aD)],.one (.sl 3 1 (cols.map intD))] (vB (aR t&&dI (t.arity - 1) cols)) []
theorem aHN (t:aP)(cols:List Int):xQ t cols:=by
 refine cq Tryz.func167 (.loop Nat (Q1 Nat) (rg 5 32) [] (fun k=>[(5,vI (k:Int))]) (fun k=>[]) (fun k=>k<=cols.length/\(List.range k).all (iX (IntKind.i64.wrap (t.arity - 1)) cols)=true) (fun k=>cols.length - k) (fun k=> .len cols.length<| .br (.elem _ intD cols (fun e14=> .raw<| .call (vB (dV e14 (0:Int) (IntKind.i64.wrap (t.arity - 1)))) []<| .br (.fin []) (.lit<| .lit<| .br (.elem _ intD cols (fun e28=> .elem _ intD cols (fun e32=> .lit<| .lit<| .lit<| .lit<| .lit<| .br (.fin []) (.back [])))) (.back [])))) (.call (vB (aR t)) []<| .fin []))) (p:=Lx (t.rows.map aD)<| Lx (cols.map intD)<| (∃(k:Nat),0=(k:Int)/\k<=cols.length/\(List.range k).all (iX (IntKind.i64.wrap (t.arity - 1)) cols)=true)/\ ∀(k:Nat),(k<=cols.length/\(List.range k).all (iX (IntKind.i64.wrap (t.arity - 1)) cols)=true)->Lm intD cols/\Br ((k:Int)<(cols.length:Int)) (0<=(k:Int)/\Em intD cols k fun e14=>dZ e14 (0:Int) (IntKind.i64.wrap (t.arity - 1))/\Nr (dV e14 (0:Int) (IntKind.i64.wrap (t.arity - 1))) ((false)=(aR t&&dI (t.arity - 1) cols)/\True) (Br (0<(k:Int)) (bW ((k:Int) - 1)/\0<=((k:Int) - 1)/\Em intD cols (((k:Int) - 1).toNat) fun e28=>0<=(k:Int)/\Em intD cols k fun e32=>Br (e32<=e28) ((false)=(aR t&&dI (t.arity - 1) cols)/\True) (bW ((k:Int)+1)/\ ∃(k' :Nat),((k:Int)+1)=(k' :Int)/\(k' <=cols.length/\(List.range k').all (iX (IntKind.i64.wrap (t.arity - 1)) cols)=true)/\cols.length - k' <cols.length - k)) (bW ((k:Int)+1)/\ ∃(k' :Nat),((k:Int)+1)=(k' :Int)/\(k' <=cols.length/\(List.range k').all (iX (IntKind.i64.wrap (t.arity - 1)) cols)=true)/\cols.length - k' <cols.length - k))) (oC t/\(aR t)=(aR t&&dI (t.arity - 1) cols)/\True)) (by kernel_rfl) ?_;refine lx fun n0=>lx fun n1=>?_;refine⟨⟨0,rfl,aAU _,rfl⟩,fun k ⟨hk,hv⟩=>?_⟩;refine⟨aAJ _,dd (fun c0=>?_) fun c0=>?_⟩
 ·refine⟨by omega,rfl,by omega,fun e14 h14=>?_⟩;refine⟨gX _ _ _,dm (fun g21=>?_) fun g21=>?_⟩
  ·have hp:iX (IntKind.i64.wrap (t.arity - 1)) cols k=false:=by rw[iX,aT h14,g21];rfl
   apply et1
   ·(rw[aQF (by rw[dI,gP (by omega) hp])];done)
  ·refine dd (fun g24=>?_) fun g24=>?_
   ·refine⟨⟨by omega,by omega⟩,by omega,rfl,by omega,fun e28 h28=>?_⟩;have i28:cols[k - 1]? =some e28:=by rw[<-h28];congr 1;omega
    refine⟨by omega,rfl,by omega,fun e32 h32=>?_⟩;obtain rfl:=(bF h14 h32).symm;refine dd (fun c1=>?_) fun c1=>?_
    ·have hp:iX (IntKind.i64.wrap (t.arity - 1)) cols k=false:=by rw[iX,aT h14,aT i28,show decide (e28<e14)=false by simp;omega,show decide (k=0)=false by simp;omega];simp
     apply et1
     ·(rw[aQF (by rw[dI,gP (by omega) hp])];done)
    ·have hp:iX (IntKind.i64.wrap (t.arity - 1)) cols k=true:=by rw[iX,aT h14,g21,aT i28,show decide (e28<e14)=true by simp;omega];simp
     refine⟨⟨by omega,by omega⟩,?_⟩;exact⟨k+1,rfl,⟨by omega,jE hv hp⟩,by omega⟩
   ·have hp:iX (IntKind.i64.wrap (t.arity - 1)) cols k=true:=by rw[iX,aT h14,g21,show decide (k=0)=true by simp;omega];rfl
    refine⟨⟨by omega,by omega⟩,?_⟩;exact⟨k+1,rfl,⟨by omega,jE hv hp⟩,by omega⟩
 ·refine⟨xN t,?_,trivial⟩
  ·(rw[aSn (by rw[dI,show cols.length=k by omega,hv])];done)
abbrev aHO (l:List Int):AV × List (Nat × Rs):=(.own 0,[(0,.arr 3 1 true (l.map intD))])
abbrev aJc (l:List Int):Prop:=Cn 114 [.one (.sl 3 1 (l.map intD))] (aHO l).1 (aHO l).2
theorem cpI (l:List Int)(hl:l.length<=1048576):aJc l:=by
 refine cq Tryz.func114 (.app Int intD ([]:List Int) l<| .fin [(0,500)]) (p:=Lx (l.map intD)<| Ap intD ([]:List Int) l 8 ((([]:List Int)++l).map intD=l.map intD/\True)) (by kernel_rfl) ?_;refine lx fun n0=>?_;refine ap ?_ (fun _=>rfl) (by simp;omega);apply et1
 ·simp
abbrev aHP (l:List (List Int)):AV × List (Nat × Rs):=(.own 0,[(0,.arr 34 1 true (l.map aD))])
abbrev aJd (l:List (List Int)):Prop:=Cn 182 [.one (.sl 34 1 (l.map aD))] (aHP l).1 (aHP l).2
theorem cpR (l:List (List Int))(hc:cV l<=1048576):aJd l:=by
 refine cq Tryz.func182 (.len l.length<| .loop (Nat × (List (List Int))) (Q2 Nat (List (List Int))) ([3,5,6]++rg 9 10) [600,1500,1600,1700] (fun yy0=>[(3,.own 600),(9,vI (yy0.1:Int))]) (fun yy0=>[(600,some (.arr 34 1 true (yy0.2.map aD)))]) (fun yy0=>yy0.1<=l.length/\yy0.2=l.take yy0.1) (fun yy0=>l.length - yy0.1) (fun yy0=> .br (.elem _ aD l (fun e11=>cH (aHO e11)<| .appx (List Int) aD yy0.2 e11<| .back [(600,1700)])) (.fin [(0,600)]))) (p:=Lx (l.map aD)<| Lm aD l/\((∃(k:Nat) (out:List (List Int)),0=(k:Int)/\[]=out.map aD/\k<=l.length/\out=l.take k)/\ ∀(k:Nat) (out:List (List Int)),(k<=l.length/\out=l.take k)->Br ((k:Int)<(l.length:Int)) (0<=(k:Int)/\Em aD l k fun e11=>aJc e11/\out.map aD=out.map aD/\e11.map intD=e11.map intD/\(out.length+1)*24<=140737488355328/\bW ((k:Int)+1)/\ ∃(k' :Nat) (out' :List (List Int)),((k:Int)+1)=(k' :Int)/\(out++[e11]).map aD=out'.map aD/\(k' <=l.length/\out' =l.take k')/\l.length - k' <l.length - k) (out.map aD=l.map aD/\True))) (by kernel_rfl) ?_;refine lx fun n0=>?_;have hlen:=iG l;refine⟨aAJ _,⟨0,([]:List (List Int)),rfl,rfl,aAU _,rfl⟩,fun k out ⟨hk,ho⟩=>?_⟩;refine dd (fun c0=>?_) fun c0=>?_
 ·refine⟨by omega,rfl,by omega,fun e11 h11=>?_⟩;have h5:e11.length<=1048576:=by have:=aNs h11;have:gT e11=e11.length:=rfl;omega
  refine⟨cpI _ (by omega),rfl,rfl,by simp[ho];have:=iG l;omega,⟨by omega,by omega⟩,?_⟩;exact⟨k+1,out++[e11],rfl,rfl,⟨by omega,by rw[ho,bS h11]⟩,by omega⟩
 ·apply et1
  ·rw[ho,aCy (by omega)]
end Go.Proofs.YtafmaholhcgakaaGreat
namespace Go.Proofs.YtafmaholhcgakaaGreat
open Go.ChangeShapes Go.WideShapes Go.ChangeAt Go.RowKit
set_option linter.unusedVariables false
set_option linter.unusedSimpArgs false
theorem aSo (x:Int)(w:World):Calls Tryz.prog 230 #[.int .i64 x] w fun e w' =>e= .returned (.bool false)/\w' =w:=by
 go_enter Tryz.func230,Tryz.ntmps230
 go_wp2
 go_ret
 exact⟨by simp,rfl⟩
theorem aJe (x y:Int)(w:World):Calls Tryz.prog 215 #[.int .i64 x,.int .i64 y] w fun e w' =>e= .returned (.int .i64 (sU x y))/\w' =w:=by
 go_enter Tryz.func215,Tryz.ntmps215
 go_wp2_with (go_at_call 230;refine(aSo _ _).mono ?_;rintro e w' ⟨rfl,hw⟩;rw[hw])
 all_goals (go_ret;refine⟨?_,rfl⟩;unfold sU;(repeat' split)<;>first|rfl|(exfalso;omega))
def aAb (w:World)(a:Option Addr)(l:List Int):Prop:= ∀j x,l[j]? =some x-> ∃b o,a=some ⟨b,o,none⟩/\w.cell? ⟨b,o+j,none⟩=some (.int .i64 x)
set_option maxHeartbeats 1000000 in
theorem aJf (a1 a2:Option Addr)(c1 c2:Nat)(l m:List Int)(w:World)(hl:l.length<=9223372036854775807)(hm:m.length<=9223372036854775807)(h1:aAb w a1 l)(h2:aAb w a2 m):
 Calls Tryz.prog 201 #[.slice a1 l.length c1,.slice a2 m.length c2] w fun e w' =>e= .returned (.int .i64 (bT l m))/\w' =w:=by
 have H1:=Lib.hid h1;have H2:=Lib.hid h2
 clear h1 h2
 go_enter Tryz.func201,Tryz.ntmps201
 go_wp2
 go_loop [5,6,7,8,11] (fun _ _ _ _ s=> ∃k:Nat,s= .int .i64 k/\k<=l.length/\k<=m.length/\bT (l.drop k) (m.drop k)=bT l m) (fun _ _ _ _ s=>l.length - (intOf s).toNat)
 case atStart=>exact⟨0,rfl,aAU _,aAU _,rfl⟩
 case round=>
  obtain⟨k,rfl,hk,hk2,hv⟩:=hrel;have HV:=Lib.hid hv
  clear hv
  by_cases hlt:k<l.length
  ·obtain⟨x,hx⟩:=cP hlt;obtain⟨b1,o1,rfl,g1⟩:=H1.out k x hx;by_cases hlt2:k<m.length
   ·obtain⟨y,hy⟩:=cP hlt2;obtain⟨b2,o2,rfl,g2⟩:=H2.out k y hy;have HD:=Lib.hid (show bT l m=if sU x y=0 then bT (l.drop (k+1)) (m.drop (k+1)) else sU x y by rw[<-HV.out,kL hx,kL hy,aHL]);by_cases hc:sU x y=0
    ·have HC:=Lib.hid hc
     clear hc
     go_wp2_with (go_at_call 215;refine(aJe _ _ _).mono ?_;rintro e w' ⟨rfl,hw⟩;rw[hw,HC.out])
     exact⟨⟨k+1,by simp,by omega,by omega,by rw[HD.out,if_pos HC.out]⟩,by simp[intOf];omega⟩
    have HC:=Lib.hid hc;have hcb:(sU x y !=0)=true:=by simpa using hc
    clear hc
    go_wp2_with (go_at_call 215;refine(aJe _ _ _).mono ?_;rintro e w' ⟨rfl,hw⟩;rw[hw])
    go_ret
    refine⟨?_,rfl⟩;rw[HD.out,if_neg HC.out];rfl
   have hge:m.length<=k:=by omega
   have HE:=Lib.hid (jN (l:=l) (m:=m) (k:=k) ⟨hk,hk2⟩ (.inr hlt2))
   go_wp2
   go_ret
   refine⟨?_,rfl⟩;rw[<-HV.out,HE.out,if_neg (by omega),if_pos (by omega)];rfl
  have HE:=Lib.hid (jN (l:=l) (m:=m) (k:=k) ⟨hk,hk2⟩ (.inl hlt));by_cases hlm:l.length<m.length
  ·go_wp2
   go_ret
   refine⟨?_,rfl⟩;rw[<-HV.out,HE.out,if_pos hlm];rfl
  go_wp2
  go_ret
  refine⟨?_,rfl⟩;rw[<-HV.out,HE.out,if_neg hlm,if_neg (by omega)];rfl
theorem aQG (a1 a2:Option Addr)(c1 c2:Nat)(l m:List Int)(w:World)(hl:l.length<=9223372036854775807)(hm:m.length<=9223372036854775807)(h1:aAb w a1 l)(h2:aAb w a2 m):
 Calls Tryz.prog 186 #[.slice a1 l.length c1,.slice a2 m.length c2] w fun e w' =>e= .returned (.int .i64 (bT l m))/\w' =w:=by
 have HC:=Lib.hid (aJf a1 a2 c1 c2 l m w hl hm h1 h2)
 clear h1 h2
 go_enter Tryz.func186,Tryz.ntmps186
 go_wp2_with (go_at_call 201;refine HC.out.mono ?_;rintro e w' ⟨rfl,hw⟩;rw[hw])
 go_ret
 exact⟨rfl,rfl⟩
end Go.Proofs.YtafmaholhcgakaaGreat
namespace Go.Proofs.YtafmaholhcgakaaGreat
open Go.ChangeShapes Go.WideShapes Go.ChangeAt Go.RowKit
set_option linter.unusedVariables false
set_option linter.unusedSimpArgs false
set_option maxRecDepth 100000
set_option maxHeartbeats 4000000
theorem tI (l:List Int):bT l l=0:=eV.2 rfl
theorem qH: ∀{l m:List Int},bT l m<0↔0<bT m l
 | [],[]=>by simp[bT]
 | [],_::_=>by simp[bT]
 | _::_,[]=>by simp[bT]
 | a::l,b::m=>by
   simp only[bT];by_cases h1:a<b
   ·simp[h1,show ¬b<a by omega]
   by_cases h2:b<a
   ·simp[h1,h2]
   simp only[h1,h2,if_false];exact qH
theorem mJ: ∀{l m n:List Int},bT l m<0->bT m n<0->bT l n<0
 | [],[],n,h1,_=>by simp[bT] at h1
 | [],_::_,[],_,h2=>by simp[bT] at h2
 | [],_::_,_::_,_,_=>by simp[bT]
 | _::_,[],n,h1,_=>by simp[bT] at h1
 | a::l,b::m,[],_,h2=>by simp[bT] at h2
 | a::l,b::m,c::n,h1,h2=>by
   simp only[bT] at*;rcases Int.lt_trichotomy a b with ab | ab | ab
   ·rcases Int.lt_trichotomy b c with bc | bc | bc
    ·rw[if_pos (by omega)];decide
    ·subst bc;rw[if_pos ab];decide
    rw[if_neg (by omega),if_pos bc] at h2;exact absurd h2 (by decide)
   ·subst ab;rcases Int.lt_trichotomy a c with bc | bc | bc
    ·rw[if_pos bc];decide
    ·subst bc;rw[if_neg (by omega),if_neg (by omega)] at*;exact mJ h1 h2
    rw[if_neg (by omega),if_pos bc] at h2;exact absurd h2 (by decide)
   rw[if_neg (by omega),if_pos ab] at h1;exact absurd h1 (by decide)
theorem aDO {l m n:List Int}(h1: ¬bT l m<0)(h2: ¬bT m n<0): ¬bT l n<0:=by
 intro h;by_cases e:bT l m=0
 ·rw[eV.1 e] at h;exact h2 h
 exact h2 (mJ (qH.2 (by omega)) h)
def leR (a b:List Int):Bool:=decide (bT a b<=0)
theorem aDu {a b:List Int}:leR a b=true↔ ¬bT b a<0:=by
 rw[leR,aLF];constructor
 ·intro h q;have:=qH.1 q;omega
 intro h;have: ¬0<bT a b:=fun q=>h (qH.2 q);omega
theorem aIK {a b:List Int}(h1:leR a b=true)(h2:leR b a=true):a=b:=by
 rw[aDu] at h1 h2;have: ¬0<bT a b:=fun q=>h1 (qH.2 q);exact eV.1 (by omega)
def cQ (l:List (List Int)):List (List Int):=l.mergeSort leR
theorem aAc (l:List (List Int)):(cQ l).Perm l:=List.mergeSort_perm l leR
theorem aEz (l:List (List Int)):(cQ l).Pairwise (fun a b=>leR a b=true):=
 List.pairwise_mergeSort (fun a b c h1 h2=>by rw[aDu] at*;exact aDO h2 h1) (fun a b=>by
  by_cases h:bT b a<0
  ·have:leR b a=true:=by rw[leR,aLF];omega
   simp[this]
  have:leR a b=true:=aDu.2 h;simp[this]) l
theorem aQH {l m:List (List Int)}(hp:m.Perm l)(hs:m.Pairwise (fun a b=>leR a b=true)):m=cQ l:=
 List.Perm.eq_of_pairwise (le:=fun a b=>leR a b=true) (fun a b _ _ h1 h2=>aIK h1 h2) hs (aEz l) (hp.trans (aAc l).symm)
theorem aCe (l:List (List Int)):(cQ l).length=l.length:=(aAc l).length_eq
end Go.Proofs.YtafmaholhcgakaaGreat
namespace Go.Proofs.YtafmaholhcgakaaGreat
open Go.ChangeShapes Go.WideShapes Go.ChangeAt Go.RowKit Go.Shelf Go.Lib
set_option linter.unusedVariables false
set_option linter.unusedSimpArgs false
theorem aFA {w:World}{k:Nat}{ι:Type}(f:ι->List bG)(g:ι->List Value)(h:ι->List Nat): ∀{L:List ι},(∀i∈L,(f i).length=k/\cN w (f i) (g i) (h i))->cA w k (L.map f) (L.map g) (L.map h)
 | [],_=>by simp only[List.map_nil];unfold cA;exact⟨rfl,rfl⟩
 | i::L,hL=>by
   simp only[aGN];unfold cA;exact⟨_,_,_,_,rfl,rfl,(hL i (by simp)).1,(hL i (by simp)).2,aFA f g h fun j hj=>hL j (by simp[hj])⟩
theorem zL {w:World}{k:Nat}: ∀{xs:List (List bG)} {css:List (List Value)} {Fs:List (List Nat)},cA w k xs css Fs->css.length=xs.length/\Fs.length=xs.length
 | [],_,_,h=>by unfold cA at h;rw[h.1,h.2];exact⟨rfl,rfl⟩
 | x::xs,_,_,h=>by
   unfold cA at h;obtain⟨c,css',F,Fs',rfl,rfl,_,_,h3⟩:=h;have:=zL h3;simp[this.1,this.2]
theorem xR {w:World}{k:Nat}: ∀{xs:List (List bG)} {css:List (List Value)} {Fs:List (List Nat)} {i:Nat} {x:List bG},cA w k xs css Fs->xs[i]? =some x-> ∃c F,css[i]? =some c/\Fs[i]? =some F/\x.length=k/\cN w x c F
 | [],_,_,_,_,_,hx=>by simp at hx
 | y::xs,_,_,0,x,h,hx=>by
   unfold cA at h;obtain⟨c,css',F,Fs',rfl,rfl,h1,h2,_⟩:=h;simp at hx;subst hx;exact⟨c,F,rfl,rfl,h1,h2⟩
 | y::xs,_,_,i+1,x,h,hx=>by
   unfold cA at h;obtain⟨c,css',F,Fs',rfl,rfl,_,_,h3⟩:=h;simp at hx;simpa using xR h3 hx
theorem pE: ∀(l:List (List Value)) (i:Nat) (v:Value),(∀d∈l,d.length=1)->l[i]? =some [v]->l.flatten[i]? =some v
 | [],i,v,_,h=>by simp at h
 | d::l,0,v,hd,h=>by simp at h;subst h;simp
 | d::l,i+1,v,hd,h=>by
   have h1:=hd d (by simp);rw[aHH,aGZ (by omega),h1];exact pE l i v (fun d' hd' =>hd d' (by simp[hd'])) (by simpa using h)
theorem aFB {ι:Type}(f:ι->Value): ∀L:List ι,(L.map fun i=>[f i]).flatten=L.map f
 | []=>rfl
 | i::L=>by rw[aGN,aHH,aFB f L];rfl
theorem aBc: ∀(l:List (List Value)),(∀d∈l,d.length=1)->l.flatten.length=l.length
 | [],_=>rfl
 | d::l,hd=>by
   rw[aHH,aJP,hd d (by simp),aBc l fun d' hd' =>hd d' (by simp[hd'])];simp;omega
theorem aTe {w:World}{e:Nat}{r:List Int}{c:List Value}{F:List Nat}(h:cN w [.sl e 1 (r.map intD)] c F): ∃a cap,c= [.slice a r.length cap]/\aAb w a r/\(∀x∈a,x.block∈F)/\r.length<=9223372036854775807:=by
 unfold cN at h;obtain⟨v,cs',F1,F2,rfl,rfl,h1,h2⟩:=h;unfold cN at h2;obtain⟨rfl,rfl⟩:=h2;unfold qN at h1;obtain⟨css,Fs,q1,q2,q3⟩:=h1;rcases q1.2 with ⟨rfl,hz⟩ | ⟨g,cap,cur,rfl,_,hb,hn,hcap2,hsz,htk⟩
 ·simp at hz;subst hz;exact⟨none,0,rfl,fun j x hx=>by simp at hx,by simp,by simp⟩
 refine⟨some ⟨g,0,none⟩,cap,by simp,fun j x hx=>⟨g,0,rfl,?_⟩,fun x hx=>?_,by have:cap<=maxLen:=hcap2;unfold maxLen at this;simp at hn;omega⟩
 ·obtain⟨c0,F0,g1,_,_,g4⟩:=xR q3 (show (r.map intD)[j]? =some (intD x) by rw[aOz,hx];rfl);unfold intD cN at g4;obtain⟨v0,cs0,_,_,rfl,_,g5,g6⟩:=g4;unfold cN at g6;obtain⟨rfl,_⟩:=g6;unfold qN at g5;obtain⟨rfl,_⟩:=g5
  have hlen: ∀d∈css,d.length=1:=fun d hd=>by
   obtain⟨i,hi⟩:=List.getElem?_of_mem hd
   have hil:i<(r.map intD).length:=by
    have:=(zL q3).1;have:=(aCx.1 hi).1;omega
   obtain⟨c1,F1,k1,_,k3,k4⟩:=xR q3 (aBJ hil);rw[hi] at k1;injection k1 with k1;subst k1
   rw[List.getElem_map] at k4;unfold intD cN at k4;obtain⟨_,_,_,_,rfl,_,_,k6⟩:=k4;unfold cN at k6;rw[k6.1];rfl
  have hflat:css.flatten[j]? =some (.int .i64 x):=by
   exact pE css j _ hlen g1
  have hj:j<r.length:=(aCx.1 hx).1;simp only[World.cell?,hb,Nat.zero_add,Option.isSome_none,Bool.false_eq_true,if_false];rw[<-Array.getElem?_toList,<-hflat,<-htk,List.getElem?_take_of_lt (by simpa using hj)]
 simp at hx;subst hx;rw[q2];simp[Value.ownBlock]
theorem aHQ {w:World}{enc:Nat->Value}{g n:Nat}{os:Array Obj}{cur:Array Value}{e:TypeId}{fr:Nat × Nat}(d:Array Nat)(hb:w.heap[g]? =some (.cells cur e fr)):
 (sortWorld enc w g 0 n d os).heap[g]? =some (.cells (Go.Sort.putCells enc 0 d cur) e fr):=by
 have hg:g<w.heap.size:=(Array.getElem?_eq_some_iff.1 hb).1;unfold sortWorld;rw[Go.Sort.heap_grow_old _ _ (by simpa using hg)];simp[Go.Sort.putRow,Go.Sort.mapBlock,Go.Sort.ahead,Array.getElem?_modify,hb,Go.Sort.onCells]
theorem rD {w:World}{enc:Nat->Value}{g n k:Nat}{os:Array Obj}(d:Array Nat)(hk:k<w.heap.size)(hne:k≠g):(sortWorld enc w g 0 n d os).heap[k]? =w.heap[k]? :=by
 unfold sortWorld;rw[Go.Sort.heap_grow_old _ _ (by simpa using hk)];simp[Go.Sort.putRow,Go.Sort.mapBlock,Go.Sort.ahead,Array.getElem?_modify,Ne.symm hne]
theorem aJh (enc:Nat->Value)(cur:Array Value)(ts:List Nat)(h:ts.length<=cur.size):(Go.Sort.putCells enc 0 ts.toArray cur).toList.take ts.length=ts.map enc:=by
 apply List.ext_getElem?;intro j;by_cases hj:j<ts.length
 ·rw[List.getElem?_take_of_lt hj,Array.getElem?_toList];simp[Go.Sort.putCells,hj,show j<cur.size by omega]
 rw[List.getElem?_take_eq_none (by omega),List.getElem?_eq_none (by simp;omega)]
theorem zM {w w' :World}{a:Option Addr}{r:List Int}(h:aAb w a r)(hk: ∀x∈a,w'.heap[x.block]? =w.heap[x.block]?):aAb w' a r:=fun j x hx=>by
 obtain⟨b,o,rfl,hc⟩:=h j x hx;refine⟨b,o,rfl,?_⟩;have:=hk ⟨b,o,none⟩ rfl;unfold World.cell? at*;simp only at*;rw[this];exact hc
end Go.Proofs.YtafmaholhcgakaaGreat
namespace Go.Proofs
open Go.Shelf
namespace YtafmaholhcgakaaGreat
def Tryz.sortRows_ren : Go.Shelf.Ren := ⟨fun | 6 => 185 | 15 => 200 | 14 => 199 | 28 => 213 | 29 => 214 | 20 => 205 | 21 => 206 | 22 => 207 | 23 => 208 | 24 => 209 | 25 => 210 | 26 => 211 | 27 => 212 | 46 => 225 | 47 => 226 | 48 => 227 | 49 => 228 | 50 => 229 | 57 => 234 | n => n, fun | 22 => 86 | 24 => 34 | 25 => 82 | 3 => 3 | 39 => 179 | 0 => 0 | 53 => 208 | 55 => 210 | 4 => 4 | 46 => 201 | 45 => 200 | 50 => 205 | 5 => 5 | 9 => 9 | 66 => 218 | 70 => 222 | 76 => 227 | 77 => 228 | n => n, fun | n => n⟩
theorem Tryz.sortRows : Go.Proofs.SlLaysF.n6 Tryz.prog Tryz.sortRows_ren := {
  mixed := by kernel_rfl
  f6 := ⟨Tryz.f185.name, by decide, Tryz.func185.trans (congrArg some (by kernel_rfl))⟩
  f14 := ⟨Tryz.f199.name, by decide, Tryz.func199.trans (congrArg some (by kernel_rfl))⟩
  f15 := Tryz.func200.trans (congrArg some (by kernel_rfl))
  f20 := ⟨Tryz.f205.name, by decide, Tryz.func205.trans (congrArg some (by kernel_rfl))⟩
  f21 := ⟨Tryz.f206.name, by decide, Tryz.func206.trans (congrArg some (by kernel_rfl))⟩
  f22 := ⟨Tryz.f207.name, by decide, Tryz.func207.trans (congrArg some (by kernel_rfl))⟩
  f23 := ⟨Tryz.f208.name, by decide, Tryz.func208.trans (congrArg some (by kernel_rfl))⟩
  f24 := ⟨Tryz.f209.name, by decide, Tryz.func209.trans (congrArg some (by kernel_rfl))⟩
  f25 := ⟨Tryz.f210.name, by decide, Tryz.func210.trans (congrArg some (by kernel_rfl))⟩
  f26 := ⟨Tryz.f211.name, by decide, Tryz.func211.trans (congrArg some (by kernel_rfl))⟩
  f27 := ⟨Tryz.f212.name, by decide, Tryz.func212.trans (congrArg some (by kernel_rfl))⟩
  f28 := Tryz.func213.trans (congrArg some (by kernel_rfl))
  f29 := Tryz.func214.trans (congrArg some (by kernel_rfl))
  f46 := ⟨Tryz.f225.name, by decide, Tryz.func225.trans (congrArg some (by kernel_rfl))⟩
  f47 := Tryz.func226.trans (congrArg some (by kernel_rfl))
  f48 := Tryz.func227.trans (congrArg some (by kernel_rfl))
  f49 := ⟨Tryz.f228.name, by decide, Tryz.func228.trans (congrArg some (by kernel_rfl))⟩
  f50 := ⟨Tryz.f229.name, by decide, Tryz.func229.trans (congrArg some (by kernel_rfl))⟩
  f57 := ⟨Tryz.f234.name, by decide, Tryz.func234.trans (congrArg some (by kernel_rfl))⟩
  t0 := Tryz.underlying0
  a0 := Tryz.isAgg0
  z0 := Tryz.sizeOf0
  v0 := Tryz.zeroValue0
  t3 := Tryz.underlying3
  a3 := Tryz.isAgg3
  z3 := Tryz.sizeOf3
  v3 := Tryz.zeroValue3
  t4 := Tryz.underlying4
  a4 := Tryz.isAgg4
  z4 := Tryz.sizeOf4
  v4 := Tryz.zeroValue4
  t5 := Tryz.underlying5
  a5 := Tryz.isAgg5
  z5 := Tryz.sizeOf5
  v5 := Tryz.zeroValue5
  t9 := Tryz.underlying9
  a9 := Tryz.isAgg9
  z9 := Tryz.sizeOf9
  v9 := Tryz.zeroValue9
  t22 := Tryz.underlying86
  a22 := Tryz.isAgg86
  z22 := Tryz.sizeOf86
  v22 := Tryz.zeroValue86
  a24 := Tryz.isAgg34
  z24 := Tryz.sizeOf34
  t25 := Tryz.underlying82
  a25 := Tryz.isAgg82
  z25 := Tryz.sizeOf82
  v25 := Tryz.zeroValue82
  t39 := Tryz.underlying179
  a39 := Tryz.isAgg179
  z39 := Tryz.sizeOf179
  v39 := Tryz.zeroValue179
  t45 := Tryz.underlying200
  a45 := Tryz.isAgg200
  z45 := Tryz.sizeOf200
  v45 := Tryz.zeroValue200
  t46 := Tryz.underlying201
  a46 := Tryz.isAgg201
  z46 := Tryz.sizeOf201
  v46 := Tryz.zeroValue201
  t50 := Tryz.underlying205
  a50 := Tryz.isAgg205
  z50 := Tryz.sizeOf205
  v50 := Tryz.zeroValue205
  t53 := Tryz.underlying208
  a53 := Tryz.isAgg208
  z53 := Tryz.sizeOf208
  v53 := Tryz.zeroValue208
  t55 := Tryz.underlying210
  a55 := Tryz.isAgg210
  z55 := Tryz.sizeOf210
  v55 := Tryz.zeroValue210
  t66 := Tryz.underlying218
  a66 := Tryz.isAgg218
  z66 := Tryz.sizeOf218
  v66 := Tryz.zeroValue218
  t70 := Tryz.underlying222
  a70 := Tryz.isAgg222
  z70 := Tryz.sizeOf222
  v70 := Tryz.zeroValue222
  t76 := Tryz.underlying227
  a76 := Tryz.isAgg227
  z76 := Tryz.sizeOf227
  v76 := Tryz.zeroValue227
  t77 := Tryz.underlying228
  a77 := Tryz.isAgg228
  z77 := Tryz.sizeOf228
  v77 := Tryz.zeroValue228 }
end YtafmaholhcgakaaGreat
end Go.Proofs
namespace Go.Proofs.YtafmaholhcgakaaGreat
open Go.ChangeShapes Go.WideShapes Go.ChangeAt Go.RowKit Go.Shelf Go.Lib
set_option linter.unusedVariables false
set_option linter.unusedSimpArgs false
set_option maxHeartbeats 2000000 in
theorem aQI (l:List (List Int))(hl:l.length<4611686018427387904):pN Tryz.prog 185 [.own 0,.fn 186 []] [(0,.arr 34 1 true (l.map aD))] (.tup []) [(0,.arr 34 1 true ((cQ l).map aD))]:=by
 refine⟨by kernel_rfl,by simp,fun A φ w vs hI hm=>?_⟩;obtain⟨pl,hp,css,Fs,q1,q2,q3,q4⟩:=hI.dom 0 _ rfl;unfold aM at hm;obtain⟨v,us,e1,m1,hm⟩:=hm;unfold aM at hm;obtain⟨v2,us2,e2,m2,hm⟩:=hm;unfold aM at hm;unfold aC at m1 m2;obtain⟨vs2,ev2,m3⟩:=m2;unfold aM at m3;have hv:=m1 pl hp;have e3:vs2= #[]:=by apply Array.ext';simpa using m3
 have ev:vs= #[pl.val,.func (.func 186) #[] #[]]:=by apply Array.ext';rw[e1,e2,hm,hv,ev2,e3]
 rw[ev];have hnd:=hI.nodup 0 pl hp;have hge:=hI.ge 0 pl hp;have hFe:pl.F=pl.val.ownBlock.toList++Fs.flatten:=by unfold Pl.F;rw[q2,q3]
 have hfoot: ∀b∈pl.F,aHz φ b:=fun b hb=>⟨0,pl,trivial,hp,hb⟩
 have h0: ∀h pl',φ h=some pl' ->h=0:=fun h pl' e' =>by
  cases hr:aY [(0,Rs.arr 34 1 true (l.map aD))] h with
  | none=>rw[hI.non h hr] at e';cases e'
  | some r=>
    simp only[aY] at hr;split at hr
    ·assumption
    cases hr
 obtain⟨lc,lF⟩:=zL q4;rw[aAJ] at lc lF
 have hrow: ∀i,i<l.length-> ∃a cap F,css[i]? =some [.slice a (l.getD i []).length cap]/\Fs[i]? =some F/\aAb w a (l.getD i [])/\(∀x∈a,x.block∈F)/\(l.getD i []).length<=9223372036854775807/\cN w (aD (l.getD i [])) [.slice a (l.getD i []).length cap] F:=fun i hi=>by
  obtain⟨r,hr⟩:=cP hi;have hg:l.getD i []=r:=by simp[aEE,hr]
  obtain⟨c,F,g1,g2,_,g4⟩:=xR q4 (show (l.map aD)[i]? =some (aD r) by rw[aOz,hr];rfl);obtain⟨a,cap,rfl,k1,k2,k3⟩:=aTe g4;rw[hg];exact⟨a,cap,F,g1,g2,k1,k2,k3,g4⟩
 have hone: ∀d∈css,d.length=1:=fun d hd=>by
  obtain⟨i,hi⟩:=List.getElem?_of_mem hd;obtain⟨a,cap,F,g1,_⟩:=hrow i (by have:=(aCx.1 hi).1;omega);rw[hi] at g1;injection g1 with g1
  rw[g1];rfl
 let enc:Nat->Value:=fun i=>css.flatten.getD i (.slice none 0 0)
 have henc: ∀i,∃a cap,enc i= .slice a (l.getD i []).length cap/\aAb w a (l.getD i [])/\(∀x∈a,x.block∈Fs.flatten)/\(l.getD i []).length<=9223372036854775807:=fun i=>by
  by_cases hi:i<l.length
  ·obtain⟨a,cap,F,g1,g2,g3,g4,g5,_⟩:=hrow i hi;refine⟨a,cap,?_,g3,fun x hx=>List.mem_flatten.2 ⟨F,aAx g2,g4 x hx⟩,g5⟩;show css.flatten.getD i _=_;rw[aEE,pE css i _ hone g1];rfl
  have hg:l.getD i []= []:=by rw[aEE,List.getElem?_eq_none (by omega)];rfl
  rw[hg];refine⟨none,0,?_,fun j x hx=>by simp at hx,by simp,by simp⟩;show css.flatten.getD i _=_;rw[aEE,List.getElem?_eq_none (by rw[aBc css hone];omega)];rfl
 have hend: ∀(d' :List Nat) (w' :World),d'.Perm (List.range l.length)->(d'.map fun i=>l.getD i []).Pairwise (fun a b=>leR a b=true)->lP pl.F w w' ->(∀F∈Fs,iO F w w')->w'.ownsRow 0 34 1 pl.val l.length (d'.map enc)->
  ∃v K φ',Ending.returned (.tuple #[])= .returned v/\aNk A φ w [(0,.arr 34 1 true ((cQ l).map aD))] K φ' w' /\aC K φ' w' (.tup []) v:=by
  intro d' w' hperm hsort hon hkeep howns
  have hrange:(List.range l.length).map (fun i=>l.getD i [])=l:=by
   apply List.ext_getElem?;intro i;by_cases hi:i<l.length
   ·simp[hi]
   simp[hi]
  have hl' :d'.map (fun i=>l.getD i [])=cQ l:=aQH (by have:=hperm.map (fun i=>l.getD i []);rwa [hrange] at this) hsort
  have hFr:(List.range l.length).map (fun i=>Fs.getD i [])=Fs:=by
   apply List.ext_getElem?;intro i;by_cases hi:i<l.length
   ·simp[hi,show i<Fs.length by omega]
   simp[hi,show ¬i<Fs.length by omega]
  have hFp:(d'.map fun i=>Fs.getD i []).flatten.Perm Fs.flatten:=by
   have:=(hperm.map (fun i=>Fs.getD i [])).flatten
   rwa [hFr] at this
  let pl' :Pl:=⟨pl.val,pl.top,(d'.map fun i=>Fs.getD i []).flatten⟩
  have hmem: ∀g,g∈pl'.F↔g∈pl.F:=fun g=>by
   simp only[pl',Pl.F,aDy,q3,hFp.mem_iff]
  have hnd' :pl'.F.Nodup:=by
   have:pl'.F.Perm pl.F:=by simp only[pl',Pl.F,q3];exact(List.Perm.refl _).append hFp
   exact this.nodup_iff.2 hnd
  refine⟨_,A,fun h=>if h=0 then some pl' else none,rfl,⟨⟨hon.os,hon.tape,hon.output,hon.size,fun b hb hn=>hon.block b hb (fun hm=>hn (hfoot b hm))⟩,fun _ h=>h,fun b hb=>⟨aKV (hI.lt b hb) hon.size,.inl hb⟩,fun b hb h pl1 e' hm' =>?_,fun h r hr=>?_,fun h hr=>?_,fun h h' pl1 pl2 hne ea eb=>?_,fun h pl1 e' =>?_,fun h pl1 e' g hg=>?_,fun h pl1 pl0 e' e0=>?_⟩,?_⟩
  ·split at e'
   ·injection e' with e';subst e'
    exact hI.out b hb 0 pl hp ((hmem b).1 hm')
   cases e'
  ·simp only[aY] at hr;split at hr
   ·rename_i eh;subst eh;injection hr with hr
    subst hr;refine⟨pl',by simp,d'.map (fun i=>[enc i]),d'.map (fun i=>Fs.getD i []),?_,q2,rfl,?_⟩
    ·have e4:(d'.map fun i=>[enc i]).flatten=d'.map enc:=aFB enc d';rw[e4,aAJ,aCe];exact howns
    rw[<-hl',List.map_map];refine aFA (fun i=>aD (l.getD i [])) (fun i=>[enc i]) (fun i=>Fs.getD i []) fun i hi=>⟨rfl,?_⟩;have hil:i<l.length:=by simpa using hperm.mem_iff.1 hi
    obtain⟨a,cap,F,g1,g2,g3,g4,g5,g6⟩:=hrow i hil
    have ee:enc i= .slice a (l.getD i []).length cap:=by
     show css.flatten.getD i _=_;rw[aEE,pE css i _ hone g1];rfl
    have eF:Fs.getD i []=F:=by simp[aEE,g2]
    rw[ee,eF];exact cN.kept _ _ _ (hkeep F (aAx g2)) g6
   cases hr
  ·simp only[aY] at hr;split at hr
   ·cases hr
   rename_i eh;exact if_neg eh
  ·split at ea
   ·split at eb
    ·rename_i x y;exact absurd (x.trans y.symm) hne
    cases eb
   cases ea
  ·split at e'
   ·injection e' with e';subst e';exact hnd'
   cases e'
  ·split at e'
   ·injection e' with e';subst e'
    have:=(hmem g).1 hg;exact⟨.inr (hfoot g this),aKV (hge g this) hon.size⟩
   cases e'
  ·split at e'
   ·rename_i eh;subst eh;rw[hp] at e0;injection e0 with e0;injection e' with e'
    subst e0;subst e';exact⟨rfl,rfl⟩
   cases e'
  unfold aC;exact⟨#[],rfl,by unfold aM;rfl⟩
 rw[aAJ] at q1;rcases q1.2 with ⟨hvn,hz⟩ | ⟨g,cap,cur,hvv,hg0,hb,hn,hcap,hsz,htk⟩
 ·have hcon:=AnyF.slices_SortFunc_none { Tryz.sortRows with } none 0 (.func (.func 186) #[] #[]) w;change Calls Tryz.prog 185 _ _ _ at hcon;rw[hvn];refine hcon.mono ?_;rintro en w' ⟨rfl,rfl⟩;have hz' :l= []:=aFh hz;subst hz';exact hend [] w' (by simp) (by simp) (lP.refl _ _) (fun F hF g hg=>rfl) (by rw[hvn];exact⟨by simp,.inl ⟨rfl,rfl⟩⟩)
 have hgF:g ∉ Fs.flatten:=fun hm=>by
  rw[hFe,hvv] at hnd;simp only[Value.ownBlock,Option.toList_some,List.cons_append,aOu,List.nodup_cons] at hnd;exact hnd.1 hm
 have hgs:g<w.heap.size:=(Array.getElem?_eq_some_iff.1 hb).1;have hin: ∀b∈Fs.flatten,b<w.heap.size/\b≠g:=fun b hb' =>⟨hge b (by rw[hFe];exact aDa _ hb'),fun e=>hgF (e▸hb')⟩
 have hO:Go.Sort.SWO (ltOf fun x y:Nat=>bT (l.getD x []) (l.getD y [])):=
  { irrefl:=fun x=>by show decide (bT (l.getD x []) (l.getD x [])<0)=false;rw [tI];rfl
    trans:=fun x y z h1 h2=>by unfold ltOf at*;rw[aLF] at*;exact mJ h1 h2
    ntrans:=fun x y z h1 h2=>by unfold ltOf at*;rw[decide_eq_false_iff_not] at*;exact aDO h1 h2 }
 have hcmp:CmpLays1 Tryz.prog 186 #[] enc (fun x y:Nat=>bT (l.getD x []) (l.getD y [])) g 0 (List.range l.length).toArray.size w:=fun m os dk hs x y=>by
  obtain⟨a1,c1,ex,r1,k1,b1⟩:=henc x;obtain⟨a2,c2,ey,r2,k2,b2⟩:=henc y;rw[ex,ey];refine(aQG a1 a2 c1 c2 _ _ _ b1 b2 (zM r1 fun q hq=>rD dk (hin _ (k1 q hq)).1 (hin _ (k1 q hq)).2) (zM r2 fun q hq=>rD dk (hin _ (k2 q hq)).1 (hin _ (k2 q hq)).2)).mono ?_;rintro en w' ⟨rfl,rfl⟩;exact⟨rfl,0,#[],by simp[Go.Sort.grow_empty,World.drewN]⟩
 have htk' :cur.toList.take l.length=css.flatten:=by rw[Nat.mul_one] at htk;exact htk
 have hH:Go.Sort.Holds enc w g 0 (List.range l.length).toArray:=fun j hj=>by
  have hj' :j<l.length:=by simpa using hj
  refine⟨?_,by simp[World.frozen?,hb]⟩;have h1:(cur.toList.take l.length)[j]? =css.flatten[j]? :=by rw[htk']
  rw[List.getElem?_take_of_lt hj'] at h1;simp only[World.cell?,hb,Nat.zero_add,Option.isSome_none,Bool.false_eq_true,if_false];rw[<-Array.getElem?_toList,h1];obtain⟨a,cap',F,g1,_⟩:=hrow j hj';have h2:=pE css j _ hone g1
  have ee:enc j= .slice a (l.getD j []).length cap' :=by
   show css.flatten.getD j _=_;rw[aEE,h2];rfl
  have ej:(List.range l.length).toArray[j]! =j:=by simp[hj']
  rw[h2,ej,ee]
 have hone1:OneCell enc:=fun x=>by
  obtain⟨a,c,ex,_⟩:=henc x;rw[ex];rfl
 have eg: ∀args w,(callFunc 186 args).run Tryz.prog w= .ok (.enter 186 args) w:=enters_of Tryz.func186 (by kernel_rfl) rfl;have hcon:=Any.slices_SortFunc Tryz.sortRows enc hone1 (fun x y:Nat=>bT (l.getD x []) (l.getD y [])) hO 186 #[] g 0 cap (List.range l.length).toArray w eg hcmp hH hgs (by simpa using hl);change Calls Tryz.prog 185 _ _ _ at hcon;have hsz1:((List.range l.length).toArray.size:Nat)=l.length:=by simp
 rw[hsz1] at hcon;rw[hvv];refine hcon.mono ?_;rintro en w' ⟨rfl,d',n,os,hpm,hsd,rfl⟩;obtain⟨p1,_,p3⟩:=hpm;have hds:d'.size=l.length:=by simpa using p1
 have hperm:d'.toList.Perm (List.range l.length):=by
  have e1:(d'.extract 0 l.length).toList=d'.toList:=by rw[<-hds];simp
  have e2:((List.range l.length).toArray.extract 0 l.length).toList=List.range l.length:=by simp
  rw[e1,e2] at p3;exact p3
 have hkb: ∀k,k<w.heap.size->k≠g->(sortWorld enc w g 0 n d' os).heap[k]? =w.heap[k]? :=fun k hk hne=>rD d' hk hne
 have:=hend d'.toList (sortWorld enc w g 0 n d' os) hperm (by
  rw[List.pairwise_map,List.pairwise_iff_getElem];intro i j hi hj hij;have:=hsd i j (aAU _) hij (by simpa [hds] using hj);unfold ltOf at this;rw[decide_eq_false_iff_not] at this;rw[aDu];have ei:d'[i]! =d'.toList[i]:=by simp at hi;simp[hi]
  have ej:d'[j]! =d'.toList[j]:=by simp at hj;simp[hj]
  rw[<-ei,<-ej];exact this)
  ⟨rfl,rfl,rfl,by simp[sortWorld],fun k hk hne=>hkb k hk (fun e=>hne (by rw[hFe,hvv,e];simp[Value.ownBlock]))⟩
  (fun F hF b hb' =>hkb b (hin b (List.mem_flatten.2 ⟨F,hF,hb'⟩)).1 (hin b (List.mem_flatten.2 ⟨F,hF,hb'⟩)).2)
  (by
   rw[hvv];refine⟨by simp[hds],.inr ⟨g,cap,_,rfl,hg0,aHQ d' hb,hn,hcap,by simp[Go.Sort.putCells,hsz],?_⟩⟩;rw[Nat.mul_one];have:=aJh enc cur d'.toList (by rw[aRB,hds];omega);rw[aRB,hds] at this;simpa using this)
 exact this
end Go.Proofs.YtafmaholhcgakaaGreat
namespace Go.Proofs.YtafmaholhcgakaaGreat
open Go.ChangeShapes Go.WideShapes Go.ChangeAt Go.RowKit
set_option linter.unusedVariables false
set_option linter.unusedSimpArgs false
theorem aSp {l m:List Int}{k:Nat}{x y:Int}(hx:l[k]? =some x)(hy:m[k]? =some y)(h:(x==y)=false):decide (l=m)=false:=by
 rw[decide_eq_false_iff_not];rintro rfl;rw[hx] at hy;injection hy with hy
 subst hy;simp at h
set_option maxHeartbeats 1000000 in
theorem aNw (a1 a2:Option Addr)(c1 c2:Nat)(l m:List Int)(w:World)(hl:l.length<=9223372036854775807)(hm:m.length<=9223372036854775807)(h1:aAb w a1 l)(h2:aAb w a2 m):
 Calls Tryz.prog 102 #[.slice a1 l.length c1,.slice a2 m.length c2] w fun e w' =>e= .returned (.bool (decide (l=m)))/\ ∃q,w' =w.drewN q:=by
 have mixed:=aII;have H1:=Lib.hid h1;have H2:=Lib.hid h2
 clear h1 h2
 by_cases hlm:l.length=m.length
 ·have HL:=Lib.hid hlm
  go_enter Tryz.func102,Tryz.ntmps102
  go_wp2
  go_loopg [13] l.length (fun g s wr=> ∃k q:Nat,k<=l.length/\l.length - k<=g/\s= .int .i64 k/\wr=w.drewN q/\Aside (l.take k=m.take k))
  case atStart=>exact⟨0,0,aAU _,by omega,rfl,rfl,rfl⟩
  case round=>
   obtain⟨k,q,hk,hg,rfl,rfl,A⟩:=hrel;by_cases hlt:k<l.length
   ·obtain⟨x,hx⟩:=cP hlt;obtain⟨b1,o1,rfl,g1⟩:=H1.out k x hx;obtain⟨y,hy⟩:=cP (l:=m) (k:=k) (by omega);obtain⟨b2,o2,rfl,g2⟩:=H2.out k y hy;have HX:=Lib.hid hx;have HY:=Lib.hid hy
    clear hx hy
    cases hxy:(x==y) with
    | true=>
      have hne:(x !=y)=false:=by rw[bne,hxy];rfl
      go_wp2_with fail
      go_region_o
      go_wp2
      go_roundg (l.length - (k+1))
      case measure=>omega
      case rel=>exact⟨k+1,q+1,by omega,by omega,by go_num,rfl,(show Aside _ from mQ HX.out (by rw[HY.out,show x=y by simpa using hxy]) A.out)⟩
    | false=>
      have hne:(x !=y)=true:=by rw[bne,hxy];rfl
      go_wp2_with fail
      go_region_o
      go_wp2
      go_ret
      refine⟨?_,q+1,rfl⟩;rw[aSp HX.out HY.out hxy];rfl
   go_wp2
   go_ret
   refine⟨?_,q,rfl⟩;rw[decide_eq_true (mR (by omega) HL.out A.out)];rfl
 have hnm: ¬(l.length:Int)=(m.length:Int):=by omega
 go_enter Tryz.func102,Tryz.ntmps102
 go_wp2
 go_ret
 refine⟨?_,0,rfl⟩;rw[decide_eq_false (aEr hnm)];rfl
theorem aSq (a1 a2:Option Addr)(c1 c2:Nat)(l m:List Int)(w:World)(hl:l.length<=9223372036854775807)(hm:m.length<=9223372036854775807)(h1:aAb w a1 l)(h2:aAb w a2 m):
 Calls Tryz.prog 188 #[.slice a1 l.length c1,.slice a2 m.length c2] w fun e w' =>e= .returned (.bool (decide (l=m)))/\ ∃q,w' =w.drewN q:=by
 have HC:=Lib.hid (aNw a1 a2 c1 c2 l m w hl hm h1 h2)
 clear h1 h2
 go_enter Tryz.func188,Tryz.ntmps188
 go_wp2_with (go_at_call 102;refine HC.out.mono ?_;rintro e w' ⟨rfl,q,hw⟩;rw[hw])
 go_ret
 exact⟨rfl,_,rfl⟩
end Go.Proofs.YtafmaholhcgakaaGreat
