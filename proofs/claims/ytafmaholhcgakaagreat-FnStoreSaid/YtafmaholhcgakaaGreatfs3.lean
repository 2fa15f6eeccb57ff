/-
  Contracts and plain laws, joined: part 4.
-/
import Derived.Test.YtafmaholhcgakaaGreatfs2
import Derived.Laws.Strings
namespace Go.Proofs.YtafmaholhcgakaaGreat
open Go.ChangeShapes Go.WideShapes Go.ChangeAt Go.RowKit
set_option linter.unusedVariables false
set_option linter.unusedSimpArgs false
set_option maxRecDepth 100000
set_option maxHeartbeats 4000000
def tb:Tb:=⟨[(2,(false,1,8,.int .i64 0)),(3,(false,1,8,.int .i64 0)),(4,(false,1,1,.bool false)),(5,(false,1,1,.int .u8 0)),(6,(false,1,1,.int .u8 0)),(7,(true,4,24,.agg #[.int .i64 0,.int .i64 0,.bool false,.int .u8 0])),(8,(true,4,24,.agg #[.int .i64 0,.int .i64 0,.bool false,.int .u8 0])),(9,(false,1,16,.string ByteArray.empty)),(10,(false,1,16,.string ByteArray.empty)),(11,(false,1,16,.string ByteArray.empty)),(12,(false,1,8,.int .u64 0)),(13,(true,2,24,.agg #[.string ByteArray.empty,.int .u64 0])),(14,(true,2,24,.agg #[.string ByteArray.empty,.int .u64 0])),(15,(false,1,8,.pointer none)),(16,(false,1,8,.pointer none)),(17,(false,1,8,.pointer none)),(21,(false,1,4,.int .i32 0)),(22,(false,1,24,.slice none 0 0)),(24,(false,1,24,.slice none 0 0)),(25,(true,1,24,.agg #[.slice none 0 0])),(26,(true,1,24,.agg #[.slice none 0 0])),(27,(false,1,24,.slice none 0 0)),(28,(true,2,32,.agg #[.int .i64 0,.slice none 0 0])),(29,(true,2,32,.agg #[.int .i64 0,.slice none 0 0])),(30,(false,1,24,.slice none 0 0)),(31,(false,1,24,.slice none 0 0)),(32,(true,5,104,.agg #[.slice none 0 0,.int .i64 0,.slice none 0 0,.slice none 0 0,.slice none 0 0])),(33,(true,5,104,.agg #[.slice none 0 0,.int .i64 0,.slice none 0 0,.slice none 0 0,.slice none 0 0])),(34,(false,1,24,.slice none 0 0)),(35,(true,3,48,.agg #[.string ByteArray.empty,.bool false,.slice none 0 0])),(36,(true,3,48,.agg #[.string ByteArray.empty,.bool false,.slice none 0 0])),(44,(false,1,24,.slice none 0 0)),(52,(false,1,24,.slice none 0 0)),(53,(true,2,32,.agg #[.int .i64 0,.slice none 0 0])),(54,(true,2,32,.agg #[.int .i64 0,.slice none 0 0])),(65,(false,1,8,.pointer none)),(76,(true,3,48,.agg #[.string ByteArray.empty,.slice none 0 0,.int .i64 0])),(77,(true,3,48,.agg #[.string ByteArray.empty,.slice none 0 0,.int .i64 0])),(80,(true,4,48,.agg #[.string ByteArray.empty,.int .i64 0,.string ByteArray.empty,.int .i64 0])),(81,(true,4,48,.agg #[.string ByteArray.empty,.int .i64 0,.string ByteArray.empty,.int .i64 0])),(86,(false,1,24,.slice none 0 0)),(87,(true,3,48,.agg #[.string ByteArray.empty,.int .i64 0,.slice none 0 0])),(88,(true,3,48,.agg #[.string ByteArray.empty,.int .i64 0,.slice none 0 0])),(89,(false,1,24,.slice none 0 0)),(90,(true,4,56,.agg #[.string ByteArray.empty,.int .i64 0,.int .i64 0,.slice none 0 0])),(91,(true,4,56,.agg #[.string ByteArray.empty,.int .i64 0,.int .i64 0,.slice none 0 0])),(100,(true,2,48,.agg #[.slice none 0 0,.slice none 0 0])),(101,(true,2,48,.agg #[.slice none 0 0,.slice none 0 0])),(114,(true,3,40,.agg #[.slice none 0 0,.int .i64 0,.int .i64 0])),(115,(true,3,40,.agg #[.slice none 0 0,.int .i64 0,.int .i64 0])),(122,(false,1,24,.slice none 0 0)),(137,(true,3,72,.agg #[.slice none 0 0,.slice none 0 0,.slice none 0 0])),(138,(true,3,72,.agg #[.slice none 0 0,.slice none 0 0,.slice none 0 0])),(145,(true,2,40,.agg #[.string ByteArray.empty,.slice none 0 0])),(146,(true,2,40,.agg #[.string ByteArray.empty,.slice none 0 0])),(175,(false,1,24,.slice none 0 0)),(179,(false,1,8,.int .u64 0)),(200,(false,1,8,.int .i64 0)),(208,(false,1,4,.int .u32 0)),(210,(false,1,8,.int .u64 0)),(218,(false,1,8,.int .u64 0)),(222,(false,1,8,.pointer none)),(227,(false,1,8,.pointer none)),(235,(true,0,0,.agg #[])),(236,(true,0,0,.agg #[])),(238,(false,1,1,.int .u8 0)),(239,(false,1,1,.int .u8 0)),(241,(false,1,8,.pointer none)),(242,(false,1,4,.int .i32 0)),(243,(false,1,4,.int .i32 0))],
 [(22,5),(24,88),(27,91),(30,77),(31,81),(34,3),(44,36),(52,146),(86,34),(89,138),(122,9),(175,4)],
 [(7,[(0,(0,2)),(1,(1,3)),(2,(2,4)),(3,(3,6))]),(8,[(0,(0,2)),(1,(1,3)),(2,(2,4)),(3,(3,6))]),(13,[(0,(0,9)),(1,(1,12))]),(14,[(0,(0,9)),(1,(1,12))]),(25,[(0,(0,24))]),(26,[(0,(0,24))]),(28,[(0,(0,3)),(1,(1,27))]),(29,[(0,(0,3)),(1,(1,27))]),(32,[(0,(0,26)),(1,(1,29)),(2,(3,30)),(3,(4,31))]),(33,[(0,(0,26)),(1,(1,29)),(2,(3,30)),(3,(4,31))]),(35,[(0,(0,9)),(1,(1,4)),(2,(2,34))]),(36,[(0,(0,9)),(1,(1,4)),(2,(2,34))]),(53,[(0,(0,3)),(1,(1,52))]),(54,[(0,(0,3)),(1,(1,52))]),(76,[(0,(0,9)),(1,(1,34)),(2,(2,3))]),(77,[(0,(0,9)),(1,(1,34)),(2,(2,3))]),(80,[(0,(0,9)),(1,(1,3)),(2,(2,9)),(3,(3,3))]),(81,[(0,(0,9)),(1,(1,3)),(2,(2,9)),(3,(3,3))]),(87,[(0,(0,9)),(1,(1,3)),(2,(2,86))]),(88,[(0,(0,9)),(1,(1,3)),(2,(2,86))]),(90,[(0,(0,9)),(1,(1,3)),(2,(2,3)),(3,(3,89))]),(91,[(0,(0,9)),(1,(1,3)),(2,(2,3)),(3,(3,89))]),(100,[(0,(0,34)),(1,(1,86))]),(101,[(0,(0,34)),(1,(1,86))]),(114,[(0,(0,22)),(1,(1,3)),(2,(2,3))]),(115,[(0,(0,22)),(1,(1,3)),(2,(2,3))]),(137,[(0,(0,34)),(1,(1,86)),(2,(2,34))]),(138,[(0,(0,34)),(1,(1,86)),(2,(2,34))]),(145,[(0,(0,9)),(1,(1,34))]),(146,[(0,(0,9)),(1,(1,34))]),(235,[]),(236,[])],
 [(7,(.agg #[.int .i64 0,.int .i64 0,.bool false,.int .u8 0],[(0,1),(1,1),(2,1),(3,1)])),(8,(.agg #[.int .i64 0,.int .i64 0,.bool false,.int .u8 0],[(0,1),(1,1),(2,1),(3,1)])),(13,(.agg #[.string ByteArray.empty,.int .u64 0],[(0,1),(1,1)])),(14,(.agg #[.string ByteArray.empty,.int .u64 0],[(0,1),(1,1)])),(25,(.agg #[.slice none 0 0],[(0,1)])),(26,(.agg #[.slice none 0 0],[(0,1)])),(28,(.agg #[.int .i64 0,.slice none 0 0],[(0,1),(1,1)])),(29,(.agg #[.int .i64 0,.slice none 0 0],[(0,1),(1,1)])),(32,(.agg #[.slice none 0 0,.int .i64 0,.slice none 0 0,.slice none 0 0,.slice none 0 0],[(0,1),(1,2),(3,1),(4,1)])),(33,(.agg #[.slice none 0 0,.int .i64 0,.slice none 0 0,.slice none 0 0,.slice none 0 0],[(0,1),(1,2),(3,1),(4,1)])),(35,(.agg #[.string ByteArray.empty,.bool false,.slice none 0 0],[(0,1),(1,1),(2,1)])),(36,(.agg #[.string ByteArray.empty,.bool false,.slice none 0 0],[(0,1),(1,1),(2,1)])),(53,(.agg #[.int .i64 0,.slice none 0 0],[(0,1),(1,1)])),(54,(.agg #[.int .i64 0,.slice none 0 0],[(0,1),(1,1)])),(76,(.agg #[.string ByteArray.empty,.slice none 0 0,.int .i64 0],[(0,1),(1,1),(2,1)])),(77,(.agg #[.string ByteArray.empty,.slice none 0 0,.int .i64 0],[(0,1),(1,1),(2,1)])),(80,(.agg #[.string ByteArray.empty,.int .i64 0,.string ByteArray.empty,.int .i64 0],[(0,1),(1,1),(2,1),(3,1)])),(81,(.agg #[.string ByteArray.empty,.int .i64 0,.string ByteArray.empty,.int .i64 0],[(0,1),(1,1),(2,1),(3,1)])),(87,(.agg #[.string ByteArray.empty,.int .i64 0,.slice none 0 0],[(0,1),(1,1),(2,1)])),(88,(.agg #[.string ByteArray.empty,.int .i64 0,.slice none 0 0],[(0,1),(1,1),(2,1)])),(90,(.agg #[.string ByteArray.empty,.int .i64 0,.int .i64 0,.slice none 0 0],[(0,1),(1,1),(2,1),(3,1)])),(91,(.agg #[.string ByteArray.empty,.int .i64 0,.int .i64 0,.slice none 0 0],[(0,1),(1,1),(2,1),(3,1)])),(100,(.agg #[.slice none 0 0,.slice none 0 0],[(0,1),(1,1)])),(101,(.agg #[.slice none 0 0,.slice none 0 0],[(0,1),(1,1)])),(114,(.agg #[.slice none 0 0,.int .i64 0,.int .i64 0],[(0,1),(1,1),(2,1)])),(115,(.agg #[.slice none 0 0,.int .i64 0,.int .i64 0],[(0,1),(1,1),(2,1)])),(137,(.agg #[.slice none 0 0,.slice none 0 0,.slice none 0 0],[(0,1),(1,1),(2,1)])),(138,(.agg #[.slice none 0 0,.slice none 0 0,.slice none 0 0],[(0,1),(1,1),(2,1)])),(145,(.agg #[.string ByteArray.empty,.slice none 0 0],[(0,1),(1,1)])),(146,(.agg #[.string ByteArray.empty,.slice none 0 0],[(0,1),(1,1)])),(235,(.agg #[],[(0,0)])),(236,(.agg #[],[(0,0)]))],
 [(4,())],
 [(9,()),(10,()),(11,())],
 [(2,.i64),(3,.i64),(5,.u8),(6,.u8),(12,.u64),(21,.i32),(179,.u64),(200,.i64),(208,.u32),(210,.u64),(218,.u64),(238,.u8),(239,.u8),(242,.i32),(243,.i32)],
 [(81,[2,0,2,0])]⟩
theorem fc {α:Type}{p:Nat->α->Prop}{k:Nat}{v:α}{l:List (Nat × α)}(h:p k v)(t:lX p l):lX p ((k,v)::l):=⟨h,t⟩
theorem aFF:Tryz.prog.follows .mixedOrders=true:=by kernel_rfl
set_option maxRecDepth 100000 in
theorem aP8:iW Tryz.prog tb:=
 by
 refine⟨?_,?_,?_,?_,?_,?_,?_,?_⟩<;>repeat' (first|refine fc ?_ ?_|exact trivial|kernel_rfl)
end Go.Proofs.YtafmaholhcgakaaGreat
namespace Go.Proofs.YtafmaholhcgakaaGreat
open Go.ChangeShapes Go.WideShapes Go.ChangeAt Go.RowKit
set_option linter.unusedVariables false
set_option linter.unusedSimpArgs false
set_option maxRecDepth 100000
set_option maxHeartbeats 4000000
abbrev bC (p:AV × List (Nat × Rs))(t:T):T:= .call p.1 p.2 t
abbrev aX (p:List AV × List (Nat × Rs) × AV × List (Nat × Rs))(r:List (Nat × Nat))(t:T):T:= .callxs p.1 p.2.1 r p.2.2.1 p.2.2.2 t
abbrev rg (a n:Nat):List Nat:=List.range' a n
abbrev Br (p:Prop)[Decidable p](X Y:Prop):Prop:=(decide p=true->X)/\(decide p=false->Y)
abbrev Nb (p:Prop)[Decidable p](X Y:Prop):Prop:=((!decide p)=true->X)/\((!decide p)=false->Y)
abbrev Bb (b:Bool)(X Y:Prop):Prop:=(b=true->X)/\(b=false->Y)
abbrev Nr (b:Bool)(X Y:Prop):Prop:=((!b)=true->X)/\((!b)=false->Y)
theorem dd {p:Prop}[Decidable p]{X Y:Prop}(hx:p->X)(hy: ¬p->Y):Br p X Y:=⟨fun h=>hx (of_decide_eq_true h),fun h=>hy (of_decide_eq_false h)⟩
theorem dn {p:Prop}[Decidable p]{X Y:Prop}(hx: ¬p->X)(hy:p->Y):Nb p X Y:=⟨fun h=>hx (of_decide_eq_false (nt h)),fun h=>hy (of_decide_eq_true (nf h))⟩
theorem db {b:Bool}{X Y:Prop}(hx:b=true->X)(hy:b=false->Y):Bb b X Y:=⟨hx,hy⟩
theorem dm {b:Bool}{X Y:Prop}(hx:b=false->X)(hy:b=true->Y):Nr b X Y:=⟨fun h=>hx (nt h),fun h=>hy (nf h)⟩
abbrev Lx {α:Type}(l:List α)(A:Prop):Prop:=l.length<=9223372036854775807->A
theorem lx {α β:Type}{f:α->β}{l:List α}{A:Prop}(h:l.length<=9223372036854775807->A):Lx (l.map f) A:=fun q=>h (by simpa using q)
abbrev Cn (f:FuncId)(args:List Ar)(rv:AV)(rr:List (Nat × Rs)):Prop:=Con Tryz.prog f args rv rr
abbrev Cm (f:FuncId)(args:List AV)(ri:List (Nat × Rs))(rv:AV)(ro:List (Nat × Rs)):Prop:=rA Tryz.prog f args ri rv ro
theorem cq {f:FuncId}{fn:Func}{args:List Ar}{rv:AV}{rr:List (Nat × Rs)}(hf:Tryz.prog.funcs[f]? =some fn)(t:T){p:Prop}(h:(match aDc fn args.length with | true=>aI5 Tryz.prog tb fn args rv rr t | false=>False)=p)(hp:p):Con Tryz.prog f args rv rr:=by
 cases hc:aDc fn args.length with
 | true=>rw[hc] at h;exact aP6 aP8 aFF hf hc t h hp
 | false=>rw[hc] at h;rw[<-h] at hp;exact hp.elim
theorem cqx {f:FuncId}{fn:Func}{args:List AV}{ri:List (Nat × Rs)}{rv:AV}{ro:List (Nat × Rs)}(hf:Tryz.prog.funcs[f]? =some fn)(t:T){p:Prop}(h:(match aDc fn args.length&&ri.all fun q=>Nat.blt q.1 100 with | true=>aI6 Tryz.prog tb fn args ri rv ro t | false=>False)=p)(hp:p):rA Tryz.prog f args ri rv ro:=by
 cases hc:(aDc fn args.length&&ri.all fun q=>Nat.blt q.1 100) with
 | true=>rw[hc] at h;rw[aAO] at hc;exact aPD aP8 aFF hf hc.1 hc.2 t h hp
 | false=>rw[hc] at h;rw[<-h] at hp;exact hp.elim
theorem nq {p:Prop}[Decidable p](h:decide p=false): ¬p:=of_decide_eq_false h
abbrev Em {α:Type}(enc:α->List bB)(l:List α)(i:Nat)(P:α->Prop):Prop:=l.map enc=l.map enc/\i<l.length/\ ∀x,l[i]? =some x->P x
abbrev Lm {α:Type}(enc:α->List bB)(l:List α):Prop:=(l.map enc).length=l.length
abbrev Ap {α:Type}(enc:α->List bB)(l m:List α)(n:Nat)(R:Prop):Prop:=l.map enc=l.map enc/\m.map enc=m.map enc/\(∀x,tP (enc x)=true)/\(l.length+m.length)*n<=140737488355328/\R
theorem ap {α:Type}{enc:α->List bB}{l m:List α}{n:Nat}{R:Prop}(r:R)(hf: ∀x,tP (enc x)=true)(h:(l.length+m.length)*n<=140737488355328):Ap enc l m n R:=⟨rfl,rfl,hf,h,r⟩
def lP (s:ByteArray):List bB:=[.str s]
theorem rdOne {A:Nat->Prop}{w:World}{d:bB}{v:Value}(h:jU A w [d] [v]):fR A w d v:=by
 obtain⟨u,us,e,h1,_⟩:=h;injection e with e1
 subst e1;exact h1
theorem aPE {α:Type}{l:List α}{i:Nat}{x y:α}(h:(l.set i y)[i]? =some x):x=y:=by
 rw[List.getElem?_set_self'] at h;cases hl:l[i]? with
 | none=>simp[hl] at h
 | some z=>simp[hl] at h;exact h.symm
theorem cT {α:Type}{l:List α}{k:Nat}(h:k<l.length): ∃x,l[k]? =some x:=⟨_,aBI h⟩
def aE (l:List Int):List bB:=[.sl 3 1 (l.map intD)]
def fL (l:List Int):Nat:=l.length
def cM (l:List (List Int)):Nat:=kF fL l
theorem eV (l:List (List Int)):l.length<=cM l:=qQ _ l
theorem aJZ {l:List (List Int)}{k:Nat}{y:List Int}(h:l[k]? =some y):fL y<=cM l:=qR _ h
structure aJ where
 name:ByteArray
 arity:Int
 rows:List (List Int)
 deriving DecidableEq
def aB (x:aJ):List bB:=[.str x.name,.int .i64 x.arity,.sl 34 1 (x.rows.map aE)]
def cY (x:aJ):Nat:=ByteArray.size x.name+cM x.rows
def nK:aJ:=⟨ByteArray.empty,(0:Int),[]⟩
def lD (l:List aJ):Nat:=kF cY l
theorem aAr (l:List aJ):l.length<=lD l:=qQ _ l
theorem gT {l:List aJ}{k:Nat}{y:aJ}(h:l[k]? =some y):cY y<=lD l:=qR _ h
structure aI where
 tables:List aJ
 deriving DecidableEq
def aT (x:aI):Nat:=lD x.tables
def aJ0:aI:=⟨[]⟩
structure bG where
 name:ByteArray
 ins:Bool
 row:List Int
 deriving DecidableEq
def eA (x:bG):List bB:=[.str x.name,.bool x.ins,.sl 3 1 (x.row.map intD)]
def jJ (x:bG):Nat:=ByteArray.size x.name+fL x.row
def jZ (l:List bG):Nat:=kF jJ l
theorem aAs {l:List bG}{k:Nat}{y:bG}(h:l[k]? =some y):jJ y<=jZ l:=qR _ h
structure aR where
 columns:List Int
 values:List (List Int)
 counts:List Int
 deriving DecidableEq
def aM (x:aR):List bB:=[.sl 3 1 (x.columns.map intD),.sl 34 1 (x.values.map aE),.sl 3 1 (x.counts.map intD)]
def iF (x:aR):Nat:=fL x.columns+cM x.values+fL x.counts
def jK (l:List aR):Nat:=kF iF l
theorem rC (l:List aR):l.length<=jK l:=qQ _ l
theorem nL {l:List aR}{k:Nat}{y:aR}(h:l[k]? =some y):iF y<=jK l:=qR _ h
structure aQ where
 name:ByteArray
 arity:Int
 rowCount:Int
 groups:List aR
 deriving DecidableEq
def aC (x:aQ):List bB:=[.str x.name,.int .i64 x.arity,.int .i64 x.rowCount,.sl 138 3 (x.groups.map aM)]
def dW (x:aQ):Nat:=ByteArray.size x.name+jK x.groups
def aAt:aQ:=⟨ByteArray.empty,(0:Int),(0:Int),[]⟩
def fA (l:List aQ):Nat:=kF dW l
theorem rD (l:List aQ):l.length<=fA l:=qQ _ l
theorem nM {l:List aQ}{k:Nat}{y:aQ}(h:l[k]? =some y):dW y<=fA l:=qR _ h
structure dI where
 version:Int
 tables:List aQ
 deriving DecidableEq
def cI (x:dI):Nat:=fA x.tables
def xK:dI:=⟨(0:Int),[]⟩
structure aN where
 name:ByteArray
 src:List Int
 dst:Int
 deriving DecidableEq
def aD (x:aN):List bB:=[.str x.name,.sl 3 1 (x.src.map intD),.int .i64 x.dst]
def dM (x:aN):Nat:=ByteArray.size x.name+fL x.src
def bF (l:List aN):Nat:=kF dM l
theorem mC (l:List aN):l.length<=bF l:=qQ _ l
theorem tA {l:List aN}{k:Nat}{y:aN}(h:l[k]? =some y):dM y<=bF l:=qR _ h
structure aO where
 name:ByteArray
 column:Int
 into:ByteArray
 intoColumn:Int
 deriving DecidableEq
def aG (x:aO):List bB:=[.str x.name,.int .i64 x.column,.str x.into,.int .i64 x.intoColumn]
def fW (x:aO):Nat:=ByteArray.size x.name+ByteArray.size x.into
def bV (l:List aO):Nat:=kF fW l
theorem gK (l:List aO):l.length<=bV l:=qQ _ l
structure bE where
 database:aI
 catalogue:dI
 dependencies:List aN
 inclusions:List aO
 deriving DecidableEq
def dE (x:bE):Nat:=aT x.database+cI x.catalogue+bF x.dependencies+bV x.inclusions
def aLK:bE:=⟨aJ0,xK,[],[]⟩
structure Cu where
 i:Nat
 h:Int
def aGR (h:Int):Int:=IntKind.i64.wrap (IntKind.i64.wrap (h*6364136223846793005)+1442695040888963407)
def aNP (h:Int):Int:=lO .and .i64 (lO .xor .i64 (h/2^33) (h/2^45)) 255
def uG (l:List Int):Nat->Int
 | 0=>10101+(l.length:Int)
 | k+1=>lO .and .i64 (IntKind.i64.wrap (IntKind.i64.wrap (IntKind.i64.wrap (uG l k*131)+IntKind.i64.wrap (l.getD k 0))+7)) 1073741823
def iX (l:List Int):Cu:=⟨0,uG l (min l.length 4000)⟩
def aW (l:List Int)(u:Cu):Int × Cu:=if (u.i:Int)<(l.length:Int) then (lO .and .i64 (IntKind.i64.wrap (aNP (aGR u.h)+IntKind.i64.wrap (l.getD u.i 0))) 255,⟨u.i+1,aGR u.h⟩) else (aNP (aGR u.h),⟨u.i,aGR u.h⟩)
theorem aGS (m:Int)(k:Nat)(hk:k<=9223372036854775807):0<=lO .and .i64 m (k:Int)/\lO .and .i64 m (k:Int)<=(k:Int):=by
 have e2:(BitVec.ofInt 64 (k:Int)).toNat=k:=by simp;omega
 have hle:(BitVec.ofInt 64 m).toNat&&&k<=k:=Nat.and_le_right;unfold lO;show 0<=IntKind.i64.wrap ((BitVec.ofInt 64 m&&&BitVec.ofInt 64 (k:Int)).toNat:Nat)/\IntKind.i64.wrap ((BitVec.ofInt 64 m&&&BitVec.ofInt 64 (k:Int)).toNat:Nat)<=_;rw[BitVec.toNat_and,e2,IntWalk.i64_in _ ⟨by omega,by omega⟩];omega
theorem aNQ {l:List Int}{k:Nat}{x:Int}(h:l[k]? =some x):uG l (k+1)=lO .and .i64 (IntKind.i64.wrap (IntKind.i64.wrap (IntKind.i64.wrap (uG l k*131)+IntKind.i64.wrap x)+7)) 1073741823:=by rw[uG,aEP,h];rfl
theorem aNR {l:List Int}{u:Cu}{x:Int}(h:(u.i:Int)<(l.length:Int))(hx:l[u.i]? =some x):aW l u=(lO .and .i64 (IntKind.i64.wrap (aNP (aGR u.h)+IntKind.i64.wrap x)) 255,⟨u.i+1,aGR u.h⟩):=by
 rw[aW,if_pos h,aEP,hx];rfl
theorem aLL {l:List Int}{u:Cu}(h: ¬(u.i:Int)<(l.length:Int)):aW l u=(aNP (aGR u.h),⟨u.i,aGR u.h⟩):=by rw[aW,if_neg h]
theorem nG (l:List Int)(u:Cu):0<=(aW l u).1/\(aW l u).1<=255:=by
 unfold aW;split
 ·exact aGS _ 255 (by decide)
 exact aGS _ 255 (by decide)
def aA (l:List Int)(u:Cu)(n:Int):Int × Cu:=
 if n<=0 then (0,u) else if n<=256 then (Int.tmod (aW l u).1 n,(aW l u).2) else
  (Int.tmod ((aW l u).1*16777216+(aW l (aW l u).2).1*65536+(aW l (aW l (aW l u).2).2).1*256+(aW l (aW l (aW l (aW l u).2).2).2).1) n,(aW l (aW l (aW l (aW l u).2).2).2).2)
theorem aI7 {x n:Int}(hx:0<=x)(hn:0<n):0<=Int.tmod x n/\Int.tmod x n<n:=⟨Int.tmod_nonneg n hx,Int.tmod_lt_of_pos x hn⟩
theorem cP (l:List Int)(u:Cu){n:Int}(hn:0<n):0<=(aA l u n).1/\(aA l u n).1<n:=by
 unfold aA;rw[if_neg (by omega)];have h1:=nG l u;have h2:=nG l (aW l u).2;have h3:=nG l (aW l (aW l u).2).2;have h4:=nG l (aW l (aW l (aW l u).2).2).2;split
 ·exact aI7 (by omega) hn
 exact aI7 (by omega) hn
theorem aNS (l:List Int)(u:Cu){n:Int}(h:n<=0):aA l u n=(0,u):=by rw[aA,if_pos h]
theorem aNT (l:List Int)(u:Cu){n:Int}(h: ¬n<=0)(h2:n<=256):aA l u n=(Int.tmod (aW l u).1 n,(aW l u).2):=by rw[aA,if_neg h,if_pos h2]
theorem aNU (l:List Int)(u:Cu){n:Int}(h: ¬n<=0)(h2: ¬n<=256):aA l u n=(Int.tmod ((aW l u).1*16777216+(aW l (aW l u).2).1*65536+(aW l (aW l (aW l u).2).2).1*256+(aW l (aW l (aW l (aW l u).2).2).2).1) n,(aW l (aW l (aW l (aW l u).2).2).2).2):=by rw[aA,if_neg h,if_neg h2]
def lS {σ:Type}(f:σ->σ):Nat->σ->σ
 | 0,s=>s
 | k+1,s=>f (lS f k s)
def cR (f:Cu->Int × Cu):Nat->Cu->List Int × Cu
 | 0,u=>([],u)
 | k+1,u=>((cR f k u).1++[(f (cR f k u).2).1],(f (cR f k u).2).2)
theorem uH (f:Cu->Int × Cu)(u:Cu): ∀k,(cR f k u).1.length=k
 | 0=>rfl
 | k+1=>by rw[cR,aJi,uH f u k];rfl
abbrev lE (l:List Int)(u:Cu):List AV × List (Nat × Rs) × AV × List (Nat × Rs):=([.ptr 0 0],[(0,.box 115 [.p none (.sl 5 1 (l.map aZ)),vI (u.i:Int),vI u.h])],vI ((aW l u).1),[(0,.box 115 [.p none (.sl 5 1 (l.map aZ)),vI (((aW l u).2.i:Nat):Int),vI ((aW l u).2.h)])])
abbrev rE (l:List Int)(u:Cu):Prop:=Cm 127 (lE l u).1 (lE l u).2.1 (lE l u).2.2.1 (lE l u).2.2.2
theorem aCZ (l:List Int)(u:Cu)(hl:l.length<=1048576):rE l u:=by
 refine cqx Tryz.func127 (.raw<| .raw<| .len l.length<| .br (.elem _ aZ l (fun e44=> .raw<| .raw<| .fin [(0,0)])) (.fin [(0,0)])) (p:=(0<=(33:Int)/\(33:Int)<=64)/\(0<=(45:Int)/\(45:Int)<=64)/\Lm aZ l/\Br ((u.i:Int)<(l.length:Int)) (0<=(u.i:Int)/\Em aZ l u.i fun e44=>cW ((u.i:Int)+1)/\(lO .and .i64 (IntKind.i64.wrap ((lO .and .i64 (lO .xor .i64 ((IntKind.i64.wrap ((IntKind.i64.wrap (u.h*6364136223846793005))+1442695040888963407))/2^33) ((IntKind.i64.wrap ((IntKind.i64.wrap (u.h*6364136223846793005))+1442695040888963407))/2^45)) (255:Int))+(IntKind.i64.wrap e44))) (255:Int))=((aW l u).1)/\l.map aZ=l.map aZ/\((u.i:Int)+1)=(((aW l u).2.i:Nat):Int)/\(IntKind.i64.wrap ((IntKind.i64.wrap (u.h*6364136223846793005))+1442695040888963407))=((aW l u).2.h)/\True) ((lO .and .i64 (lO .xor .i64 ((IntKind.i64.wrap ((IntKind.i64.wrap (u.h*6364136223846793005))+1442695040888963407))/2^33) ((IntKind.i64.wrap ((IntKind.i64.wrap (u.h*6364136223846793005))+1442695040888963407))/2^45)) (255:Int))=((aW l u).1)/\l.map aZ=l.map aZ/\(u.i:Int)=(((aW l u).2.i:Nat):Int)/\(IntKind.i64.wrap ((IntKind.i64.wrap (u.h*6364136223846793005))+1442695040888963407))=((aW l u).2.h)/\True)) (by kernel_rfl) ?_;refine⟨⟨by omega,by omega⟩,⟨by omega,by omega⟩,aAK _,dd (fun c0=>?_) fun c0=>?_⟩
 ·refine⟨by omega,rfl,by omega,fun e44 h44=>?_⟩;refine⟨⟨by omega,by omega⟩,?_,rfl,?_,?_,trivial⟩<;>((rw[aNR c0 h44]<;>rfl))
 ·refine⟨?_,rfl,?_,?_,trivial⟩<;>((rw[aLL c0]<;>rfl))
abbrev cE (l:List Int)(u:Cu)(n:Int):List AV × List (Nat × Rs) × AV × List (Nat × Rs):=([.ptr 0 0,vI n],[(0,.box 115 [.p none (.sl 5 1 (l.map aZ)),vI (u.i:Int),vI u.h])],vI ((aA l u n).1),[(0,.box 115 [.p none (.sl 5 1 (l.map aZ)),vI (((aA l u n).2.i:Nat):Int),vI ((aA l u n).2.h)])])
abbrev cL (l:List Int)(u:Cu)(n:Int):Prop:=Cm 72 (cE l u n).1 (cE l u n).2.1 (cE l u n).2.2.1 (cE l u n).2.2.2
theorem dR (l:List Int)(u:Cu)(hl:l.length<=1048576)(n:Int):cL l u n:=by
 refine cqx Tryz.func72 (.br (.fin [(0,0)]) (.br (aX (lE l u) [(0,0)]<| .fin [(0,0)]) (aX (lE l u) [(0,0)]<| aX (lE l ((aW l u).2)) [(0,0)]<| aX (lE l ((aW l ((aW l u).2)).2)) [(0,0)]<| aX (lE l ((aW l ((aW l ((aW l u).2)).2)).2)) [(0,0)]<| .fin [(0,0)]))) (p:=Br (n<=0) (0=((aA l u n).1)/\l.map aZ=l.map aZ/\(u.i:Int)=(((aA l u n).2.i:Nat):Int)/\u.h=((aA l u n).2.h)/\True) (Br (n<=256) (rE l u/\l.map aZ=l.map aZ/\(u.i:Int)=(u.i:Int)/\u.h=u.h/\n≠0/\(Int.tmod ((aW l u).1) n)=((aA l u n).1)/\l.map aZ=l.map aZ/\(((aW l u).2.i:Nat):Int)=(((aA l u n).2.i:Nat):Int)/\((aW l u).2.h)=((aA l u n).2.h)/\True) (rE l u/\l.map aZ=l.map aZ/\(u.i:Int)=(u.i:Int)/\u.h=u.h/\rE l ((aW l u).2)/\l.map aZ=l.map aZ/\(((aW l u).2.i:Nat):Int)=(((aW l u).2.i:Nat):Int)/\((aW l u).2.h)=((aW l u).2.h)/\rE l ((aW l ((aW l u).2)).2)/\l.map aZ=l.map aZ/\(((aW l ((aW l u).2)).2.i:Nat):Int)=((((aW l ((aW l u).2)).2).i:Nat):Int)/\((aW l ((aW l u).2)).2.h)=(((aW l ((aW l u).2)).2).h)/\rE l ((aW l ((aW l ((aW l u).2)).2)).2)/\l.map aZ=l.map aZ/\(((aW l ((aW l ((aW l u).2)).2)).2.i:Nat):Int)=((((aW l ((aW l ((aW l u).2)).2)).2).i:Nat):Int)/\((aW l ((aW l ((aW l u).2)).2)).2.h)=(((aW l ((aW l ((aW l u).2)).2)).2).h)/\cW (((aW l u).1)*16777216)/\cW (((aW l ((aW l u).2)).1)*65536)/\cW ((((aW l u).1)*16777216)+(((aW l ((aW l u).2)).1)*65536))/\cW (((aW l ((aW l ((aW l u).2)).2)).1)*256)/\cW (((((aW l u).1)*16777216)+(((aW l ((aW l u).2)).1)*65536))+(((aW l ((aW l ((aW l u).2)).2)).1)*256))/\cW ((((((aW l u).1)*16777216)+(((aW l ((aW l u).2)).1)*65536))+(((aW l ((aW l ((aW l u).2)).2)).1)*256))+((aW l ((aW l ((aW l ((aW l u).2)).2)).2)).1))/\n≠0/\(Int.tmod ((((((aW l u).1)*16777216)+(((aW l ((aW l u).2)).1)*65536))+(((aW l ((aW l ((aW l u).2)).2)).1)*256))+((aW l ((aW l ((aW l ((aW l u).2)).2)).2)).1)) n)=((aA l u n).1)/\l.map aZ=l.map aZ/\(((aW l ((aW l ((aW l ((aW l u).2)).2)).2)).2.i:Nat):Int)=(((aA l u n).2.i:Nat):Int)/\((aW l ((aW l ((aW l ((aW l u).2)).2)).2)).2.h)=((aA l u n).2.h)/\True))) (by kernel_rfl) ?_;have w1:=nG l u;have w2:=nG l (aW l u).2;have w3:=nG l (aW l (aW l u).2).2;have w4:=nG l (aW l (aW l (aW l u).2).2).2;refine dd (fun c0=>?_) fun c0=>?_
 ·refine⟨?_,rfl,?_,?_,trivial⟩<;>((rw[aNS l u c0]<;>rfl))
 ·refine dd (fun c1=>?_) fun c1=>?_
  ·refine⟨aCZ l u (by assumption),rfl,rfl,rfl,by omega,?_,rfl,?_,?_,trivial⟩<;>((rw[aNT l u c0 c1]<;>rfl))
  ·refine⟨aCZ l u (by assumption),rfl,rfl,rfl,aCZ l ((aW l u).2) (by assumption),rfl,rfl,rfl,aCZ l ((aW l ((aW l u).2)).2) (by assumption),rfl,rfl,rfl,aCZ l ((aW l ((aW l ((aW l u).2)).2)).2) (by assumption),rfl,rfl,rfl,⟨by omega,by omega⟩,⟨by omega,by omega⟩,⟨by omega,by omega⟩,⟨by omega,by omega⟩,⟨by omega,by omega⟩,⟨by omega,by omega⟩,by omega,?_,rfl,?_,?_,trivial⟩<;>((rw[aNU l u c0 c1]<;>rfl))
abbrev fX (l:List Int)(u:Cu)(n:Int):List AV × List (Nat × Rs) × AV × List (Nat × Rs):=([.ptr 0 0,vI n],[(0,.box 115 [.p none (.sl 5 1 (l.map aZ)),vI (u.i:Int),vI u.h])],vB (decide ((aA l u n).1=0)),[(0,.box 115 [.p none (.sl 5 1 (l.map aZ)),vI (((aA l u n).2.i:Nat):Int),vI ((aA l u n).2.h)])])
abbrev iL (l:List Int)(u:Cu)(n:Int):Prop:=Cm 71 (fX l u n).1 (fX l u n).2.1 (fX l u n).2.2.1 (fX l u n).2.2.2
theorem oU (l:List Int)(u:Cu)(hl:l.length<=1048576)(n:Int):iL l u n:=by
 refine cqx Tryz.func71 (aX (cE l u n) [(0,0)]<| .fin [(0,0)]) (p:=cL l u n/\n=n/\l.map aZ=l.map aZ/\(u.i:Int)=(u.i:Int)/\u.h=u.h/\(decide (((aA l u n).1)=0))=(decide ((aA l u n).1=0))/\l.map aZ=l.map aZ/\(((aA l u n).2.i:Nat):Int)=(((aA l u n).2.i:Nat):Int)/\((aA l u n).2.h)=((aA l u n).2.h)/\True) (by kernel_rfl) ?_;refine⟨dR l u (by assumption) n,rfl,rfl,rfl,rfl,?_,rfl,rfl,rfl,trivial⟩
 ·rfl
def bJ (l:List Int)(u:Cu)(xs:List Int):Int × Cu:=(xs.getD (aA l u xs.length).1.toNat 0,(aA l u xs.length).2)
theorem aNV {l:List Int}{u:Cu}{xs:List Int}{x:Int}(h:xs[(aA l u xs.length).1.toNat]? =some x):bJ l u xs=(x,(aA l u xs.length).2):=by rw[bJ,aEP,h];rfl
theorem aLM (l:List Int)(u:Cu){xs:List Int}(h:0<xs.length):(bJ l u xs).1∈xs:=by
 have hb:=cP l u (n:=xs.length) (by omega);have hlt:(aA l u xs.length).1.toNat<xs.length:=by omega
 rw[bJ,aEP,aBI hlt];exact aMZ hlt
abbrev fM (l:List Int)(u:Cu)(xs:List Int):List AV × List (Nat × Rs) × AV × List (Nat × Rs):=([.ptr 0 0,.own 1],[(0,.box 115 [.p none (.sl 5 1 (l.map aZ)),vI (u.i:Int),vI u.h]),(1,.arr 3 1 true (xs.map intD))],vI ((bJ l u xs).1),[(0,.box 115 [.p none (.sl 5 1 (l.map aZ)),vI (((bJ l u xs).2.i:Nat):Int),vI ((bJ l u xs).2.h)])])
abbrev hY (l:List Int)(u:Cu)(xs:List Int):Prop:=Cm 77 (fM l u xs).1 (fM l u xs).2.1 (fM l u xs).2.2.1 (fM l u xs).2.2.2
theorem nN (l:List Int)(u:Cu)(hl:l.length<=1048576)(xs:List Int)(hx:0<xs.length):hY l u xs:=by
 refine cqx Tryz.func77 (.len xs.length<| aX (cE l u (xs.length:Int)) [(0,0)]<| .len xs.length<| .elem _ intD xs (fun e11=> .fin [(0,0)])) (p:=Lm intD xs/\cL l u (xs.length:Int)/\(xs.length:Int)=(xs.length:Int)/\l.map aZ=l.map aZ/\(u.i:Int)=(u.i:Int)/\u.h=u.h/\0<=((aA l u (xs.length:Int)).1)/\Lm intD xs/\((aA l u (xs.length:Int)).1)<(xs.length:Int)/\Em intD xs (((aA l u (xs.length:Int)).1).toNat) fun e11=>e11=((bJ l u xs).1)/\l.map aZ=l.map aZ/\(((aA l u (xs.length:Int)).2.i:Nat):Int)=(((bJ l u xs).2.i:Nat):Int)/\((aA l u (xs.length:Int)).2.h)=((bJ l u xs).2.h)/\True) (by kernel_rfl) ?_;have hb:=cP l u (n:=xs.length) (by omega);refine⟨aAK _,dR l u (by assumption) (xs.length:Int),rfl,rfl,rfl,rfl,by omega,aAK _,by omega,rfl,by omega,fun e11 h11=>?_⟩;refine⟨?_,rfl,?_,?_,trivial⟩<;>(first|rfl|(rw[aNV (by assumption)]<;>rfl))
abbrev wC (l:List Int):List AV × List (Nat × Rs) × AV × List (Nat × Rs):=([.p none (.sl 5 1 (l.map aZ))],[],.ptr 0 0,[(0,.box 115 [.p none (.sl 5 1 (l.map aZ)),vI (((iX l).i:Nat):Int),vI ((iX l).h)])])
abbrev aFG (l:List Int):Prop:=Cm 31 (wC l).1 (wC l).2.1 (wC l).2.2.1 (wC l).2.2.2
theorem aNr (l:List Int)(hl:l.length<=1048576):aFG l:=by
 refine cqx Tryz.func31 (.len l.length<| .loop Nat (Q1 Nat) ([3,4]++rg 8 20) [] (fun k=>[(4,vI (k:Int)),(3,vI (uG l k))]) (fun k=>[]) (fun k=>k<=l.length/\k<=4000) (fun k=>4000 - k) (fun k=> .len l.length<| .br (.lit<| .lit<| .br (.raw<| .elem _ aZ l (fun e22=> .raw<| .raw<| .raw<| .back [])) (.fin [(0,3100)])) (.fin [(0,3100)]))) (p:=Lm aZ l/\(cW ((10101:Int)+(l.length:Int))/\((∃(k:Nat),0=(k:Int)/\((10101:Int)+(l.length:Int))=(uG l k)/\k<=l.length/\k<=4000)/\ ∀(k:Nat),(k<=l.length/\k<=4000)->Lm aZ l/\Br ((k:Int)<(l.length:Int)) (Br ((k:Int)<4000) (0<=(k:Int)/\Em aZ l k fun e22=>cW ((k:Int)+1)/\ ∃(k' :Nat),((k:Int)+1)=(k' :Int)/\(lO .and .i64 (IntKind.i64.wrap ((IntKind.i64.wrap ((IntKind.i64.wrap ((uG l k)*131))+(IntKind.i64.wrap e22)))+7)) (1073741823:Int))=(uG l k')/\(k' <=l.length/\k' <=4000)/\4000 - k' <4000 - k) (l.map aZ=l.map aZ/\0=(((iX l).i:Nat):Int)/\(uG l k)=((iX l).h)/\True)) (l.map aZ=l.map aZ/\0=(((iX l).i:Nat):Int)/\(uG l k)=((iX l).h)/\True)))) (by kernel_rfl) ?_;refine⟨aAK _,⟨by omega,by omega⟩,⟨0,(by rfl),(by rfl),aAd _,aAd _⟩,fun k ⟨hk,hk2⟩=>?_⟩;refine⟨aAK _,dd (fun g12=>?_) fun g12=>?_⟩
 ·refine dd (fun c0=>?_) fun c0=>?_
  ·refine⟨by omega,rfl,by omega,fun e22 h22=>?_⟩;refine⟨⟨by omega,by omega⟩,?_⟩;exact⟨k+1,(by rfl),(by (rw[aNQ h22];done)),⟨by omega,by omega⟩,by omega⟩
  ·refine⟨rfl,?_,?_,trivial⟩<;>(first|rfl|(rw[iX,show min l.length 4000=k by omega]<;>rfl))
 ·refine⟨rfl,?_,?_,trivial⟩<;>(first|rfl|(rw[iX,show min l.length 4000=k by omega]<;>rfl))
def aLN (x:Int):Prop:=0<=x/\x<=255
theorem aH8 {n:Int}(h:(Lit.int .u8 n).wf=true):aLN n:=by
 simp[Lit.wf,IntKind.min,IntKind.max,IntKind.bits,IntKind.signed] at h;exact⟨by omega,by omega⟩
def aH9 (l:List Int):Prop:= ∀x∈l,aLN x
def aLO:Rd Int:=fun _ cs n=>cs= [.int .u8 n]/\aLN n
theorem aJ1 {H:Type}{enc:TypeId × Value->H}{P:Program}{w:World}{base:Nat}{spare:Nat->Bool}{held:Bool}{t:TypeId}{fuel:Nat}{cs:List Value}{x:DataW H × List MemPlace}(ht:P.underlying t=some (.int .u8))(h:DataW.trod enc P w base spare held fuel t cs=some x): ∃n,aLO w cs n:=by
 obtain⟨n,rfl,_,hw⟩:=DataW.trod_int ht h;exact⟨n,rfl,aH8 hw⟩
def RByteS:Rd (List Int):=fun w cs l=>jU (Lv w) w [.sl 5 1 (l.map aZ)] cs/\aH9 l
theorem openByteS {H:Type}{enc:TypeId × Value->H}{w:World}{base:Nat}{spare:Nat->Bool}{held:Bool}{fuel:Nat}{cs:List Value}{x:DataW H × List MemPlace}(h:DataW.trod enc Tryz.prog w base spare held fuel 22 cs=some x): ∃l,RByteS w cs l:=by
 obtain⟨l,hl⟩:=aHE (k:=1) (R:=aLO) Tryz.underlying22 (by kernel_rfl) (by omega) (fun _ _ _ h=>aJ1 Tryz.underlying5 h) h;have hf:aH9 l:=hl.all_ (fun _ _ _ h=>h.2);obtain⟨A,c,rfl,_⟩:=id hl;exact⟨l,aFs (aK3 (R:=aLO) (enc:=aZ) (fun cs x h=>by obtain⟨rfl,_⟩:=h;exact aFs aM9 aIK) hl) aIK,hf⟩
theorem cZ (s t:ByteArray):(s.toList==t.toList)=decide (s=t):=by
 rw[ByteArray.toList_eq,ByteArray.toList_eq];by_cases h:s=t
 ·simp[h]
 have: ¬s.data.toList=t.data.toList:=fun e=>h (by cases s;cases t;simp at e;simp[e]);simp only[h,decide_false,beq_eq_false_iff_ne];exact this
theorem eW {α:Type}{l m:List α}{k:Nat}{x:α}(h:l[k]? =some x)(h' :m[k]? =some x)(e:l.take k=m.take k):l.take (k+1)=m.take (k+1):=by rw[cC h,cC h',e]
theorem rF {α:Type}{l m:List α}{k:Nat}{x y:α}(h:l[k]? =some x)(h' :m[k]? =some y)(e: ¬x=y): ¬l=m:=by
 rintro rfl;rw[h] at h';exact e (by injection h')
theorem lG {α:Type}{l m:List α}(h: ¬(l.length:Int)=m.length): ¬l=m:=fun e=>h (by rw[e])
theorem dB {α:Type}{l m:List α}{k:Nat}(hk:l.length<=k)(hl:l.length=m.length)(e:l.take k=m.take k):l=m:=by rwa [aCv hk,aCv (by omega)] at e
abbrev kT (l:List Int)(m:List Int):Prop:=Cn 102 [.one (.sl 3 1 (l.map intD)),.one (.sl 3 1 (m.map intD))] (vB (decide (l=m))) []
theorem sE (l m:List Int):kT l m:=by
 refine cq Tryz.func102 (.len l.length<| .len m.length<| .br (.fin []) (.len l.length<| .loop Nat (Q1 Nat) ([5]++rg 13 13) [] (fun k=>[(13,vI (k:Int))]) (fun k=>[]) (fun k=>k<=l.length/\l.take k=m.take k) (fun k=>l.length - k) (fun k=> .br (.elem _ intD l (fun e18=> .elem _ intD m (fun e22=> .br (.fin []) (.back [])))) (.fin [])))) (p:=Lx (l.map intD)<| Lx (m.map intD)<| Lm intD l/\(Lm intD m/\Nb ((l.length:Int)=(m.length:Int)) ((false)=(decide (l=m))/\True) (Lm intD l/\((∃(k:Nat),0=(k:Int)/\k<=l.length/\l.take k=m.take k)/\ ∀(k:Nat),(k<=l.length/\l.take k=m.take k)->Br ((k:Int)<(l.length:Int)) (0<=(k:Int)/\Em intD l k fun e18=>0<=(k:Int)/\Em intD m k fun e22=>Nb (e18=e22) ((false)=(decide (l=m))/\True) (cW ((k:Int)+1)/\ ∃(k' :Nat),((k:Int)+1)=(k' :Int)/\(k' <=l.length/\l.take k' =m.take k')/\l.length - k' <l.length - k)) ((true)=(decide (l=m))/\True))))) (by kernel_rfl) ?_;refine lx fun n0=>lx fun n1=>?_;refine⟨aAK _,aAK _,dn (fun c0=>?_) fun c0=>?_⟩
 ·apply et1
  ·(simp[lG c0];done)
 ·have hl:l.length=m.length:=by omega
  refine⟨aAK _,⟨0,rfl,aAd _,rfl⟩,fun k ⟨hk,ht⟩=>?_⟩;refine dd (fun c1=>?_) fun c1=>?_
  ·obtain⟨x,hx⟩:=cT (l:=l) (k:=k) (by omega);obtain⟨y,hy⟩:=cT (l:=m) (k:=k) (by omega);refine⟨by omega,rfl,by omega,fun e18 h18=>?_⟩;obtain rfl:=(bA hx h18).symm;refine⟨by omega,rfl,by omega,fun e22 h22=>?_⟩;obtain rfl:=(bA hy h22).symm;refine dn (fun c2=>?_) fun c2=>?_
   ·have hxy: ¬x=y:=by simpa using c2
    apply et1
    ·(simp[rF hx hy hxy];done)
   ·have hxy:x=y:=by simpa using c2
    refine⟨⟨by omega,by omega⟩,?_⟩;exact⟨k+1,rfl,⟨by omega,eW hx (by rw[hy,hxy]) ht⟩,by omega⟩
  ·apply et1
   ·(simp[dB (by omega) hl ht];done)
abbrev aLP (l:List Int)(m:List Int):Prop:=Cn 192 [.one (.sl 3 1 (l.map intD)),.one (.sl 3 1 (m.map intD))] (vB (decide (l=m))) []
theorem aQI (l m:List Int):aLP l m:=by
 refine cq Tryz.func192 (.call (vB (decide (l=m))) []<| .fin []) (p:=Lx (l.map intD)<| Lx (m.map intD)<| kT l m/\(decide (l=m))=(decide (l=m))/\True) (by kernel_rfl) ?_;refine lx fun n0=>lx fun n1=>?_;refine⟨sE _ _,?_,trivial⟩
 ·rfl
abbrev aAu (l:List (List Int))(m:List (List Int)):Prop:=Cn 191 [.one (.sl 34 1 (l.map aE)),.one (.sl 34 1 (m.map aE)),.fn 192 []] (vB (decide (l=m))) []
theorem aJ2 (l m:List (List Int)):aAu l m:=by
 refine cq Tryz.func191 (.len l.length<| .len m.length<| .br (.fin []) (.len l.length<| .loop Nat (Q1 Nat) ([7,8,9]++rg 17 15) [] (fun k=>[(17,vI (k:Int))]) (fun k=>[]) (fun k=>k<=l.length/\l.take k=m.take k) (fun k=>l.length - k) (fun k=> .br (.elem _ aE l (fun e20=> .elem _ aE m (fun e24=> .call (vB (decide (e20=e24))) []<| .br (.fin []) (.back [])))) (.fin [])))) (p:=Lx (l.map aE)<| Lx (m.map aE)<| Lm aE l/\(Lm aE m/\Nb ((l.length:Int)=(m.length:Int)) ((false)=(decide (l=m))/\True) (Lm aE l/\((∃(k:Nat),0=(k:Int)/\k<=l.length/\l.take k=m.take k)/\ ∀(k:Nat),(k<=l.length/\l.take k=m.take k)->Br ((k:Int)<(l.length:Int)) (0<=(k:Int)/\Em aE l k fun e20=>0<=(k:Int)/\Em aE m k fun e24=>aLP e20 e24/\Nb (e20=e24) ((false)=(decide (l=m))/\True) (cW ((k:Int)+1)/\ ∃(k' :Nat),((k:Int)+1)=(k' :Int)/\(k' <=l.length/\l.take k' =m.take k')/\l.length - k' <l.length - k)) ((true)=(decide (l=m))/\True))))) (by kernel_rfl) ?_;refine lx fun n0=>lx fun n1=>?_;refine⟨aAK _,aAK _,dn (fun c0=>?_) fun c0=>?_⟩
 ·apply et1
  ·(simp[lG c0];done)
 ·have hl:l.length=m.length:=by omega
  refine⟨aAK _,⟨0,rfl,aAd _,rfl⟩,fun k ⟨hk,ht⟩=>?_⟩;refine dd (fun c1=>?_) fun c1=>?_
  ·obtain⟨x,hx⟩:=cT (l:=l) (k:=k) (by omega);obtain⟨y,hy⟩:=cT (l:=m) (k:=k) (by omega);refine⟨by omega,rfl,by omega,fun e20 h20=>?_⟩;obtain rfl:=(bA hx h20).symm;refine⟨by omega,rfl,by omega,fun e24 h24=>?_⟩;obtain rfl:=(bA hy h24).symm;refine⟨aQI _ _,dn (fun c2=>?_) fun c2=>?_⟩
   ·have hxy: ¬x=y:=by simpa using c2
    apply et1
    ·(simp[rF hx hy hxy];done)
   ·have hxy:x=y:=by simpa using c2
    refine⟨⟨by omega,by omega⟩,?_⟩;exact⟨k+1,rfl,⟨by omega,eW hx (by rw[hy,hxy]) ht⟩,by omega⟩
  ·apply et1
   ·(simp[dB (by omega) hl ht];done)
abbrev qM (l:List (List Int))(m:List (List Int)):Prop:=Cn 159 [.one (.sl 34 1 (l.map aE)),.one (.sl 34 1 (m.map aE))] (vB (decide (l=m))) []
theorem aAv (l m:List (List Int)):qM l m:=by
 refine cq Tryz.func159 (.call (vB (decide (l=m))) []<| .fin []) (p:=Lx (l.map aE)<| Lx (m.map aE)<| aAu l m/\(decide (l=m))=(decide (l=m))/\True) (by kernel_rfl) ?_;refine lx fun n0=>lx fun n1=>?_;refine⟨aJ2 _ _,?_,trivial⟩
 ·rfl
theorem oV (a b:aR):decide (a=b)=(decide (a.columns=b.columns)&&(decide (a.values=b.values)&&decide (a.counts=b.counts))):=by
 obtain⟨a0,a1,a2⟩:=a;obtain⟨b0,b1,b2⟩:=b;simp[Bool.and_assoc]
abbrev aC0 (a:aR)(b:aR):Prop:=Cn 112 [.agg [.sl 3 1 (a.columns.map intD),.sl 34 1 (a.values.map aE),.sl 3 1 (a.counts.map intD)],.agg [.sl 3 1 (b.columns.map intD),.sl 34 1 (b.values.map aE),.sl 3 1 (b.counts.map intD)]] (vB (decide (a=b))) []
theorem aLQ (a b:aR):aC0 a b:=by
 refine cq Tryz.func112 (.call (vB (decide (a.columns=b.columns))) []<| .br (.call (vB (decide (a.values=b.values))) []<| .lit<| .br (.call (vB (decide (a.counts=b.counts))) []<| .fin []) (.fin [])) (.fin [])) (p:=Lx (a.columns.map intD)<| Lx (a.values.map aE)<| Lx (a.counts.map intD)<| Lx (b.columns.map intD)<| Lx (b.values.map aE)<| Lx (b.counts.map intD)<| kT a.columns b.columns/\Br (a.columns=b.columns) (qM a.values b.values/\Br (a.values=b.values) (kT a.counts b.counts/\(decide (a.counts=b.counts))=(decide (a=b))/\True) ((false)=(decide (a=b))/\True)) ((false)=(decide (a=b))/\True)) (by kernel_rfl) ?_;refine lx fun n0=>lx fun n1=>lx fun n2=>lx fun n3=>lx fun n4=>lx fun n5=>?_;refine⟨sE _ _,dd (fun g10=>?_) fun g10=>?_⟩
 ·refine⟨aAv _ _,dd (fun g17=>?_) fun g17=>?_⟩
  ·refine⟨sE _ _,?_,trivial⟩
   ·(rw[oV];simp_all [cZ];done)
  ·apply et1
   ·(rw[oV];simp_all [cZ];done)
 ·apply et1
  ·(rw[oV];simp_all [cZ];done)
abbrev pR (l:List aR)(m:List aR):Prop:=Cn 111 [.one (.sl 138 3 (l.map aM)),.one (.sl 138 3 (m.map aM)),.fn 112 []] (vB (decide (l=m))) []
theorem aBY (l m:List aR):pR l m:=by
 refine cq Tryz.func111 (.len l.length<| .len m.length<| .br (.fin []) (.len l.length<| .loop Nat (Q1 Nat) ([7,8,9]++rg 17 15) [800,900] (fun k=>[(17,vI (k:Int))]) (fun k=>[]) (fun k=>k<=l.length/\l.take k=m.take k) (fun k=>l.length - k) (fun k=> .br (.elem _ aM l (fun e20=> .elem _ aM m (fun e24=> .call (vB (decide (e20=e24))) []<| .br (.fin []) (.back [])))) (.fin [])))) (p:=Lx (l.map aM)<| Lx (m.map aM)<| Lm aM l/\(Lm aM m/\Nb ((l.length:Int)=(m.length:Int)) ((false)=(decide (l=m))/\True) (Lm aM l/\((∃(k:Nat),0=(k:Int)/\k<=l.length/\l.take k=m.take k)/\ ∀(k:Nat),(k<=l.length/\l.take k=m.take k)->Br ((k:Int)<(l.length:Int)) (0<=(k:Int)/\Em aM l k fun e20=>0<=(k:Int)/\Em aM m k fun e24=>aC0 e20 e24/\Nb (e20=e24) ((false)=(decide (l=m))/\True) (cW ((k:Int)+1)/\ ∃(k' :Nat),((k:Int)+1)=(k' :Int)/\(k' <=l.length/\l.take k' =m.take k')/\l.length - k' <l.length - k)) ((true)=(decide (l=m))/\True))))) (by kernel_rfl) ?_;refine lx fun n0=>lx fun n1=>?_;refine⟨aAK _,aAK _,dn (fun c0=>?_) fun c0=>?_⟩
 ·apply et1
  ·(simp[lG c0];done)
 ·have hl:l.length=m.length:=by omega
  refine⟨aAK _,⟨0,rfl,aAd _,rfl⟩,fun k ⟨hk,ht⟩=>?_⟩;refine dd (fun c1=>?_) fun c1=>?_
  ·obtain⟨x,hx⟩:=cT (l:=l) (k:=k) (by omega);obtain⟨y,hy⟩:=cT (l:=m) (k:=k) (by omega);refine⟨by omega,rfl,by omega,fun e20 h20=>?_⟩;obtain rfl:=(bA hx h20).symm;refine⟨by omega,rfl,by omega,fun e24 h24=>?_⟩;obtain rfl:=(bA hy h24).symm;refine⟨aLQ _ _,dn (fun c2=>?_) fun c2=>?_⟩
   ·have hxy: ¬x=y:=by simpa using c2
    apply et1
    ·(simp[rF hx hy hxy];done)
   ·have hxy:x=y:=by simpa using c2
    refine⟨⟨by omega,by omega⟩,?_⟩;exact⟨k+1,rfl,⟨by omega,eW hx (by rw[hy,hxy]) ht⟩,by omega⟩
  ·apply et1
   ·(simp[dB (by omega) hl ht];done)
theorem fB (a b:aQ):decide (a=b)=(decide (a.name=b.name)&&(decide (a.arity=b.arity)&&(decide (a.rowCount=b.rowCount)&&decide (a.groups=b.groups)))):=by
 obtain⟨a0,a1,a2,a3⟩:=a;obtain⟨b0,b1,b2,b3⟩:=b;simp[Bool.and_assoc]
abbrev uI (a:aQ)(b:aQ):Prop:=Cn 56 [.agg [.str a.name,.int .i64 a.arity,.int .i64 a.rowCount,.sl 138 3 (a.groups.map aM)],.agg [.str b.name,.int .i64 b.arity,.int .i64 b.rowCount,.sl 138 3 (b.groups.map aM)]] (vB (decide (a=b))) []
theorem aFH (a b:aQ):uI a b:=by
 refine cq Tryz.func56 (.br (.lit<| .lit<| .lit<| .lit<| .lit<| .br (.lit<| .lit<| .lit<| .lit<| .lit<| .br (.call (vB (decide (a.groups=b.groups))) []<| .fin []) (.fin [])) (.fin [])) (.fin [])) (p:=Lx (a.groups.map aM)<| Lx (b.groups.map aM)<| Bb (a.name.toList==b.name.toList) (Br (a.arity=b.arity) (Br (a.rowCount=b.rowCount) (pR a.groups b.groups/\(decide (a.groups=b.groups))=(decide (a=b))/\True) ((false)=(decide (a=b))/\True)) ((false)=(decide (a=b))/\True)) ((false)=(decide (a=b))/\True)) (by kernel_rfl) ?_;refine lx fun n0=>lx fun n1=>?_;refine db (fun g10=>?_) fun g10=>?_
 ·refine dd (fun g17=>?_) fun g17=>?_
  ·refine dd (fun g24=>?_) fun g24=>?_
   ·refine⟨aBY _ _,?_,trivial⟩
    ·(rw[fB];simp_all [cZ];done)
   ·apply et1
    ·(rw[fB];simp_all [cZ];done)
  ·apply et1
   ·(rw[fB];simp_all [cZ];done)
 ·apply et1
  ·(rw[fB];simp_all [cZ];done)
abbrev pS (l:List aQ)(m:List aQ):Prop:=Cn 55 [.one (.sl 91 4 (l.map aC)),.one (.sl 91 4 (m.map aC)),.fn 56 []] (vB (decide (l=m))) []
theorem aBZ (l m:List aQ):pS l m:=by
 refine cq Tryz.func55 (.len l.length<| .len m.length<| .br (.fin []) (.len l.length<| .loop Nat (Q1 Nat) ([7,8,9]++rg 17 15) [800,900] (fun k=>[(17,vI (k:Int))]) (fun k=>[]) (fun k=>k<=l.length/\l.take k=m.take k) (fun k=>l.length - k) (fun k=> .br (.elem _ aC l (fun e20=> .elem _ aC m (fun e24=> .call (vB (decide (e20=e24))) []<| .br (.fin []) (.back [])))) (.fin [])))) (p:=Lx (l.map aC)<| Lx (m.map aC)<| Lm aC l/\(Lm aC m/\Nb ((l.length:Int)=(m.length:Int)) ((false)=(decide (l=m))/\True) (Lm aC l/\((∃(k:Nat),0=(k:Int)/\k<=l.length/\l.take k=m.take k)/\ ∀(k:Nat),(k<=l.length/\l.take k=m.take k)->Br ((k:Int)<(l.length:Int)) (0<=(k:Int)/\Em aC l k fun e20=>0<=(k:Int)/\Em aC m k fun e24=>uI e20 e24/\Nb (e20=e24) ((false)=(decide (l=m))/\True) (cW ((k:Int)+1)/\ ∃(k' :Nat),((k:Int)+1)=(k' :Int)/\(k' <=l.length/\l.take k' =m.take k')/\l.length - k' <l.length - k)) ((true)=(decide (l=m))/\True))))) (by kernel_rfl) ?_;refine lx fun n0=>lx fun n1=>?_;refine⟨aAK _,aAK _,dn (fun c0=>?_) fun c0=>?_⟩
 ·apply et1
  ·(simp[lG c0];done)
 ·have hl:l.length=m.length:=by omega
  refine⟨aAK _,⟨0,rfl,aAd _,rfl⟩,fun k ⟨hk,ht⟩=>?_⟩;refine dd (fun c1=>?_) fun c1=>?_
  ·obtain⟨x,hx⟩:=cT (l:=l) (k:=k) (by omega);obtain⟨y,hy⟩:=cT (l:=m) (k:=k) (by omega);refine⟨by omega,rfl,by omega,fun e20 h20=>?_⟩;obtain rfl:=(bA hx h20).symm;refine⟨by omega,rfl,by omega,fun e24 h24=>?_⟩;obtain rfl:=(bA hy h24).symm;refine⟨aFH _ _,dn (fun c2=>?_) fun c2=>?_⟩
   ·have hxy: ¬x=y:=by simpa using c2
    apply et1
    ·(simp[rF hx hy hxy];done)
   ·have hxy:x=y:=by simpa using c2
    refine⟨⟨by omega,by omega⟩,?_⟩;exact⟨k+1,rfl,⟨by omega,eW hx (by rw[hy,hxy]) ht⟩,by omega⟩
  ·apply et1
   ·(simp[dB (by omega) hl ht];done)
theorem mO (a b:dI):decide (a=b)=(decide (a.version=b.version)&&decide (a.tables=b.tables)):=by
 obtain⟨a0,a1⟩:=a;obtain⟨b0,b1⟩:=b;simp[Bool.and_assoc]
abbrev lH (a:dI)(b:dI):Prop:=Cn 19 [.agg [.int .i64 a.version,.sl 91 4 (a.tables.map aC)],.agg [.int .i64 b.version,.sl 91 4 (b.tables.map aC)]] (vB (decide (a=b))) []
theorem sF (a b:dI):lH a b:=by
 refine cq Tryz.func19 (.br (.call (vB (decide (a.tables=b.tables))) []<| .fin []) (.fin [])) (p:=Lx (a.tables.map aC)<| Lx (b.tables.map aC)<| Br (a.version=b.version) (pS a.tables b.tables/\(decide (a.tables=b.tables))=(decide (a=b))/\True) ((false)=(decide (a=b))/\True)) (by kernel_rfl) ?_;refine lx fun n0=>lx fun n1=>?_;refine dd (fun g10=>?_) fun g10=>?_
 ·refine⟨aBZ _ _,?_,trivial⟩
  ·(rw[mO];simp_all [cZ];done)
 ·apply et1
  ·(rw[mO];simp_all [cZ];done)
end Go.Proofs.YtafmaholhcgakaaGreat
