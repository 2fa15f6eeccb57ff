/-
  Contracts and plain laws, joined: part 4.
-/
import Derived.Test.YtgamjlgfnmpcjaaGreatDoorst2
import Derived.Laws.Strings
import Derived.IntWalk
import Derived.Deep.RegionHeld3
import Derived.BigRegion
import Derived.Deep.LoopGhost
import Derived.Shelf.SlSortCmp.Insertion
import Derived.Shelf.SlSortCmp.Whole1
import Derived.Shelf.SlSortCmp.NoneTotal
import Derived.Ground.SlsfProg
import Derived.Shelf.RegionOpenPlain
import Derived.Deep.Draws
import Derived.Lib.SlicesCompact
import Derived.Lib.SliceRun
import Derived.Sort.WalkB12
import Derived.Lib.Walk
import Derived.Shelf.SlicesE.Kit
namespace Go.Proofs.YtgamjlgfnmpcjaaGreatDoor
open Go.ChangeShapes Go.WideShapes Go.ChangeAt Go.RowKit
set_option linter.unusedVariables false
set_option linter.unusedSimpArgs false
set_option maxRecDepth 100000
set_option maxHeartbeats 4000000
def tb:Tb:=⟨[(2,(false,1,8,.int .i64 0)),(3,(false,1,8,.int .i64 0)),(4,(false,1,1,.bool false)),(5,(false,1,1,.int .u8 0)),(6,(false,1,1,.int .u8 0)),(7,(true,4,24,.agg #[.int .i64 0,.int .i64 0,.bool false,.int .u8 0])),(8,(true,4,24,.agg #[.int .i64 0,.int .i64 0,.bool false,.int .u8 0])),(9,(false,1,16,.string ByteArray.empty)),(10,(false,1,16,.string ByteArray.empty)),(11,(false,1,16,.string ByteArray.empty)),(12,(false,1,8,.int .u64 0)),(13,(true,2,24,.agg #[.string ByteArray.empty,.int .u64 0])),(14,(true,2,24,.agg #[.string ByteArray.empty,.int .u64 0])),(15,(false,1,8,.pointer none)),(16,(false,1,8,.pointer none)),(17,(false,1,8,.pointer none)),(21,(false,1,4,.int .i32 0)),(22,(false,1,24,.slice none 0 0)),(23,(true,4,56,.agg #[.string ByteArray.empty,.int .i64 0,.int .i64 0,.slice none 0 0])),(24,(true,4,56,.agg #[.string ByteArray.empty,.int .i64 0,.int .i64 0,.slice none 0 0])),(27,(false,1,24,.slice none 0 0)),(28,(true,4,56,.agg #[.string ByteArray.empty,.int .i64 0,.int .i64 0,.slice none 0 0])),(29,(true,4,56,.agg #[.string ByteArray.empty,.int .i64 0,.int .i64 0,.slice none 0 0])),(33,(false,1,24,.slice none 0 0)),(35,(false,1,24,.slice none 0 0)),(36,(true,3,48,.agg #[.string ByteArray.empty,.int .i64 0,.slice none 0 0])),(37,(true,3,48,.agg #[.string ByteArray.empty,.int .i64 0,.slice none 0 0])),(38,(false,1,24,.slice none 0 0)),(45,(true,3,48,.agg #[.string ByteArray.empty,.bool false,.slice none 0 0])),(46,(true,3,48,.agg #[.string ByteArray.empty,.bool false,.slice none 0 0])),(61,(true,3,72,.agg #[.slice none 0 0,.slice none 0 0,.slice none 0 0])),(62,(true,3,72,.agg #[.slice none 0 0,.slice none 0 0,.slice none 0 0])),(80,(false,1,8,.pointer none)),(84,(false,1,24,.slice none 0 0)),(85,(true,1,24,.agg #[.slice none 0 0])),(86,(true,1,24,.agg #[.slice none 0 0])),(88,(true,3,72,.agg #[.slice none 0 0,.slice none 0 0,.slice none 0 0])),(101,(true,3,40,.agg #[.slice none 0 0,.int .i64 0,.int .i64 0])),(102,(true,3,40,.agg #[.slice none 0 0,.int .i64 0,.int .i64 0])),(105,(false,1,24,.slice none 0 0)),(118,(false,1,8,.int .u64 0)),(122,(false,1,8,.int .i64 0)),(131,(false,1,4,.int .u32 0)),(133,(false,1,8,.int .u64 0)),(144,(false,1,8,.int .u64 0)),(148,(false,1,8,.pointer none)),(157,(false,1,8,.pointer none)),(167,(true,0,0,.agg #[])),(168,(true,0,0,.agg #[])),(170,(false,1,1,.int .u8 0)),(171,(false,1,1,.int .u8 0)),(173,(false,1,8,.pointer none)),(174,(false,1,4,.int .i32 0)),(175,(false,1,4,.int .i32 0))],
 [(22,88),(27,62),(33,5),(35,38),(38,3),(84,37),(105,9)],
 [(7,[(0,(0,2)),(1,(1,3)),(2,(2,4)),(3,(3,6))]),(8,[(0,(0,2)),(1,(1,3)),(2,(2,4)),(3,(3,6))]),(13,[(0,(0,9)),(1,(1,12))]),(14,[(0,(0,9)),(1,(1,12))]),(23,[(0,(0,9)),(1,(1,3)),(2,(2,3)),(3,(3,22))]),(24,[(0,(0,9)),(1,(1,3)),(2,(2,3)),(3,(3,22))]),(28,[(0,(0,9)),(1,(1,3)),(2,(2,3)),(3,(3,27))]),(29,[(0,(0,9)),(1,(1,3)),(2,(2,3)),(3,(3,27))]),(36,[(0,(0,9)),(1,(1,3)),(2,(2,35))]),(37,[(0,(0,9)),(1,(1,3)),(2,(2,35))]),(45,[(0,(0,9)),(1,(1,4)),(2,(2,38))]),(46,[(0,(0,9)),(1,(1,4)),(2,(2,38))]),(61,[(0,(0,38)),(1,(1,35)),(2,(2,38))]),(62,[(0,(0,38)),(1,(1,35)),(2,(2,38))]),(85,[(0,(0,84))]),(86,[(0,(0,84))]),(88,[(0,(0,38)),(1,(1,35)),(2,(2,38))]),(101,[(0,(0,33)),(1,(1,3)),(2,(2,3))]),(102,[(0,(0,33)),(1,(1,3)),(2,(2,3))]),(167,[]),(168,[])],
 [(7,(.agg #[.int .i64 0,.int .i64 0,.bool false,.int .u8 0],[(0,1),(1,1),(2,1),(3,1)])),(8,(.agg #[.int .i64 0,.int .i64 0,.bool false,.int .u8 0],[(0,1),(1,1),(2,1),(3,1)])),(13,(.agg #[.string ByteArray.empty,.int .u64 0],[(0,1),(1,1)])),(14,(.agg #[.string ByteArray.empty,.int .u64 0],[(0,1),(1,1)])),(23,(.agg #[.string ByteArray.empty,.int .i64 0,.int .i64 0,.slice none 0 0],[(0,1),(1,1),(2,1),(3,1)])),(24,(.agg #[.string ByteArray.empty,.int .i64 0,.int .i64 0,.slice none 0 0],[(0,1),(1,1),(2,1),(3,1)])),(28,(.agg #[.string ByteArray.empty,.int .i64 0,.int .i64 0,.slice none 0 0],[(0,1),(1,1),(2,1),(3,1)])),(29,(.agg #[.string ByteArray.empty,.int .i64 0,.int .i64 0,.slice none 0 0],[(0,1),(1,1),(2,1),(3,1)])),(36,(.agg #[.string ByteArray.empty,.int .i64 0,.slice none 0 0],[(0,1),(1,1),(2,1)])),(37,(.agg #[.string ByteArray.empty,.int .i64 0,.slice none 0 0],[(0,1),(1,1),(2,1)])),(45,(.agg #[.string ByteArray.empty,.bool false,.slice none 0 0],[(0,1),(1,1),(2,1)])),(46,(.agg #[.string ByteArray.empty,.bool false,.slice none 0 0],[(0,1),(1,1),(2,1)])),(61,(.agg #[.slice none 0 0,.slice none 0 0,.slice none 0 0],[(0,1),(1,1),(2,1)])),(62,(.agg #[.slice none 0 0,.slice none 0 0,.slice none 0 0],[(0,1),(1,1),(2,1)])),(85,(.agg #[.slice none 0 0],[(0,1)])),(86,(.agg #[.slice none 0 0],[(0,1)])),(88,(.agg #[.slice none 0 0,.slice none 0 0,.slice none 0 0],[(0,1),(1,1),(2,1)])),(101,(.agg #[.slice none 0 0,.int .i64 0,.int .i64 0],[(0,1),(1,1),(2,1)])),(102,(.agg #[.slice none 0 0,.int .i64 0,.int .i64 0],[(0,1),(1,1),(2,1)])),(167,(.agg #[],[(0,0)])),(168,(.agg #[],[(0,0)]))],
 [(4,())],
 [(9,()),(10,()),(11,())],
 [(2,.i64),(3,.i64),(5,.u8),(6,.u8),(12,.u64),(21,.i32),(118,.u64),(122,.i64),(131,.u32),(133,.u64),(144,.u64),(170,.u8),(171,.u8),(174,.i32),(175,.i32)],
 []⟩
theorem fc {α:Type}{p:Nat->α->Prop}{k:Nat}{v:α}{l:List (Nat × α)}(h:p k v)(t:iR p l):iR p ((k,v)::l):=⟨h,t⟩
theorem aDN:Tryz.prog.follows .mixedOrders=true:=by kernel_rfl
set_option maxRecDepth 100000 in
theorem aMl:fQ Tryz.prog tb:=
 by
 refine⟨?_,?_,?_,?_,?_,?_,?_,?_⟩<;>repeat' (first|refine fc ?_ ?_|exact trivial|kernel_rfl)
end Go.Proofs.YtgamjlgfnmpcjaaGreatDoor
namespace Go.Proofs.YtgamjlgfnmpcjaaGreatDoor
open Go.ChangeShapes Go.WideShapes Go.ChangeAt Go.RowKit
set_option linter.unusedVariables false
set_option linter.unusedSimpArgs false
set_option maxRecDepth 100000
set_option maxHeartbeats 4000000
abbrev bC (p:AV × List (Nat × Rs))(t:T):T:= .call p.1 p.2 t
abbrev bQ (p:List AV × List (Nat × Rs) × AV × List (Nat × Rs))(r:List (Nat × Nat))(t:T):T:= .callxs p.1 p.2.1 r p.2.2.1 p.2.2.2 t
abbrev rg (a n:Nat):List Nat:=List.range' a n
abbrev Br (p:Prop)[Decidable p](X Y:Prop):Prop:=(decide p=true->X)/\(decide p=false->Y)
abbrev Nb (p:Prop)[Decidable p](X Y:Prop):Prop:=((!decide p)=true->X)/\((!decide p)=false->Y)
abbrev Bb (b:Bool)(X Y:Prop):Prop:=(b=true->X)/\(b=false->Y)
abbrev Nr (b:Bool)(X Y:Prop):Prop:=((!b)=true->X)/\((!b)=false->Y)
theorem dd {p:Prop}[Decidable p]{X Y:Prop}(hx:p->X)(hy: ¬p->Y):Br p X Y:=⟨fun h=>hx (of_decide_eq_true h),fun h=>hy (of_decide_eq_false h)⟩
theorem dn {p:Prop}[Decidable p]{X Y:Prop}(hx: ¬p->X)(hy:p->Y):Nb p X Y:=⟨fun h=>hx (of_decide_eq_false (nt h)),fun h=>hy (of_decide_eq_true (nf h))⟩
theorem db {b:Bool}{X Y:Prop}(hx:b=true->X)(hy:b=false->Y):Bb b X Y:=⟨hx,hy⟩
theorem dm {b:Bool}{X Y:Prop}(hx:b=false->X)(hy:b=true->Y):Nr b X Y:=⟨fun h=>hx (nt h),fun h=>hy (nf h)⟩
abbrev Lx {α:Type}(l:List α)(A:Prop):Prop:=l.length<=9223372036854775807->A
theorem lx {α β:Type}{f:α->β}{l:List α}{A:Prop}(h:l.length<=9223372036854775807->A):Lx (l.map f) A:=fun q=>h (by simpa using q)
abbrev Cn (f:FuncId)(args:List Ar)(rv:AV)(rr:List (Nat × Rs)):Prop:=zC Tryz.prog f args rv rr
abbrev Cm (f:FuncId)(args:List AV)(ri:List (Nat × Rs))(rv:AV)(ro:List (Nat × Rs)):Prop:=oZ Tryz.prog f args ri rv ro
theorem cq {f:FuncId}{fn:Func}{args:List Ar}{rv:AV}{rr:List (Nat × Rs)}(hf:Tryz.prog.funcs[f]? =some fn)(t:T){p:Prop}(h:(match aB9 fn args.length with | true=>aG3 Tryz.prog tb fn args rv rr t | false=>False)=p)(hp:p):zC Tryz.prog f args rv rr:=by
 cases hc:aB9 fn args.length with
 | true=>rw[hc] at h;exact aMj aMl aDN hf hc t h hp
 | false=>rw[hc] at h;rw[<-h] at hp;exact hp.elim
theorem cqx {f:FuncId}{fn:Func}{args:List AV}{ri:List (Nat × Rs)}{rv:AV}{ro:List (Nat × Rs)}(hf:Tryz.prog.funcs[f]? =some fn)(t:T){p:Prop}(h:(match aB9 fn args.length&&ri.all fun q=>Nat.blt q.1 100 with | true=>aG4 Tryz.prog tb fn args ri rv ro t | false=>False)=p)(hp:p):oZ Tryz.prog f args ri rv ro:=by
 cases hc:(aB9 fn args.length&&ri.all fun q=>Nat.blt q.1 100) with
 | true=>rw[hc] at h;rw[aBT] at hc;exact aML aMl aDN hf hc.1 hc.2 t h hp
 | false=>rw[hc] at h;rw[<-h] at hp;exact hp.elim
theorem nq {p:Prop}[Decidable p](h:decide p=false): ¬p:=of_decide_eq_false h
abbrev Em {α:Type}(enc:α->List aS)(l:List α)(i:Nat)(P:α->Prop):Prop:=l.map enc=l.map enc/\i<l.length/\ ∀x,l[i]? =some x->P x
abbrev Lm {α:Type}(enc:α->List aS)(l:List α):Prop:=(l.map enc).length=l.length
abbrev Ap {α:Type}(enc:α->List aS)(l m:List α)(n:Nat)(R:Prop):Prop:=l.map enc=l.map enc/\m.map enc=m.map enc/\(∀x,nV (enc x)=true)/\(l.length+m.length)*n<=140737488355328/\R
theorem ap {α:Type}{enc:α->List aS}{l m:List α}{n:Nat}{R:Prop}(r:R)(hf: ∀x,nV (enc x)=true)(h:(l.length+m.length)*n<=140737488355328):Ap enc l m n R:=⟨rfl,rfl,hf,h,r⟩
def aAb (s:ByteArray):List aS:=[.str s]
def aNL (s:ByteArray):Prop:=s.size<=maxLen
theorem aKb {A:Nat->Prop}{w:World}{s:ByteArray}:dR A w (.str s) (.string s):=by unfold dR;rfl
theorem rdOne {A:Nat->Prop}{w:World}{d:aS}{v:Value}(h:fF A w [d] [v]):dR A w d v:=by
 obtain⟨u,us,e,h1,_⟩:=h;injection e with e1
 subst e1;exact h1
theorem rdI {w:World}{c:Value}{n:Int}(h:aGl w [c] n):dR (Lv w) w (.int .i64 n) c:=by
 have e:=h.1;simp at e;subst e;exact aCz
theorem rdS {w:World}{c:Value}{s:ByteArray}(h:aLQ w [c] s):dR (Lv w) w (.str s) c:=by
 have e:=h.1;simp at e;subst e;exact aKb
theorem vN {n:Nat}{m:Int}(h: ¬bI n m<0):(n:Int)<=m:=by
 unfold bI at h;split at h
 ·assumption
 omega
theorem xM {n:Nat}{m:Int}(h:bI n m<0): ¬(n:Int)<=m:=by
 unfold bI at h;split at h
 ·omega
 assumption
theorem xN {α:Type}{l:List α}{k:Nat}{x z:α}(h:l[k]? =some x):(l.take k++List.replicate (l.length - k) z).set k x=l.take (k+1)++List.replicate (l.length - (k+1)) z:=by
 have hk:k<l.length:=(aEA.1 h).1;rw[show l.length - k=(l.length - (k+1))+1 by omega,List.replicate_succ,List.set_append_right _ _ (by simp;omega),bR h];simp[show k - min k l.length=0 by omega]
theorem aAc {α:Type}{l:List α}{k:Nat}{z:α}(h:k<=l.length):(l.take k++List.replicate (l.length - k) z).length=l.length:=by simp;omega
theorem xO {α:Type}{l:List α}{k:Nat}{z:α}(h:k<=l.length)(h' : ¬k<l.length):l.take k++List.replicate (l.length - k) z=l:=by
 rw[show k=l.length by omega];simp
theorem aMM {α:Type}{l:List α}{i:Nat}{x y:α}(h:(l.set i y)[i]? =some x):x=y:=by
 rw[List.getElem?_set_self'] at h;cases hl:l[i]? with
 | none=>simp[hl] at h
 | some z=>simp[hl] at h;exact h.symm
theorem cS {α:Type}{l:List α}{k:Nat}(h:k<l.length): ∃x,l[k]? =some x:=⟨_,aCp h⟩
def aB (l:List Int):List aS:=[.sl 3 1 (l.map aE)]
def aCP (l:List Int):Prop:= ∀x∈l,aDb x
def bY (l:List Int):Nat:=l.length
theorem aCQ (l:List Int):l.length<=bY l:=aLB _
def aMN (l:List (List Int)):List aS:=[.sl 38 1 (l.map aB)]
def aDO (l:List (List Int)):Prop:= ∀x∈l,aCP x
def aX (l:List (List Int)):Nat:=mM bY l
theorem cI (l:List (List Int)):l.length<=aX l:=aDc _ l
theorem aCR {l:List (List Int)}{k:Nat}{y:List Int}(h:l[k]? =some y):bY y<=aX l:=zP _ h
structure aJ where
 name:ByteArray
 arity:Int
 rows:List (List Int)
 deriving DecidableEq
def qS (x:aJ):List aS:=[.str x.name,.int .i64 x.arity,.sl 38 1 (x.rows.map aB)]
def cN (x:aJ):Nat:=ByteArray.size x.name+aX x.rows
def aAd:aJ:=⟨ByteArray.empty,(0:Int),[]⟩
def mW (l:List aJ):Nat:=mM cN l
theorem aAe {l:List aJ}{k:Nat}{y:aJ}(h:l[k]? =some y):cN y<=mW l:=zP _ h
structure dD where
 tables:List aJ
 deriving DecidableEq
def lB (x:dD):Nat:=mW x.tables
structure cJ where
 name:ByteArray
 ins:Bool
 row:List Int
 deriving DecidableEq
def mX (x:cJ):Nat:=ByteArray.size x.name+bY x.row
structure aG where
 columns:List Int
 values:List (List Int)
 counts:List Int
 deriving DecidableEq
def aA (x:aG):List aS:=[.sl 3 1 (x.columns.map aE),.sl 38 1 (x.values.map aB),.sl 3 1 (x.counts.map aE)]
def qT (x:aG):Prop:=aCP x.columns/\aDO x.values/\aCP x.counts
def aR (x:aG):Nat:=bY x.columns+aX x.values+bY x.counts
def cG:aG:=⟨[],[],[]⟩
def aDP (l:List aG):List aS:=[.sl 62 3 (l.map aA)]
def kU (l:List aG):Prop:= ∀x∈l,qT x
def cD (l:List aG):Nat:=mM aR l
theorem dZ (l:List aG):l.length<=cD l:=aDc _ l
theorem eO {l:List aG}{k:Nat}{y:aG}(h:l[k]? =some y):aR y<=cD l:=zP _ h
structure TableStatsD where
 name:ByteArray
 arity:Int
 rowCount:Int
 groups:List aG
 deriving DecidableEq
def aEU (x:TableStatsD):List aS:=[.str x.name,.int .i64 x.arity,.int .i64 x.rowCount,.sl 62 3 (x.groups.map aA)]
def qU (x:TableStatsD):Prop:=aNL x.name/\aDb x.arity/\aDb x.rowCount/\kU x.groups
def aT (x:TableStatsD):Nat:=ByteArray.size x.name+cD x.groups
def yI:TableStatsD:=⟨ByteArray.empty,(0:Int),(0:Int),[]⟩
theorem lW (s t:ByteArray):(s.toList==t.toList)=decide (s=t):=by
 rw[ByteArray.toList_eq,ByteArray.toList_eq];by_cases h:s=t
 ·simp[h]
 have: ¬s.data.toList=t.data.toList:=fun e=>h (by cases s;cases t;simp at e;simp[e]);simp only[h,decide_false,beq_eq_false_iff_ne];exact this
theorem lC {α:Type}{l m:List α}{k:Nat}{x:α}(h:l[k]? =some x)(h' :m[k]? =some x)(e:l.take k=m.take k):l.take (k+1)=m.take (k+1):=by rw[bR h,bR h',e]
theorem aIp {α:Type}{l m:List α}{k:Nat}{x y:α}(h:l[k]? =some x)(h' :m[k]? =some y)(e: ¬x=y): ¬l=m:=by
 rintro rfl;rw[h] at h';exact e (by injection h')
theorem aDQ {α:Type}{l m:List α}(h: ¬(l.length:Int)=m.length): ¬l=m:=fun e=>h (by rw[e])
theorem lD {α:Type}{l m:List α}{k:Nat}(hk:l.length<=k)(hl:l.length=m.length)(e:l.take k=m.take k):l=m:=by rwa [aE4 hk,aE4 (by omega)] at e
abbrev lE (l:List Int)(m:List Int):Prop:=Cn 79 [.one (.sl 3 1 (l.map aE)),.one (.sl 3 1 (m.map aE))] (vB (decide (l=m))) []
theorem vO (l m:List Int):lE l m:=by
 refine cq Tryz.func79 (.len l.length<| .len m.length<| .br (.fin []) (.len l.length<| .loop Nat (Q1 Nat) ([5]++rg 13 13) [] (fun k=>[(13,vI (k:Int))]) (fun k=>[]) (fun k=>k<=l.length/\l.take k=m.take k) (fun k=>l.length - k) (fun k=> .br (.elem _ aE l (fun e18=> .elem _ aE m (fun e22=> .br (.fin []) (.back [])))) (.fin [])))) (p:=Lx (l.map aE)<| Lx (m.map aE)<| Lm aE l/\(Lm aE m/\Nb ((l.length:Int)=(m.length:Int)) ((false)=(decide (l=m))/\True) (Lm aE l/\((∃(k:Nat),0=(k:Int)/\k<=l.length/\l.take k=m.take k)/\ ∀(k:Nat),(k<=l.length/\l.take k=m.take k)->Br ((k:Int)<(l.length:Int)) (0<=(k:Int)/\Em aE l k fun e18=>0<=(k:Int)/\Em aE m k fun e22=>Nb (e18=e22) ((false)=(decide (l=m))/\True) (dO ((k:Int)+1)/\ ∃(k' :Nat),((k:Int)+1)=(k' :Int)/\(k' <=l.length/\l.take k' =m.take k')/\l.length - k' <l.length - k)) ((true)=(decide (l=m))/\True))))) (by kernel_rfl) ?_;refine lx fun n0=>lx fun n1=>?_;refine⟨aBS _,aBS _,dn (fun c0=>?_) fun c0=>?_⟩
 ·apply et1
  ·(simp[aDQ c0];done)
 ·have hl:l.length=m.length:=by omega
  refine⟨aBS _,⟨0,rfl,aB2 _,rfl⟩,fun k ⟨hk,ht⟩=>?_⟩;refine dd (fun c1=>?_) fun c1=>?_
  ·obtain⟨x,hx⟩:=cS (l:=l) (k:=k) (by omega);obtain⟨y,hy⟩:=cS (l:=m) (k:=k) (by omega);refine⟨by omega,rfl,by omega,fun e18 h18=>?_⟩;obtain rfl:=(bF hx h18).symm;refine⟨by omega,rfl,by omega,fun e22 h22=>?_⟩;obtain rfl:=(bF hy h22).symm;refine dn (fun c2=>?_) fun c2=>?_
   ·have hxy: ¬x=y:=by simpa using c2
    apply et1
    ·(simp[aIp hx hy hxy];done)
   ·have hxy:x=y:=by simpa using c2
    refine⟨⟨by omega,by omega⟩,?_⟩;exact⟨k+1,rfl,⟨by omega,lC hx (by rw[hy,hxy]) ht⟩,by omega⟩
  ·apply et1
   ·(simp[lD (by omega) hl ht];done)
abbrev aIq (l:List Int)(m:List Int):Prop:=Cn 108 [.one (.sl 3 1 (l.map aE)),.one (.sl 3 1 (m.map aE))] (vB (decide (l=m))) []
theorem aNM (l m:List Int):aIq l m:=by
 refine cq Tryz.func108 (.call (vB (decide (l=m))) []<| .fin []) (p:=Lx (l.map aE)<| Lx (m.map aE)<| lE l m/\(decide (l=m))=(decide (l=m))/\True) (by kernel_rfl) ?_;refine lx fun n0=>lx fun n1=>?_;refine⟨vO _ _,?_,trivial⟩
 ·rfl
abbrev yJ (l:List (List Int))(m:List (List Int)):Prop:=Cn 107 [.one (.sl 38 1 (l.map aB)),.one (.sl 38 1 (m.map aB)),.fn 108 []] (vB (decide (l=m))) []
theorem aHU (l m:List (List Int)):yJ l m:=by
 refine cq Tryz.func107 (.len l.length<| .len m.length<| .br (.fin []) (.len l.length<| .loop Nat (Q1 Nat) ([7,8,9]++rg 17 15) [] (fun k=>[(17,vI (k:Int))]) (fun k=>[]) (fun k=>k<=l.length/\l.take k=m.take k) (fun k=>l.length - k) (fun k=> .br (.elem _ aB l (fun e20=> .elem _ aB m (fun e24=> .call (vB (decide (e20=e24))) []<| .br (.fin []) (.back [])))) (.fin [])))) (p:=Lx (l.map aB)<| Lx (m.map aB)<| Lm aB l/\(Lm aB m/\Nb ((l.length:Int)=(m.length:Int)) ((false)=(decide (l=m))/\True) (Lm aB l/\((∃(k:Nat),0=(k:Int)/\k<=l.length/\l.take k=m.take k)/\ ∀(k:Nat),(k<=l.length/\l.take k=m.take k)->Br ((k:Int)<(l.length:Int)) (0<=(k:Int)/\Em aB l k fun e20=>0<=(k:Int)/\Em aB m k fun e24=>aIq e20 e24/\Nb (e20=e24) ((false)=(decide (l=m))/\True) (dO ((k:Int)+1)/\ ∃(k' :Nat),((k:Int)+1)=(k' :Int)/\(k' <=l.length/\l.take k' =m.take k')/\l.length - k' <l.length - k)) ((true)=(decide (l=m))/\True))))) (by kernel_rfl) ?_;refine lx fun n0=>lx fun n1=>?_;refine⟨aBS _,aBS _,dn (fun c0=>?_) fun c0=>?_⟩
 ·apply et1
  ·(simp[aDQ c0];done)
 ·have hl:l.length=m.length:=by omega
  refine⟨aBS _,⟨0,rfl,aB2 _,rfl⟩,fun k ⟨hk,ht⟩=>?_⟩;refine dd (fun c1=>?_) fun c1=>?_
  ·obtain⟨x,hx⟩:=cS (l:=l) (k:=k) (by omega);obtain⟨y,hy⟩:=cS (l:=m) (k:=k) (by omega);refine⟨by omega,rfl,by omega,fun e20 h20=>?_⟩;obtain rfl:=(bF hx h20).symm;refine⟨by omega,rfl,by omega,fun e24 h24=>?_⟩;obtain rfl:=(bF hy h24).symm;refine⟨aNM _ _,dn (fun c2=>?_) fun c2=>?_⟩
   ·have hxy: ¬x=y:=by simpa using c2
    apply et1
    ·(simp[aIp hx hy hxy];done)
   ·have hxy:x=y:=by simpa using c2
    refine⟨⟨by omega,by omega⟩,?_⟩;exact⟨k+1,rfl,⟨by omega,lC hx (by rw[hy,hxy]) ht⟩,by omega⟩
  ·apply et1
   ·(simp[lD (by omega) hl ht];done)
abbrev sX (l:List (List Int))(m:List (List Int)):Prop:=Cn 80 [.one (.sl 38 1 (l.map aB)),.one (.sl 38 1 (m.map aB))] (vB (decide (l=m))) []
theorem aEV (l m:List (List Int)):sX l m:=by
 refine cq Tryz.func80 (.call (vB (decide (l=m))) []<| .fin []) (p:=Lx (l.map aB)<| Lx (m.map aB)<| yJ l m/\(decide (l=m))=(decide (l=m))/\True) (by kernel_rfl) ?_;refine lx fun n0=>lx fun n1=>?_;refine⟨aHU _ _,?_,trivial⟩
 ·rfl
theorem lX (a b:aG):decide (a=b)=(decide (a.columns=b.columns)&&(decide (a.values=b.values)&&decide (a.counts=b.counts))):=by
 obtain⟨a0,a1,a2⟩:=a;obtain⟨b0,b1,b2⟩:=b;simp[Bool.and_assoc]
abbrev aAf (a:aG)(b:aG):Prop:=Cn 42 [.agg [.sl 3 1 (a.columns.map aE),.sl 38 1 (a.values.map aB),.sl 3 1 (a.counts.map aE)],.agg [.sl 3 1 (b.columns.map aE),.sl 38 1 (b.values.map aB),.sl 3 1 (b.counts.map aE)]] (vB (decide (a=b))) []
theorem aIr (a b:aG):aAf a b:=by
 refine cq Tryz.func42 (.call (vB (decide (a.columns=b.columns))) []<| .br (.call (vB (decide (a.values=b.values))) []<| .lit<| .br (.call (vB (decide (a.counts=b.counts))) []<| .fin []) (.fin [])) (.fin [])) (p:=Lx (a.columns.map aE)<| Lx (a.values.map aB)<| Lx (a.counts.map aE)<| Lx (b.columns.map aE)<| Lx (b.values.map aB)<| Lx (b.counts.map aE)<| lE a.columns b.columns/\Br (a.columns=b.columns) (sX a.values b.values/\Br (a.values=b.values) (lE a.counts b.counts/\(decide (a.counts=b.counts))=(decide (a=b))/\True) ((false)=(decide (a=b))/\True)) ((false)=(decide (a=b))/\True)) (by kernel_rfl) ?_;refine lx fun n0=>lx fun n1=>lx fun n2=>lx fun n3=>lx fun n4=>lx fun n5=>?_;refine⟨vO _ _,dd (fun g10=>?_) fun g10=>?_⟩
 ·refine⟨aEV _ _,dd (fun g17=>?_) fun g17=>?_⟩
  ·refine⟨vO _ _,?_,trivial⟩
   ·(rw[lX];simp_all [lW];done)
  ·apply et1
   ·(rw[lX];simp_all [lW];done)
 ·apply et1
  ·(rw[lX];simp_all [lW];done)
abbrev mY (l:List aG)(m:List aG):Prop:=Cn 41 [.one (.sl 62 3 (l.map aA)),.one (.sl 62 3 (m.map aA)),.fn 42 []] (vB (decide (l=m))) []
theorem zE (l m:List aG):mY l m:=by
 refine cq Tryz.func41 (.len l.length<| .len m.length<| .br (.fin []) (.len l.length<| .loop Nat (Q1 Nat) ([7,8,9]++rg 17 15) [800,900] (fun k=>[(17,vI (k:Int))]) (fun k=>[]) (fun k=>k<=l.length/\l.take k=m.take k) (fun k=>l.length - k) (fun k=> .br (.elem _ aA l (fun e20=> .elem _ aA m (fun e24=> .call (vB (decide (e20=e24))) []<| .br (.fin []) (.back [])))) (.fin [])))) (p:=Lx (l.map aA)<| Lx (m.map aA)<| Lm aA l/\(Lm aA m/\Nb ((l.length:Int)=(m.length:Int)) ((false)=(decide (l=m))/\True) (Lm aA l/\((∃(k:Nat),0=(k:Int)/\k<=l.length/\l.take k=m.take k)/\ ∀(k:Nat),(k<=l.length/\l.take k=m.take k)->Br ((k:Int)<(l.length:Int)) (0<=(k:Int)/\Em aA l k fun e20=>0<=(k:Int)/\Em aA m k fun e24=>aAf e20 e24/\Nb (e20=e24) ((false)=(decide (l=m))/\True) (dO ((k:Int)+1)/\ ∃(k' :Nat),((k:Int)+1)=(k' :Int)/\(k' <=l.length/\l.take k' =m.take k')/\l.length - k' <l.length - k)) ((true)=(decide (l=m))/\True))))) (by kernel_rfl) ?_;refine lx fun n0=>lx fun n1=>?_;refine⟨aBS _,aBS _,dn (fun c0=>?_) fun c0=>?_⟩
 ·apply et1
  ·(simp[aDQ c0];done)
 ·have hl:l.length=m.length:=by omega
  refine⟨aBS _,⟨0,rfl,aB2 _,rfl⟩,fun k ⟨hk,ht⟩=>?_⟩;refine dd (fun c1=>?_) fun c1=>?_
  ·obtain⟨x,hx⟩:=cS (l:=l) (k:=k) (by omega);obtain⟨y,hy⟩:=cS (l:=m) (k:=k) (by omega);refine⟨by omega,rfl,by omega,fun e20 h20=>?_⟩;obtain rfl:=(bF hx h20).symm;refine⟨by omega,rfl,by omega,fun e24 h24=>?_⟩;obtain rfl:=(bF hy h24).symm;refine⟨aIr _ _,dn (fun c2=>?_) fun c2=>?_⟩
   ·have hxy: ¬x=y:=by simpa using c2
    apply et1
    ·(simp[aIp hx hy hxy];done)
   ·have hxy:x=y:=by simpa using c2
    refine⟨⟨by omega,by omega⟩,?_⟩;exact⟨k+1,rfl,⟨by omega,lC hx (by rw[hy,hxy]) ht⟩,by omega⟩
  ·apply et1
   ·(simp[lD (by omega) hl ht];done)
theorem dP (a b:TableStatsD):decide (a=b)=(decide (a.name=b.name)&&(decide (a.arity=b.arity)&&(decide (a.rowCount=b.rowCount)&&decide (a.groups=b.groups)))):=by
 obtain⟨a0,a1,a2,a3⟩:=a;obtain⟨b0,b1,b2,b3⟩:=b;simp[Bool.and_assoc]
abbrev fV (a:TableStatsD)(b:TableStatsD):Prop:=Cn 13 [.agg [.str a.name,.int .i64 a.arity,.int .i64 a.rowCount,.sl 62 3 (a.groups.map aA)],.agg [.str b.name,.int .i64 b.arity,.int .i64 b.rowCount,.sl 62 3 (b.groups.map aA)]] (vB (decide (a=b))) []
theorem kV (a b:TableStatsD):fV a b:=by
 refine cq Tryz.func13 (.br (.lit<| .lit<| .lit<| .lit<| .lit<| .br (.lit<| .lit<| .lit<| .lit<| .lit<| .br (.call (vB (decide (a.groups=b.groups))) []<| .fin []) (.fin [])) (.fin [])) (.fin [])) (p:=Lx (a.groups.map aA)<| Lx (b.groups.map aA)<| Bb (a.name.toList==b.name.toList) (Br (a.arity=b.arity) (Br (a.rowCount=b.rowCount) (mY a.groups b.groups/\(decide (a.groups=b.groups))=(decide (a=b))/\True) ((false)=(decide (a=b))/\True)) ((false)=(decide (a=b))/\True)) ((false)=(decide (a=b))/\True)) (by kernel_rfl) ?_;refine lx fun n0=>lx fun n1=>?_;refine db (fun g10=>?_) fun g10=>?_
 ·refine dd (fun g17=>?_) fun g17=>?_
  ·refine dd (fun g24=>?_) fun g24=>?_
   ·refine⟨zE _ _,?_,trivial⟩
    ·(rw[dP];simp_all [lW];done)
   ·apply et1
    ·(rw[dP];simp_all [lW];done)
  ·apply et1
   ·(rw[dP];simp_all [lW];done)
 ·apply et1
  ·(rw[dP];simp_all [lW];done)
def aZ:List Int->List Int->Int
 | [],[]=>0
 | [],_::_=> -1
 | _::_,[]=>1
 | a::l,b::m=>if a<b then -1 else if b<a then 1 else aZ l m
theorem cR: ∀{l m:List Int},aZ l m=0↔l=m
 | [],[]=>by simp[aZ]
 | [],_::_=>by simp[aZ]
 | _::_,[]=>by simp[aZ]
 | a::l,b::m=>by
   unfold aZ;split
   ·simp;omega
   split
   ·simp;omega
   rw[cR];have:a=b:=by omega
   simp[this]
theorem fZ {α:Type}{l:List α}{k:Nat}{x:α}(h:l[k]? =some x):l.drop k=x::l.drop (k+1):=by
 obtain⟨hk,rfl⟩:=aEA.1 h;exact List.drop_eq_getElem_cons hk
theorem qV {α:Type}{l:List α}{k:Nat}(h:l.length<=k):l.drop k= []:=List.drop_eq_nil_of_le h
theorem eZ {l m:List Int}{k:Nat}(hk:k<=l.length/\k<=m.length)(hs: ¬k<l.length\/ ¬k<m.length):aZ (l.drop k) (m.drop k)=if l.length<m.length then -1 else if m.length<l.length then 1 else 0:=by
 by_cases h1:k<l.length
 ·obtain⟨x,hx⟩:=cS h1;rw[fZ hx,qV (l:=m) (by omega),aZ,if_neg (by omega),if_pos (by omega)]
 rw[qV (l:=l) (by omega)];by_cases h2:k<m.length
 ·obtain⟨x,hx⟩:=cS h2;rw[fZ hx,aZ,if_pos (by omega)]
 rw[qV (l:=m) (by omega),aZ,if_neg (by omega),if_neg (by omega)]
abbrev dC (l:List Int)(m:List Int):Prop:=Cn 47 [.one (.sl 3 1 (l.map aE)),.one (.sl 3 1 (m.map aE))] (vI (aZ l m)) []
theorem eR (l m:List Int):dC l m:=by
 refine cq Tryz.func47 (.loop Nat (Q1 Nat) (rg 5 31) [] (fun k=>[(5,vI (k:Int))]) (fun k=>[]) (fun k=>(k<=l.length/\k<=m.length)/\aZ (l.drop k) (m.drop k)=aZ l m) (fun k=>l.length - k) (fun k=> .len l.length<| .br (.len m.length<| .lit<| .lit<| .br (.elem _ aE l (fun e20=> .elem _ aE m (fun e24=> .br (.fin []) (.elem _ aE l (fun e29=> .elem _ aE m (fun e33=> .br (.fin []) (.back []))))))) (.len l.length<| .len m.length<| .br (.fin []) (.len l.length<| .len m.length<| .br (.fin []) (.fin [])))) (.len l.length<| .len m.length<| .br (.fin []) (.len l.length<| .len m.length<| .br (.fin []) (.fin []))))) (p:=Lx (l.map aE)<| Lx (m.map aE)<| (∃(k:Nat),0=(k:Int)/\(k<=l.length/\k<=m.length)/\aZ (l.drop k) (m.drop k)=aZ l m)/\ ∀(k:Nat),((k<=l.length/\k<=m.length)/\aZ (l.drop k) (m.drop k)=aZ l m)->Lm aE l/\Br ((k:Int)<(l.length:Int)) (Lm aE m/\Br ((k:Int)<(m.length:Int)) (0<=(k:Int)/\Em aE l k fun e20=>0<=(k:Int)/\Em aE m k fun e24=>Br (e20<e24) ((-1:Int)=(aZ l m)/\True) (0<=(k:Int)/\Em aE l k fun e29=>0<=(k:Int)/\Em aE m k fun e33=>Br (e33<e29) (1=(aZ l m)/\True) (dO ((k:Int)+1)/\ ∃(k' :Nat),((k:Int)+1)=(k' :Int)/\((k' <=l.length/\k' <=m.length)/\aZ (l.drop k') (m.drop k')=aZ l m)/\l.length - k' <l.length - k))) (Lm aE l/\Lm aE m/\Br ((l.length:Int)<(m.length:Int)) ((-1:Int)=(aZ l m)/\True) (Lm aE l/\Lm aE m/\Br ((m.length:Int)<(l.length:Int)) (1=(aZ l m)/\True) (0=(aZ l m)/\True)))) (Lm aE l/\Lm aE m/\Br ((l.length:Int)<(m.length:Int)) ((-1:Int)=(aZ l m)/\True) (Lm aE l/\Lm aE m/\Br ((m.length:Int)<(l.length:Int)) (1=(aZ l m)/\True) (0=(aZ l m)/\True)))) (by kernel_rfl) ?_;refine lx fun n0=>lx fun n1=>?_;refine⟨⟨0,rfl,⟨aB2 _,aB2 _⟩,rfl⟩,fun k ⟨hk,hv⟩=>?_⟩;refine⟨aBS _,dd (fun g10=>?_) fun g10=>?_⟩
 ·refine⟨aBS _,dd (fun c0=>?_) fun c0=>?_⟩
  ·obtain⟨x,hx⟩:=cS (l:=l) (k:=k) (by omega);obtain⟨y,hy⟩:=cS (l:=m) (k:=k) (by omega);have hd:aZ l m=if x<y then -1 else if y<x then 1 else aZ (l.drop (k+1)) (m.drop (k+1)):=by rw[<-hv,fZ hx,fZ hy,aZ]
   refine⟨by omega,rfl,by omega,fun e20 h20=>?_⟩;obtain rfl:=(bF hx h20).symm;refine⟨by omega,rfl,by omega,fun e24 h24=>?_⟩;obtain rfl:=(bF hy h24).symm;refine dd (fun c1=>?_) fun c1=>?_
   ·apply et1
    ·(rw[hd,if_pos c1];done)
   ·refine⟨by omega,rfl,by omega,fun e29 h29=>?_⟩;obtain rfl:=(bF hx h29).symm;refine⟨by omega,rfl,by omega,fun e33 h33=>?_⟩;obtain rfl:=(bF hy h33).symm;refine dd (fun c2=>?_) fun c2=>?_
    ·apply et1
     ·(rw[hd,if_neg c1,if_pos c2];done)
    ·refine⟨⟨by omega,by omega⟩,?_⟩;exact⟨k+1,rfl,⟨by omega,by rw[hd,if_neg c1,if_neg c2]⟩,by omega⟩
  ·refine⟨aBS _,aBS _,dd (fun c3=>?_) fun c3=>?_⟩
   ·apply et1
    ·(rw[<-hv,eZ hk (by omega),if_pos (by omega)];done)
   ·refine⟨aBS _,aBS _,dd (fun c4=>?_) fun c4=>?_⟩
    ·apply et1
     ·(rw[<-hv,eZ hk (by omega),if_neg (by omega),if_pos (by omega)];done)
    ·apply et1
     ·(rw[<-hv,eZ hk (by omega),if_neg (by omega),if_neg (by omega)];done)
 ·refine⟨aBS _,aBS _,dd (fun c3=>?_) fun c3=>?_⟩
  ·apply et1
   ·(rw[<-hv,eZ hk (by omega),if_pos (by omega)];done)
  ·refine⟨aBS _,aBS _,dd (fun c4=>?_) fun c4=>?_⟩
   ·apply et1
    ·(rw[<-hv,eZ hk (by omega),if_neg (by omega),if_pos (by omega)];done)
   ·apply et1
    ·(rw[<-hv,eZ hk (by omega),if_neg (by omega),if_neg (by omega)];done)
theorem aMO {x y:aG}(h1:x.columns=y.columns)(h2:x.values=y.values)(h3:x.counts=y.counts):x=y:=by
 obtain⟨a,b,c⟩:=x;obtain⟨d,e,f⟩:=y;simp at h1 h2 h3;subst h1 h2 h3;rfl
abbrev fA (a:TableStatsD)(b:TableStatsD):Prop:=Cn 18 [.agg [.str a.name,.int .i64 a.arity,.int .i64 a.rowCount,.sl 62 3 (a.groups.map aA)],.agg [.str b.name,.int .i64 b.arity,.int .i64 b.rowCount,.sl 62 3 (b.groups.map aA)]] (vB (decide (a=b))) []
theorem iF (a b:TableStatsD)(ha:aT a<=1048576):fA a b:=by
 refine cq Tryz.func18 (.br (.fin []) (.lit<| .lit<| .lit<| .lit<| .lit<| .br (.fin []) (.lit<| .lit<| .lit<| .lit<| .lit<| .br (.fin []) (.len a.groups.length<| .len b.groups.length<| .lit<| .lit<| .br (.fin []) (.loop Nat (Q1 Nat) ([5,6,7,8]++rg 37 59) [600,700] (fun i=>[(5,vI (i:Int))]) (fun i=>[]) (fun i=>i<=a.groups.length/\a.groups.take i=b.groups.take i) (fun i=>a.groups.length - i) (fun i=> .len a.groups.length<| .br (.elem _ aA a.groups (fun e47=> .elem _ aA b.groups (fun e52=> .call (vI (aZ e47.columns e52.columns)) []<| .br (.fin []) (.call (vI (aZ e47.counts e52.counts)) []<| .lit<| .lit<| .br (.fin []) (.len e47.values.length<| .len e52.values.length<| .lit<| .lit<| .br (.fin []) (.loop Nat (Q1 Nat) ([8]++rg 77 19) [] (fun k=>[(8,vI (k:Int))]) (fun k=>[]) (fun k=>k<=e47.values.length/\e47.values.take k=e52.values.take k) (fun k=>e47.values.length - k) (fun k=> .len e47.values.length<| .br (.elem _ aB e47.values (fun e87=> .elem _ aB e52.values (fun e92=> .call (vI (aZ e87 e92)) []<| .br (.fin []) (.back [])))) (.back [])))))))) (.fin []))))))) (p:=Lx (a.groups.map aA)<| Lx (b.groups.map aA)<| Nr (a.name.toList==b.name.toList) ((false)=(decide (a=b))/\True) (Nb (a.arity=b.arity) ((false)=(decide (a=b))/\True) (Nb (a.rowCount=b.rowCount) ((false)=(decide (a=b))/\True) (Lm aA a.groups/\(Lm aA b.groups/\Nb ((a.groups.length:Int)=(b.groups.length:Int)) ((false)=(decide (a=b))/\True) ((∃(i:Nat),0=(i:Int)/\i<=a.groups.length/\a.groups.take i=b.groups.take i)/\ ∀(i:Nat),(i<=a.groups.length/\a.groups.take i=b.groups.take i)->Lm aA a.groups/\Br ((i:Int)<(a.groups.length:Int)) (0<=(i:Int)/\Em aA a.groups i fun e47=>0<=(i:Int)/\Em aA b.groups i fun e52=>dC e47.columns e52.columns/\Nb ((aZ e47.columns e52.columns)=0) ((false)=(decide (a=b))/\True) (dC e47.counts e52.counts/\Nb ((aZ e47.counts e52.counts)=0) ((false)=(decide (a=b))/\True) (Lm aB e47.values/\(Lm aB e52.values/\Nb ((e47.values.length:Int)=(e52.values.length:Int)) ((false)=(decide (a=b))/\True) ((∃(k:Nat),0=(k:Int)/\k<=e47.values.length/\e47.values.take k=e52.values.take k)/\ ∀(k:Nat),(k<=e47.values.length/\e47.values.take k=e52.values.take k)->Lm aB e47.values/\Br ((k:Int)<(e47.values.length:Int)) (0<=(k:Int)/\Em aB e47.values k fun e87=>0<=(k:Int)/\Em aB e52.values k fun e92=>dC e87 e92/\Nb ((aZ e87 e92)=0) ((false)=(decide (a=b))/\True) (dO ((k:Int)+1)/\ ∃(k' :Nat),((k:Int)+1)=(k' :Int)/\(k' <=e47.values.length/\e47.values.take k' =e52.values.take k')/\e47.values.length - k' <e47.values.length - k)) (dO ((i:Int)+1)/\ ∃(i' :Nat),((i:Int)+1)=(i' :Int)/\(i' <=a.groups.length/\a.groups.take i' =b.groups.take i')/\a.groups.length - i' <a.groups.length - i)))))) ((true)=(decide (a=b))/\True))))))) (by kernel_rfl) ?_;refine lx fun n0=>lx fun n1=>?_;refine dm (fun g14=>?_) fun g14=>?_
 ·apply et1
  ·(rw[dP];simp_all [lW];done)
 ·refine dn (fun g21=>?_) fun g21=>?_
  ·apply et1
   ·(rw[dP];simp_all [lW];done)
  ·refine dn (fun g28=>?_) fun g28=>?_
   ·apply et1
    ·(rw[dP];simp_all [lW];done)
   ·refine⟨aBS _,aBS _,dn (fun c0=>?_) fun c0=>?_⟩
    ·have hne: ¬a=b:=fun e=>c0 (by rw[e]);apply et1
     ·(simp[hne];done)
    ·have hl:a.groups.length=b.groups.length:=by omega
     refine⟨⟨0,rfl,aB2 _,rfl⟩,fun i ⟨hi,ht⟩=>?_⟩;refine⟨aBS _,dd (fun c1=>?_) fun c1=>?_⟩
     ·refine⟨by omega,rfl,by omega,fun e47 h47=>?_⟩;have q1:=eO h47;have q2:aT a=a.name.size+cD a.groups:=rfl;have q3:aR e47=bY e47.columns+aX e47.values+bY e47.counts:=rfl;have q4:=cI e47.values;refine⟨by omega,rfl,by omega,fun e52 h52=>?_⟩;refine⟨eR _ _,dn (fun g60=>?_) fun g60=>?_⟩
      ·have hne: ¬a=b:=fun e=>by subst e;have q:=bF h47 h52;subst q;exact g60 (cR.2 rfl)
       apply et1
       ·(simp[hne];done)
      ·refine⟨eR _ _,dn (fun g68=>?_) fun g68=>?_⟩
       ·have hne: ¬a=b:=fun e=>by subst e;have q:=bF h47 h52;subst q;exact g68 (cR.2 rfl)
        apply et1
        ·(simp[hne];done)
       ·refine⟨aBS _,aBS _,dn (fun c2=>?_) fun c2=>?_⟩
        ·have hne: ¬a=b:=fun e=>by subst e;have q:=bF h47 h52;subst q;exact c2 rfl
         apply et1
         ·(simp[hne];done)
        ·refine⟨⟨0,rfl,aB2 _,rfl⟩,fun k ⟨hk,hv⟩=>?_⟩;refine⟨aBS _,dd (fun c3=>?_) fun c3=>?_⟩
         ·refine⟨by omega,rfl,by omega,fun e87 h87=>?_⟩;refine⟨by omega,rfl,by omega,fun e92 h92=>?_⟩;refine⟨eR _ _,dn (fun c4=>?_) fun c4=>?_⟩
          ·have hne: ¬a=b:=fun e=>by subst e;have q:=bF h47 h52;subst q;have q:=bF h87 h92;subst q;exact c4 (cR.2 rfl)
           apply et1
           ·(simp[hne];done)
          ·refine⟨⟨by omega,by omega⟩,?_⟩;exact⟨k+1,rfl,⟨by omega,lC h87 (by rw[h92,cR.1 c4]) hv⟩,by omega⟩
         ·have hxy:e52=e47:=(aMO (cR.1 g60) (lD (by omega) (by omega) hv) (cR.1 g68)).symm;refine⟨⟨by omega,by omega⟩,?_⟩;exact⟨i+1,rfl,⟨by omega,lC h47 (by rw[h52,hxy]) ht⟩,by omega⟩
     ·have hg:=lD (by omega) hl ht;apply et1
      ·(rw[dP];simp_all [lW];done)
abbrev lG (n:Int)(a:Int)(b:Int):Prop:=Cn 73 [.one (.int .i64 n),.one (.int .i64 a),.one (.int .i64 b)] (vB (kP n a b)) []
theorem vP (n a b:Int):lG n a b:=by
 refine cq Tryz.func73 (.br (.fin []) (.fin [])) (p:=Br (a<=n) ((decide (n<=b))=(kP n a b)/\True) ((false)=(kP n a b)/\True)) (by kernel_rfl) ?_;refine dd (fun g10=>?_) fun g10=>?_
 ·apply et1
  ·(simp[kP,g10];done)
 ·apply et1
  ·(simp[kP,g10];done)
abbrev lH (n:Int)(a:Int)(b:Int):Prop:=Cn 45 [.one (.int .i64 n),.one (.int .i64 a),.one (.int .i64 b)] (vB (kP n a b)) []
theorem vQ (n a b:Int):lH n a b:=by
 refine cq Tryz.func45 (.br (.fin []) (.fin [])) (p:=Br (a<=n) ((decide (n<=b))=(kP n a b)/\True) ((false)=(kP n a b)/\True)) (by kernel_rfl) ?_;refine dd (fun g10=>?_) fun g10=>?_
 ·apply et1
  ·(simp[kP,g10];done)
 ·apply et1
  ·(simp[kP,g10];done)
def vR (v:Int):Bool:=kP v 0 9
def dM (n:Int)(r:List Int):Bool:=r.all vR&&decide ((r.length:Int)=n)
def dX (s:ByteArray):Bool:=decide ((s.size:Int)=1)&&(decide (97<=oX s 0)&&decide (oX s 0<=122))
abbrev tQ (r:List Int)(n:Int):Prop:=Cn 71 [.one (.sl 3 1 (r.map aE)),.one (.int .i64 n)] (vB (dM n r)) []
theorem aEW (r:List Int)(n:Int):tQ r n:=by
 refine cq Tryz.func71 (.len r.length<| .loop Nat (Q1 Nat) ([6]++rg 9 8) [] (fun k=>[(9,vI (k:Int))]) (fun k=>[]) (fun k=>k<=r.length/\(r.take k).all vR=true) (fun k=>r.length - k) (fun k=> .br (.elem _ aE r (fun e11=> .call (vB (kP e11 (0:Int) (9:Int))) []<| .br (.fin []) (.back []))) (.len r.length<| .fin []))) (p:=Lx (r.map aE)<| Lm aE r/\((∃(k:Nat),0=(k:Int)/\k<=r.length/\(r.take k).all vR=true)/\ ∀(k:Nat),(k<=r.length/\(r.take k).all vR=true)->Br ((k:Int)<(r.length:Int)) (0<=(k:Int)/\Em aE r k fun e11=>lG e11 (0:Int) (9:Int)/\Nr (kP e11 (0:Int) (9:Int)) ((false)=(dM n r)/\True) (dO ((k:Int)+1)/\ ∃(k' :Nat),((k:Int)+1)=(k' :Int)/\(k' <=r.length/\(r.take k').all vR=true)/\r.length - k' <r.length - k)) (Lm aE r/\(decide ((r.length:Int)=n))=(dM n r)/\True))) (by kernel_rfl) ?_;refine lx fun n0=>?_;refine⟨aBS _,⟨0,rfl,aB2 _,rfl⟩,fun k ⟨hk,ha⟩=>?_⟩;refine dd (fun c0=>?_) fun c0=>?_
 ·refine⟨by omega,rfl,by omega,fun e11 h11=>?_⟩;refine⟨vP _ _ _,dm (fun c1=>?_) fun c1=>?_⟩
  ·apply et1
   ·(rw[dM,nQ h11 c1];rfl)
  ·refine⟨⟨by omega,by omega⟩,?_⟩;exact⟨k+1,rfl,⟨by omega,hZ h11 ha c1⟩,by omega⟩
 ·refine⟨aBS _,?_,trivial⟩
  ·(rw[dM,fS (by omega) ha];simp)
abbrev tR (r:List Int)(n:Int):Prop:=Cn 46 [.one (.sl 3 1 (r.map aE)),.one (.int .i64 n)] (vB (dM n r)) []
theorem aEX (r:List Int)(n:Int):tR r n:=by
 refine cq Tryz.func46 (.loop Nat (Q1 Nat) (rg 5 13) [] (fun k=>[(5,vI (k:Int))]) (fun k=>[]) (fun k=>k<=r.length/\(r.take k).all vR=true) (fun k=>r.length - k) (fun k=> .len r.length<| .br (.elem _ aE r (fun e14=> .call (vB (kP e14 (0:Int) (9:Int))) []<| .br (.fin []) (.back []))) (.len r.length<| .fin []))) (p:=Lx (r.map aE)<| (∃(k:Nat),0=(k:Int)/\k<=r.length/\(r.take k).all vR=true)/\ ∀(k:Nat),(k<=r.length/\(r.take k).all vR=true)->Lm aE r/\Br ((k:Int)<(r.length:Int)) (0<=(k:Int)/\Em aE r k fun e14=>lH e14 (0:Int) (9:Int)/\Nr (kP e14 (0:Int) (9:Int)) ((false)=(dM n r)/\True) (dO ((k:Int)+1)/\ ∃(k' :Nat),((k:Int)+1)=(k' :Int)/\(k' <=r.length/\(r.take k').all vR=true)/\r.length - k' <r.length - k)) (Lm aE r/\(decide ((r.length:Int)=n))=(dM n r)/\True)) (by kernel_rfl) ?_;refine lx fun n0=>?_;refine⟨⟨0,rfl,aB2 _,rfl⟩,fun k ⟨hk,ha⟩=>?_⟩;refine⟨aBS _,dd (fun c0=>?_) fun c0=>?_⟩
 ·refine⟨by omega,rfl,by omega,fun e14 h14=>?_⟩;refine⟨vQ _ _ _,dm (fun c1=>?_) fun c1=>?_⟩
  ·apply et1
   ·(rw[dM,nQ h14 c1];rfl)
  ·refine⟨⟨by omega,by omega⟩,?_⟩;exact⟨k+1,rfl,⟨by omega,hZ h14 ha c1⟩,by omega⟩
 ·refine⟨aBS _,?_,trivial⟩
  ·(rw[dM,fS (by omega) ha];simp)
abbrev yK (s:ByteArray):Prop:=Cn 72 [.one (.str s)] (vB (dX s)) []
theorem aHV (s:ByteArray):yK s:=by
 refine cq Tryz.func72 (.br (.lit<| .lit<| .lit<| .br (.fin []) (.fin [])) (.fin [])) (p:=Br ((s.size:Int)=1) (0<=(0:Int)/\0<(s.size:Int)/\Br (97<=(oX s 0)) (0<=(0:Int)/\0<(s.size:Int)/\(decide ((oX s 0)<=122))=(dX s)/\True) ((false)=(dX s)/\True)) ((false)=(dX s)/\True)) (by kernel_rfl) ?_;refine dd (fun g6=>?_) fun g6=>?_
 ·refine⟨by omega,by omega,dd (fun g11=>?_) fun g11=>?_⟩
  ·refine⟨by omega,by omega,?_,trivial⟩
   ·(simp[dX,g6,g11];done)
  ·apply et1
   ·(simp[dX,g6,g11];done)
 ·apply et1
  ·(simp[dX,g6];done)
abbrev yL (s:ByteArray):Prop:=Cn 44 [.one (.str s)] (vB (dX s)) []
theorem aHW (s:ByteArray):yL s:=by
 refine cq Tryz.func44 (.br (.lit<| .lit<| .lit<| .br (.fin []) (.fin [])) (.fin [])) (p:=Br ((s.size:Int)=1) (0<=(0:Int)/\0<(s.size:Int)/\Br (97<=(oX s 0)) (0<=(0:Int)/\0<(s.size:Int)/\(decide ((oX s 0)<=122))=(dX s)/\True) ((false)=(dX s)/\True)) ((false)=(dX s)/\True)) (by kernel_rfl) ?_;refine dd (fun g6=>?_) fun g6=>?_
 ·refine⟨by omega,by omega,dd (fun g11=>?_) fun g11=>?_⟩
  ·refine⟨by omega,by omega,?_,trivial⟩
   ·(simp[dX,g6,g11];done)
  ·apply et1
   ·(simp[dX,g6,g11];done)
 ·apply et1
  ·(simp[dX,g6];done)
abbrev xP (n:Int):Prop:=Cn 145 [.one (.int .i64 n)] (vB false) []
theorem aG5 (n:Int):xP n:=by
 refine cq Tryz.func145 (.fin []) (p:=(!(decide (n=n)))=false/\True) (by kernel_rfl) ?_;apply et1
 ·simp
def nL (a b:Int):Int:=if a<b then -1 else if b<a then 1 else 0
abbrev aCS (a:Int)(b:Int):Prop:=Cn 131 [.one (.int .i64 a),.one (.int .i64 b)] (vI (nL a b)) []
theorem aKc (a b:Int):aCS a b:=by
 refine cq Tryz.func131 (.call (vB false) []<| .call (vB false) []<| .lit<| .lit<| .br (.fin []) (.br (.fin []) (.fin []))) (p:=xP a/\xP b/\Br (a<b) ((-1:Int)=(nL a b)/\True) (Br (b<a) (1=(nL a b)/\True) (0=(nL a b)/\True))) (by kernel_rfl) ?_;refine⟨aG5 _,aG5 _,dd (fun c3=>?_) fun c3=>?_⟩
 ·apply et1
  ·simp[nL, *];try omega
 ·refine dd (fun c4=>?_) fun c4=>?_
  ·apply et1
   ·simp[nL, *];try omega
  ·apply et1
   ·simp[nL, *];try omega
theorem aCT (a b:Int)(l m:List Int):aZ (a::l) (b::m)=if nL a b=0 then aZ l m else nL a b:=by
 unfold nL;rw[aZ];by_cases h1:a<b
 ·simp[h1]
 by_cases h2:b<a
 ·simp[h1,h2]
 simp[h1,h2]
abbrev aIs (l:List Int)(m:List Int):Prop:=Cn 114 [.one (.sl 3 1 (l.map aE)),.one (.sl 3 1 (m.map aE))] (vI (aZ l m)) []
theorem aNN (l m:List Int):aIs l m:=by
 refine cq Tryz.func114 (.len l.length<| .loop Nat (Q1 Nat) ([5,6,7,8]++rg 11 18++[30]) [] (fun k=>[(11,vI (k:Int))]) (fun k=>[]) (fun k=>(k<=l.length/\k<=m.length)/\aZ (l.drop k) (m.drop k)=aZ l m) (fun k=>l.length - k) (fun k=> .br (.elem _ aE l (fun e14=> .len m.length<| .br (.fin []) (.elem _ aE m (fun e22=> .call (vI (nL e14 e22)) []<| .br (.fin []) (.back []))))) (.len l.length<| .len m.length<| .br (.fin []) (.fin [])))) (p:=Lx (l.map aE)<| Lx (m.map aE)<| Lm aE l/\((∃(k:Nat),0=(k:Int)/\(k<=l.length/\k<=m.length)/\aZ (l.drop k) (m.drop k)=aZ l m)/\ ∀(k:Nat),((k<=l.length/\k<=m.length)/\aZ (l.drop k) (m.drop k)=aZ l m)->Br ((k:Int)<(l.length:Int)) (0<=(k:Int)/\Em aE l k fun e14=>Lm aE m/\Br ((m.length:Int)<=(k:Int)) (1=(aZ l m)/\True) (0<=(k:Int)/\Em aE m k fun e22=>aCS e14 e22/\Nb ((nL e14 e22)=0) ((nL e14 e22)=(aZ l m)/\True) (dO ((k:Int)+1)/\ ∃(k' :Nat),((k:Int)+1)=(k' :Int)/\((k' <=l.length/\k' <=m.length)/\aZ (l.drop k') (m.drop k')=aZ l m)/\l.length - k' <l.length - k))) (Lm aE l/\Lm aE m/\Br ((l.length:Int)<(m.length:Int)) ((-1:Int)=(aZ l m)/\True) (0=(aZ l m)/\True)))) (by kernel_rfl) ?_;refine lx fun n0=>lx fun n1=>?_;refine⟨aBS _,⟨0,rfl,⟨aB2 _,aB2 _⟩,rfl⟩,fun k ⟨hk,hv⟩=>?_⟩;refine dd (fun c0=>?_) fun c0=>?_
 ·obtain⟨x,hx⟩:=cS (l:=l) (k:=k) (by omega);refine⟨by omega,rfl,by omega,fun e14 h14=>?_⟩;obtain rfl:=(bF hx h14).symm;refine⟨aBS _,dd (fun c1=>?_) fun c1=>?_⟩
  ·apply et1
   ·(rw[<-hv,eZ hk (by omega),if_neg (by omega),if_pos (by omega)];done)
  ·obtain⟨y,hy⟩:=cS (l:=m) (k:=k) (by omega);have hd:aZ l m=if nL x y=0 then aZ (l.drop (k+1)) (m.drop (k+1)) else nL x y:=by rw[<-hv,fZ hx,fZ hy,aCT]
   refine⟨by omega,rfl,by omega,fun e22 h22=>?_⟩;obtain rfl:=(bF hy h22).symm;refine⟨aKc _ _,dn (fun c2=>?_) fun c2=>?_⟩
   ·apply et1
    ·(rw[hd,if_neg c2];done)
   ·refine⟨⟨by omega,by omega⟩,?_⟩;exact⟨k+1,rfl,⟨by omega,by rw[hd,if_pos c2]⟩,by omega⟩
 ·refine⟨aBS _,aBS _,dd (fun c3=>?_) fun c3=>?_⟩
  ·apply et1
   ·(rw[<-hv,eZ hk (by omega),if_pos (by omega)];done)
  ·apply et1
   ·(rw[<-hv,eZ hk (by omega),if_neg (by omega),if_neg (by omega)];done)
abbrev qW (l:List Int)(m:List Int):Prop:=Cn 103 [.one (.sl 3 1 (l.map aE)),.one (.sl 3 1 (m.map aE))] (vI (aZ l m)) []
theorem aDR (l m:List Int):qW l m:=by
 refine cq Tryz.func103 (.call (vI (aZ l m)) []<| .fin []) (p:=Lx (l.map aE)<| Lx (m.map aE)<| aIs l m/\(aZ l m)=(aZ l m)/\True) (by kernel_rfl) ?_;refine lx fun n0=>lx fun n1=>?_;refine⟨aNN _ _,?_⟩;exact⟨rfl,trivial⟩
def gC (l:List (List Int))(i:Nat):Bool:=decide (aZ (l.getD i []) (l.getD (i+1) [])<0)
def vS (l:List (List Int)):Bool:=(List.range (l.length - 1)).all (gC l)
def aL (t:aJ):Bool:=t.rows.all (dM t.arity)&&(dX t.name&&(kP t.arity 1 3&&(decide ((t.rows.length:Int)<=8)&&vS t.rows)))
theorem iW {p:Nat->Bool}{k:Nat}(h:(List.range k).all p=true)(hk:p k=true):(List.range (k+1)).all p=true:=by
 rw[List.range_succ,List.all_append,h];simp[hk]
theorem iX {p:Nat->Bool}{n k:Nat}(hk:k<n)(h:p k=false):(List.range n).all p=false:=by
 rw[List.all_eq_false];exact⟨k,aKt.2 hk,by simp[h]⟩
theorem bW {α:Type}{l:List α}{k:Nat}{x y:α}(h:l[k]? =some x):l.getD k y=x:=by simp[aFr,h]
abbrev aAg (l:List (List Int)):Prop:=Cn 74 [.one (.sl 38 1 (l.map aB))] (vB (vS l)) []
theorem aIt (l:List (List Int)):aAg l:=by
 refine cq Tryz.func74 (.loop Nat (Q1 Nat) (rg 3 18) [] (fun k=>[(3,vI ((k:Int)+1))]) (fun k=>[]) (fun k=>(k+1<=l.length\/k=0)/\(List.range k).all (gC l)=true) (fun k=>l.length - k) (fun k=> .len l.length<| .br (.elem _ aB l (fun e13=> .elem _ aB l (fun e17=> .call (vI (aZ e13 e17)) []<| .br (.fin []) (.back [])))) (.fin []))) (p:=Lx (l.map aB)<| (∃(k:Nat),1=((k:Int)+1)/\(k+1<=l.length\/k=0)/\(List.range k).all (gC l)=true)/\ ∀(k:Nat),((k+1<=l.length\/k=0)/\(List.range k).all (gC l)=true)->Lm aB l/\Br (((k:Int)+1)<(l.length:Int)) (dO (((k:Int)+1) - 1)/\0<=(((k:Int)+1) - 1)/\Em aB l ((((k:Int)+1) - 1).toNat) fun e13=>0<=((k:Int)+1)/\Em aB l (k+1) fun e17=>qW e13 e17/\Br (0<=(aZ e13 e17)) ((false)=(vS l)/\True) (dO (((k:Int)+1)+1)/\ ∃(k' :Nat),(((k:Int)+1)+1)=(((k' :Nat):Int)+1)/\((k' +1<=l.length\/k' =0)/\(List.range k').all (gC l)=true)/\l.length - k' <l.length - k)) ((true)=(vS l)/\True)) (by kernel_rfl) ?_;refine lx fun n0=>?_;refine⟨⟨0,rfl,.inr rfl,rfl⟩,fun k ⟨hk,ha⟩=>?_⟩;refine⟨aBS _,dd (fun c0=>?_) fun c0=>?_⟩
 ·refine⟨⟨by omega,by omega⟩,by omega,rfl,by omega,fun e13 h13=>?_⟩;have i13:l[k]? =some e13:=by rw[<-h13];congr 1;omega
  refine⟨by omega,rfl,by omega,fun e17 h17=>?_⟩;refine⟨aDR _ _,dd (fun c1=>?_) fun c1=>?_⟩
  ·have hp:gC l k=false:=by rw[gC,bW i13,bW h17];simp;omega
   apply et1
   ·(rw[vS,iX (by omega) hp];done)
  ·have hp:gC l k=true:=by rw[gC,bW i13,bW h17];simp;omega
   refine⟨⟨by omega,by omega⟩,?_⟩;exact⟨k+1,rfl,⟨by omega,iW ha hp⟩,by omega⟩
 ·apply et1
  ·(rw[vS,show l.length - 1=k by omega,ha];done)
abbrev iY (t:aJ):Prop:=Cn 38 [.agg [.str t.name,.int .i64 t.arity,.sl 38 1 (t.rows.map aB)]] (vB (aL t)) []
theorem oA (t:aJ):iY t:=by
 refine cq Tryz.func38 (.len t.rows.length<| .loop Nat (Q1 Nat) ([4]++rg 8 10) [] (fun k=>[(8,vI (k:Int))]) (fun k=>[]) (fun k=>k<=t.rows.length/\(t.rows.take k).all (dM t.arity)=true) (fun k=>t.rows.length - k) (fun k=> .br (.elem _ aB t.rows (fun e10=> .call (vB (dM t.arity e10)) []<| .br (.fin []) (.back []))) (.call (vB (dX t.name)) []<| .br (.call (vB (kP t.arity (1:Int) (3:Int))) []<| .lit<| .br (.len t.rows.length<| .lit<| .lit<| .br (.call (vB (vS t.rows)) []<| .fin []) (.fin [])) (.fin [])) (.fin [])))) (p:=Lx (t.rows.map aB)<| Lm aB t.rows/\((∃(k:Nat),0=(k:Int)/\k<=t.rows.length/\(t.rows.take k).all (dM t.arity)=true)/\ ∀(k:Nat),(k<=t.rows.length/\(t.rows.take k).all (dM t.arity)=true)->Br ((k:Int)<(t.rows.length:Int)) (0<=(k:Int)/\Em aB t.rows k fun e10=>tQ e10 t.arity/\Nr (dM t.arity e10) ((false)=(aL t)/\True) (dO ((k:Int)+1)/\ ∃(k' :Nat),((k:Int)+1)=(k' :Int)/\(k' <=t.rows.length/\(t.rows.take k').all (dM t.arity)=true)/\t.rows.length - k' <t.rows.length - k)) (yK t.name/\Bb (dX t.name) (lG t.arity (1:Int) (3:Int)/\Bb (kP t.arity (1:Int) (3:Int)) (Lm aB t.rows/\Br ((t.rows.length:Int)<=8) (aAg t.rows/\(vS t.rows)=(aL t)/\True) ((false)=(aL t)/\True)) ((false)=(aL t)/\True)) ((false)=(aL t)/\True)))) (by kernel_rfl) ?_;refine lx fun n0=>?_;refine⟨aBS _,⟨0,rfl,aB2 _,rfl⟩,fun k ⟨hk,ha⟩=>?_⟩;refine dd (fun c0=>?_) fun c0=>?_
 ·refine⟨by omega,rfl,by omega,fun e10 h10=>?_⟩;refine⟨aEW _ _,dm (fun c1=>?_) fun c1=>?_⟩
  ·apply et1
   ·(rw[aL,nQ h10 c1];rfl)
  ·refine⟨⟨by omega,by omega⟩,?_⟩;exact⟨k+1,rfl,⟨by omega,hZ h10 ha c1⟩,by omega⟩
 ·have hall:=fS (by omega) ha;refine⟨aHV _,db (fun g21=>?_) fun g21=>?_⟩
  ·refine⟨vP _ _ _,db (fun g26=>?_) fun g26=>?_⟩
   ·refine⟨aBS _,dd (fun g32=>?_) fun g32=>?_⟩
    ·refine⟨aIt _,?_,trivial⟩
     ·(simp[aL,hall, *];done)
    ·apply et1
     ·(simp[aL,hall, *];done)
   ·apply et1
    ·(simp[aL,hall, *];done)
  ·apply et1
   ·(simp[aL,hall, *];done)
abbrev fW (t:aJ):Prop:=Cn 15 [.agg [.str t.name,.int .i64 t.arity,.sl 38 1 (t.rows.map aB)]] (vB (aL t)) []
theorem lY (t:aJ):fW t:=by
 refine cq Tryz.func15 (.call (vB (dX t.name)) []<| .br (.fin []) (.call (vB (kP t.arity (1:Int) (3:Int))) []<| .lit<| .lit<| .br (.fin []) (.len t.rows.length<| .lit<| .lit<| .br (.fin []) (.loop Nat (Q1 Nat) ([3]++rg 20 35) [] (fun k=>[(3,vI (k:Int))]) (fun k=>[]) (fun k=>k<=t.rows.length/\(t.rows.take k).all (dM t.arity)=true/\(List.range (k - 1)).all (gC t.rows)=true) (fun k=>t.rows.length - k) (fun k=> .len t.rows.length<| .br (.elem _ aB t.rows (fun e30=> .call (vB (dM t.arity e30)) []<| .br (.fin []) (.lit<| .lit<| .br (.elem _ aB t.rows (fun e44=> .elem _ aB t.rows (fun e49=> .call (vI (aZ e44 e49)) []<| .lit<| .lit<| .lit<| .lit<| .br (.fin []) (.back [])))) (.back [])))) (.fin [])))))) (p:=Lx (t.rows.map aB)<| yL t.name/\Nr (dX t.name) ((false)=(aL t)/\True) (lH t.arity (1:Int) (3:Int)/\Nr (kP t.arity (1:Int) (3:Int)) ((false)=(aL t)/\True) (Lm aB t.rows/\Br (8<(t.rows.length:Int)) ((false)=(aL t)/\True) ((∃(k:Nat),0=(k:Int)/\k<=t.rows.length/\(t.rows.take k).all (dM t.arity)=true/\(List.range (k - 1)).all (gC t.rows)=true)/\ ∀(k:Nat),(k<=t.rows.length/\(t.rows.take k).all (dM t.arity)=true/\(List.range (k - 1)).all (gC t.rows)=true)->Lm aB t.rows/\Br ((k:Int)<(t.rows.length:Int)) (0<=(k:Int)/\Em aB t.rows k fun e30=>tR e30 t.arity/\Nr (dM t.arity e30) ((false)=(aL t)/\True) (Br (0<(k:Int)) (dO ((k:Int) - 1)/\0<=((k:Int) - 1)/\Em aB t.rows (((k:Int) - 1).toNat) fun e44=>0<=(k:Int)/\Em aB t.rows k fun e49=>dC e44 e49/\Br (0<=(aZ e44 e49)) ((false)=(aL t)/\True) (dO ((k:Int)+1)/\ ∃(k' :Nat),((k:Int)+1)=(k' :Int)/\(k' <=t.rows.length/\(t.rows.take k').all (dM t.arity)=true/\(List.range (k' - 1)).all (gC t.rows)=true)/\t.rows.length - k' <t.rows.length - k)) (dO ((k:Int)+1)/\ ∃(k' :Nat),((k:Int)+1)=(k' :Int)/\(k' <=t.rows.length/\(t.rows.take k').all (dM t.arity)=true/\(List.range (k' - 1)).all (gC t.rows)=true)/\t.rows.length - k' <t.rows.length - k))) ((true)=(aL t)/\True))))) (by kernel_rfl) ?_;refine lx fun n0=>?_;refine⟨aHW _,dm (fun g8=>?_) fun g8=>?_⟩
 ·apply et1
  ·(simp[aL, *];done)
 ·refine⟨vQ _ _ _,dm (fun g14=>?_) fun g14=>?_⟩
  ·apply et1
   ·(simp[aL, *];done)
  ·refine⟨aBS _,dd (fun c0=>?_) fun c0=>?_⟩
   ·have h8:decide ((t.rows.length:Int)<=8)=false:=by simp;omega
    apply et1
    ·(rw[aL,h8];simp[*];done)
   ·have h8:decide ((t.rows.length:Int)<=8)=true:=by simp;omega
    refine⟨⟨0,rfl,aB2 _,rfl,rfl⟩,fun k ⟨hk,ha,hs⟩=>?_⟩;refine⟨aBS _,dd (fun c1=>?_) fun c1=>?_⟩
    ·refine⟨by omega,rfl,by omega,fun e30 h30=>?_⟩;refine⟨aEX _ _,dm (fun g36=>?_) fun g36=>?_⟩
     ·apply et1
      ·(rw[aL,nQ h30 g36];rfl)
     ·refine dd (fun g39=>?_) fun g39=>?_
      ·refine⟨⟨by omega,by omega⟩,by omega,rfl,by omega,fun e44 h44=>?_⟩;have i44:t.rows[k - 1]? =some e44:=by rw[<-h44];congr 1;omega
       refine⟨by omega,rfl,by omega,fun e49 h49=>?_⟩;refine⟨eR _ _,dd (fun c2=>?_) fun c2=>?_⟩
       ·have hp:gC t.rows (k - 1)=false:=by rw[gC,bW i44,show k - 1+1=k by omega,bW h49];simp;omega
        have hz:vS t.rows=false:=iX (by omega) hp;apply et1
        ·(rw[aL,h8,hz];simp[*];done)
       ·have hp:gC t.rows (k - 1)=true:=by rw[gC,bW i44,show k - 1+1=k by omega,bW h49];simp;omega
        have hs2:(List.range (k+1 - 1)).all (gC t.rows)=true:=by rw[show k+1 - 1=(k - 1)+1 by omega];exact iW hs hp
        refine⟨⟨by omega,by omega⟩,?_⟩;exact⟨k+1,rfl,⟨by omega,hZ h30 ha g36,hs2⟩,by omega⟩
      ·have hs2:(List.range (k+1 - 1)).all (gC t.rows)=true:=by rw[show k=0 by omega];rfl
       refine⟨⟨by omega,by omega⟩,?_⟩;exact⟨k+1,rfl,⟨by omega,hZ h30 ha g36,hs2⟩,by omega⟩
    ·have hall:=fS (by omega) ha;have hz:vS t.rows=true:=by rw[vS,show t.rows.length - 1=k - 1 by omega,hs]
     apply et1
     ·(rw[aL,h8,hz];simp[*];done)
def aIu (n:Int)(cols:List Int):Bool:=cols.all fun c=>kP c 0 (n - 1)
def qX (r:List Int)(c:Int):Int:=r.getD c.toNat 0
def fR (r cols:List Int):List Int × Bool:=if aIu r.length cols=true then (cols.map (qX r),true) else ([],false)
theorem vT {r cols:List Int}(h:cols.all (fun c=>kP c 0 ((r.length:Int) - 1))=true):fR r cols=(cols.map (qX r),true):=by rw[fR,if_pos (show aIu _ _=true from h)]
theorem aG6 {r cols:List Int}(h:cols.all (fun c=>kP c 0 ((r.length:Int) - 1))=false):fR r cols=([],false):=by rw[fR,if_neg (by rw[show aIu _ _=false from h];decide)]
theorem aEY {r:List Int}{c x:Int}(h:r[c.toNat]? =some x):qX r c=x:=bW h
theorem aAh (r cols:List Int):(fR r cols).1.length<=cols.length:=by
 unfold fR;split<;>simp
def eS (b:Int)(cols:List Int)(i:Nat):Bool:=kP (cols.getD i 0) 0 b&&(decide (i=0) || decide (cols.getD (i - 1) 0<cols.getD i 0))
def cO (b:Int)(cols:List Int):Bool:=(List.range cols.length).all (eS b cols)
abbrev tS (r:List Int)(cols:List Int):AV × List (Nat × Rs):=(.tup [.own 0,vB ((fR r cols).2)],[(0,.arr 3 1 true ((fR r cols).1.map aE))])
abbrev aAi (r:List Int)(cols:List Int):Prop:=Cn 77 [.one (.sl 3 1 (r.map aE)),.one (.sl 3 1 (cols.map aE))] (tS r cols).1 (tS r cols).2
theorem aIv (r cols:List Int)(hl:cols.length<=1048576):aAi r cols:=by
 refine cq Tryz.func77 (.len cols.length<| .loop (Nat × (List Int)) (Q2 Nat (List Int)) ([6,8,9]++rg 12 18) [900,2700,2800] (fun yy0=>[(12,vI (yy0.1:Int)),(6,.own 900)]) (fun yy0=>[(900,some (.arr 3 1 true (yy0.2.map aE)))]) (fun yy0=>yy0.1<=cols.length/\yy0.2=(cols.take yy0.1).map (qX r)/\(cols.take yy0.1).all (fun c=>kP c 0 ((r.length:Int) - 1))=true) (fun yy0=>cols.length - yy0.1) (fun yy0=> .br (.elem _ aE cols (fun e14=> .len r.length<| .call (vB (kP e14 (0:Int) ((r.length:Int) - 1))) []<| .br (.fin []) (.elem _ aE r (fun e25=> .app Int aE yy0.2 ([e25]:List Int)<| .back [(900,2800)])))) (.fin [(0,900)]))) (p:=Lx (r.map aE)<| Lx (cols.map aE)<| Lm aE cols/\((∃(k:Nat) (out:List Int),0=(k:Int)/\[]=out.map aE/\k<=cols.length/\out=(cols.take k).map (qX r)/\(cols.take k).all (fun c=>kP c 0 ((r.length:Int) - 1))=true)/\ ∀(k:Nat) (out:List Int),(k<=cols.length/\out=(cols.take k).map (qX r)/\(cols.take k).all (fun c=>kP c 0 ((r.length:Int) - 1))=true)->Br ((k:Int)<(cols.length:Int)) (0<=(k:Int)/\Em aE cols k fun e14=>Lm aE r/\dO ((r.length:Int) - 1)/\lG e14 (0:Int) ((r.length:Int) - 1)/\Nr (kP e14 (0:Int) ((r.length:Int) - 1)) ((false)=((fR r cols).2)/\[]=(fR r cols).1.map aE/\True) (0<=e14/\Em aE r ((e14).toNat) fun e25=>Ap aE out ([e25]:List Int) 8 (dO ((k:Int)+1)/\ ∃(k' :Nat) (out' :List Int),((k:Int)+1)=(k' :Int)/\(out++[e25]).map aE=out'.map aE/\(k' <=cols.length/\out' =(cols.take k').map (qX r)/\(cols.take k').all (fun c=>kP c 0 ((r.length:Int) - 1))=true)/\cols.length - k' <cols.length - k))) ((true)=((fR r cols).2)/\out.map aE=(fR r cols).1.map aE/\True))) (by kernel_rfl) ?_;refine lx fun n0=>lx fun n1=>?_;refine⟨aBS _,⟨0,([]:List Int),rfl,rfl,aB2 _,rfl,rfl⟩,fun k out ⟨hk,ho,ha⟩=>?_⟩;refine dd (fun c0=>?_) fun c0=>?_
 ·refine⟨by omega,rfl,by omega,fun e14 h14=>?_⟩;refine⟨aBS _,⟨by omega,by omega⟩,vP _ _ _,dm (fun c1=>?_) fun c1=>?_⟩
  ·apply et2<;>((rw[aG6 (nQ h14 c1)]<;>rfl))
  ·have hb:=pS c1;refine⟨by omega,rfl,by omega,fun e25 h25=>?_⟩;refine ap ?_ (fun _=>rfl) (by simp[ho];omega);refine⟨⟨by omega,by omega⟩,?_⟩;exact⟨k+1,_,rfl,rfl,⟨by omega,by rw[ho,bR h14,aHr,aHl,List.map_nil,aEY h25],hZ h14 ha c1⟩,by omega⟩
 ·apply et2<;>(first|(rw[vT (fS (by omega) ha),ho,aE4 (by omega)]<;>rfl)|(rw[vT (fS (by omega) ha)]<;>rfl))
abbrev pB (r:List Int)(cols:List Int):AV × List (Nat × Rs):=(.tup [.own 0,vB ((fR r cols).2)],[(0,.arr 3 1 true ((fR r cols).1.map aE))])
abbrev tT (r:List Int)(cols:List Int):Prop:=Cn 82 [.one (.sl 3 1 (r.map aE)),.one (.sl 3 1 (cols.map aE))] (pB r cols).1 (pB r cols).2
theorem aEZ (r cols:List Int)(hl:cols.length<=1048576):tT r cols:=by
 refine cq Tryz.func82 (.loop (Nat × (List Int)) (Q2 Nat (List Int)) (rg 6 18++rg 25 10) [800,3300,3400] (fun yy0=>[(7,vI (yy0.1:Int)),(6,.own 800)]) (fun yy0=>[(800,some (.arr 3 1 true (yy0.2.map aE)))]) (fun yy0=>yy0.1<=cols.length/\yy0.2=(cols.take yy0.1).map (qX r)/\(cols.take yy0.1).all (fun c=>kP c 0 ((r.length:Int) - 1))=true) (fun yy0=>cols.length - yy0.1) (fun yy0=> .len cols.length<| .br (.elem _ aE cols (fun e17=> .len r.length<| .call (vB (kP e17 (0:Int) ((r.length:Int) - 1))) []<| .br (.fin [(0,2400)]) (.elem _ aE cols (fun e29=> .elem _ aE r (fun e31=> .app Int aE yy0.2 ([e31]:List Int)<| .back [(800,3400)]))))) (.fin [(0,800)]))) (p:=Lx (r.map aE)<| Lx (cols.map aE)<| (∃(k:Nat) (out:List Int),0=(k:Int)/\[]=out.map aE/\k<=cols.length/\out=(cols.take k).map (qX r)/\(cols.take k).all (fun c=>kP c 0 ((r.length:Int) - 1))=true)/\ ∀(k:Nat) (out:List Int),(k<=cols.length/\out=(cols.take k).map (qX r)/\(cols.take k).all (fun c=>kP c 0 ((r.length:Int) - 1))=true)->Lm aE cols/\Br ((k:Int)<(cols.length:Int)) (0<=(k:Int)/\Em aE cols k fun e17=>Lm aE r/\dO ((r.length:Int) - 1)/\lH e17 (0:Int) ((r.length:Int) - 1)/\Nr (kP e17 (0:Int) ((r.length:Int) - 1)) ((false)=((fR r cols).2)/\[]=(fR r cols).1.map aE/\True) (0<=(k:Int)/\Em aE cols k fun e29=>0<=e29/\Em aE r ((e29).toNat) fun e31=>Ap aE out ([e31]:List Int) 8 (dO ((k:Int)+1)/\ ∃(k' :Nat) (out' :List Int),((k:Int)+1)=(k' :Int)/\(out++[e31]).map aE=out'.map aE/\(k' <=cols.length/\out' =(cols.take k').map (qX r)/\(cols.take k').all (fun c=>kP c 0 ((r.length:Int) - 1))=true)/\cols.length - k' <cols.length - k))) ((true)=((fR r cols).2)/\out.map aE=(fR r cols).1.map aE/\True)) (by kernel_rfl) ?_;refine lx fun n0=>lx fun n1=>?_;refine⟨⟨0,([]:List Int),rfl,rfl,aB2 _,rfl,rfl⟩,fun k out ⟨hk,ho,ha⟩=>?_⟩;refine⟨aBS _,dd (fun c0=>?_) fun c0=>?_⟩
 ·refine⟨by omega,rfl,by omega,fun e17 h17=>?_⟩;refine⟨aBS _,⟨by omega,by omega⟩,vQ _ _ _,dm (fun c1=>?_) fun c1=>?_⟩
  ·apply et2<;>((rw[aG6 (nQ h17 c1)]<;>rfl))
  ·have hb:=pS c1;refine⟨by omega,rfl,by omega,fun e29 h29=>?_⟩;obtain rfl:=(bF h17 h29).symm;refine⟨by omega,rfl,by omega,fun e31 h31=>?_⟩;refine ap ?_ (fun _=>rfl) (by simp[ho];omega);refine⟨⟨by omega,by omega⟩,?_⟩;exact⟨k+1,_,rfl,rfl,⟨by omega,by rw[ho,bR h17,aHr,aHl,List.map_nil,aEY h31],hZ h17 ha c1⟩,by omega⟩
 ·apply et2<;>(first|(rw[vT (fS (by omega) ha),ho,aE4 (by omega)]<;>rfl)|(rw[vT (fS (by omega) ha)]<;>rfl))
abbrev yM (cols:List Int)(a:Int):Prop:=Cn 76 [.one (.sl 3 1 (cols.map aE)),.one (.int .i64 a)] (vB (cO (a - 1) cols)) []
theorem aHX (cols:List Int)(a:Int)(ha:1<=a/\a<=3):yM cols a:=by
 refine cq Tryz.func76 (.len cols.length<| .loop Nat (Q1 Nat) ([5,6]++rg 9 24) [] (fun k=>[(9,vI (k:Int))]) (fun k=>[]) (fun k=>k<=cols.length/\(List.range k).all (eS (a - 1) cols)=true) (fun k=>cols.length - k) (fun k=> .br (.elem _ aE cols (fun e12=> .call (vB (kP e12 (0:Int) (a - 1))) []<| .br (.fin []) (.lit<| .lit<| .br (.elem _ aE cols (fun e26=> .lit<| .lit<| .lit<| .lit<| .lit<| .lit<| .br (.fin []) (.back []))) (.back [])))) (.fin []))) (p:=Lx (cols.map aE)<| Lm aE cols/\((∃(k:Nat),0=(k:Int)/\k<=cols.length/\(List.range k).all (eS (a - 1) cols)=true)/\ ∀(k:Nat),(k<=cols.length/\(List.range k).all (eS (a - 1) cols)=true)->Br ((k:Int)<(cols.length:Int)) (0<=(k:Int)/\Em aE cols k fun e12=>dO (a - 1)/\lG e12 (0:Int) (a - 1)/\Nr (kP e12 (0:Int) (a - 1)) ((false)=(cO (a - 1) cols)/\True) (Br (0<(k:Int)) (dO ((k:Int) - 1)/\0<=((k:Int) - 1)/\Em aE cols (((k:Int) - 1).toNat) fun e26=>Br (e12<=e26) ((false)=(cO (a - 1) cols)/\True) (dO ((k:Int)+1)/\ ∃(k' :Nat),((k:Int)+1)=(k' :Int)/\(k' <=cols.length/\(List.range k').all (eS (a - 1) cols)=true)/\cols.length - k' <cols.length - k)) (dO ((k:Int)+1)/\ ∃(k' :Nat),((k:Int)+1)=(k' :Int)/\(k' <=cols.length/\(List.range k').all (eS (a - 1) cols)=true)/\cols.length - k' <cols.length - k))) ((true)=(cO (a - 1) cols)/\True))) (by kernel_rfl) ?_;refine lx fun n0=>?_;refine⟨aBS _,⟨0,rfl,aB2 _,rfl⟩,fun k ⟨hk,hv⟩=>?_⟩;refine dd (fun c0=>?_) fun c0=>?_
 ·refine⟨by omega,rfl,by omega,fun e12 h12=>?_⟩;refine⟨⟨by omega,by omega⟩,vP _ _ _,dm (fun g19=>?_) fun g19=>?_⟩
  ·have hp:eS (a - 1) cols k=false:=by rw[eS,bW h12,g19];rfl
   apply et1
   ·(rw[cO,iX (by omega) hp];done)
  ·refine dd (fun g22=>?_) fun g22=>?_
   ·refine⟨⟨by omega,by omega⟩,by omega,rfl,by omega,fun e26 h26=>?_⟩;have i26:cols[k - 1]? =some e26:=by rw[<-h26];congr 1;omega
    refine dd (fun c1=>?_) fun c1=>?_
    ·have hp:eS (a - 1) cols k=false:=by rw[eS,bW h12,bW i26,show decide (e26<e12)=false by simp;omega,show decide (k=0)=false by simp;omega];simp
     apply et1
     ·(rw[cO,iX (by omega) hp];done)
    ·have hp:eS (a - 1) cols k=true:=by rw[eS,bW h12,g19,bW i26,show decide (e26<e12)=true by simp;omega];simp
     refine⟨⟨by omega,by omega⟩,?_⟩;exact⟨k+1,rfl,⟨by omega,iW hv hp⟩,by omega⟩
   ·have hp:eS (a - 1) cols k=true:=by rw[eS,bW h12,g19,show decide (k=0)=true by simp;omega];rfl
    refine⟨⟨by omega,by omega⟩,?_⟩;exact⟨k+1,rfl,⟨by omega,iW hv hp⟩,by omega⟩
 ·apply et1
  ·(rw[cO,show cols.length=k by omega,hv];done)
theorem bJ {t:aJ}(h:aL t=true):1<=t.arity/\t.arity<=3/\t.rows.length<=8:=by
 simp only[aL,aBT,aMX] at h;have:=pS h.2.2.1;omega
theorem aAj {t:aJ}(h:aL t=true):IntKind.i64.wrap (t.arity - 1)=t.arity - 1:=by
 have:=bJ h;exact IntWalk.i64_in _ ⟨by omega,by omega⟩
theorem aIw {t:aJ}{cols:List Int}(h:cO (IntKind.i64.wrap (t.arity - 1)) cols=false):(aL t&&cO (t.arity - 1) cols)=false:=by
 cases e:aL t with
 | false=>rfl
 | true=>rw[aAj e] at h;rw[h];rfl
theorem aKd {t:aJ}{cols:List Int}(h:cO (IntKind.i64.wrap (t.arity - 1)) cols=true):(aL t&&cO (t.arity - 1) cols)=aL t:=by
 cases e:aL t with
 | false=>rfl
 | true=>rw[aAj e] at h;rw[h];rfl
abbrev yN (t:aJ)(cols:List Int):Prop:=Cn 81 [.agg [.str t.name,.int .i64 t.arity,.sl 38 1 (t.rows.map aB)],.one (.sl 3 1 (cols.map aE))] (vB (aL t&&cO (t.arity - 1) cols)) []
theorem aHY (t:aJ)(cols:List Int):yN t cols:=by
 refine cq Tryz.func81 (.loop Nat (Q1 Nat) (rg 5 32) [] (fun k=>[(5,vI (k:Int))]) (fun k=>[]) (fun k=>k<=cols.length/\(List.range k).all (eS (IntKind.i64.wrap (t.arity - 1)) cols)=true) (fun k=>cols.length - k) (fun k=> .len cols.length<| .br (.elem _ aE cols (fun e14=> .raw<| .call (vB (kP e14 (0:Int) (IntKind.i64.wrap (t.arity - 1)))) []<| .br (.fin []) (.lit<| .lit<| .br (.elem _ aE cols (fun e28=> .elem _ aE cols (fun e32=> .lit<| .lit<| .lit<| .lit<| .lit<| .br (.fin []) (.back [])))) (.back [])))) (.call (vB (aL t)) []<| .fin []))) (p:=Lx (t.rows.map aB)<| Lx (cols.map aE)<| (∃(k:Nat),0=(k:Int)/\k<=cols.length/\(List.range k).all (eS (IntKind.i64.wrap (t.arity - 1)) cols)=true)/\ ∀(k:Nat),(k<=cols.length/\(List.range k).all (eS (IntKind.i64.wrap (t.arity - 1)) cols)=true)->Lm aE cols/\Br ((k:Int)<(cols.length:Int)) (0<=(k:Int)/\Em aE cols k fun e14=>lH e14 (0:Int) (IntKind.i64.wrap (t.arity - 1))/\Nr (kP e14 (0:Int) (IntKind.i64.wrap (t.arity - 1))) ((false)=(aL t&&cO (t.arity - 1) cols)/\True) (Br (0<(k:Int)) (dO ((k:Int) - 1)/\0<=((k:Int) - 1)/\Em aE cols (((k:Int) - 1).toNat) fun e28=>0<=(k:Int)/\Em aE cols k fun e32=>Br (e32<=e28) ((false)=(aL t&&cO (t.arity - 1) cols)/\True) (dO ((k:Int)+1)/\ ∃(k' :Nat),((k:Int)+1)=(k' :Int)/\(k' <=cols.length/\(List.range k').all (eS (IntKind.i64.wrap (t.arity - 1)) cols)=true)/\cols.length - k' <cols.length - k)) (dO ((k:Int)+1)/\ ∃(k' :Nat),((k:Int)+1)=(k' :Int)/\(k' <=cols.length/\(List.range k').all (eS (IntKind.i64.wrap (t.arity - 1)) cols)=true)/\cols.length - k' <cols.length - k))) (fW t/\(aL t)=(aL t&&cO (t.arity - 1) cols)/\True)) (by kernel_rfl) ?_;refine lx fun n0=>lx fun n1=>?_;refine⟨⟨0,rfl,aB2 _,rfl⟩,fun k ⟨hk,hv⟩=>?_⟩;refine⟨aBS _,dd (fun c0=>?_) fun c0=>?_⟩
 ·refine⟨by omega,rfl,by omega,fun e14 h14=>?_⟩;refine⟨vQ _ _ _,dm (fun g21=>?_) fun g21=>?_⟩
  ·have hp:eS (IntKind.i64.wrap (t.arity - 1)) cols k=false:=by rw[eS,bW h14,g21];rfl
   apply et1
   ·(rw[aIw (by rw[cO,iX (by omega) hp])];done)
  ·refine dd (fun g24=>?_) fun g24=>?_
   ·refine⟨⟨by omega,by omega⟩,by omega,rfl,by omega,fun e28 h28=>?_⟩;have i28:cols[k - 1]? =some e28:=by rw[<-h28];congr 1;omega
    refine⟨by omega,rfl,by omega,fun e32 h32=>?_⟩;obtain rfl:=(bF h14 h32).symm;refine dd (fun c1=>?_) fun c1=>?_
    ·have hp:eS (IntKind.i64.wrap (t.arity - 1)) cols k=false:=by rw[eS,bW h14,bW i28,show decide (e28<e14)=false by simp;omega,show decide (k=0)=false by simp;omega];simp
     apply et1
     ·(rw[aIw (by rw[cO,iX (by omega) hp])];done)
    ·have hp:eS (IntKind.i64.wrap (t.arity - 1)) cols k=true:=by rw[eS,bW h14,g21,bW i28,show decide (e28<e14)=true by simp;omega];simp
     refine⟨⟨by omega,by omega⟩,?_⟩;exact⟨k+1,rfl,⟨by omega,iW hv hp⟩,by omega⟩
   ·have hp:eS (IntKind.i64.wrap (t.arity - 1)) cols k=true:=by rw[eS,bW h14,g21,show decide (k=0)=true by simp;omega];rfl
    refine⟨⟨by omega,by omega⟩,?_⟩;exact⟨k+1,rfl,⟨by omega,iW hv hp⟩,by omega⟩
 ·refine⟨lY t,?_,trivial⟩
  ·(rw[aKd (by rw[cO,show cols.length=k by omega,hv])];done)
abbrev aCU (l:List Int):AV × List (Nat × Rs):=(.own 0,[(0,.arr 3 1 true (l.map aE))])
abbrev aE0 (l:List Int):Prop:=Cn 84 [.one (.sl 3 1 (l.map aE))] (aCU l).1 (aCU l).2
theorem cpI (l:List Int)(hl:l.length<=1048576):aE0 l:=by
 refine cq Tryz.func84 (.app Int aE ([]:List Int) l<| .fin [(0,500)]) (p:=Lx (l.map aE)<| Ap aE ([]:List Int) l 8 ((([]:List Int)++l).map aE=l.map aE/\True)) (by kernel_rfl) ?_;refine lx fun n0=>?_;refine ap ?_ (fun _=>rfl) (by simp;omega);apply et1
 ·simp
abbrev aCV (l:List (List Int)):AV × List (Nat × Rs):=(.own 0,[(0,.arr 38 1 true (l.map aB))])
abbrev aE1 (l:List (List Int)):Prop:=Cn 83 [.one (.sl 38 1 (l.map aB))] (aCV l).1 (aCV l).2
theorem cpR (l:List (List Int))(hc:aX l<=1048576):aE1 l:=by
 refine cq Tryz.func83 (.len l.length<| .loop (Nat × (List (List Int))) (Q2 Nat (List (List Int))) ([3,5,6]++rg 9 10) [600,1500,1600,1700] (fun yy0=>[(3,.own 600),(9,vI (yy0.1:Int))]) (fun yy0=>[(600,some (.arr 38 1 true (yy0.2.map aB)))]) (fun yy0=>yy0.1<=l.length/\yy0.2=l.take yy0.1) (fun yy0=>l.length - yy0.1) (fun yy0=> .br (.elem _ aB l (fun e11=>bC (aCU e11)<| .appx (List Int) aB yy0.2 e11<| .back [(600,1700)])) (.fin [(0,600)]))) (p:=Lx (l.map aB)<| Lm aB l/\((∃(k:Nat) (out:List (List Int)),0=(k:Int)/\[]=out.map aB/\k<=l.length/\out=l.take k)/\ ∀(k:Nat) (out:List (List Int)),(k<=l.length/\out=l.take k)->Br ((k:Int)<(l.length:Int)) (0<=(k:Int)/\Em aB l k fun e11=>aE0 e11/\out.map aB=out.map aB/\e11.map aE=e11.map aE/\(out.length+1)*24<=140737488355328/\dO ((k:Int)+1)/\ ∃(k' :Nat) (out' :List (List Int)),((k:Int)+1)=(k' :Int)/\(out++[e11]).map aB=out'.map aB/\(k' <=l.length/\out' =l.take k')/\l.length - k' <l.length - k) (out.map aB=l.map aB/\True))) (by kernel_rfl) ?_;refine lx fun n0=>?_;have hlen:=cI l;refine⟨aBS _,⟨0,([]:List (List Int)),rfl,rfl,aB2 _,rfl⟩,fun k out ⟨hk,ho⟩=>?_⟩;refine dd (fun c0=>?_) fun c0=>?_
 ·refine⟨by omega,rfl,by omega,fun e11 h11=>?_⟩;have h5:e11.length<=1048576:=by have:=aCR h11;have:bY e11=e11.length:=rfl;omega
  refine⟨cpI _ (by omega),rfl,rfl,by simp[ho];have:=cI l;omega,⟨by omega,by omega⟩,?_⟩;exact⟨k+1,out++[e11],rfl,rfl,⟨by omega,by rw[ho,bR h11]⟩,by omega⟩
 ·apply et1
  ·rw[ho,aE4 (by omega)]
end Go.Proofs.YtgamjlgfnmpcjaaGreatDoor
namespace Go.Proofs.YtgamjlgfnmpcjaaGreatDoor
open Go.ChangeShapes Go.WideShapes Go.ChangeAt Go.RowKit
set_option linter.unusedVariables false
set_option linter.unusedSimpArgs false
theorem aKe (x:Int)(w:World):Calls Tryz.prog 145 #[.int .i64 x] w fun e w' =>e= .returned (.bool false)/\w' =w:=by
 go_enter Tryz.func145,Tryz.ntmps145
 go_wp2
 go_ret
 exact⟨by simp,rfl⟩
theorem aE2 (x y:Int)(w:World):Calls Tryz.prog 131 #[.int .i64 x,.int .i64 y] w fun e w' =>e= .returned (.int .i64 (nL x y))/\w' =w:=by
 go_enter Tryz.func131,Tryz.ntmps131
 go_wp2_with (go_at_call 145;refine(aKe _ _).mono ?_;rintro e w' ⟨rfl,hw⟩;rw[hw])
 all_goals (go_ret;refine⟨?_,rfl⟩;unfold nL;(repeat' split)<;>first|rfl|(exfalso;omega))
def qY (w:World)(a:Option Addr)(l:List Int):Prop:= ∀j x,l[j]? =some x-> ∃b o,a=some ⟨b,o,none⟩/\w.cell? ⟨b,o+j,none⟩=some (.int .i64 x)
set_option maxHeartbeats 1000000 in
theorem aE3 (a1 a2:Option Addr)(c1 c2:Nat)(l m:List Int)(w:World)(hl:l.length<=9223372036854775807)(hm:m.length<=9223372036854775807)(h1:qY w a1 l)(h2:qY w a2 m):
 Calls Tryz.prog 114 #[.slice a1 l.length c1,.slice a2 m.length c2] w fun e w' =>e= .returned (.int .i64 (aZ l m))/\w' =w:=by
 have H1:=Lib.hid h1;have H2:=Lib.hid h2
 clear h1 h2
 go_enter Tryz.func114,Tryz.ntmps114
 go_wp2
 go_loop [5,6,7,8,11] (fun _ _ _ _ s=> ∃k:Nat,s= .int .i64 k/\k<=l.length/\k<=m.length/\aZ (l.drop k) (m.drop k)=aZ l m) (fun _ _ _ _ s=>l.length - (intOf s).toNat)
 case atStart=>exact⟨0,rfl,aB2 _,aB2 _,rfl⟩
 case round=>
  obtain⟨k,rfl,hk,hk2,hv⟩:=hrel;have HV:=Lib.hid hv
  clear hv
  by_cases hlt:k<l.length
  ·obtain⟨x,hx⟩:=cS hlt;obtain⟨b1,o1,rfl,g1⟩:=H1.out k x hx;by_cases hlt2:k<m.length
   ·obtain⟨y,hy⟩:=cS hlt2;obtain⟨b2,o2,rfl,g2⟩:=H2.out k y hy;have HD:=Lib.hid (show aZ l m=if nL x y=0 then aZ (l.drop (k+1)) (m.drop (k+1)) else nL x y by rw[<-HV.out,fZ hx,fZ hy,aCT]);by_cases hc:nL x y=0
    ·have HC:=Lib.hid hc
     clear hc
     go_wp2_with (go_at_call 131;refine(aE2 _ _ _).mono ?_;rintro e w' ⟨rfl,hw⟩;rw[hw,HC.out])
     exact⟨⟨k+1,by simp,by omega,by omega,by rw[HD.out,if_pos HC.out]⟩,by simp[intOf];omega⟩
    have HC:=Lib.hid hc;have hcb:(nL x y !=0)=true:=by simpa using hc
    clear hc
    go_wp2_with (go_at_call 131;refine(aE2 _ _ _).mono ?_;rintro e w' ⟨rfl,hw⟩;rw[hw])
    go_ret
    refine⟨?_,rfl⟩;rw[HD.out,if_neg HC.out];rfl
   have hge:m.length<=k:=by omega
   have HE:=Lib.hid (eZ (l:=l) (m:=m) (k:=k) ⟨hk,hk2⟩ (.inr hlt2))
   go_wp2
   go_ret
   refine⟨?_,rfl⟩;rw[<-HV.out,HE.out,if_neg (by omega),if_pos (by omega)];rfl
  have HE:=Lib.hid (eZ (l:=l) (m:=m) (k:=k) ⟨hk,hk2⟩ (.inl hlt));by_cases hlm:l.length<m.length
  ·go_wp2
   go_ret
   refine⟨?_,rfl⟩;rw[<-HV.out,HE.out,if_pos hlm];rfl
  go_wp2
  go_ret
  refine⟨?_,rfl⟩;rw[<-HV.out,HE.out,if_neg hlm,if_neg (by omega)];rfl
theorem aIx (a1 a2:Option Addr)(c1 c2:Nat)(l m:List Int)(w:World)(hl:l.length<=9223372036854775807)(hm:m.length<=9223372036854775807)(h1:qY w a1 l)(h2:qY w a2 m):
 Calls Tryz.prog 103 #[.slice a1 l.length c1,.slice a2 m.length c2] w fun e w' =>e= .returned (.int .i64 (aZ l m))/\w' =w:=by
 have HC:=Lib.hid (aE3 a1 a2 c1 c2 l m w hl hm h1 h2)
 clear h1 h2
 go_enter Tryz.func103,Tryz.ntmps103
 go_wp2_with (go_at_call 114;refine HC.out.mono ?_;rintro e w' ⟨rfl,hw⟩;rw[hw])
 go_ret
 exact⟨rfl,rfl⟩
end Go.Proofs.YtgamjlgfnmpcjaaGreatDoor
namespace Go.Proofs.YtgamjlgfnmpcjaaGreatDoor
open Go.ChangeShapes Go.WideShapes Go.ChangeAt Go.RowKit
set_option linter.unusedVariables false
set_option linter.unusedSimpArgs false
set_option maxRecDepth 100000
set_option maxHeartbeats 4000000
theorem lI (l:List Int):aZ l l=0:=cR.2 rfl
theorem lJ: ∀{l m:List Int},aZ l m<0↔0<aZ m l
 | [],[]=>by simp[aZ]
 | [],_::_=>by simp[aZ]
 | _::_,[]=>by simp[aZ]
 | a::l,b::m=>by
   simp only[aZ];by_cases h1:a<b
   ·simp[h1,show ¬b<a by omega]
   by_cases h2:b<a
   ·simp[h1,h2]
   simp only[h1,h2,if_false];exact lJ
theorem gS: ∀{l m n:List Int},aZ l m<0->aZ m n<0->aZ l n<0
 | [],[],n,h1,_=>by simp[aZ] at h1
 | [],_::_,[],_,h2=>by simp[aZ] at h2
 | [],_::_,_::_,_,_=>by simp[aZ]
 | _::_,[],n,h1,_=>by simp[aZ] at h1
 | a::l,b::m,[],_,h2=>by simp[aZ] at h2
 | a::l,b::m,c::n,h1,h2=>by
   simp only[aZ] at*;rcases Int.lt_trichotomy a b with ab | ab | ab
   ·rcases Int.lt_trichotomy b c with bc | bc | bc
    ·rw[if_pos (by omega)];decide
    ·subst bc;rw[if_pos ab];decide
    rw[if_neg (by omega),if_pos bc] at h2;exact absurd h2 (by decide)
   ·subst ab;rcases Int.lt_trichotomy a c with bc | bc | bc
    ·rw[if_pos bc];decide
    ·subst bc;rw[if_neg (by omega),if_neg (by omega)] at*;exact gS h1 h2
    rw[if_neg (by omega),if_pos bc] at h2;exact absurd h2 (by decide)
   rw[if_neg (by omega),if_pos ab] at h1;exact absurd h1 (by decide)
theorem yO {l m n:List Int}(h1: ¬aZ l m<0)(h2: ¬aZ m n<0): ¬aZ l n<0:=by
 intro h;by_cases e:aZ l m=0
 ·rw[cR.1 e] at h;exact h2 h
 exact h2 (gS (lJ.2 (by omega)) h)
def leR (a b:List Int):Bool:=decide (aZ a b<=0)
theorem zM {a b:List Int}:leR a b=true↔ ¬aZ b a<0:=by
 rw[leR,aMX];constructor
 ·intro h q;have:=lJ.1 q;omega
 intro h;have: ¬0<aZ a b:=fun q=>h (lJ.2 q);omega
theorem aDS {a b:List Int}(h1:leR a b=true)(h2:leR b a=true):a=b:=by
 rw[zM] at h1 h2;have: ¬0<aZ a b:=fun q=>h1 (lJ.2 q);exact cR.1 (by omega)
def bV (l:List (List Int)):List (List Int):=l.mergeSort leR
theorem tU (l:List (List Int)):(bV l).Perm l:=List.mergeSort_perm l leR
theorem aAk (l:List (List Int)):(bV l).Pairwise (fun a b=>leR a b=true):=
 List.pairwise_mergeSort (fun a b c h1 h2=>by rw[zM] at*;exact yO h2 h1) (fun a b=>by
  by_cases h:aZ b a<0
  ·have:leR b a=true:=by rw[leR,aMX];omega
   simp[this]
  have:leR a b=true:=zM.2 h;simp[this]) l
theorem aIy {l m:List (List Int)}(hp:m.Perm l)(hs:m.Pairwise (fun a b=>leR a b=true)):m=bV l:=
 List.Perm.eq_of_pairwise (le:=fun a b=>leR a b=true) (fun a b _ _ h1 h2=>aDS h1 h2) hs (aAk l) (hp.trans (tU l).symm)
theorem xQ (l:List (List Int)):(bV l).length=l.length:=(tU l).length_eq
end Go.Proofs.YtgamjlgfnmpcjaaGreatDoor
namespace Go.Proofs.YtgamjlgfnmpcjaaGreatDoor
open Go.ChangeShapes Go.WideShapes Go.ChangeAt Go.RowKit Go.Shelf Go.Lib
set_option linter.unusedVariables false
set_option linter.unusedSimpArgs false
theorem vU {w:World}{k:Nat}{ι:Type}(f:ι->List aS)(g:ι->List Value)(h:ι->List Nat): ∀{L:List ι},(∀i∈L,(f i).length=k/\bU w (f i) (g i) (h i))->bE w k (L.map f) (L.map g) (L.map h)
 | [],_=>by simp only[List.map_nil];unfold bE;exact⟨rfl,rfl⟩
 | i::L,hL=>by
   simp only[aHl];unfold bE;exact⟨_,_,_,_,rfl,rfl,(hL i (by simp)).1,(hL i (by simp)).2,vU f g h fun j hj=>hL j (by simp[hj])⟩
theorem oB {w:World}{k:Nat}: ∀{xs:List (List aS)} {css:List (List Value)} {Fs:List (List Nat)},bE w k xs css Fs->css.length=xs.length/\Fs.length=xs.length
 | [],_,_,h=>by unfold bE at h;rw[h.1,h.2];exact⟨rfl,rfl⟩
 | x::xs,_,_,h=>by
   unfold bE at h;obtain⟨c,css',F,Fs',rfl,rfl,_,_,h3⟩:=h;have:=oB h3;simp[this.1,this.2]
theorem oC {w:World}{k:Nat}: ∀{xs:List (List aS)} {css:List (List Value)} {Fs:List (List Nat)} {i:Nat} {x:List aS},bE w k xs css Fs->xs[i]? =some x-> ∃c F,css[i]? =some c/\Fs[i]? =some F/\x.length=k/\bU w x c F
 | [],_,_,_,_,_,hx=>by simp at hx
 | y::xs,_,_,0,x,h,hx=>by
   unfold bE at h;obtain⟨c,css',F,Fs',rfl,rfl,h1,h2,_⟩:=h;simp at hx;subst hx;exact⟨c,F,rfl,rfl,h1,h2⟩
 | y::xs,_,_,i+1,x,h,hx=>by
   unfold bE at h;obtain⟨c,css',F,Fs',rfl,rfl,_,_,h3⟩:=h;simp at hx;simpa using oC h3 hx
theorem fX: ∀(l:List (List Value)) (i:Nat) (v:Value),(∀d∈l,d.length=1)->l[i]? =some [v]->l.flatten[i]? =some v
 | [],i,v,_,h=>by simp at h
 | d::l,0,v,hd,h=>by simp at h;subst h;simp
 | d::l,i+1,v,hd,h=>by
   have h1:=hd d (by simp);rw[aJj,aHx (by omega),h1];exact fX l i v (fun d' hd' =>hd d' (by simp[hd'])) (by simpa using h)
theorem vV {ι:Type}(f:ι->Value): ∀L:List ι,(L.map fun i=>[f i]).flatten=L.map f
 | []=>rfl
 | i::L=>by rw[aHl,aJj,vV f L];rfl
theorem oD: ∀(l:List (List Value)),(∀d∈l,d.length=1)->l.flatten.length=l.length
 | [],_=>rfl
 | d::l,hd=>by
   rw[aJj,aJw,hd d (by simp),oD l fun d' hd' =>hd d' (by simp[hd'])];simp;omega
theorem aIz {w:World}{e:Nat}{r:List Int}{c:List Value}{F:List Nat}(h:bU w [.sl e 1 (r.map aE)] c F): ∃a cap,c= [.slice a r.length cap]/\qY w a r/\(∀x∈a,x.block∈F)/\r.length<=9223372036854775807:=by
 unfold bU at h;obtain⟨v,cs',F1,F2,rfl,rfl,h1,h2⟩:=h;unfold bU at h2;obtain⟨rfl,rfl⟩:=h2;unfold lL at h1;obtain⟨css,Fs,q1,q2,q3⟩:=h1;rcases q1.2 with ⟨rfl,hz⟩ | ⟨g,cap,cur,rfl,_,hb,hn,hcap2,hsz,htk⟩
 ·simp at hz;subst hz;exact⟨none,0,rfl,fun j x hx=>by simp at hx,by simp,by simp⟩
 refine⟨some ⟨g,0,none⟩,cap,by simp,fun j x hx=>⟨g,0,rfl,?_⟩,fun x hx=>?_,by have:cap<=maxLen:=hcap2;unfold maxLen at this;simp at hn;omega⟩
 ·obtain⟨c0,F0,g1,_,_,g4⟩:=oC q3 (show (r.map aE)[j]? =some (aE x) by rw[aMm,hx];rfl);unfold aE bU at g4;obtain⟨v0,cs0,_,_,rfl,_,g5,g6⟩:=g4;unfold bU at g6;obtain⟨rfl,_⟩:=g6;unfold lL at g5;obtain⟨rfl,_⟩:=g5
  have hlen: ∀d∈css,d.length=1:=fun d hd=>by
   obtain⟨i,hi⟩:=List.getElem?_of_mem hd
   have hil:i<(r.map aE).length:=by
    have:=(oB q3).1;have:=(aEA.1 hi).1;omega
   obtain⟨c1,F1,k1,_,k3,k4⟩:=oC q3 (aCp hil);rw[hi] at k1;injection k1 with k1;subst k1
   rw[List.getElem_map] at k4;unfold aE bU at k4;obtain⟨_,_,_,_,rfl,_,_,k6⟩:=k4;unfold bU at k6;rw[k6.1];rfl
  have hflat:css.flatten[j]? =some (.int .i64 x):=by
   exact fX css j _ hlen g1
  have hj:j<r.length:=(aEA.1 hx).1;simp only[World.cell?,hb,Nat.zero_add,Option.isSome_none,Bool.false_eq_true,if_false];rw[<-Array.getElem?_toList,<-hflat,<-htk,List.getElem?_take_of_lt (by simpa using hj)]
 simp at hx;subst hx;rw[q2];simp[Value.ownBlock]
theorem xR {w:World}{enc:Nat->Value}{g n:Nat}{os:Array Obj}{cur:Array Value}{e:TypeId}{fr:Nat × Nat}(d:Array Nat)(hb:w.heap[g]? =some (.cells cur e fr)):
 (sortWorld enc w g 0 n d os).heap[g]? =some (.cells (Go.Sort.putCells enc 0 d cur) e fr):=by
 have hg:g<w.heap.size:=(Array.getElem?_eq_some_iff.1 hb).1;unfold sortWorld;rw[Go.Sort.heap_grow_old _ _ (by simpa using hg)];simp[Go.Sort.putRow,Go.Sort.mapBlock,Go.Sort.ahead,Array.getElem?_modify,hb,Go.Sort.onCells]
theorem iZ {w:World}{enc:Nat->Value}{g n k:Nat}{os:Array Obj}(d:Array Nat)(hk:k<w.heap.size)(hne:k≠g):(sortWorld enc w g 0 n d os).heap[k]? =w.heap[k]? :=by
 unfold sortWorld;rw[Go.Sort.heap_grow_old _ _ (by simpa using hk)];simp[Go.Sort.putRow,Go.Sort.mapBlock,Go.Sort.ahead,Array.getElem?_modify,Ne.symm hne]
theorem aAl (enc:Nat->Value)(cur:Array Value)(ts:List Nat)(h:ts.length<=cur.size):(Go.Sort.putCells enc 0 ts.toArray cur).toList.take ts.length=ts.map enc:=by
 apply List.ext_getElem?;intro j;by_cases hj:j<ts.length
 ·rw[List.getElem?_take_of_lt hj,Array.getElem?_toList];simp[Go.Sort.putCells,hj,show j<cur.size by omega]
 rw[List.getElem?_take_eq_none (by omega),List.getElem?_eq_none (by simp;omega)]
theorem sH {w w' :World}{a:Option Addr}{r:List Int}(h:qY w a r)(hk: ∀x∈a,w'.heap[x.block]? =w.heap[x.block]?):qY w' a r:=fun j x hx=>by
 obtain⟨b,o,rfl,hc⟩:=h j x hx;refine⟨b,o,rfl,?_⟩;have:=hk ⟨b,o,none⟩ rfl;unfold World.cell? at*;simp only at*;rw[this];exact hc
end Go.Proofs.YtgamjlgfnmpcjaaGreatDoor
namespace Go.Proofs
open Go.Shelf
namespace YtgamjlgfnmpcjaaGreatDoor
def Tryz.sortRows_ren:Go.Shelf.Ren:=⟨fun | 6=>104 | 15=>112 | 14=>115 | 28=>125 | 29=>126 | 20=>132 | 21=>133 | 22=>134 | 23=>135 | 24=>136 | 25=>137 | 26=>138 | 27=>139 | 46=>150 | 47=>141 | 48=>142 | 49=>151 | 50=>152 | 57=>156 | n=>n,fun | 22=>35 | 24=>38 | 25=>73 | 3=>3 | 39=>118 | 0=>0 | 53=>131 | 55=>133 | 4=>4 | 46=>123 | 45=>122 | 50=>128 | 5=>5 | 9=>9 | 66=>144 | 70=>148 | 76=>157 | 77=>158 | n=>n,fun | n=>n⟩
theorem Tryz.sortRows:Go.Proofs.SlLaysF.n6 Tryz.prog Tryz.sortRows_ren:={
 mixed:=by kernel_rfl
 f6:=⟨Tryz.f104.name,by decide,Tryz.func104.trans (congrArg some (by kernel_rfl))⟩
 f14:=⟨Tryz.f115.name,by decide,Tryz.func115.trans (congrArg some (by kernel_rfl))⟩
 f15:=Tryz.func112.trans (congrArg some (by kernel_rfl))
 f20:=⟨Tryz.f132.name,by decide,Tryz.func132.trans (congrArg some (by kernel_rfl))⟩
 f21:=⟨Tryz.f133.name,by decide,Tryz.func133.trans (congrArg some (by kernel_rfl))⟩
 f22:=⟨Tryz.f134.name,by decide,Tryz.func134.trans (congrArg some (by kernel_rfl))⟩
 f23:=⟨Tryz.f135.name,by decide,Tryz.func135.trans (congrArg some (by kernel_rfl))⟩
 f24:=⟨Tryz.f136.name,by decide,Tryz.func136.trans (congrArg some (by kernel_rfl))⟩
 f25:=⟨Tryz.f137.name,by decide,Tryz.func137.trans (congrArg some (by kernel_rfl))⟩
 f26:=⟨Tryz.f138.name,by decide,Tryz.func138.trans (congrArg some (by kernel_rfl))⟩
 f27:=⟨Tryz.f139.name,by decide,Tryz.func139.trans (congrArg some (by kernel_rfl))⟩
 f28:=Tryz.func125.trans (congrArg some (by kernel_rfl))
 f29:=Tryz.func126.trans (congrArg some (by kernel_rfl))
 f46:=⟨Tryz.f150.name,by decide,Tryz.func150.trans (congrArg some (by kernel_rfl))⟩
 f47:=Tryz.func141.trans (congrArg some (by kernel_rfl))
 f48:=Tryz.func142.trans (congrArg some (by kernel_rfl))
 f49:=⟨Tryz.f151.name,by decide,Tryz.func151.trans (congrArg some (by kernel_rfl))⟩
 f50:=⟨Tryz.f152.name,by decide,Tryz.func152.trans (congrArg some (by kernel_rfl))⟩
 f57:=⟨Tryz.f156.name,by decide,Tryz.func156.trans (congrArg some (by kernel_rfl))⟩
 t0:=Tryz.underlying0
 a0:=Tryz.isAgg0
 z0:=Tryz.sizeOf0
 v0:=Tryz.zeroValue0
 t3:=Tryz.underlying3
 a3:=Tryz.isAgg3
 z3:=Tryz.sizeOf3
 v3:=Tryz.zeroValue3
 t4:=Tryz.underlying4
 a4:=Tryz.isAgg4
 z4:=Tryz.sizeOf4
 v4:=Tryz.zeroValue4
 t5:=Tryz.underlying5
 a5:=Tryz.isAgg5
 z5:=Tryz.sizeOf5
 v5:=Tryz.zeroValue5
 t9:=Tryz.underlying9
 a9:=Tryz.isAgg9
 z9:=Tryz.sizeOf9
 v9:=Tryz.zeroValue9
 t22:=Tryz.underlying35
 a22:=Tryz.isAgg35
 z22:=Tryz.sizeOf35
 v22:=Tryz.zeroValue35
 a24:=Tryz.isAgg38
 z24:=Tryz.sizeOf38
 t25:=Tryz.underlying73
 a25:=Tryz.isAgg73
 z25:=Tryz.sizeOf73
 v25:=Tryz.zeroValue73
 t39:=Tryz.underlying118
 a39:=Tryz.isAgg118
 z39:=Tryz.sizeOf118
 v39:=Tryz.zeroValue118
 t45:=Tryz.underlying122
 a45:=Tryz.isAgg122
 z45:=Tryz.sizeOf122
 v45:=Tryz.zeroValue122
 t46:=Tryz.underlying123
 a46:=Tryz.isAgg123
 z46:=Tryz.sizeOf123
 v46:=Tryz.zeroValue123
 t50:=Tryz.underlying128
 a50:=Tryz.isAgg128
 z50:=Tryz.sizeOf128
 v50:=Tryz.zeroValue128
 t53:=Tryz.underlying131
 a53:=Tryz.isAgg131
 z53:=Tryz.sizeOf131
 v53:=Tryz.zeroValue131
 t55:=Tryz.underlying133
 a55:=Tryz.isAgg133
 z55:=Tryz.sizeOf133
 v55:=Tryz.zeroValue133
 t66:=Tryz.underlying144
 a66:=Tryz.isAgg144
 z66:=Tryz.sizeOf144
 v66:=Tryz.zeroValue144
 t70:=Tryz.underlying148
 a70:=Tryz.isAgg148
 z70:=Tryz.sizeOf148
 v70:=Tryz.zeroValue148
 t76:=Tryz.underlying157
 a76:=Tryz.isAgg157
 z76:=Tryz.sizeOf157
 v76:=Tryz.zeroValue157
 t77:=Tryz.underlying158
 a77:=Tryz.isAgg158
 z77:=Tryz.sizeOf158
 v77:=Tryz.zeroValue158 }
end YtgamjlgfnmpcjaaGreatDoor
end Go.Proofs
namespace Go.Proofs.YtgamjlgfnmpcjaaGreatDoor
open Go.ChangeShapes Go.WideShapes Go.ChangeAt Go.RowKit Go.Shelf Go.Lib
set_option linter.unusedVariables false
set_option linter.unusedSimpArgs false
set_option maxHeartbeats 2000000 in
theorem aJA (l:List (List Int))(hl:l.length<4611686018427387904):oZ Tryz.prog 104 [.own 0,.fn 103 []] [(0,.arr 38 1 true (l.map aB))] (.tup []) [(0,.arr 38 1 true ((bV l).map aB))]:=by
 refine⟨by kernel_rfl,by simp,fun A φ w vs hI hm=>?_⟩;obtain⟨pl,hp,css,Fs,q1,q2,q3,q4⟩:=hI.dom 0 _ rfl;unfold aH at hm;obtain⟨v,us,e1,m1,hm⟩:=hm;unfold aH at hm;obtain⟨v2,us2,e2,m2,hm⟩:=hm;unfold aH at hm;unfold aC at m1 m2;obtain⟨vs2,ev2,m3⟩:=m2;unfold aH at m3;have hv:=m1 pl hp;have e3:vs2= #[]:=by apply Array.ext';simpa using m3
 have ev:vs= #[pl.val,.func (.func 103) #[] #[]]:=by apply Array.ext';rw[e1,e2,hm,hv,ev2,e3]
 rw[ev];have hnd:=hI.nodup 0 pl hp;have hge:=hI.ge 0 pl hp;have hFe:pl.F=pl.val.ownBlock.toList++Fs.flatten:=by unfold Pl.F;rw[q2,q3]
 have hfoot: ∀b∈pl.F,aDE φ b:=fun b hb=>⟨0,pl,trivial,hp,hb⟩
 have h0: ∀h pl',φ h=some pl' ->h=0:=fun h pl' e' =>by
  cases hr:aN [(0,Rs.arr 38 1 true (l.map aB))] h with
  | none=>rw[hI.non h hr] at e';cases e'
  | some r=>
    simp only[aN] at hr;split at hr
    ·assumption
    cases hr
 obtain⟨lc,lF⟩:=oB q4;rw[aBS] at lc lF
 have hrow: ∀i,i<l.length-> ∃a cap F,css[i]? =some [.slice a (l.getD i []).length cap]/\Fs[i]? =some F/\qY w a (l.getD i [])/\(∀x∈a,x.block∈F)/\(l.getD i []).length<=9223372036854775807/\bU w (aB (l.getD i [])) [.slice a (l.getD i []).length cap] F:=fun i hi=>by
  obtain⟨r,hr⟩:=cS hi;have hg:l.getD i []=r:=by simp[aFr,hr]
  obtain⟨c,F,g1,g2,_,g4⟩:=oC q4 (show (l.map aB)[i]? =some (aB r) by rw[aMm,hr];rfl);obtain⟨a,cap,rfl,k1,k2,k3⟩:=aIz g4;rw[hg];exact⟨a,cap,F,g1,g2,k1,k2,k3,g4⟩
 have hone: ∀d∈css,d.length=1:=fun d hd=>by
  obtain⟨i,hi⟩:=List.getElem?_of_mem hd;obtain⟨a,cap,F,g1,_⟩:=hrow i (by have:=(aEA.1 hi).1;omega);rw[hi] at g1;injection g1 with g1
  rw[g1];rfl
 let enc:Nat->Value:=fun i=>css.flatten.getD i (.slice none 0 0)
 have henc: ∀i,∃a cap,enc i= .slice a (l.getD i []).length cap/\qY w a (l.getD i [])/\(∀x∈a,x.block∈Fs.flatten)/\(l.getD i []).length<=9223372036854775807:=fun i=>by
  by_cases hi:i<l.length
  ·obtain⟨a,cap,F,g1,g2,g3,g4,g5,_⟩:=hrow i hi;refine⟨a,cap,?_,g3,fun x hx=>List.mem_flatten.2 ⟨F,aCO g2,g4 x hx⟩,g5⟩;show css.flatten.getD i _=_;rw[aFr,fX css i _ hone g1];rfl
  have hg:l.getD i []= []:=by rw[aFr,List.getElem?_eq_none (by omega)];rfl
  rw[hg];refine⟨none,0,?_,fun j x hx=>by simp at hx,by simp,by simp⟩;show css.flatten.getD i _=_;rw[aFr,List.getElem?_eq_none (by rw[oD css hone];omega)];rfl
 have hend: ∀(d' :List Nat) (w' :World),d'.Perm (List.range l.length)->(d'.map fun i=>l.getD i []).Pairwise (fun a b=>leR a b=true)->gF pl.F w w' ->(∀F∈Fs,eC F w w')->w'.ownsRow 0 38 1 pl.val l.length (d'.map enc)->
  ∃v K φ',Ending.returned (.tuple #[])= .returned v/\aHM A φ w [(0,.arr 38 1 true ((bV l).map aB))] K φ' w' /\aC K φ' w' (.tup []) v:=by
  intro d' w' hperm hsort hon hkeep howns
  have hrange:(List.range l.length).map (fun i=>l.getD i [])=l:=by
   apply List.ext_getElem?;intro i;by_cases hi:i<l.length
   ·simp[hi]
   simp[hi]
  have hl' :d'.map (fun i=>l.getD i [])=bV l:=aIy (by have:=hperm.map (fun i=>l.getD i []);rwa [hrange] at this) hsort
  have hFr:(List.range l.length).map (fun i=>Fs.getD i [])=Fs:=by
   apply List.ext_getElem?;intro i;by_cases hi:i<l.length
   ·simp[hi,show i<Fs.length by omega]
   simp[hi,show ¬i<Fs.length by omega]
  have hFp:(d'.map fun i=>Fs.getD i []).flatten.Perm Fs.flatten:=by
   have:=(hperm.map (fun i=>Fs.getD i [])).flatten
   rwa [hFr] at this
  let pl' :Pl:=⟨pl.val,pl.top,(d'.map fun i=>Fs.getD i []).flatten⟩
  have hmem: ∀g,g∈pl'.F↔g∈pl.F:=fun g=>by
   simp only[pl',Pl.F,aFZ,q3,hFp.mem_iff]
  have hnd' :pl'.F.Nodup:=by
   have:pl'.F.Perm pl.F:=by simp only[pl',Pl.F,q3];exact(List.Perm.refl _).append hFp
   exact this.nodup_iff.2 hnd
  refine⟨_,A,fun h=>if h=0 then some pl' else none,rfl,⟨⟨hon.os,hon.tape,hon.output,hon.size,fun b hb hn=>hon.block b hb (fun hm=>hn (hfoot b hm))⟩,fun _ h=>h,fun b hb=>⟨aLG (hI.lt b hb) hon.size,.inl hb⟩,fun b hb h pl1 e' hm' =>?_,fun h r hr=>?_,fun h hr=>?_,fun h h' pl1 pl2 hne ea eb=>?_,fun h pl1 e' =>?_,fun h pl1 e' g hg=>?_,fun h pl1 pl0 e' e0=>?_⟩,?_⟩
  ·split at e'
   ·injection e' with e';subst e'
    exact hI.out b hb 0 pl hp ((hmem b).1 hm')
   cases e'
  ·simp only[aN] at hr;split at hr
   ·rename_i eh;subst eh;injection hr with hr
    subst hr;refine⟨pl',by simp,d'.map (fun i=>[enc i]),d'.map (fun i=>Fs.getD i []),?_,q2,rfl,?_⟩
    ·have e4:(d'.map fun i=>[enc i]).flatten=d'.map enc:=vV enc d';rw[e4,aBS,xQ];exact howns
    rw[<-hl',List.map_map];refine vU (fun i=>aB (l.getD i [])) (fun i=>[enc i]) (fun i=>Fs.getD i []) fun i hi=>⟨rfl,?_⟩;have hil:i<l.length:=by simpa using hperm.mem_iff.1 hi
    obtain⟨a,cap,F,g1,g2,g3,g4,g5,g6⟩:=hrow i hil
    have ee:enc i= .slice a (l.getD i []).length cap:=by
     show css.flatten.getD i _=_;rw[aFr,fX css i _ hone g1];rfl
    have eF:Fs.getD i []=F:=by simp[aFr,g2]
    rw[ee,eF];exact bU.kept _ _ _ (hkeep F (aCO g2)) g6
   cases hr
  ·simp only[aN] at hr;split at hr
   ·cases hr
   rename_i eh;exact if_neg eh
  ·split at ea
   ·split at eb
    ·rename_i x y;exact absurd (x.trans y.symm) hne
    cases eb
   cases ea
  ·split at e'
   ·injection e' with e';subst e';exact hnd'
   cases e'
  ·split at e'
   ·injection e' with e';subst e'
    have:=(hmem g).1 hg;exact⟨.inr (hfoot g this),aLG (hge g this) hon.size⟩
   cases e'
  ·split at e'
   ·rename_i eh;subst eh;rw[hp] at e0;injection e0 with e0;injection e' with e'
    subst e0;subst e';exact⟨rfl,rfl⟩
   cases e'
  unfold aC;exact⟨#[],rfl,by unfold aH;rfl⟩
 rw[aBS] at q1;rcases q1.2 with ⟨hvn,hz⟩ | ⟨g,cap,cur,hvv,hg0,hb,hn,hcap,hsz,htk⟩
 ·have hcon:=AnyF.slices_SortFunc_none { Tryz.sortRows with } none 0 (.func (.func 103) #[] #[]) w;change Calls Tryz.prog 104 _ _ _ at hcon;rw[hvn];refine hcon.mono ?_;rintro en w' ⟨rfl,rfl⟩;have hz' :l= []:=aGC hz;subst hz';exact hend [] w' (by simp) (by simp) (gF.refl _ _) (fun F hF g hg=>rfl) (by rw[hvn];exact⟨by simp,.inl ⟨rfl,rfl⟩⟩)
 have hgF:g ∉ Fs.flatten:=fun hm=>by
  rw[hFe,hvv] at hnd;simp only[Value.ownBlock,Option.toList_some,List.cons_append,aMg,List.nodup_cons] at hnd;exact hnd.1 hm
 have hgs:g<w.heap.size:=(Array.getElem?_eq_some_iff.1 hb).1;have hin: ∀b∈Fs.flatten,b<w.heap.size/\b≠g:=fun b hb' =>⟨hge b (by rw[hFe];exact aFK _ hb'),fun e=>hgF (e▸hb')⟩
 have hO:Go.Sort.SWO (ltOf fun x y:Nat=>aZ (l.getD x []) (l.getD y [])):=
  { irrefl:=fun x=>by show decide (aZ (l.getD x []) (l.getD x [])<0)=false;rw [lI];rfl
    trans:=fun x y z h1 h2=>by unfold ltOf at*;rw[aMX] at*;exact gS h1 h2
    ntrans:=fun x y z h1 h2=>by unfold ltOf at*;rw[decide_eq_false_iff_not] at*;exact yO h1 h2 }
 have hcmp:CmpLays1 Tryz.prog 103 #[] enc (fun x y:Nat=>aZ (l.getD x []) (l.getD y [])) g 0 (List.range l.length).toArray.size w:=fun m os dk hs x y=>by
  obtain⟨a1,c1,ex,r1,k1,b1⟩:=henc x;obtain⟨a2,c2,ey,r2,k2,b2⟩:=henc y;rw[ex,ey];refine(aIx a1 a2 c1 c2 _ _ _ b1 b2 (sH r1 fun q hq=>iZ dk (hin _ (k1 q hq)).1 (hin _ (k1 q hq)).2) (sH r2 fun q hq=>iZ dk (hin _ (k2 q hq)).1 (hin _ (k2 q hq)).2)).mono ?_;rintro en w' ⟨rfl,rfl⟩;exact⟨rfl,0,#[],by simp[Go.Sort.grow_empty,World.drewN]⟩
 have htk' :cur.toList.take l.length=css.flatten:=by rw[Nat.mul_one] at htk;exact htk
 have hH:Go.Sort.Holds enc w g 0 (List.range l.length).toArray:=fun j hj=>by
  have hj' :j<l.length:=by simpa using hj
  refine⟨?_,by simp[World.frozen?,hb]⟩;have h1:(cur.toList.take l.length)[j]? =css.flatten[j]? :=by rw[htk']
  rw[List.getElem?_take_of_lt hj'] at h1;simp only[World.cell?,hb,Nat.zero_add,Option.isSome_none,Bool.false_eq_true,if_false];rw[<-Array.getElem?_toList,h1];obtain⟨a,cap',F,g1,_⟩:=hrow j hj';have h2:=fX css j _ hone g1
  have ee:enc j= .slice a (l.getD j []).length cap' :=by
   show css.flatten.getD j _=_;rw[aFr,h2];rfl
  have ej:(List.range l.length).toArray[j]! =j:=by simp[hj']
  rw[h2,ej,ee]
 have hone1:OneCell enc:=fun x=>by
  obtain⟨a,c,ex,_⟩:=henc x;rw[ex];rfl
 have eg: ∀args w,(callFunc 103 args).run Tryz.prog w= .ok (.enter 103 args) w:=enters_of Tryz.func103 (by kernel_rfl) rfl;have hcon:=Any.slices_SortFunc Tryz.sortRows enc hone1 (fun x y:Nat=>aZ (l.getD x []) (l.getD y [])) hO 103 #[] g 0 cap (List.range l.length).toArray w eg hcmp hH hgs (by simpa using hl);change Calls Tryz.prog 104 _ _ _ at hcon;have hsz1:((List.range l.length).toArray.size:Nat)=l.length:=by simp
 rw[hsz1] at hcon;rw[hvv];refine hcon.mono ?_;rintro en w' ⟨rfl,d',n,os,hpm,hsd,rfl⟩;obtain⟨p1,_,p3⟩:=hpm;have hds:d'.size=l.length:=by simpa using p1
 have hperm:d'.toList.Perm (List.range l.length):=by
  have e1:(d'.extract 0 l.length).toList=d'.toList:=by rw[<-hds];simp
  have e2:((List.range l.length).toArray.extract 0 l.length).toList=List.range l.length:=by simp
  rw[e1,e2] at p3;exact p3
 have hkb: ∀k,k<w.heap.size->k≠g->(sortWorld enc w g 0 n d' os).heap[k]? =w.heap[k]? :=fun k hk hne=>iZ d' hk hne
 have:=hend d'.toList (sortWorld enc w g 0 n d' os) hperm (by
  rw[List.pairwise_map,List.pairwise_iff_getElem];intro i j hi hj hij;have:=hsd i j (aB2 _) hij (by simpa [hds] using hj);unfold ltOf at this;rw[decide_eq_false_iff_not] at this;rw[zM];have ei:d'[i]! =d'.toList[i]:=by simp at hi;simp[hi]
  have ej:d'[j]! =d'.toList[j]:=by simp at hj;simp[hj]
  rw[<-ei,<-ej];exact this)
  ⟨rfl,rfl,rfl,by simp[sortWorld],fun k hk hne=>hkb k hk (fun e=>hne (by rw[hFe,hvv,e];simp[Value.ownBlock]))⟩
  (fun F hF b hb' =>hkb b (hin b (List.mem_flatten.2 ⟨F,hF,hb'⟩)).1 (hin b (List.mem_flatten.2 ⟨F,hF,hb'⟩)).2)
  (by
   rw[hvv];refine⟨by simp[hds],.inr ⟨g,cap,_,rfl,hg0,xR d' hb,hn,hcap,by simp[Go.Sort.putCells,hsz],?_⟩⟩;rw[Nat.mul_one];have:=aAl enc cur d'.toList (by rw[aMw,hds];omega);rw[aMw,hds] at this;simpa using this)
 exact this
end Go.Proofs.YtgamjlgfnmpcjaaGreatDoor
namespace Go.Proofs.YtgamjlgfnmpcjaaGreatDoor
open Go.ChangeShapes Go.WideShapes Go.ChangeAt Go.RowKit
set_option linter.unusedVariables false
set_option linter.unusedSimpArgs false
theorem aKf {l m:List Int}{k:Nat}{x y:Int}(hx:l[k]? =some x)(hy:m[k]? =some y)(h:(x==y)=false):decide (l=m)=false:=by
 rw[decide_eq_false_iff_not];rintro rfl;rw[hx] at hy;injection hy with hy
 subst hy;simp at h
set_option maxHeartbeats 1000000 in
theorem aHZ (a1 a2:Option Addr)(c1 c2:Nat)(l m:List Int)(w:World)(hl:l.length<=9223372036854775807)(hm:m.length<=9223372036854775807)(h1:qY w a1 l)(h2:qY w a2 m):
 Calls Tryz.prog 79 #[.slice a1 l.length c1,.slice a2 m.length c2] w fun e w' =>e= .returned (.bool (decide (l=m)))/\ ∃q,w' =w.drewN q:=by
 have mixed:=aDN;have H1:=Lib.hid h1;have H2:=Lib.hid h2
 clear h1 h2
 by_cases hlm:l.length=m.length
 ·have HL:=Lib.hid hlm
  go_enter Tryz.func79,Tryz.ntmps79
  go_wp2
  go_loopg [13] l.length (fun g s wr=> ∃k q:Nat,k<=l.length/\l.length - k<=g/\s= .int .i64 k/\wr=w.drewN q/\Aside (l.take k=m.take k))
  case atStart=>exact⟨0,0,aB2 _,by omega,rfl,rfl,rfl⟩
  case round=>
   obtain⟨k,q,hk,hg,rfl,rfl,A⟩:=hrel;by_cases hlt:k<l.length
   ·obtain⟨x,hx⟩:=cS hlt;obtain⟨b1,o1,rfl,g1⟩:=H1.out k x hx;obtain⟨y,hy⟩:=cS (l:=m) (k:=k) (by omega);obtain⟨b2,o2,rfl,g2⟩:=H2.out k y hy;have HX:=Lib.hid hx;have HY:=Lib.hid hy
    clear hx hy
    cases hxy:(x==y) with
    | true=>
      have hne:(x !=y)=false:=by rw[bne,hxy];rfl
      go_wp2_with fail
      go_region_o
      go_wp2
      go_roundg (l.length - (k+1))
      case measure=>omega
      case rel=>exact⟨k+1,q+1,by omega,by omega,by go_num,rfl,(show Aside _ from lC HX.out (by rw[HY.out,show x=y by simpa using hxy]) A.out)⟩
    | false=>
      have hne:(x !=y)=true:=by rw[bne,hxy];rfl
      go_wp2_with fail
      go_region_o
      go_wp2
      go_ret
      refine⟨?_,q+1,rfl⟩;rw[aKf HX.out HY.out hxy];rfl
   go_wp2
   go_ret
   refine⟨?_,q,rfl⟩;rw[decide_eq_true (lD (by omega) HL.out A.out)];rfl
 have hnm: ¬(l.length:Int)=(m.length:Int):=by omega
 go_enter Tryz.func79,Tryz.ntmps79
 go_wp2
 go_ret
 refine⟨?_,0,rfl⟩;rw[decide_eq_false (aDQ hnm)];rfl
theorem aKg (a1 a2:Option Addr)(c1 c2:Nat)(l m:List Int)(w:World)(hl:l.length<=9223372036854775807)(hm:m.length<=9223372036854775807)(h1:qY w a1 l)(h2:qY w a2 m):
 Calls Tryz.prog 106 #[.slice a1 l.length c1,.slice a2 m.length c2] w fun e w' =>e= .returned (.bool (decide (l=m)))/\ ∃q,w' =w.drewN q:=by
 have HC:=Lib.hid (aHZ a1 a2 c1 c2 l m w hl hm h1 h2)
 clear h1 h2
 go_enter Tryz.func106,Tryz.ntmps106
 go_wp2_with (go_at_call 79;refine HC.out.mono ?_;rintro e w' ⟨rfl,q,hw⟩;rw[hw])
 go_ret
 exact⟨rfl,_,rfl⟩
end Go.Proofs.YtgamjlgfnmpcjaaGreatDoor
namespace Go.Proofs.YtgamjlgfnmpcjaaGreatDoor
open Go.ChangeShapes Go.WideShapes Go.ChangeAt Go.RowKit Go.Shelf Go.Lib
set_option linter.unusedVariables false
set_option linter.unusedSimpArgs false
section
variable (eq:Nat->Nat->Bool)
def gZ (d:Array Nat)(j:Nat):Bool:=decide (j=0) || !eq d[j]! d[j - 1]!
def hJ (d:Array Nat)(m:Nat):List Nat:=((List.range m).filter (gZ eq d)).map (d[·]!)
theorem aCW (d:Array Nat): ∀j,j<1->gZ eq d j=true:=by
 intro j hj;obtain rfl:j=0:=by omega
 simp[gZ]
theorem aCX {d:Array Nat}{m:Nat}(h:eq d[m]! d[m - 1]! =false):gZ eq d m=true:=by simp[gZ,h]
theorem aCY {d:Array Nat}{m:Nat}(hm:0<m)(h:eq d[m]! d[m - 1]! =true):gZ eq d m=false:=by
 have:m≠0:=by omega
 simp[gZ,h,this]
theorem jA (d:Array Nat)(m:Nat):hJ eq d (m+1)=hJ eq d m++(if gZ eq d m=true then [d[m]!] else []):=by
 unfold hJ;rw[List.range_succ,List.filter_append,aHr]
 congr 1
 by_cases h:gZ eq d m=true<;>simp[h]
theorem xS (d:Array Nat)(m:Nat)(h: ∀j,j<m->gZ eq d j=true):hJ eq d m=(List.range m).map (d[·]!):=by
 unfold hJ;rw[List.filter_eq_self.2 (fun j hj=>h j (aKt.1 hj))]
theorem aE5 (d:Array Nat)(h: ∀j,j<d.size->gZ eq d j=true):hJ eq d d.size=d.toList:=by
 rw[xS eq d _ h];exact range_map_get d
structure oE (d:Array Nat) (m k:Nat) (dk:Array Nat):Prop where
 size:dk.size=d.size
 len:(hJ eq d m).length=k
 lt:k<m
 low: ∀j,j<k->(hJ eq d m)[j]? =some dk[j]!
 high: ∀j,k<=j->dk[j]! =d[j]!
variable {eq}
theorem oE.start {d:Array Nat}{k0:Nat}(hall: ∀j,j<k0->gZ eq d j=true)(hdup:gZ eq d k0=false):oE eq d (k0+1) k0 d where
 size:=rfl
 len:=by rw[jA,hdup,xS eq d k0 hall];simp
 lt:=Nat.lt_succ_self _
 low:=fun j hj=>by rw[jA,hdup,xS eq d k0 hall];simp[hj]
 high:=fun _ _=>rfl
theorem oE.keep {d dk:Array Nat}{m k:Nat}(h:oE eq d m k dk)(hm:m<d.size)(hk:gZ eq d m=true):oE eq d (m+1) (k+1) (dk.setIfInBounds k d[m]!) where
 size:=by simp[h.size]
 len:=by rw[jA,hk];simp[h.len]
 lt:=by have:=h.lt;omega
 low:=fun j hj=>by
  rw[jA,hk,if_pos rfl];by_cases e:j=k
  ·subst e;rw[aHx (by rw[h.len];exact aLB _),h.len,Nat.sub_self,Go.Sort.getElem!_set_same dk j _ (by have:=h.lt;have:=h.size;omega)];rfl
  rw[aLc (by rw[h.len];omega),h.low j (by omega),Go.Sort.getElem!_set_other dk k j _ e]
 high:=fun j hj=>by rw[Go.Sort.getElem!_set_other dk k j _ (by omega),h.high j (by omega)]
theorem oE.skip {d dk:Array Nat}{m k:Nat}(h:oE eq d m k dk)(hk:gZ eq d m=false):oE eq d (m+1) k dk where
 size:=h.size
 len:=by rw[jA,hk];simpa using h.len
 lt:=by have:=h.lt;omega
 low:=fun j hj=>by rw[jA,hk];simpa using h.low j hj
 high:=h.high
theorem oE.done {d dk:Array Nat}{k:Nat}(h:oE eq d d.size k dk)(z:Nat):
 lay dk k (List.replicate (d.size - k) z)=(hJ eq d d.size++List.replicate (d.size - k) z).toArray:=by
 have hk:=h.lt;have hs:=h.size;apply Array.ext_getElem?;intro j;rw[lay_get? _ _ _ _ (by simp;omega),show (hJ eq d d.size++List.replicate (d.size - k) z).toArray[j]? =(hJ eq d d.size++List.replicate (d.size - k) z)[j]? from List.getElem?_toArray];simp only[aMq];by_cases c:j<k
 ·rw[if_neg (by omega),aLc (by rw[h.len];exact c),h.low j c,getElem!_pos dk j (by omega),Array.getElem?_eq_getElem]
 rw[aHx (by rw[h.len];omega),h.len];by_cases c2:j<d.size
 ·rw[if_pos (by omega)]
 rw[if_neg (by omega),Array.getElem?_eq_none (by omega),List.getElem?_eq_none (by simp;omega)]
end
set_option maxHeartbeats 4000000 in
set_option maxRecDepth 1000000 in
theorem aE6 (enc:Nat->Value)(eq:Nat->Nat->Bool)(hO:OneCell enc)(zr:Nat)(hz:enc zr= .slice none 0 0)(blk off cap:Nat)(d:Array Nat)(w:World)(hH:Go.Sort.Holds enc w blk off d)(hsz:d.size<=9223372036854775807)(hcap:d.size<=cap)
 (hcmp: ∀(dk:Array Nat) (q:Nat) (x y:Nat),dk.size=d.size-> ∀n,Calls Tryz.prog 106 #[enc x,enc y] ((Go.Sort.putRow enc (Go.Sort.ahead w q) blk off dk).drewN n) fun e w' =>e= .returned (.bool (eq x y))/\ ∃qq,w' =((Go.Sort.putRow enc (Go.Sort.ahead w q) blk off dk).drewN n).drewN qq):
 Calls Tryz.prog 105 #[.slice (some ⟨blk,off,none⟩) d.size cap,.func (.func 106) #[] #[]] w fun e w' =>e= .returned (.slice (some ⟨blk,off,none⟩) (hJ eq d d.size).length cap)/\ ∃q,w' =Go.Sort.putRow enc (Go.Sort.ahead w q) blk off (hJ eq d d.size++List.replicate (d.size - (hJ eq d d.size).length) zr).toArray:=by
 have mixed:=aDN;have hcl0:=hO.cells;simp only[Value.cells] at hcl0;have hst:=hO.store Tryz.prog
 have same: ∀q,(∀j,j<d.size->gZ eq d j=true)->(hJ eq d d.size).length=d.size/\w.drewN q=Go.Sort.putRow enc (Go.Sort.ahead w q) blk off (hJ eq d d.size++List.replicate (d.size - (hJ eq d d.size).length) zr).toArray:=by
  intro q hall;have e:hJ eq d d.size=d.toList:=aE5 eq d hall;rw[e];refine⟨by simp,?_⟩;simp only[aMw,Nat.sub_self,List.replicate_zero,aMd,Array.toArray_toList];exact(Go.Sort.putRow_self enc (Go.Sort.ahead w q) blk off d (Go.Sort.holds_ahead enc w q blk off d hH)).symm
 have HS:Aside _:=same;have HC:Aside _:=hcmp
 clear same hcmp
 by_cases h2:d.size<2
 ·have HH:Aside (Go.Sort.Holds enc w blk off d):=hH
  clear hH
  go_enter Tryz.func105,Tryz.ntmps105
  go_wp2
  go_ret
  obtain⟨e1,e2⟩:=HS.out 0 (fun j hj=>aCW eq d j (by omega));exact⟨by rw[e1];rfl,0,e2⟩
 go_enter Tryz.func105,Tryz.ntmps105
 go_wp2
 go_loopg [5] d.size (fun g s3 wr=> ∃k q:Nat,1<=k/\k<=d.size/\d.size - k<=g/\s3= .int .i64 k/\wr=w.drewN q/\ ∀j,j<k->gZ eq d j=true)
 case atStart=>exact⟨1,0,aLB _,by omega,by omega,rfl,rfl,aCW eq d⟩
 case round=>
  obtain⟨k,q,hk1,hk,hg,rfl,rfl,hall⟩:=hrel;by_cases hlt:k<d.size
  ·obtain⟨c1,f1⟩:=hH k hlt;obtain⟨c0,f0⟩:=hH (k - 1) (by omega);have A:Aside (∀j,j<k->gZ eq d j=true):=hall;have HH:Aside (Go.Sort.Holds enc w blk off d):=hH;have hc0:=HC.out d q d[k]! d[k - 1]! rfl;have hself:Go.Sort.putRow enc (Go.Sort.ahead w q) blk off d=w.drewN q:=Go.Sort.putRow_self enc (Go.Sort.ahead w q) blk off d (Go.Sort.holds_ahead enc w q blk off d hH);rw[hself] at hc0
   clear hall hH hself
   generalize hx:d[k]! =x at c1 hc0;generalize hy:d[k - 1]! =y at c0 hc0;have B:Aside (d[k]! =x/\d[k - 1]! =y):=⟨hx,hy⟩
   clear hx hy
   obtain⟨kp,rfl⟩: ∃kp,k=kp+1:=⟨k - 1,by omega⟩;simp only[Nat.add_sub_cancel] at c0;have hwp:IntKind.i64.wrap (kp:Int)=(kp:Int):=by rw[IntKind.wrap_i64];omega
   have kz:(kp:Int)+1<(d.size:Int):=by omega
   have kz1:(kp:Int)<(d.size:Int):=by omega
   have p0:(0:Int)<=(kp:Int)+1:=by omega
   have e0:((kp:Int)+1).toNat=kp+1:=by omega
   have c1' :(w.drewN q).cell? ⟨blk,off+(kp+1),none⟩=some (enc x):=c1;have c0' :(w.drewN q).cell? ⟨blk,off+kp,none⟩=some (enc y):=c0
   clear c1 c0
   generalize hwq:w.drewN q=wq at c1' c0' hc0 ⊢;have WQ:Hid (w.drewN q=wq):=hwq
   clear hwq
   cases hdup:eq x y with
   | true=>
     rw[hdup] at hc0
     go_wp2_with fail
     go_quiet ((first|(go_at_call 106;exact Calls.quiet_of (hc0 _))|(go_at_fn 106;exact Calls.quiet_of (hc0 _))))
     go_wp2
     have W1:Hid (wq.drewN nq=Go.Sort.putRow enc (Go.Sort.ahead w (q+nq)) blk off d):=by
      show _=_;rw[<-WQ.out,World.drewN_drewN];exact(Go.Sort.putRow_self enc (Go.Sort.ahead w (q+nq)) blk off d (Go.Sort.holds_ahead enc w (q+nq) blk off d HH.out)).symm
     clear c1' c0' f0 f1 hc0
     go_loopg [5,7] d.size (fun g s3 s5 wr=> ∃(kk k2 q2:Nat) (dk:Array Nat),s3= .int .i64 kk/\s5= .int .i64 ((k2:Int)+1)/\kp+1+(k2+1)<=d.size/\d.size - (kp+1+(k2+1))<=g/\wr=Go.Sort.putRow enc (Go.Sort.ahead w q2) blk off dk/\oE eq d (kp+1+(k2+1)) kk dk)
     case atStart=>exact⟨kp+1,0,q+nq,d,by go_num,rfl,by omega,by omega,W1.out,oE.start A.out (aCY eq (by omega) (by rw[B.out.1,Nat.add_sub_cancel,show d[kp]! =y from B.out.2];exact hdup))⟩
     case round=>
      obtain⟨kk,k2,q2,dk,rfl,rfl,hle,hg2,hwr,hI⟩:=hrel;have hkk:=hI.lt;have hds:=hI.size;have hHk:Go.Sort.Holds enc wr blk off dk:=by rw[hwr];exact Go.Sort.holds_putRow enc _ blk off d dk (Go.Sort.holds_ahead enc w q2 blk off d HH.out) hds
      have W2:Aside (wr=Go.Sort.putRow enc (Go.Sort.ahead w q2) blk off dk):=hwr;have I2:Aside (oE eq d (kp+1+(k2+1)) kk dk):=hI;by_cases hlt2:kp+1+(k2+1)<d.size
      ·obtain⟨cm,_⟩:=hHk (kp+1+(k2+1)) (by omega);obtain⟨cp,_⟩:=hHk (kp+1+k2) (by omega);obtain⟨ck,fk⟩:=hHk kk (by omega);rw[hI.high (kp+1+(k2+1)) (by omega),show off+(kp+1+(k2+1))=off+(kp+1)+(k2+1) by omega] at cm;rw[hI.high (kp+1+k2) (by omega),show off+(kp+1+k2)=off+(kp+1)+k2 by omega] at cp;have hc1:=HC.out dk q2 d[kp+1+(k2+1)]! d[kp+1+k2]! hds;rw[<-hwr] at hc1
       clear hHk hI hwr
       generalize hu:d[kp+1+(k2+1)]! =u at cm hc1;generalize hv:d[kp+1+k2]! =v at cp hc1;generalize dk[kk]! =old at ck;have C:Aside (d[kp+1+(k2+1)]! =u/\d[kp+1+k2]! =v):=⟨hu,hv⟩
       clear hu hv
       have hwp2:IntKind.i64.wrap (k2:Int)=(k2:Int):=by rw[IntKind.wrap_i64];omega
       have jz:(k2:Int)+1<(d.size:Int) - ((kp:Int)+1):=by omega
       have jz1:(k2:Int)<(d.size:Int) - ((kp:Int)+1):=by omega
       have j0:(0:Int)<=(k2:Int)+1:=by omega
       have je:((k2:Int)+1).toNat=k2+1:=by omega
       cases huv:eq u v with
       | true=>
         rw[huv] at hc1
         go_wp2_with fail
         go_quiet ((first|(go_at_call 106;exact Calls.quiet_of (hc1 _))|(go_at_fn 106;exact Calls.quiet_of (hc1 _))))
         go_wp2
         go_roundg (d.size - (kp+1+(k2+1+1)))
         case measure=>omega
         case rel=>exact⟨kk,k2+1,q2+nq,dk,rfl,by go_num,by omega,by omega,by rw[W2.out];exact Go.Proofs.putRow_drewN _ _ _ _ _ _ _,I2.out.skip (aCY eq (by omega) (by rw[C.out.1,show kp+1+(k2+1) - 1=kp+1+k2 by omega,C.out.2];exact huv))⟩
       | false=>
         rw[huv] at hc1
         go_wp2_with fail
         go_quiet ((first|(go_at_call 106;exact Calls.quiet_of (hc1 _))|(go_at_fn 106;exact Calls.quiet_of (hc1 _))))
         go_wp2
         go_roundg (d.size - (kp+1+(k2+1+1)))
         case measure=>omega
         case rel=>
          refine⟨kk+1,k2+1,q2+nq,dk.setIfInBounds kk u,by go_num,by go_num,by omega,by omega,?_,?_⟩
          ·rw[W2.out,show (Go.Sort.putRow enc (Go.Sort.ahead w q2) blk off dk).drewN nq=Go.Sort.putRow enc (Go.Sort.ahead w (q2+nq)) blk off dk from Go.Proofs.putRow_drewN _ _ _ _ _ _ _,Go.Sort.putRow_set enc _ blk off dk kk u (by omega)]
          have:=I2.out.keep hlt2 (aCX eq (by rw[C.out.1,show kp+1+(k2+1) - 1=kp+1+k2 by omega,C.out.2];exact huv))
          rwa [C.out.1] at this
      have hend:kp+1+(k2+1)=d.size:=by omega
      have hcl: ∀ty,(Builtin.clear_ #[35] ty #[.slice (some ⟨blk,off+kk,none⟩) (d.size - kk) (cap - kk)]).run Tryz.prog wr= .ok (.tuple #[]) (wr.setCells blk (off+kk) (List.replicate (d.size - kk) (enc zr))):=
       fun ty=>Lib.run_clear_slice wr _ _ ty _ Tryz.underlying35 (fun w=>by rw[hz];rfl) (hO.cells zr) (hO zr) blk (off+kk) _ _ (by omega) (fun j hj=>by rw[show off+kk+j=off+(kk+j) by omega,(hHk (kk+j) (by omega)).1];rfl) (fun j hj=>by rw[show off+kk+j=off+(kk+j) by omega];exact(hHk (kk+j) (by omega)).2)
      clear hHk hI hwr
      go_wp2
      go_ret
      have hI:=I2.out;rw[hend] at hI;refine⟨by rw[hI.len];rfl,q2,?_⟩;rw[hI.len,<-hI.done zr,<-putRow_setCells enc _ blk off _ dk kk (by simp;omega),<-W2.out,aLK,hz]
   | false=>
     rw[hdup] at hc0
     go_wp2_with fail
     go_quiet ((first|(go_at_call 106;exact Calls.quiet_of (hc0 _))|(go_at_fn 106;exact Calls.quiet_of (hc0 _))))
     go_wp2
     go_roundg (d.size - (kp+1+1))
     case measure=>omega
     case rel=>
      refine⟨kp+1+1,q+nq,by omega,by omega,aLB _,by go_num,by rw[<-WQ.out,World.drewN_drewN],fun j hj=>?_⟩;by_cases e:j=kp+1
      ·subst e;exact aCX eq (by rw[B.out.1,B.out.2];exact hdup)
      exact A.out j (by omega)
  obtain rfl:k=d.size:=by omega
  have HH:Aside (Go.Sort.Holds enc w blk off d):=hH
  clear hH
  go_wp2
  go_ret
  obtain⟨e1,e2⟩:=HS.out q hall;exact⟨by rw[e1];rfl,q,e2⟩
end Go.Proofs.YtgamjlgfnmpcjaaGreatDoor
