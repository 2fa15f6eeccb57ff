/-
  Contracts and plain laws, joined: part 4.
-/
import Derived.Test.YtlidmoeecphbmaaGreateb2
import Derived.Laws.Strings
namespace Go.Proofs.YtlidmoeecphbmaaGreat
open Go.ChangeShapes Go.WideShapes Go.ChangeAt Go.RowKit
set_option linter.unusedVariables false
set_option linter.unusedSimpArgs false
set_option maxRecDepth 100000
set_option maxHeartbeats 4000000
def tb:Tb:=⟨[(2,(false,1,8,.int .i64 0)),(3,(false,1,8,.int .i64 0)),(4,(false,1,1,.bool false)),(5,(false,1,1,.int .u8 0)),(6,(false,1,1,.int .u8 0)),(7,(true,4,24,.agg #[.int .i64 0,.int .i64 0,.bool false,.int .u8 0])),(8,(true,4,24,.agg #[.int .i64 0,.int .i64 0,.bool false,.int .u8 0])),(9,(false,1,16,.string ByteArray.empty)),(10,(false,1,16,.string ByteArray.empty)),(11,(false,1,16,.string ByteArray.empty)),(12,(false,1,8,.int .u64 0)),(13,(true,2,24,.agg #[.string ByteArray.empty,.int .u64 0])),(14,(true,2,24,.agg #[.string ByteArray.empty,.int .u64 0])),(15,(false,1,8,.pointer none)),(16,(false,1,8,.pointer none)),(17,(false,1,8,.pointer none)),(21,(false,1,4,.int .i32 0)),(22,(false,1,24,.slice none 0 0)),(23,(true,1,24,.agg #[.slice none 0 0])),(24,(true,1,24,.agg #[.slice none 0 0])),(25,(false,1,24,.slice none 0 0)),(26,(true,2,32,.agg #[.int .i64 0,.slice none 0 0])),(27,(true,2,32,.agg #[.int .i64 0,.slice none 0 0])),(28,(false,1,24,.slice none 0 0)),(29,(false,1,24,.slice none 0 0)),(30,(true,5,104,.agg #[.slice none 0 0,.int .i64 0,.slice none 0 0,.slice none 0 0,.slice none 0 0])),(31,(true,5,104,.agg #[.slice none 0 0,.int .i64 0,.slice none 0 0,.slice none 0 0,.slice none 0 0])),(32,(false,1,24,.slice none 0 0)),(33,(true,2,32,.agg #[.int .i64 0,.slice none 0 0])),(34,(true,2,32,.agg #[.int .i64 0,.slice none 0 0])),(37,(true,2,16,.agg #[.int .i64 0,.int .i64 0])),(38,(true,2,16,.agg #[.int .i64 0,.int .i64 0])),(41,(false,1,24,.slice none 0 0)),(42,(true,1,24,.agg #[.slice none 0 0])),(43,(true,1,24,.agg #[.slice none 0 0])),(44,(false,1,24,.slice none 0 0)),(45,(true,2,32,.agg #[.int .i64 0,.slice none 0 0])),(46,(true,2,32,.agg #[.int .i64 0,.slice none 0 0])),(47,(false,1,24,.slice none 0 0)),(48,(false,1,24,.slice none 0 0)),(49,(true,5,104,.agg #[.slice none 0 0,.int .i64 0,.slice none 0 0,.slice none 0 0,.slice none 0 0])),(50,(true,5,104,.agg #[.slice none 0 0,.int .i64 0,.slice none 0 0,.slice none 0 0,.slice none 0 0])),(52,(false,1,24,.slice none 0 0)),(53,(true,2,32,.agg #[.int .i64 0,.slice none 0 0])),(54,(true,2,32,.agg #[.int .i64 0,.slice none 0 0])),(61,(false,1,24,.slice none 0 0)),(62,(true,4,64,.agg #[.int .i64 0,.int .i64 0,.slice none 0 0,.slice none 0 0])),(63,(true,4,64,.agg #[.int .i64 0,.int .i64 0,.slice none 0 0,.slice none 0 0])),(86,(false,1,24,.slice none 0 0)),(87,(true,4,56,.agg #[.string ByteArray.empty,.int .i64 0,.int .i64 0,.slice none 0 0])),(88,(true,4,56,.agg #[.string ByteArray.empty,.int .i64 0,.int .i64 0,.slice none 0 0])),(91,(false,1,24,.slice none 0 0)),(92,(false,1,24,.slice none 0 0)),(93,(true,3,72,.agg #[.slice none 0 0,.slice none 0 0,.slice none 0 0])),(94,(true,3,72,.agg #[.slice none 0 0,.slice none 0 0,.slice none 0 0])),(98,(false,1,24,.slice none 0 0)),(111,(true,3,48,.agg #[.string ByteArray.empty,.slice none 0 0,.int .i64 0])),(112,(true,3,48,.agg #[.string ByteArray.empty,.slice none 0 0,.int .i64 0])),(114,(true,4,48,.agg #[.string ByteArray.empty,.int .i64 0,.string ByteArray.empty,.int .i64 0])),(115,(true,4,48,.agg #[.string ByteArray.empty,.int .i64 0,.string ByteArray.empty,.int .i64 0])),(117,(true,2,40,.agg #[.string ByteArray.empty,.slice none 0 0])),(118,(true,2,40,.agg #[.string ByteArray.empty,.slice none 0 0])),(121,(true,3,48,.agg #[.string ByteArray.empty,.slice none 0 0,.int .i64 0])),(123,(true,4,48,.agg #[.string ByteArray.empty,.int .i64 0,.string ByteArray.empty,.int .i64 0])),(125,(true,2,40,.agg #[.string ByteArray.empty,.slice none 0 0])),(141,(true,3,48,.agg #[.string ByteArray.empty,.int .i64 0,.slice none 0 0])),(142,(true,3,48,.agg #[.string ByteArray.empty,.int .i64 0,.slice none 0 0])),(149,(false,1,24,.slice none 0 0)),(150,(true,7,136,.agg #[.slice none 0 0,.slice none 0 0,.slice none 0 0,.slice none 0 0,.slice none 0 0,.int .i64 0,.int .i64 0])),(151,(true,7,136,.agg #[.slice none 0 0,.slice none 0 0,.slice none 0 0,.slice none 0 0,.slice none 0 0,.int .i64 0,.int .i64 0])),(165,(true,3,48,.agg #[.string ByteArray.empty,.int .i64 0,.slice none 0 0])),(167,(false,1,24,.slice none 0 0)),(168,(true,4,56,.agg #[.string ByteArray.empty,.int .i64 0,.int .i64 0,.slice none 0 0])),(169,(true,4,56,.agg #[.string ByteArray.empty,.int .i64 0,.int .i64 0,.slice none 0 0])),(191,(true,3,24,.agg #[.int .i64 0,.int .i64 0,.int .i64 0])),(192,(true,3,24,.agg #[.int .i64 0,.int .i64 0,.int .i64 0])),(199,(false,1,8,.pointer none)),(200,(true,1,1,.agg #[.bool false])),(201,(true,1,1,.agg #[.bool false])),(207,(false,1,24,.slice none 0 0)),(219,(true,3,72,.agg #[.slice none 0 0,.slice none 0 0,.slice none 0 0])),(220,(true,3,72,.agg #[.slice none 0 0,.slice none 0 0,.slice none 0 0])),(222,(false,1,24,.slice none 0 0)),(233,(true,3,72,.agg #[.slice none 0 0,.slice none 0 0,.slice none 0 0])),(255,(false,1,8,.int .u64 0)),(258,(false,1,8,.int .i64 0)),(267,(false,1,4,.int .u32 0)),(269,(false,1,8,.int .u64 0)),(275,(false,1,8,.int .u64 0)),(279,(false,1,8,.pointer none)),(284,(false,1,8,.pointer none)),(292,(true,0,0,.agg #[])),(293,(true,0,0,.agg #[])),(295,(false,1,1,.int .u8 0)),(296,(false,1,1,.int .u8 0)),(298,(false,1,8,.pointer none)),(299,(false,1,4,.int .i32 0)),(300,(false,1,4,.int .i32 0))],
 [(22,165),(25,169),(28,112),(29,115),(32,118),(41,142),(44,88),(47,121),(48,123),(52,125),(61,38),(86,220),(91,3),(92,91),(98,192),(149,61),(167,233),(207,5),(222,4)],
 [(7,[(0,(0,2)),(1,(1,3)),(2,(2,4)),(3,(3,6))]),(8,[(0,(0,2)),(1,(1,3)),(2,(2,4)),(3,(3,6))]),(13,[(0,(0,9)),(1,(1,12))]),(14,[(0,(0,9)),(1,(1,12))]),(23,[(0,(0,22))]),(24,[(0,(0,22))]),(26,[(0,(0,3)),(1,(1,25))]),(27,[(0,(0,3)),(1,(1,25))]),(30,[(0,(0,24)),(1,(1,27)),(2,(3,28)),(3,(4,29))]),(31,[(0,(0,24)),(1,(1,27)),(2,(3,28)),(3,(4,29))]),(33,[(0,(0,3)),(1,(1,32))]),(34,[(0,(0,3)),(1,(1,32))]),(37,[(0,(0,3)),(1,(1,3))]),(38,[(0,(0,3)),(1,(1,3))]),(42,[(0,(0,41))]),(43,[(0,(0,41))]),(45,[(0,(0,3)),(1,(1,44))]),(46,[(0,(0,3)),(1,(1,44))]),(49,[(0,(0,43)),(1,(1,46)),(2,(3,47)),(3,(4,48))]),(50,[(0,(0,43)),(1,(1,46)),(2,(3,47)),(3,(4,48))]),(53,[(0,(0,3)),(1,(1,52))]),(54,[(0,(0,3)),(1,(1,52))]),(62,[(0,(0,38)),(1,(2,61)),(2,(3,61))]),(63,[(0,(0,38)),(1,(2,61)),(2,(3,61))]),(87,[(0,(0,9)),(1,(1,3)),(2,(2,3)),(3,(3,86))]),(88,[(0,(0,9)),(1,(1,3)),(2,(2,3)),(3,(3,86))]),(93,[(0,(0,91)),(1,(1,92)),(2,(2,91))]),(94,[(0,(0,91)),(1,(1,92)),(2,(2,91))]),(111,[(0,(0,9)),(1,(1,91)),(2,(2,3))]),(112,[(0,(0,9)),(1,(1,91)),(2,(2,3))]),(114,[(0,(0,9)),(1,(1,3)),(2,(2,9)),(3,(3,3))]),(115,[(0,(0,9)),(1,(1,3)),(2,(2,9)),(3,(3,3))]),(117,[(0,(0,9)),(1,(1,91))]),(118,[(0,(0,9)),(1,(1,91))]),(121,[(0,(0,9)),(1,(1,91)),(2,(2,3))]),(123,[(0,(0,9)),(1,(1,3)),(2,(2,9)),(3,(3,3))]),(125,[(0,(0,9)),(1,(1,91))]),(141,[(0,(0,9)),(1,(1,3)),(2,(2,92))]),(142,[(0,(0,9)),(1,(1,3)),(2,(2,92))]),(150,[(0,(0,91)),(1,(1,91)),(2,(2,149)),(3,(3,61)),(4,(4,61)),(5,(5,38))]),(151,[(0,(0,91)),(1,(1,91)),(2,(2,149)),(3,(3,61)),(4,(4,61)),(5,(5,38))]),(165,[(0,(0,9)),(1,(1,3)),(2,(2,92))]),(168,[(0,(0,9)),(1,(1,3)),(2,(2,3)),(3,(3,167))]),(169,[(0,(0,9)),(1,(1,3)),(2,(2,3)),(3,(3,167))]),(191,[(0,(0,3)),(1,(1,3)),(2,(2,3))]),(192,[(0,(0,3)),(1,(1,3)),(2,(2,3))]),(200,[(0,(0,4))]),(201,[(0,(0,4))]),(219,[(0,(0,91)),(1,(1,92)),(2,(2,91))]),(220,[(0,(0,91)),(1,(1,92)),(2,(2,91))]),(233,[(0,(0,91)),(1,(1,92)),(2,(2,91))]),(292,[]),(293,[])],
 [(7,(.agg #[.int .i64 0,.int .i64 0,.bool false,.int .u8 0],[(0,1),(1,1),(2,1),(3,1)])),(8,(.agg #[.int .i64 0,.int .i64 0,.bool false,.int .u8 0],[(0,1),(1,1),(2,1),(3,1)])),(13,(.agg #[.string ByteArray.empty,.int .u64 0],[(0,1),(1,1)])),(14,(.agg #[.string ByteArray.empty,.int .u64 0],[(0,1),(1,1)])),(23,(.agg #[.slice none 0 0],[(0,1)])),(24,(.agg #[.slice none 0 0],[(0,1)])),(26,(.agg #[.int .i64 0,.slice none 0 0],[(0,1),(1,1)])),(27,(.agg #[.int .i64 0,.slice none 0 0],[(0,1),(1,1)])),(30,(.agg #[.slice none 0 0,.int .i64 0,.slice none 0 0,.slice none 0 0,.slice none 0 0],[(0,1),(1,2),(3,1),(4,1)])),(31,(.agg #[.slice none 0 0,.int .i64 0,.slice none 0 0,.slice none 0 0,.slice none 0 0],[(0,1),(1,2),(3,1),(4,1)])),(33,(.agg #[.int .i64 0,.slice none 0 0],[(0,1),(1,1)])),(34,(.agg #[.int .i64 0,.slice none 0 0],[(0,1),(1,1)])),(37,(.agg #[.int .i64 0,.int .i64 0],[(0,1),(1,1)])),(38,(.agg #[.int .i64 0,.int .i64 0],[(0,1),(1,1)])),(42,(.agg #[.slice none 0 0],[(0,1)])),(43,(.agg #[.slice none 0 0],[(0,1)])),(45,(.agg #[.int .i64 0,.slice none 0 0],[(0,1),(1,1)])),(46,(.agg #[.int .i64 0,.slice none 0 0],[(0,1),(1,1)])),(49,(.agg #[.slice none 0 0,.int .i64 0,.slice none 0 0,.slice none 0 0,.slice none 0 0],[(0,1),(1,2),(3,1),(4,1)])),(50,(.agg #[.slice none 0 0,.int .i64 0,.slice none 0 0,.slice none 0 0,.slice none 0 0],[(0,1),(1,2),(3,1),(4,1)])),(53,(.agg #[.int .i64 0,.slice none 0 0],[(0,1),(1,1)])),(54,(.agg #[.int .i64 0,.slice none 0 0],[(0,1),(1,1)])),(62,(.agg #[.int .i64 0,.int .i64 0,.slice none 0 0,.slice none 0 0],[(0,2),(2,1),(3,1)])),(63,(.agg #[.int .i64 0,.int .i64 0,.slice none 0 0,.slice none 0 0],[(0,2),(2,1),(3,1)])),(87,(.agg #[.string ByteArray.empty,.int .i64 0,.int .i64 0,.slice none 0 0],[(0,1),(1,1),(2,1),(3,1)])),(88,(.agg #[.string ByteArray.empty,.int .i64 0,.int .i64 0,.slice none 0 0],[(0,1),(1,1),(2,1),(3,1)])),(93,(.agg #[.slice none 0 0,.slice none 0 0,.slice none 0 0],[(0,1),(1,1),(2,1)])),(94,(.agg #[.slice none 0 0,.slice none 0 0,.slice none 0 0],[(0,1),(1,1),(2,1)])),(111,(.agg #[.string ByteArray.empty,.slice none 0 0,.int .i64 0],[(0,1),(1,1),(2,1)])),(112,(.agg #[.string ByteArray.empty,.slice none 0 0,.int .i64 0],[(0,1),(1,1),(2,1)])),(114,(.agg #[.string ByteArray.empty,.int .i64 0,.string ByteArray.empty,.int .i64 0],[(0,1),(1,1),(2,1),(3,1)])),(115,(.agg #[.string ByteArray.empty,.int .i64 0,.string ByteArray.empty,.int .i64 0],[(0,1),(1,1),(2,1),(3,1)])),(117,(.agg #[.string ByteArray.empty,.slice none 0 0],[(0,1),(1,1)])),(118,(.agg #[.string ByteArray.empty,.slice none 0 0],[(0,1),(1,1)])),(121,(.agg #[.string ByteArray.empty,.slice none 0 0,.int .i64 0],[(0,1),(1,1),(2,1)])),(123,(.agg #[.string ByteArray.empty,.int .i64 0,.string ByteArray.empty,.int .i64 0],[(0,1),(1,1),(2,1),(3,1)])),(125,(.agg #[.string ByteArray.empty,.slice none 0 0],[(0,1),(1,1)])),(141,(.agg #[.string ByteArray.empty,.int .i64 0,.slice none 0 0],[(0,1),(1,1),(2,1)])),(142,(.agg #[.string ByteArray.empty,.int .i64 0,.slice none 0 0],[(0,1),(1,1),(2,1)])),(150,(.agg #[.slice none 0 0,.slice none 0 0,.slice none 0 0,.slice none 0 0,.slice none 0 0,.int .i64 0,.int .i64 0],[(0,1),(1,1),(2,1),(3,1),(4,1),(5,2)])),(151,(.agg #[.slice none 0 0,.slice none 0 0,.slice none 0 0,.slice none 0 0,.slice none 0 0,.int .i64 0,.int .i64 0],[(0,1),(1,1),(2,1),(3,1),(4,1),(5,2)])),(165,(.agg #[.string ByteArray.empty,.int .i64 0,.slice none 0 0],[(0,1),(1,1),(2,1)])),(168,(.agg #[.string ByteArray.empty,.int .i64 0,.int .i64 0,.slice none 0 0],[(0,1),(1,1),(2,1),(3,1)])),(169,(.agg #[.string ByteArray.empty,.int .i64 0,.int .i64 0,.slice none 0 0],[(0,1),(1,1),(2,1),(3,1)])),(191,(.agg #[.int .i64 0,.int .i64 0,.int .i64 0],[(0,1),(1,1),(2,1)])),(192,(.agg #[.int .i64 0,.int .i64 0,.int .i64 0],[(0,1),(1,1),(2,1)])),(200,(.agg #[.bool false],[(0,1)])),(201,(.agg #[.bool false],[(0,1)])),(219,(.agg #[.slice none 0 0,.slice none 0 0,.slice none 0 0],[(0,1),(1,1),(2,1)])),(220,(.agg #[.slice none 0 0,.slice none 0 0,.slice none 0 0],[(0,1),(1,1),(2,1)])),(233,(.agg #[.slice none 0 0,.slice none 0 0,.slice none 0 0],[(0,1),(1,1),(2,1)])),(292,(.agg #[],[(0,0)])),(293,(.agg #[],[(0,0)]))],
 [(4,())],
 [(9,()),(10,()),(11,())],
 [(2,.i64),(3,.i64),(5,.u8),(6,.u8),(12,.u64),(21,.i32),(255,.u64),(258,.i64),(267,.u32),(269,.u64),(275,.u64),(295,.u8),(296,.u8),(299,.i32),(300,.i32)],
 [(38,[0,0]),(123,[2,0,2,0]),(192,[0,0,0]),(201,[1])]⟩
theorem fc {α:Type}{p:Nat->α->Prop}{k:Nat}{v:α}{l:List (Nat × α)}(h:p k v)(t:nY p l):nY p ((k,v)::l):=⟨h,t⟩
theorem aKz:Tryz.prog.follows .mixedOrders=true:=by kernel_rfl
set_option maxRecDepth 100000 in
theorem aYb:lD Tryz.prog tb:=
 by
 refine⟨?_,?_,?_,?_,?_,?_,?_,?_⟩<;>repeat' (first|refine fc ?_ ?_|exact trivial|kernel_rfl)
end Go.Proofs.YtlidmoeecphbmaaGreat
namespace Go.Proofs.YtlidmoeecphbmaaGreat
open Go.ChangeShapes Go.WideShapes Go.ChangeAt Go.RowKit
set_option linter.unusedVariables false
set_option linter.unusedSimpArgs false
set_option maxRecDepth 100000
set_option maxHeartbeats 4000000
abbrev bH (p:AV × List (Nat × Rs))(t:T):T:= .call p.1 p.2 t
abbrev oD (p:List AV × List (Nat × Rs) × AV × List (Nat × Rs))(r:List (Nat × Nat))(t:T):T:= .callx p.1 p.2.1 r p.2.2.1 p.2.2.2 t
abbrev rg (a n:Nat):List Nat:=List.range' a n
abbrev Br (p:Prop)[Decidable p](X Y:Prop):Prop:=(decide p=true->X)/\(decide p=false->Y)
abbrev Nb (p:Prop)[Decidable p](X Y:Prop):Prop:=((!decide p)=true->X)/\((!decide p)=false->Y)
abbrev Bb (b:Bool)(X Y:Prop):Prop:=(b=true->X)/\(b=false->Y)
abbrev Nr (b:Bool)(X Y:Prop):Prop:=((!b)=true->X)/\((!b)=false->Y)
theorem dd {p:Prop}[Decidable p]{X Y:Prop}(hx:p->X)(hy: ¬p->Y):Br p X Y:=⟨fun h=>hx (of_decide_eq_true h),fun h=>hy (of_decide_eq_false h)⟩
theorem dn {p:Prop}[Decidable p]{X Y:Prop}(hx: ¬p->X)(hy:p->Y):Nb p X Y:=⟨fun h=>hx (of_decide_eq_false (nt h)),fun h=>hy (of_decide_eq_true (nf h))⟩
theorem db {b:Bool}{X Y:Prop}(hx:b=true->X)(hy:b=false->Y):Bb b X Y:=⟨hx,hy⟩
theorem dm {b:Bool}{X Y:Prop}(hx:b=false->X)(hy:b=true->Y):Nr b X Y:=⟨fun h=>hx (nt h),fun h=>hy (nf h)⟩
abbrev Lx {α:Type}(l:List α)(A:Prop):Prop:=l.length<=9223372036854775807->A
theorem lx {α β:Type}{f:α->β}{l:List α}{A:Prop}(h:l.length<=9223372036854775807->A):Lx (l.map f) A:=fun q=>h (by simpa using q)
abbrev Cn (f:FuncId)(args:List Ar)(rv:AV)(rr:List (Nat × Rs)):Prop:=qI Tryz.prog f args rv rr
abbrev Cm (f:FuncId)(args:List AV)(ri:List (Nat × Rs))(rv:AV)(ro:List (Nat × Rs)):Prop:=sW Tryz.prog f args ri rv ro
theorem cq {f:FuncId}{fn:Func}{args:List Ar}{rv:AV}{rr:List (Nat × Rs)}(hf:Tryz.prog.funcs[f]? =some fn)(t:T){p:Prop}(h:(match aIg fn args.length with | true=>aPi Tryz.prog tb fn args rv rr t | false=>False)=p)(hp:p):qI Tryz.prog f args rv rr:=by
 cases hc:aIg fn args.length with
 | true=>rw[hc] at h;exact aY9 aYb aKz hf hc t h hp
 | false=>rw[hc] at h;rw[<-h] at hp;exact hp.elim
theorem cqx {f:FuncId}{fn:Func}{args:List AV}{ri:List (Nat × Rs)}{rv:AV}{ro:List (Nat × Rs)}(hf:Tryz.prog.funcs[f]? =some fn)(t:T){p:Prop}(h:(match aIg fn args.length&&ri.all fun q=>Nat.blt q.1 100 with | true=>aPj Tryz.prog tb fn args ri rv ro t | false=>False)=p)(hp:p):sW Tryz.prog f args ri rv ro:=by
 cases hc:(aIg fn args.length&&ri.all fun q=>Nat.blt q.1 100) with
 | true=>rw[hc] at h;rw[aB4] at hc;exact aXx aYb aKz hf hc.1 hc.2 t h hp
 | false=>rw[hc] at h;rw[<-h] at hp;exact hp.elim
theorem nq {p:Prop}[Decidable p](h:decide p=false): ¬p:=of_decide_eq_false h
abbrev Em {α:Type}(enc:α->List bP)(l:List α)(i:Nat)(P:α->Prop):Prop:=l.map enc=l.map enc/\i<l.length/\ ∀x,l[i]? =some x->P x
abbrev Lm {α:Type}(enc:α->List bP)(l:List α):Prop:=(l.map enc).length=l.length
abbrev Ap {α:Type}(enc:α->List bP)(l m:List α)(n:Nat)(R:Prop):Prop:=l.map enc=l.map enc/\m.map enc=m.map enc/\(∀x,gI (enc x)=true)/\(l.length+m.length)*n<=140737488355328/\R
theorem ap {α:Type}{enc:α->List bP}{l m:List α}{n:Nat}{R:Prop}(r:R)(hf: ∀x,gI (enc x)=true)(h:(l.length+m.length)*n<=140737488355328):Ap enc l m n R:=⟨rfl,rfl,hf,h,r⟩
def jM (b:Bool):List bP:=[.bool b]
def aQo (s:ByteArray):Prop:=s.size<=maxLen
theorem aWF {A:Nat->Prop}{w:World}{s:ByteArray}:hY A w (.str s) (.string s):=by unfold hY;rfl
theorem rdI {w:World}{c:Value}{n:Int}(h:aQP w [c] n):hY (Lv w) w (.int .i64 n) c:=by
 have e:=h.1;simp at e;subst e;exact rdV_int
theorem rdS {w:World}{c:Value}{s:ByteArray}(h:aXC w [c] s):hY (Lv w) w (.str s) c:=by
 have e:=h.1;simp at e;subst e;exact aWF
theorem iU {n:Nat}{m:Int}(h: ¬aT n m<0):(n:Int)<=m:=by
 unfold aT at h;split at h
 ·assumption
 omega
theorem jI {n:Nat}{m:Int}(h:aT n m<0): ¬(n:Int)<=m:=by
 unfold aT at h;split at h
 ·omega
 assumption
theorem mQ {α:Type}{l:List α}{k:Nat}{x z:α}(h:l[k]? =some x):(l.take k++List.replicate (l.length - k) z).set k x=l.take (k+1)++List.replicate (l.length - (k+1)) z:=by
 have hk:k<l.length:=(aEa.1 h).1;rw[show l.length - k=(l.length - (k+1))+1 by omega,List.replicate_succ,List.set_append_right _ _ (by simp;omega),bQ h];simp[show k - min k l.length=0 by omega]
theorem pP {α:Type}{l:List α}{k:Nat}{z:α}(h:k<=l.length):(l.take k++List.replicate (l.length - k) z).length=l.length:=by simp;omega
theorem mR {α:Type}{l:List α}{k:Nat}{z:α}(h:k<=l.length)(h' : ¬k<l.length):l.take k++List.replicate (l.length - k) z=l:=by
 rw[show k=l.length by omega];simp
theorem aXy {α:Type}{l:List α}{i:Nat}{x y:α}(h:(l.set i y)[i]? =some x):x=y:=by
 rw[List.getElem?_set_self'] at h;cases hl:l[i]? with
 | none=>simp[hl] at h
 | some z=>simp[hl] at h;exact h.symm
theorem dA {α:Type}{l:List α}{k:Nat}(h:k<l.length): ∃x,l[k]? =some x:=⟨_,aEA h⟩
def aC (l:List Int):List bP:=[.sl 3 1 (l.map intD)]
def aDv (l:List Int):Prop:= ∀x∈l,Fits x
def cC (l:List Int):Nat:=l.length
theorem aJb (l:List Int):l.length<=cC l:=aSO _
def aXz (l:List (List Int)):List bP:=[.sl 91 1 (l.map aC)]
def aGN (l:List (List Int)):Prop:= ∀x∈l,aDv x
def cO (l:List (List Int)):Nat:=aCD cC l
theorem fD (l:List (List Int)):l.length<=cO l:=qR _ l
theorem aAX {l:List (List Int)}{k:Nat}{y:List Int}(h:l[k]? =some y):cC y<=cO l:=qS _ h
structure aY where
 name:ByteArray
 arity:Int
 rows:List (List Int)
 deriving DecidableEq
def aS (x:aY):List bP:=[.str x.name,.int .i64 x.arity,.sl 91 1 (x.rows.map aC)]
def aOY (x:aY):Prop:=aQo x.name/\Fits x.arity/\aGN x.rows
def gA (x:aY):Nat:=ByteArray.size x.name+cO x.rows
def gB:aY:=⟨ByteArray.empty,(0:Int),[]⟩
def aWG (l:List aY):List bP:=[.sl 142 3 (l.map aS)]
def aFR (l:List aY):Prop:= ∀x∈l,aOY x
def kX (l:List aY):Nat:=aCD gA l
theorem aDw (l:List aY):l.length<=kX l:=qR _ l
theorem aBJ {l:List aY}{k:Nat}{y:aY}(h:l[k]? =some y):gA y<=kX l:=qS _ h
structure aU where
 tables:List aY
 deriving DecidableEq
def aQp (x:aU):List bP:=[.sl 142 3 (x.tables.map aS)]
def aDV (x:aU):Prop:=aFR x.tables
def bN (x:aU):Nat:=kX x.tables
structure dC where
 name:ByteArray
 vars:List Int
 deriving DecidableEq
def bI (x:dC):List bP:=[.str x.name,.sl 3 1 (x.vars.map intD)]
def aTS (x:dC):Prop:=aQo x.name/\aDv x.vars
def jR (x:dC):Nat:=ByteArray.size x.name+cC x.vars
def iL:dC:=⟨ByteArray.empty,[]⟩
def aYA (l:List dC):List bP:=[.sl 125 2 (l.map bI)]
def aLA (l:List dC):Prop:= ∀x∈l,aTS x
def jS (l:List dC):Nat:=aCD jR l
theorem aGO (l:List dC):l.length<=jS l:=qR _ l
theorem aDW {l:List dC}{k:Nat}{y:dC}(h:l[k]? =some y):jR y<=jS l:=qS _ h
structure QueryD where
 variableCount:Int
 atoms:List dC
 deriving DecidableEq
def aYB (x:QueryD):List bP:=[.int .i64 x.variableCount,.sl 125 2 (x.atoms.map bI)]
def aOZ (x:QueryD):Prop:=Fits x.variableCount/\aLA x.atoms
def gX (x:QueryD):Nat:=jS x.atoms
structure aQ where
 columns:List Int
 values:List (List Int)
 counts:List Int
 deriving DecidableEq
def aD (x:aQ):List bP:=[.sl 3 1 (x.columns.map intD),.sl 91 1 (x.values.map aC),.sl 3 1 (x.counts.map intD)]
def xX (x:aQ):Prop:=aDv x.columns/\aGN x.values/\aDv x.counts
def bV (x:aQ):Nat:=cC x.columns+cO x.values+cC x.counts
def eE:aQ:=⟨[],[],[]⟩
def aLB (l:List aQ):List bP:=[.sl 220 3 (l.map aD)]
def qD (l:List aQ):Prop:= ∀x∈l,xX x
def dK (l:List aQ):Nat:=aCD bV l
theorem gC (l:List aQ):l.length<=dK l:=qR _ l
theorem gY {l:List aQ}{k:Nat}{y:aQ}(h:l[k]? =some y):bV y<=dK l:=qS _ h
structure aM where
 name:ByteArray
 arity:Int
 rowCount:Int
 groups:List aQ
 deriving DecidableEq
def aG (x:aM):List bP:=[.str x.name,.int .i64 x.arity,.int .i64 x.rowCount,.sl 220 3 (x.groups.map aD)]
def xY (x:aM):Prop:=aQo x.name/\Fits x.arity/\Fits x.rowCount/\qD x.groups
def bF (x:aM):Nat:=ByteArray.size x.name+dK x.groups
def dL:aM:=⟨ByteArray.empty,(0:Int),(0:Int),[]⟩
def aLC (l:List aM):List bP:=[.sl 88 4 (l.map aG)]
def qE (l:List aM):Prop:= ∀x∈l,xY x
def dU (l:List aM):Nat:=aCD bF l
theorem tL (l:List aM):l.length<=dU l:=qR _ l
theorem kJ {l:List aM}{k:Nat}{y:aM}(h:l[k]? =some y):bF y<=dU l:=qS _ h
structure cE where
 version:Int
 tables:List aM
 deriving DecidableEq
def aO0 (x:cE):List bP:=[.int .i64 x.version,.sl 88 4 (x.tables.map aG)]
def aBK (x:cE):Prop:=Fits x.version/\qE x.tables
def bS (x:cE):Nat:=dU x.tables
def aGP:cE:=⟨(0:Int),[]⟩
structure bB where
 name:ByteArray
 src:List Int
 dst:Int
 deriving DecidableEq
def aN (x:bB):List bP:=[.str x.name,.sl 3 1 (x.src.map intD),.int .i64 x.dst]
def xZ (x:bB):Prop:=aQo x.name/\aDv x.src/\Fits x.dst
def cZ (x:bB):Nat:=ByteArray.size x.name+cC x.src
def eY:bB:=⟨ByteArray.empty,[],(0:Int)⟩
def aLD (l:List bB):List bP:=[.sl 121 3 (l.map aN)]
def qF (l:List bB):Prop:= ∀x∈l,xZ x
def bY (l:List bB):Nat:=aCD cZ l
theorem tM (l:List bB):l.length<=bY l:=qR _ l
theorem aEy {l:List bB}{k:Nat}{y:bB}(h:l[k]? =some y):cZ y<=bY l:=qS _ h
structure aZ where
 name:ByteArray
 column:Int
 into:ByteArray
 intoColumn:Int
 deriving DecidableEq
def aR (x:aZ):List bP:=[.str x.name,.int .i64 x.column,.str x.into,.int .i64 x.intoColumn]
def aBL (x:aZ):Prop:=aQo x.name/\Fits x.column/\aQo x.into/\Fits x.intoColumn
def dJ (x:aZ):Nat:=ByteArray.size x.name+ByteArray.size x.into
def eV:aZ:=⟨ByteArray.empty,(0:Int),ByteArray.empty,(0:Int)⟩
def aM1 (l:List aZ):List bP:=[.sl 123 4 (l.map aR)]
def sG (l:List aZ):Prop:= ∀x∈l,aBL x
def cP (l:List aZ):Nat:=aCD dJ l
theorem dX (l:List aZ):l.length<=cP l:=qR _ l
theorem aGQ {l:List aZ}{k:Nat}{y:aZ}(h:l[k]? =some y):dJ y<=cP l:=qS _ h
structure StoreD where
 database:aU
 catalogue:cE
 dependencies:List bB
 inclusions:List aZ
 deriving DecidableEq
def aYC (x:StoreD):List bP:=[.sl 142 3 (x.database.tables.map aS),.int .i64 x.catalogue.version,.sl 88 4 (x.catalogue.tables.map aG),.sl 121 3 (x.dependencies.map aN),.sl 123 4 (x.inclusions.map aR)]
def aO1 (x:StoreD):Prop:=aDV x.database/\aBK x.catalogue/\qF x.dependencies/\sG x.inclusions
def dO (x:StoreD):Nat:=bN x.database+bS x.catalogue+bY x.dependencies+cP x.inclusions
structure aI where
 src:Int
 dst:Int
 bits:Int
 deriving DecidableEq
def aE (x:aI):List bP:=[.int .i64 x.src,.int .i64 x.dst,.int .i64 x.bits]
def aEz (x:aI):Prop:=Fits x.src/\Fits x.dst/\Fits x.bits
def oE (l:List aI):Prop:= ∀x∈l,aEz x
structure aB where
 num:Int
 den:Int
 deriving DecidableEq
def aA (x:aB):List bP:=[.int .i64 x.num,.int .i64 x.den]
def aF (l:List aB):List bP:=[.sl 38 2 (l.map aA)]
structure bU where
 objective:List Int
 rows:List (List Int)
 limits:List Int
 deriving DecidableEq
def yA (x:bU):Nat:=cC x.objective+cO x.rows+cC x.limits
def nF:bU:=⟨[],[],[]⟩
structure aJ where
 basic:List Int
 others:List Int
 table:List (List aB)
 limits:List aB
 costs:List aB
 value:aB
 deriving DecidableEq
structure aAY where
 value:aB
 primal:List aB
 dual:List aB
 deriving DecidableEq
theorem oF (s t:ByteArray):(s.toList==t.toList)=decide (s=t):=by
 rw[ByteArray.toList_eq,ByteArray.toList_eq];by_cases h:s=t
 ·simp[h]
 have: ¬s.data.toList=t.data.toList:=fun e=>h (by cases s;cases t;simp at e;simp[e]);simp only[h,decide_false,beq_eq_false_iff_ne];exact this
theorem mS {α:Type}{l m:List α}{k:Nat}{x:α}(h:l[k]? =some x)(h' :m[k]? =some x)(e:l.take k=m.take k):l.take (k+1)=m.take (k+1):=by rw[bQ h,bQ h',e]
theorem aPk {α:Type}{l m:List α}{k:Nat}{x y:α}(h:l[k]? =some x)(h' :m[k]? =some y)(e: ¬x=y): ¬l=m:=by
 rintro rfl;rw[h] at h';exact e (by injection h')
theorem aGR {α:Type}{l m:List α}(h: ¬(l.length:Int)=m.length): ¬l=m:=fun e=>h (by rw[e])
theorem mT {α:Type}{l m:List α}{k:Nat}(hk:l.length<=k)(hl:l.length=m.length)(e:l.take k=m.take k):l=m:=by rwa [aGj hk,aGj (by omega)] at e
abbrev qK (l:List Int)(m:List Int):Prop:=Cn 248 [.one (.sl 3 1 (l.map intD)),.one (.sl 3 1 (m.map intD))] (vB (decide (l=m))) []
theorem aCY (l m:List Int):qK l m:=by
 refine cq Tryz.func248 (.len l.length<| .len m.length<| .br (.fin []) (.len l.length<| .loop Nat (Q1 Nat) ([5]++rg 13 13) [] (fun k=>[(13,vI (k:Int))]) (fun k=>[]) (fun k=>k<=l.length/\l.take k=m.take k) (fun k=>l.length - k) (fun k=> .br (.elem _ intD l (fun e18=> .elem _ intD m (fun e22=> .br (.fin []) (.back [])))) (.fin [])))) (p:=Lx (l.map intD)<| Lx (m.map intD)<| Lm intD l/\(Lm intD m/\Nb ((l.length:Int)=(m.length:Int)) ((false)=(decide (l=m))/\True) (Lm intD l/\((∃(k:Nat),0=(k:Int)/\k<=l.length/\l.take k=m.take k)/\ ∀(k:Nat),(k<=l.length/\l.take k=m.take k)->Br ((k:Int)<(l.length:Int)) (0<=(k:Int)/\Em intD l k fun e18=>0<=(k:Int)/\Em intD m k fun e22=>Nb (e18=e22) ((false)=(decide (l=m))/\True) (bK ((k:Int)+1)/\ ∃(k' :Nat),((k:Int)+1)=(k' :Int)/\(k' <=l.length/\l.take k' =m.take k')/\l.length - k' <l.length - k)) ((true)=(decide (l=m))/\True))))) (by kernel_rfl) ?_;refine lx fun n0=>lx fun n1=>?_;refine⟨aA8 _,aA8 _,dn (fun c0=>?_) fun c0=>?_⟩
 ·apply et1
  ·(simp[aGR c0];done)
 ·have hl:l.length=m.length:=by omega
  refine⟨aA8 _,⟨0,rfl,aCC _,rfl⟩,fun k ⟨hk,ht⟩=>?_⟩;refine dd (fun c1=>?_) fun c1=>?_
  ·obtain⟨x,hx⟩:=dA (l:=l) (k:=k) (by omega);obtain⟨y,hy⟩:=dA (l:=m) (k:=k) (by omega);refine⟨by omega,rfl,by omega,fun e18 h18=>?_⟩;obtain rfl:=(aW hx h18).symm;refine⟨by omega,rfl,by omega,fun e22 h22=>?_⟩;obtain rfl:=(aW hy h22).symm;refine dn (fun c2=>?_) fun c2=>?_
   ·have hxy: ¬x=y:=by simpa using c2
    apply et1
    ·(simp[aPk hx hy hxy];done)
   ·have hxy:x=y:=by simpa using c2
    refine⟨⟨by omega,by omega⟩,?_⟩;exact⟨k+1,rfl,⟨by omega,mS hx (by rw[hy,hxy]) ht⟩,by omega⟩
  ·apply et1
   ·(simp[mT (by omega) hl ht];done)
abbrev aTT (l:List Int)(m:List Int):Prop:=Cn 259 [.one (.sl 3 1 (l.map intD)),.one (.sl 3 1 (m.map intD))] (vB (decide (l=m))) []
theorem aZB (l m:List Int):aTT l m:=by
 refine cq Tryz.func259 (.call (vB (decide (l=m))) []<| .fin []) (p:=Lx (l.map intD)<| Lx (m.map intD)<| qK l m/\(decide (l=m))=(decide (l=m))/\True) (by kernel_rfl) ?_;refine lx fun n0=>lx fun n1=>?_;refine⟨aCY _ _,?_,trivial⟩
 ·rfl
abbrev aDx (l:List (List Int))(m:List (List Int)):Prop:=Cn 258 [.one (.sl 91 1 (l.map aC)),.one (.sl 91 1 (m.map aC)),.fn 259 []] (vB (decide (l=m))) []
theorem aQq (l m:List (List Int)):aDx l m:=by
 refine cq Tryz.func258 (.len l.length<| .len m.length<| .br (.fin []) (.len l.length<| .loop Nat (Q1 Nat) ([7,8,9]++rg 17 15) [] (fun k=>[(17,vI (k:Int))]) (fun k=>[]) (fun k=>k<=l.length/\l.take k=m.take k) (fun k=>l.length - k) (fun k=> .br (.elem _ aC l (fun e20=> .elem _ aC m (fun e24=> .call (vB (decide (e20=e24))) []<| .br (.fin []) (.back [])))) (.fin [])))) (p:=Lx (l.map aC)<| Lx (m.map aC)<| Lm aC l/\(Lm aC m/\Nb ((l.length:Int)=(m.length:Int)) ((false)=(decide (l=m))/\True) (Lm aC l/\((∃(k:Nat),0=(k:Int)/\k<=l.length/\l.take k=m.take k)/\ ∀(k:Nat),(k<=l.length/\l.take k=m.take k)->Br ((k:Int)<(l.length:Int)) (0<=(k:Int)/\Em aC l k fun e20=>0<=(k:Int)/\Em aC m k fun e24=>aTT e20 e24/\Nb (e20=e24) ((false)=(decide (l=m))/\True) (bK ((k:Int)+1)/\ ∃(k' :Nat),((k:Int)+1)=(k' :Int)/\(k' <=l.length/\l.take k' =m.take k')/\l.length - k' <l.length - k)) ((true)=(decide (l=m))/\True))))) (by kernel_rfl) ?_;refine lx fun n0=>lx fun n1=>?_;refine⟨aA8 _,aA8 _,dn (fun c0=>?_) fun c0=>?_⟩
 ·apply et1
  ·(simp[aGR c0];done)
 ·have hl:l.length=m.length:=by omega
  refine⟨aA8 _,⟨0,rfl,aCC _,rfl⟩,fun k ⟨hk,ht⟩=>?_⟩;refine dd (fun c1=>?_) fun c1=>?_
  ·obtain⟨x,hx⟩:=dA (l:=l) (k:=k) (by omega);obtain⟨y,hy⟩:=dA (l:=m) (k:=k) (by omega);refine⟨by omega,rfl,by omega,fun e20 h20=>?_⟩;obtain rfl:=(aW hx h20).symm;refine⟨by omega,rfl,by omega,fun e24 h24=>?_⟩;obtain rfl:=(aW hy h24).symm;refine⟨aZB _ _,dn (fun c2=>?_) fun c2=>?_⟩
   ·have hxy: ¬x=y:=by simpa using c2
    apply et1
    ·(simp[aPk hx hy hxy];done)
   ·have hxy:x=y:=by simpa using c2
    refine⟨⟨by omega,by omega⟩,?_⟩;exact⟨k+1,rfl,⟨by omega,mS hx (by rw[hy,hxy]) ht⟩,by omega⟩
  ·apply et1
   ·(simp[mT (by omega) hl ht];done)
abbrev aAn (l:List (List Int))(m:List (List Int)):Prop:=Cn 249 [.one (.sl 91 1 (l.map aC)),.one (.sl 91 1 (m.map aC))] (vB (decide (l=m))) []
theorem aM2 (l m:List (List Int)):aAn l m:=by
 refine cq Tryz.func249 (.call (vB (decide (l=m))) []<| .fin []) (p:=Lx (l.map aC)<| Lx (m.map aC)<| aDx l m/\(decide (l=m))=(decide (l=m))/\True) (by kernel_rfl) ?_;refine lx fun n0=>lx fun n1=>?_;refine⟨aQq _ _,?_,trivial⟩
 ·rfl
theorem rC (a b:aQ):decide (a=b)=(decide (a.columns=b.columns)&&(decide (a.values=b.values)&&decide (a.counts=b.counts))):=by
 obtain⟨a0,a1,a2⟩:=a;obtain⟨b0,b1,b2⟩:=b;simp[Bool.and_assoc]
abbrev aGS (a:aQ)(b:aQ):Prop:=Cn 230 [.agg [.sl 3 1 (a.columns.map intD),.sl 91 1 (a.values.map aC),.sl 3 1 (a.counts.map intD)],.agg [.sl 3 1 (b.columns.map intD),.sl 91 1 (b.values.map aC),.sl 3 1 (b.counts.map intD)]] (vB (decide (a=b))) []
theorem aTU (a b:aQ):aGS a b:=by
 refine cq Tryz.func230 (.call (vB (decide (a.columns=b.columns))) []<| .br (.call (vB (decide (a.values=b.values))) []<| .lit<| .br (.call (vB (decide (a.counts=b.counts))) []<| .fin []) (.fin [])) (.fin [])) (p:=Lx (a.columns.map intD)<| Lx (a.values.map aC)<| Lx (a.counts.map intD)<| Lx (b.columns.map intD)<| Lx (b.values.map aC)<| Lx (b.counts.map intD)<| qK a.columns b.columns/\Br (a.columns=b.columns) (aAn a.values b.values/\Br (a.values=b.values) (qK a.counts b.counts/\(decide (a.counts=b.counts))=(decide (a=b))/\True) ((false)=(decide (a=b))/\True)) ((false)=(decide (a=b))/\True)) (by kernel_rfl) ?_;refine lx fun n0=>lx fun n1=>lx fun n2=>lx fun n3=>lx fun n4=>lx fun n5=>?_;refine⟨aCY _ _,dd (fun g10=>?_) fun g10=>?_⟩
 ·refine⟨aM2 _ _,dd (fun g17=>?_) fun g17=>?_⟩
  ·refine⟨aCY _ _,?_,trivial⟩
   ·(rw[rC];simp_all [oF];done)
  ·apply et1
   ·(rw[rC];simp_all [oF];done)
 ·apply et1
  ·(rw[rC];simp_all [oF];done)
abbrev sH (l:List aQ)(m:List aQ):Prop:=Cn 229 [.one (.sl 220 3 (l.map aD)),.one (.sl 220 3 (m.map aD)),.fn 230 []] (vB (decide (l=m))) []
theorem aFA (l m:List aQ):sH l m:=by
 refine cq Tryz.func229 (.len l.length<| .len m.length<| .br (.fin []) (.len l.length<| .loop Nat (Q1 Nat) ([7,8,9]++rg 17 15) [800,900] (fun k=>[(17,vI (k:Int))]) (fun k=>[]) (fun k=>k<=l.length/\l.take k=m.take k) (fun k=>l.length - k) (fun k=> .br (.elem _ aD l (fun e20=> .elem _ aD m (fun e24=> .call (vB (decide (e20=e24))) []<| .br (.fin []) (.back [])))) (.fin [])))) (p:=Lx (l.map aD)<| Lx (m.map aD)<| Lm aD l/\(Lm aD m/\Nb ((l.length:Int)=(m.length:Int)) ((false)=(decide (l=m))/\True) (Lm aD l/\((∃(k:Nat),0=(k:Int)/\k<=l.length/\l.take k=m.take k)/\ ∀(k:Nat),(k<=l.length/\l.take k=m.take k)->Br ((k:Int)<(l.length:Int)) (0<=(k:Int)/\Em aD l k fun e20=>0<=(k:Int)/\Em aD m k fun e24=>aGS e20 e24/\Nb (e20=e24) ((false)=(decide (l=m))/\True) (bK ((k:Int)+1)/\ ∃(k' :Nat),((k:Int)+1)=(k' :Int)/\(k' <=l.length/\l.take k' =m.take k')/\l.length - k' <l.length - k)) ((true)=(decide (l=m))/\True))))) (by kernel_rfl) ?_;refine lx fun n0=>lx fun n1=>?_;refine⟨aA8 _,aA8 _,dn (fun c0=>?_) fun c0=>?_⟩
 ·apply et1
  ·(simp[aGR c0];done)
 ·have hl:l.length=m.length:=by omega
  refine⟨aA8 _,⟨0,rfl,aCC _,rfl⟩,fun k ⟨hk,ht⟩=>?_⟩;refine dd (fun c1=>?_) fun c1=>?_
  ·obtain⟨x,hx⟩:=dA (l:=l) (k:=k) (by omega);obtain⟨y,hy⟩:=dA (l:=m) (k:=k) (by omega);refine⟨by omega,rfl,by omega,fun e20 h20=>?_⟩;obtain rfl:=(aW hx h20).symm;refine⟨by omega,rfl,by omega,fun e24 h24=>?_⟩;obtain rfl:=(aW hy h24).symm;refine⟨aTU _ _,dn (fun c2=>?_) fun c2=>?_⟩
   ·have hxy: ¬x=y:=by simpa using c2
    apply et1
    ·(simp[aPk hx hy hxy];done)
   ·have hxy:x=y:=by simpa using c2
    refine⟨⟨by omega,by omega⟩,?_⟩;exact⟨k+1,rfl,⟨by omega,mS hx (by rw[hy,hxy]) ht⟩,by omega⟩
  ·apply et1
   ·(simp[mT (by omega) hl ht];done)
theorem gJ (a b:aM):decide (a=b)=(decide (a.name=b.name)&&(decide (a.arity=b.arity)&&(decide (a.rowCount=b.rowCount)&&decide (a.groups=b.groups)))):=by
 obtain⟨a0,a1,a2,a3⟩:=a;obtain⟨b0,b1,b2,b3⟩:=b;simp[Bool.and_assoc]
abbrev nG (a:aM)(b:aM):Prop:=Cn 188 [.agg [.str a.name,.int .i64 a.arity,.int .i64 a.rowCount,.sl 220 3 (a.groups.map aD)],.agg [.str b.name,.int .i64 b.arity,.int .i64 b.rowCount,.sl 220 3 (b.groups.map aD)]] (vB (decide (a=b))) []
theorem uX (a b:aM):nG a b:=by
 refine cq Tryz.func188 (.br (.lit<| .lit<| .lit<| .lit<| .lit<| .br (.lit<| .lit<| .lit<| .lit<| .lit<| .br (.call (vB (decide (a.groups=b.groups))) []<| .fin []) (.fin [])) (.fin [])) (.fin [])) (p:=Lx (a.groups.map aD)<| Lx (b.groups.map aD)<| Bb (a.name.toList==b.name.toList) (Br (a.arity=b.arity) (Br (a.rowCount=b.rowCount) (sH a.groups b.groups/\(decide (a.groups=b.groups))=(decide (a=b))/\True) ((false)=(decide (a=b))/\True)) ((false)=(decide (a=b))/\True)) ((false)=(decide (a=b))/\True)) (by kernel_rfl) ?_;refine lx fun n0=>lx fun n1=>?_;refine db (fun g10=>?_) fun g10=>?_
 ·refine dd (fun g17=>?_) fun g17=>?_
  ·refine dd (fun g24=>?_) fun g24=>?_
   ·refine⟨aFA _ _,?_,trivial⟩
    ·(rw[gJ];simp_all [oF];done)
   ·apply et1
    ·(rw[gJ];simp_all [oF];done)
  ·apply et1
   ·(rw[gJ];simp_all [oF];done)
 ·apply et1
  ·(rw[gJ];simp_all [oF];done)
abbrev sI (l:List aM)(m:List aM):Prop:=Cn 187 [.one (.sl 88 4 (l.map aG)),.one (.sl 88 4 (m.map aG)),.fn 188 []] (vB (decide (l=m))) []
theorem aFB (l m:List aM):sI l m:=by
 refine cq Tryz.func187 (.len l.length<| .len m.length<| .br (.fin []) (.len l.length<| .loop Nat (Q1 Nat) ([7,8,9]++rg 17 15) [800,900] (fun k=>[(17,vI (k:Int))]) (fun k=>[]) (fun k=>k<=l.length/\l.take k=m.take k) (fun k=>l.length - k) (fun k=> .br (.elem _ aG l (fun e20=> .elem _ aG m (fun e24=> .call (vB (decide (e20=e24))) []<| .br (.fin []) (.back [])))) (.fin [])))) (p:=Lx (l.map aG)<| Lx (m.map aG)<| Lm aG l/\(Lm aG m/\Nb ((l.length:Int)=(m.length:Int)) ((false)=(decide (l=m))/\True) (Lm aG l/\((∃(k:Nat),0=(k:Int)/\k<=l.length/\l.take k=m.take k)/\ ∀(k:Nat),(k<=l.length/\l.take k=m.take k)->Br ((k:Int)<(l.length:Int)) (0<=(k:Int)/\Em aG l k fun e20=>0<=(k:Int)/\Em aG m k fun e24=>nG e20 e24/\Nb (e20=e24) ((false)=(decide (l=m))/\True) (bK ((k:Int)+1)/\ ∃(k' :Nat),((k:Int)+1)=(k' :Int)/\(k' <=l.length/\l.take k' =m.take k')/\l.length - k' <l.length - k)) ((true)=(decide (l=m))/\True))))) (by kernel_rfl) ?_;refine lx fun n0=>lx fun n1=>?_;refine⟨aA8 _,aA8 _,dn (fun c0=>?_) fun c0=>?_⟩
 ·apply et1
  ·(simp[aGR c0];done)
 ·have hl:l.length=m.length:=by omega
  refine⟨aA8 _,⟨0,rfl,aCC _,rfl⟩,fun k ⟨hk,ht⟩=>?_⟩;refine dd (fun c1=>?_) fun c1=>?_
  ·obtain⟨x,hx⟩:=dA (l:=l) (k:=k) (by omega);obtain⟨y,hy⟩:=dA (l:=m) (k:=k) (by omega);refine⟨by omega,rfl,by omega,fun e20 h20=>?_⟩;obtain rfl:=(aW hx h20).symm;refine⟨by omega,rfl,by omega,fun e24 h24=>?_⟩;obtain rfl:=(aW hy h24).symm;refine⟨uX _ _,dn (fun c2=>?_) fun c2=>?_⟩
   ·have hxy: ¬x=y:=by simpa using c2
    apply et1
    ·(simp[aPk hx hy hxy];done)
   ·have hxy:x=y:=by simpa using c2
    refine⟨⟨by omega,by omega⟩,?_⟩;exact⟨k+1,rfl,⟨by omega,mS hx (by rw[hy,hxy]) ht⟩,by omega⟩
  ·apply et1
   ·(simp[mT (by omega) hl ht];done)
theorem oW (a b:cE):decide (a=b)=(decide (a.version=b.version)&&decide (a.tables=b.tables)):=by
 obtain⟨a0,a1⟩:=a;obtain⟨b0,b1⟩:=b;simp[Bool.and_assoc]
abbrev aCZ (a:cE)(b:cE):Prop:=Cn 132 [.agg [.int .i64 a.version,.sl 88 4 (a.tables.map aG)],.agg [.int .i64 b.version,.sl 88 4 (b.tables.map aG)]] (vB (decide (a=b))) []
theorem aO2 (a b:cE):aCZ a b:=by
 refine cq Tryz.func132 (.br (.call (vB (decide (a.tables=b.tables))) []<| .fin []) (.fin [])) (p:=Lx (a.tables.map aG)<| Lx (b.tables.map aG)<| Br (a.version=b.version) (sI a.tables b.tables/\(decide (a.tables=b.tables))=(decide (a=b))/\True) ((false)=(decide (a=b))/\True)) (by kernel_rfl) ?_;refine lx fun n0=>lx fun n1=>?_;refine dd (fun g10=>?_) fun g10=>?_
 ·refine⟨aFB _ _,?_,trivial⟩
  ·(rw[oW];simp_all [oF];done)
 ·apply et1
  ·(rw[oW];simp_all [oF];done)
end Go.Proofs.YtlidmoeecphbmaaGreat
