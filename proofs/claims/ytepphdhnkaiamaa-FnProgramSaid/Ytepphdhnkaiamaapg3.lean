/-
  Contracts and plain laws, joined: part 4.
-/
import Derived.Test.Ytepphdhnkaiamaapg2
namespace Go.Proofs.Ytepphdhnkaiamaa
open Go.ChangeShapes Go.WideShapes Go.ChangeAt Go.RowKit
set_option linter.unusedVariables false
set_option linter.unusedSimpArgs false
set_option maxRecDepth 100000
set_option maxHeartbeats 4000000
def tb:Tb:=⟨[(2,(false,1,8,.int .i64 0)),(3,(false,1,8,.int .i64 0)),(4,(false,1,1,.bool false)),(5,(false,1,1,.int .u8 0)),(6,(false,1,1,.int .u8 0)),(7,(true,4,24,.agg #[.int .i64 0,.int .i64 0,.bool false,.int .u8 0])),(8,(true,4,24,.agg #[.int .i64 0,.int .i64 0,.bool false,.int .u8 0])),(9,(false,1,16,.string ByteArray.empty)),(10,(false,1,16,.string ByteArray.empty)),(11,(false,1,16,.string ByteArray.empty)),(12,(false,1,8,.int .u64 0)),(13,(true,2,24,.agg #[.string ByteArray.empty,.int .u64 0])),(14,(true,2,24,.agg #[.string ByteArray.empty,.int .u64 0])),(15,(false,1,8,.pointer none)),(16,(false,1,8,.pointer none)),(17,(false,1,8,.pointer none)),(21,(false,1,4,.int .i32 0)),(22,(false,1,24,.slice none 0 0)),(24,(false,1,24,.slice none 0 0)),(25,(false,1,24,.slice none 0 0)),(26,(true,3,72,.agg #[.slice none 0 0,.slice none 0 0,.slice none 0 0])),(27,(true,3,72,.agg #[.slice none 0 0,.slice none 0 0,.slice none 0 0])),(29,(true,2,16,.agg #[.int .i64 0,.int .i64 0])),(30,(true,2,16,.agg #[.int .i64 0,.int .i64 0])),(31,(false,1,24,.slice none 0 0)),(32,(true,4,64,.agg #[.int .i64 0,.int .i64 0,.slice none 0 0,.slice none 0 0])),(33,(true,4,64,.agg #[.int .i64 0,.int .i64 0,.slice none 0 0,.slice none 0 0])),(47,(false,1,24,.slice none 0 0)),(48,(true,7,136,.agg #[.slice none 0 0,.slice none 0 0,.slice none 0 0,.slice none 0 0,.slice none 0 0,.int .i64 0,.int .i64 0])),(49,(true,7,136,.agg #[.slice none 0 0,.slice none 0 0,.slice none 0 0,.slice none 0 0,.slice none 0 0,.int .i64 0,.int .i64 0])),(59,(false,1,8,.pointer none)),(83,(true,3,40,.agg #[.slice none 0 0,.int .i64 0,.int .i64 0])),(84,(true,3,40,.agg #[.slice none 0 0,.int .i64 0,.int .i64 0])),(85,(false,1,8,.pointer none)),(86,(true,1,1,.agg #[.bool false])),(87,(true,1,1,.agg #[.bool false])),(94,(false,1,8,.int .u64 0)),(96,(false,1,8,.int .i64 0)),(105,(false,1,4,.int .u32 0)),(107,(false,1,8,.int .u64 0)),(108,(false,1,8,.int .u64 0)),(112,(false,1,8,.pointer none)),(115,(false,1,8,.pointer none)),(122,(true,0,0,.agg #[])),(123,(true,0,0,.agg #[])),(125,(false,1,1,.int .u8 0)),(126,(false,1,1,.int .u8 0)),(128,(false,1,8,.pointer none)),(129,(false,1,4,.int .i32 0)),(130,(false,1,4,.int .i32 0))],
 [(22,5),(24,3),(25,24),(31,30),(47,31)],
 [(7,[(0,(0,2)),(1,(1,3)),(2,(2,4)),(3,(3,6))]),(8,[(0,(0,2)),(1,(1,3)),(2,(2,4)),(3,(3,6))]),(13,[(0,(0,9)),(1,(1,12))]),(14,[(0,(0,9)),(1,(1,12))]),(26,[(0,(0,24)),(1,(1,25)),(2,(2,24))]),(27,[(0,(0,24)),(1,(1,25)),(2,(2,24))]),(29,[(0,(0,3)),(1,(1,3))]),(30,[(0,(0,3)),(1,(1,3))]),(32,[(0,(0,30)),(1,(2,31)),(2,(3,31))]),(33,[(0,(0,30)),(1,(2,31)),(2,(3,31))]),(48,[(0,(0,24)),(1,(1,24)),(2,(2,47)),(3,(3,31)),(4,(4,31)),(5,(5,30))]),(49,[(0,(0,24)),(1,(1,24)),(2,(2,47)),(3,(3,31)),(4,(4,31)),(5,(5,30))]),(83,[(0,(0,22)),(1,(1,3)),(2,(2,3))]),(84,[(0,(0,22)),(1,(1,3)),(2,(2,3))]),(86,[(0,(0,4))]),(87,[(0,(0,4))]),(122,[]),(123,[])],
 [(7,(.agg #[.int .i64 0,.int .i64 0,.bool false,.int .u8 0],[(0,1),(1,1),(2,1),(3,1)])),(8,(.agg #[.int .i64 0,.int .i64 0,.bool false,.int .u8 0],[(0,1),(1,1),(2,1),(3,1)])),(13,(.agg #[.string ByteArray.empty,.int .u64 0],[(0,1),(1,1)])),(14,(.agg #[.string ByteArray.empty,.int .u64 0],[(0,1),(1,1)])),(26,(.agg #[.slice none 0 0,.slice none 0 0,.slice none 0 0],[(0,1),(1,1),(2,1)])),(27,(.agg #[.slice none 0 0,.slice none 0 0,.slice none 0 0],[(0,1),(1,1),(2,1)])),(29,(.agg #[.int .i64 0,.int .i64 0],[(0,1),(1,1)])),(30,(.agg #[.int .i64 0,.int .i64 0],[(0,1),(1,1)])),(32,(.agg #[.int .i64 0,.int .i64 0,.slice none 0 0,.slice none 0 0],[(0,2),(2,1),(3,1)])),(33,(.agg #[.int .i64 0,.int .i64 0,.slice none 0 0,.slice none 0 0],[(0,2),(2,1),(3,1)])),(48,(.agg #[.slice none 0 0,.slice none 0 0,.slice none 0 0,.slice none 0 0,.slice none 0 0,.int .i64 0,.int .i64 0],[(0,1),(1,1),(2,1),(3,1),(4,1),(5,2)])),(49,(.agg #[.slice none 0 0,.slice none 0 0,.slice none 0 0,.slice none 0 0,.slice none 0 0,.int .i64 0,.int .i64 0],[(0,1),(1,1),(2,1),(3,1),(4,1),(5,2)])),(83,(.agg #[.slice none 0 0,.int .i64 0,.int .i64 0],[(0,1),(1,1),(2,1)])),(84,(.agg #[.slice none 0 0,.int .i64 0,.int .i64 0],[(0,1),(1,1),(2,1)])),(86,(.agg #[.bool false],[(0,1)])),(87,(.agg #[.bool false],[(0,1)])),(122,(.agg #[],[(0,0)])),(123,(.agg #[],[(0,0)]))],
 [(4,())],
 [(9,()),(10,()),(11,())],
 [(2,.i64),(3,.i64),(5,.u8),(6,.u8),(12,.u64),(21,.i32),(94,.u64),(96,.i64),(105,.u32),(107,.u64),(108,.u64),(125,.u8),(126,.u8),(129,.i32),(130,.i32)],
 [(30,[0,0]),(87,[1])]⟩
theorem fc {α:Type}{p:Nat->α->Prop}{k:Nat}{v:α}{l:List (Nat × α)}(h:p k v)(t:kM p l):kM p ((k,v)::l):=⟨h,t⟩
theorem aIZ:Try.prog.follows .mixedOrders=true:=by kernel_rfl
set_option maxRecDepth 100000 in
theorem aMg:iN Try.prog tb:=
 by
 refine⟨?_,?_,?_,?_,?_,?_,?_,?_⟩<;>repeat' (first|refine fc ?_ ?_|exact trivial|kernel_rfl)
end Go.Proofs.Ytepphdhnkaiamaa
namespace Go.Proofs.Ytepphdhnkaiamaa
open Go.ChangeShapes Go.WideShapes Go.ChangeAt Go.RowKit
set_option linter.unusedVariables false
set_option linter.unusedSimpArgs false
set_option maxRecDepth 100000
set_option maxHeartbeats 4000000
abbrev bX (p:AV × List (Nat × Rs))(t:T):T:= .call p.1 p.2 t
abbrev mW (p:List AV × List (Nat × Rs) × AV × List (Nat × Rs))(r:List (Nat × Nat))(t:T):T:= .callx p.1 p.2.1 r p.2.2.1 p.2.2.2 t
abbrev aCi (p:List AV × List (Nat × Rs) × AV × List (Nat × Rs))(r:List (Nat × Nat))(t:T):T:= .callxs p.1 p.2.1 r p.2.2.1 p.2.2.2 t
abbrev rg (a n:Nat):List Nat:=List.range' a n
abbrev Br (p:Prop)[Decidable p](X Y:Prop):Prop:=(decide p=true->X)/\(decide p=false->Y)
abbrev Nb (p:Prop)[Decidable p](X Y:Prop):Prop:=((!decide p)=true->X)/\((!decide p)=false->Y)
abbrev Bb (b:Bool)(X Y:Prop):Prop:=(b=true->X)/\(b=false->Y)
abbrev Nr (b:Bool)(X Y:Prop):Prop:=((!b)=true->X)/\((!b)=false->Y)
theorem dd {p:Prop}[Decidable p]{X Y:Prop}(hx:p->X)(hy: ¬p->Y):Br p X Y:=⟨fun h=>hx (of_decide_eq_true h),fun h=>hy (of_decide_eq_false h)⟩
theorem dn {p:Prop}[Decidable p]{X Y:Prop}(hx: ¬p->X)(hy:p->Y):Nb p X Y:=⟨fun h=>hx (of_decide_eq_false (nt h)),fun h=>hy (of_decide_eq_true (nf h))⟩
theorem db {b:Bool}{X Y:Prop}(hx:b=true->X)(hy:b=false->Y):Bb b X Y:=⟨hx,hy⟩
theorem dm {b:Bool}{X Y:Prop}(hx:b=false->X)(hy:b=true->Y):Nr b X Y:=⟨fun h=>hx (nt h),fun h=>hy (nf h)⟩
abbrev Lx {α:Type}(l:List α)(A:Prop):Prop:=l.length<=9223372036854775807->A
theorem lx {α β:Type}{f:α->β}{l:List α}{A:Prop}(h:l.length<=9223372036854775807->A):Lx (l.map f) A:=fun q=>h (by simpa using q)
abbrev Cn (f:FuncId)(args:List Ar)(rv:AV)(rr:List (Nat × Rs)):Prop:=Con Try.prog f args rv rr
abbrev Cm (f:FuncId)(args:List AV)(ri:List (Nat × Rs))(rv:AV)(ro:List (Nat × Rs)):Prop:=fR Try.prog f args ri rv ro
theorem cq {f:FuncId}{fn:Func}{args:List Ar}{rv:AV}{rr:List (Nat × Rs)}(hf:Try.prog.funcs[f]? =some fn)(t:T){p:Prop}(h:(match aBS fn args.length with | true=>aFq Try.prog tb fn args rv rr t | false=>False)=p)(hp:p):Con Try.prog f args rv rr:=by
 cases hc:aBS fn args.length with
 | true=>rw[hc] at h;exact aMe aMg aIZ hf hc t h hp
 | false=>rw[hc] at h;rw[<-h] at hp;exact hp.elim
theorem cqx {f:FuncId}{fn:Func}{args:List AV}{ri:List (Nat × Rs)}{rv:AV}{ro:List (Nat × Rs)}(hf:Try.prog.funcs[f]? =some fn)(t:T){p:Prop}(h:(match aBS fn args.length&&ri.all fun q=>Nat.blt q.1 100 with | true=>aFr Try.prog tb fn args ri rv ro t | false=>False)=p)(hp:p):fR Try.prog f args ri rv ro:=by
 cases hc:(aBS fn args.length&&ri.all fun q=>Nat.blt q.1 100) with
 | true=>rw[hc] at h;rw[Bool.and_eq_true] at hc;exact aMI aMg aIZ hf hc.1 hc.2 t h hp
 | false=>rw[hc] at h;rw[<-h] at hp;exact hp.elim
abbrev Em {α:Type}(enc:α->List bE)(l:List α)(i:Nat)(P:α->Prop):Prop:=l.map enc=l.map enc/\i<l.length/\ ∀x,l[i]? =some x->P x
abbrev Lm {α:Type}(enc:α->List bE)(l:List α):Prop:=(l.map enc).length=l.length
abbrev Ap {α:Type}(enc:α->List bE)(l m:List α)(n:Nat)(R:Prop):Prop:=l.map enc=l.map enc/\m.map enc=m.map enc/\(∀x,fY (enc x)=true)/\(l.length+m.length)*n<=140737488355328/\R
theorem ap {α:Type}{enc:α->List bE}{l m:List α}{n:Nat}{R:Prop}(r:R)(h:(l.length+m.length)*n<=140737488355328:=by simp;omega)(hf: ∀x,fY (enc x)=true:=by intro _;rfl):Ap enc l m n R:=⟨rfl,rfl,hf,h,r⟩
theorem rdOne {A:Nat->Prop}{w:World}{d:bE}{v:Value}(h:kG A w [d] [v]):fK A w d v:=by
 obtain⟨u,us,e,h1,_⟩:=h;injection e with e1
 subst e1;exact h1
def aZ (l:List Int):List bE:=[.sl 3 1 (l.map aI)]
structure aC where
 num:Int
 den:Int
 deriving DecidableEq
def aB (x:aC):List bE:=[.int .i64 x.num,.int .i64 x.den]
def aE (l:List aC):List bE:=[.sl 30 2 (l.map aB)]
structure aQ where
 objective:List Int
 rows:List (List Int)
 limits:List Int
 deriving DecidableEq
structure aD where
 basic:List Int
 others:List Int
 table:List (List aC)
 limits:List aC
 costs:List aC
 value:aC
 deriving DecidableEq
structure fN where
 value:aC
 primal:List aC
 dual:List aC
 deriving DecidableEq
structure Cu where
 i:Nat
 h:Int
def aDu (h:Int):Int:=IntKind.i64.wrap (IntKind.i64.wrap (h*6364136223846793005)+1442695040888963407)
def aKT (h:Int):Int:=mR .and .i64 (mR .xor .i64 (h/2^33) (h/2^45)) 255
def rA (l:List Int):Nat->Int
 | 0=>10101+(l.length:Int)
 | k+1=>mR .and .i64 (IntKind.i64.wrap (IntKind.i64.wrap (IntKind.i64.wrap (rA l k*131)+IntKind.i64.wrap (l.getD k 0))+7)) 1073741823
def aT (l:List Int):Cu:=⟨0,rA l (min l.length 4000)⟩
def aO (l:List Int)(u:Cu):Int × Cu:=if (u.i:Int)<(l.length:Int) then (mR .and .i64 (IntKind.i64.wrap (aKT (aDu u.h)+IntKind.i64.wrap (l.getD u.i 0))) 255,⟨u.i+1,aDu u.h⟩) else (aKT (aDu u.h),⟨u.i,aDu u.h⟩)
theorem aDv (m:Int)(k:Nat)(hk:k<=9223372036854775807):0<=mR .and .i64 m (k:Int)/\mR .and .i64 m (k:Int)<=(k:Int):=by
 have e2:(BitVec.ofInt 64 (k:Int)).toNat=k:=by simp;omega
 have hle:(BitVec.ofInt 64 m).toNat&&&k<=k:=Nat.and_le_right;unfold mR;show 0<=IntKind.i64.wrap ((BitVec.ofInt 64 m&&&BitVec.ofInt 64 (k:Int)).toNat:Nat)/\IntKind.i64.wrap ((BitVec.ofInt 64 m&&&BitVec.ofInt 64 (k:Int)).toNat:Nat)<=_;rw[BitVec.toNat_and,e2,IntWalk.i64_in _ ⟨by omega,by omega⟩];omega
theorem aKU {l:List Int}{k:Nat}{x:Int}(h:l[k]? =some x):rA l (k+1)=mR .and .i64 (IntKind.i64.wrap (IntKind.i64.wrap (IntKind.i64.wrap (rA l k*131)+IntKind.i64.wrap x)+7)) 1073741823:=by rw[rA,List.getD_eq_getElem?_getD,h];rfl
theorem aKV {l:List Int}{u:Cu}{x:Int}(h:(u.i:Int)<(l.length:Int))(hx:l[u.i]? =some x):aO l u=(mR .and .i64 (IntKind.i64.wrap (aKT (aDu u.h)+IntKind.i64.wrap x)) 255,⟨u.i+1,aDu u.h⟩):=by
 rw[aO,if_pos h,List.getD_eq_getElem?_getD,hx];rfl
theorem aI1 {l:List Int}{u:Cu}(h: ¬(u.i:Int)<(l.length:Int)):aO l u=(aKT (aDu u.h),⟨u.i,aDu u.h⟩):=by rw[aO,if_neg h]
theorem lQ (l:List Int)(u:Cu):0<=(aO l u).1/\(aO l u).1<=255:=by
 unfold aO;split
 ·exact aDv _ 255 (by decide)
 exact aDv _ 255 (by decide)
def aA (l:List Int)(u:Cu)(n:Int):Int × Cu:=
 if n<=0 then (0,u) else if n<=256 then (Int.tmod (aO l u).1 n,(aO l u).2) else
  (Int.tmod ((aO l u).1*16777216+(aO l (aO l u).2).1*65536+(aO l (aO l (aO l u).2).2).1*256+(aO l (aO l (aO l (aO l u).2).2).2).1) n,(aO l (aO l (aO l (aO l u).2).2).2).2)
theorem aFs {x n:Int}(hx:0<=x)(hn:0<n):0<=Int.tmod x n/\Int.tmod x n<n:=⟨Int.tmod_nonneg n hx,Int.tmod_lt_of_pos x hn⟩
theorem dV (l:List Int)(u:Cu){n:Int}(hn:0<n):0<=(aA l u n).1/\(aA l u n).1<n:=by
 unfold aA;rw[if_neg (by omega)];have h1:=lQ l u;have h2:=lQ l (aO l u).2;have h3:=lQ l (aO l (aO l u).2).2;have h4:=lQ l (aO l (aO l (aO l u).2).2).2;split
 ·exact aFs (by omega) hn
 exact aFs (by omega) hn
theorem aKW (l:List Int)(u:Cu){n:Int}(h:n<=0):aA l u n=(0,u):=by rw[aA,if_pos h]
theorem aKX (l:List Int)(u:Cu){n:Int}(h: ¬n<=0)(h2:n<=256):aA l u n=(Int.tmod (aO l u).1 n,(aO l u).2):=by rw[aA,if_neg h,if_pos h2]
theorem aKY (l:List Int)(u:Cu){n:Int}(h: ¬n<=0)(h2: ¬n<=256):aA l u n=(Int.tmod ((aO l u).1*16777216+(aO l (aO l u).2).1*65536+(aO l (aO l (aO l u).2).2).1*256+(aO l (aO l (aO l (aO l u).2).2).2).1) n,(aO l (aO l (aO l (aO l u).2).2).2).2):=by rw[aA,if_neg h,if_neg h2]
def bN {σ:Type}(f:σ->σ):Nat->σ->σ
 | 0,s=>s
 | k+1,s=>f (bN f k s)
def aL (f:Cu->Int × Cu):Nat->Cu->List Int × Cu
 | 0,u=>([],u)
 | k+1,u=>((aL f k u).1++[(f (aL f k u).2).1],(f (aL f k u).2).2)
theorem rB (f:Cu->Int × Cu)(u:Cu): ∀k,(aL f k u).1.length=k
 | 0=>rfl
 | k+1=>by rw[aL,List.length_append,rB f u k];rfl
abbrev uZ (l:List Int)(u:Cu):List AV × List (Nat × Rs) × AV × List (Nat × Rs):=([.ptr 0 0],[(0,.box 84 [.p none (.sl 5 1 (l.map bD)),vI (u.i:Int),vI u.h])],vI ((aO l u).1),[(0,.box 84 [.p none (.sl 5 1 (l.map bD)),vI (((aO l u).2.i:Nat):Int),vI ((aO l u).2.h)])])
abbrev aI2 (l:List Int)(u:Cu):Prop:=Cm 88 (uZ l u).1 (uZ l u).2.1 (uZ l u).2.2.1 (uZ l u).2.2.2
theorem aAJ (l:List Int)(u:Cu)(hl:l.length<=1048576):aI2 l u:=by
 refine cqx Try.func88 (.raw<| .raw<| .len l.length<| .br (.elem _ bD l (fun e44=> .raw<| .raw<| .fin [(0,0)])) (.fin [(0,0)])) (p:=(0<=(33:Int)/\(33:Int)<=64)/\(0<=(45:Int)/\(45:Int)<=64)/\Lm bD l/\Br ((u.i:Int)<(l.length:Int)) (0<=(u.i:Int)/\Em bD l u.i fun e44=>cR ((u.i:Int)+1)/\(mR .and .i64 (IntKind.i64.wrap ((mR .and .i64 (mR .xor .i64 ((IntKind.i64.wrap ((IntKind.i64.wrap (u.h*6364136223846793005))+1442695040888963407))/2^33) ((IntKind.i64.wrap ((IntKind.i64.wrap (u.h*6364136223846793005))+1442695040888963407))/2^45)) (255:Int))+(IntKind.i64.wrap e44))) (255:Int))=((aO l u).1)/\l.map bD=l.map bD/\((u.i:Int)+1)=(((aO l u).2.i:Nat):Int)/\(IntKind.i64.wrap ((IntKind.i64.wrap (u.h*6364136223846793005))+1442695040888963407))=((aO l u).2.h)/\True) ((mR .and .i64 (mR .xor .i64 ((IntKind.i64.wrap ((IntKind.i64.wrap (u.h*6364136223846793005))+1442695040888963407))/2^33) ((IntKind.i64.wrap ((IntKind.i64.wrap (u.h*6364136223846793005))+1442695040888963407))/2^45)) (255:Int))=((aO l u).1)/\l.map bD=l.map bD/\(u.i:Int)=(((aO l u).2.i:Nat):Int)/\(IntKind.i64.wrap ((IntKind.i64.wrap (u.h*6364136223846793005))+1442695040888963407))=((aO l u).2.h)/\True)) (by kernel_rfl) ?_;refine⟨⟨by omega,by omega⟩,⟨by omega,by omega⟩,List.length_map _,dd (fun c0=>?_) fun c0=>?_⟩
 ·refine aBD fun e44 h44=>?_;refine⟨⟨by omega,by omega⟩,?_,rfl,?_,?_,trivial⟩<;>((rw[aKV c0 h44]<;>rfl))
 ·refine⟨?_,rfl,?_,?_,trivial⟩<;>((rw[aI1 c0]<;>rfl))
abbrev sB (l:List Int)(u:Cu)(n:Int):List AV × List (Nat × Rs) × AV × List (Nat × Rs):=([.ptr 0 0,vI n],[(0,.box 84 [.p none (.sl 5 1 (l.map bD)),vI (u.i:Int),vI u.h])],vI ((aA l u n).1),[(0,.box 84 [.p none (.sl 5 1 (l.map bD)),vI (((aA l u n).2.i:Nat):Int),vI ((aA l u n).2.h)])])
abbrev aGt (l:List Int)(u:Cu)(n:Int):Prop:=Cm 61 (sB l u n).1 (sB l u n).2.1 (sB l u n).2.2.1 (sB l u n).2.2.2
theorem gU (l:List Int)(u:Cu)(hl:l.length<=1048576)(n:Int):aGt l u n:=by
 refine cqx Try.func61 (.br (.fin [(0,0)]) (.br (.callxs [.ptr 0 0] [(0,.box 84 [.p none (.sl 5 1 (l.map bD)),vI (u.i:Int),vI u.h])] [(0,0)] (vI ((aO l u).1)) [(0,.box 84 [.p none (.sl 5 1 (l.map bD)),vI (((aO l u).2.i:Nat):Int),vI ((aO l u).2.h)])]<| .fin [(0,0)]) (.callxs [.ptr 0 0] [(0,.box 84 [.p none (.sl 5 1 (l.map bD)),vI (u.i:Int),vI u.h])] [(0,0)] (vI ((aO l u).1)) [(0,.box 84 [.p none (.sl 5 1 (l.map bD)),vI (((aO l u).2.i:Nat):Int),vI ((aO l u).2.h)])]<| .callxs [.ptr 0 0] [(0,.box 84 [.p none (.sl 5 1 (l.map bD)),vI (((aO l u).2.i:Nat):Int),vI ((aO l u).2.h)])] [(0,0)] (vI ((aO l ((aO l u).2)).1)) [(0,.box 84 [.p none (.sl 5 1 (l.map bD)),vI (((aO l ((aO l u).2)).2.i:Nat):Int),vI ((aO l ((aO l u).2)).2.h)])]<| .callxs [.ptr 0 0] [(0,.box 84 [.p none (.sl 5 1 (l.map bD)),vI ((((aO l ((aO l u).2)).2).i:Nat):Int),vI (((aO l ((aO l u).2)).2).h)])] [(0,0)] (vI ((aO l ((aO l ((aO l u).2)).2)).1)) [(0,.box 84 [.p none (.sl 5 1 (l.map bD)),vI (((aO l ((aO l ((aO l u).2)).2)).2.i:Nat):Int),vI ((aO l ((aO l ((aO l u).2)).2)).2.h)])]<| .callxs [.ptr 0 0] [(0,.box 84 [.p none (.sl 5 1 (l.map bD)),vI ((((aO l ((aO l ((aO l u).2)).2)).2).i:Nat):Int),vI (((aO l ((aO l ((aO l u).2)).2)).2).h)])] [(0,0)] (vI ((aO l ((aO l ((aO l ((aO l u).2)).2)).2)).1)) [(0,.box 84 [.p none (.sl 5 1 (l.map bD)),vI (((aO l ((aO l ((aO l ((aO l u).2)).2)).2)).2.i:Nat):Int),vI ((aO l ((aO l ((aO l ((aO l u).2)).2)).2)).2.h)])]<| .fin [(0,0)]))) (p:=Br (n<=0) (0=((aA l u n).1)/\l.map bD=l.map bD/\(u.i:Int)=(((aA l u n).2.i:Nat):Int)/\u.h=((aA l u n).2.h)/\True) (Br (n<=256) (fR Try.prog 88 [.ptr 0 0] [(0,.box 84 [.p none (.sl 5 1 (l.map bD)),vI (u.i:Int),vI u.h])] (vI ((aO l u).1)) [(0,.box 84 [.p none (.sl 5 1 (l.map bD)),vI (((aO l u).2.i:Nat):Int),vI ((aO l u).2.h)])]/\l.map bD=l.map bD/\(u.i:Int)=(u.i:Int)/\u.h=u.h/\n≠0/\(Int.tmod ((aO l u).1) n)=((aA l u n).1)/\l.map bD=l.map bD/\(((aO l u).2.i:Nat):Int)=(((aA l u n).2.i:Nat):Int)/\((aO l u).2.h)=((aA l u n).2.h)/\True) (fR Try.prog 88 [.ptr 0 0] [(0,.box 84 [.p none (.sl 5 1 (l.map bD)),vI (u.i:Int),vI u.h])] (vI ((aO l u).1)) [(0,.box 84 [.p none (.sl 5 1 (l.map bD)),vI (((aO l u).2.i:Nat):Int),vI ((aO l u).2.h)])]/\l.map bD=l.map bD/\(u.i:Int)=(u.i:Int)/\u.h=u.h/\fR Try.prog 88 [.ptr 0 0] [(0,.box 84 [.p none (.sl 5 1 (l.map bD)),vI (((aO l u).2.i:Nat):Int),vI ((aO l u).2.h)])] (vI ((aO l ((aO l u).2)).1)) [(0,.box 84 [.p none (.sl 5 1 (l.map bD)),vI (((aO l ((aO l u).2)).2.i:Nat):Int),vI ((aO l ((aO l u).2)).2.h)])]/\l.map bD=l.map bD/\(((aO l u).2.i:Nat):Int)=(((aO l u).2.i:Nat):Int)/\((aO l u).2.h)=((aO l u).2.h)/\fR Try.prog 88 [.ptr 0 0] [(0,.box 84 [.p none (.sl 5 1 (l.map bD)),vI ((((aO l ((aO l u).2)).2).i:Nat):Int),vI (((aO l ((aO l u).2)).2).h)])] (vI ((aO l ((aO l ((aO l u).2)).2)).1)) [(0,.box 84 [.p none (.sl 5 1 (l.map bD)),vI (((aO l ((aO l ((aO l u).2)).2)).2.i:Nat):Int),vI ((aO l ((aO l ((aO l u).2)).2)).2.h)])]/\l.map bD=l.map bD/\(((aO l ((aO l u).2)).2.i:Nat):Int)=((((aO l ((aO l u).2)).2).i:Nat):Int)/\((aO l ((aO l u).2)).2.h)=(((aO l ((aO l u).2)).2).h)/\fR Try.prog 88 [.ptr 0 0] [(0,.box 84 [.p none (.sl 5 1 (l.map bD)),vI ((((aO l ((aO l ((aO l u).2)).2)).2).i:Nat):Int),vI (((aO l ((aO l ((aO l u).2)).2)).2).h)])] (vI ((aO l ((aO l ((aO l ((aO l u).2)).2)).2)).1)) [(0,.box 84 [.p none (.sl 5 1 (l.map bD)),vI (((aO l ((aO l ((aO l ((aO l u).2)).2)).2)).2.i:Nat):Int),vI ((aO l ((aO l ((aO l ((aO l u).2)).2)).2)).2.h)])]/\l.map bD=l.map bD/\(((aO l ((aO l ((aO l u).2)).2)).2.i:Nat):Int)=((((aO l ((aO l ((aO l u).2)).2)).2).i:Nat):Int)/\((aO l ((aO l ((aO l u).2)).2)).2.h)=(((aO l ((aO l ((aO l u).2)).2)).2).h)/\cR (((aO l u).1)*16777216)/\cR (((aO l ((aO l u).2)).1)*65536)/\cR ((((aO l u).1)*16777216)+(((aO l ((aO l u).2)).1)*65536))/\cR (((aO l ((aO l ((aO l u).2)).2)).1)*256)/\cR (((((aO l u).1)*16777216)+(((aO l ((aO l u).2)).1)*65536))+(((aO l ((aO l ((aO l u).2)).2)).1)*256))/\cR ((((((aO l u).1)*16777216)+(((aO l ((aO l u).2)).1)*65536))+(((aO l ((aO l ((aO l u).2)).2)).1)*256))+((aO l ((aO l ((aO l ((aO l u).2)).2)).2)).1))/\n≠0/\(Int.tmod ((((((aO l u).1)*16777216)+(((aO l ((aO l u).2)).1)*65536))+(((aO l ((aO l ((aO l u).2)).2)).1)*256))+((aO l ((aO l ((aO l ((aO l u).2)).2)).2)).1)) n)=((aA l u n).1)/\l.map bD=l.map bD/\(((aO l ((aO l ((aO l ((aO l u).2)).2)).2)).2.i:Nat):Int)=(((aA l u n).2.i:Nat):Int)/\((aO l ((aO l ((aO l ((aO l u).2)).2)).2)).2.h)=((aA l u n).2.h)/\True))) (by kernel_rfl) ?_;have w1:=lQ l u;have w2:=lQ l (aO l u).2;have w3:=lQ l (aO l (aO l u).2).2;have w4:=lQ l (aO l (aO l (aO l u).2).2).2;refine dd (fun c0=>?_) fun c0=>?_
 ·refine⟨?_,rfl,?_,?_,trivial⟩<;>((rw[aKW l u c0]<;>rfl))
 ·refine dd (fun c1=>?_) fun c1=>?_
  ·refine⟨aAJ l u (by assumption),rfl,rfl,rfl,by omega,?_,rfl,?_,?_,trivial⟩<;>((rw[aKX l u c0 c1]<;>rfl))
  ·refine⟨aAJ l u (by assumption),rfl,rfl,rfl,aAJ l ((aO l u).2) (by assumption),rfl,rfl,rfl,aAJ l ((aO l ((aO l u).2)).2) (by assumption),rfl,rfl,rfl,aAJ l ((aO l ((aO l ((aO l u).2)).2)).2) (by assumption),rfl,rfl,rfl,⟨by omega,by omega⟩,⟨by omega,by omega⟩,⟨by omega,by omega⟩,⟨by omega,by omega⟩,⟨by omega,by omega⟩,⟨by omega,by omega⟩,by omega,?_,rfl,?_,?_,trivial⟩<;>((rw[aKY l u c0 c1]<;>rfl))
abbrev vA (l:List Int)(u:Cu)(n:Int):List AV × List (Nat × Rs) × AV × List (Nat × Rs):=([.ptr 0 0,vI n],[(0,.box 84 [.p none (.sl 5 1 (l.map bD)),vI (u.i:Int),vI u.h])],vB (decide ((aA l u n).1=0)),[(0,.box 84 [.p none (.sl 5 1 (l.map bD)),vI (((aA l u n).2.i:Nat):Int),vI ((aA l u n).2.h)])])
abbrev aI3 (l:List Int)(u:Cu)(n:Int):Prop:=Cm 51 (vA l u n).1 (vA l u n).2.1 (vA l u n).2.2.1 (vA l u n).2.2.2
theorem aCj (l:List Int)(u:Cu)(hl:l.length<=1048576)(n:Int):aI3 l u n:=by
 refine cqx Try.func51 (.callxs [.ptr 0 0,vI n] [(0,.box 84 [.p none (.sl 5 1 (l.map bD)),vI (u.i:Int),vI u.h])] [(0,0)] (vI ((aA l u n).1)) [(0,.box 84 [.p none (.sl 5 1 (l.map bD)),vI (((aA l u n).2.i:Nat):Int),vI ((aA l u n).2.h)])]<| .fin [(0,0)]) (p:=fR Try.prog 61 [.ptr 0 0,vI n] [(0,.box 84 [.p none (.sl 5 1 (l.map bD)),vI (u.i:Int),vI u.h])] (vI ((aA l u n).1)) [(0,.box 84 [.p none (.sl 5 1 (l.map bD)),vI (((aA l u n).2.i:Nat):Int),vI ((aA l u n).2.h)])]/\n=n/\l.map bD=l.map bD/\(u.i:Int)=(u.i:Int)/\u.h=u.h/\(decide (((aA l u n).1)=0))=(decide ((aA l u n).1=0))/\l.map bD=l.map bD/\(((aA l u n).2.i:Nat):Int)=(((aA l u n).2.i:Nat):Int)/\((aA l u n).2.h)=((aA l u n).2.h)/\True) (by kernel_rfl) ?_;refine⟨gU l u (by assumption) n,rfl,rfl,rfl,rfl,?_,rfl,rfl,rfl,trivial⟩
 ·rfl
def bP (l:List Int)(u:Cu)(xs:List Int):Int × Cu:=(xs.getD (aA l u xs.length).1.toNat 0,(aA l u xs.length).2)
theorem aKZ {l:List Int}{u:Cu}{xs:List Int}{x:Int}(h:xs[(aA l u xs.length).1.toNat]? =some x):bP l u xs=(x,(aA l u xs.length).2):=by rw[bP,List.getD_eq_getElem?_getD,h];rfl
abbrev vC (l:List Int)(u:Cu)(xs:List Int):List AV × List (Nat × Rs) × AV × List (Nat × Rs):=([.ptr 0 0,.own 1],[(0,.box 84 [.p none (.sl 5 1 (l.map bD)),vI (u.i:Int),vI u.h]),(1,.arr 3 1 true (xs.map aI))],vI ((bP l u xs).1),[(0,.box 84 [.p none (.sl 5 1 (l.map bD)),vI (((bP l u xs).2.i:Nat):Int),vI ((bP l u xs).2.h)])])
abbrev aI4 (l:List Int)(u:Cu)(xs:List Int):Prop:=Cm 80 (vC l u xs).1 (vC l u xs).2.1 (vC l u xs).2.2.1 (vC l u xs).2.2.2
theorem aCk (l:List Int)(u:Cu)(hl:l.length<=1048576)(xs:List Int)(hx:0<xs.length):aI4 l u xs:=by
 refine cqx Try.func80 (.len xs.length<| .callxs [.ptr 0 0,vI (xs.length:Int)] [(0,.box 84 [.p none (.sl 5 1 (l.map bD)),vI (u.i:Int),vI u.h])] [(0,0)] (vI ((aA l u (xs.length:Int)).1)) [(0,.box 84 [.p none (.sl 5 1 (l.map bD)),vI (((aA l u (xs.length:Int)).2.i:Nat):Int),vI ((aA l u (xs.length:Int)).2.h)])]<| .len xs.length<| .elem _ aI xs (fun e11=> .fin [(0,0)])) (p:=Lm aI xs/\fR Try.prog 61 [.ptr 0 0,vI (xs.length:Int)] [(0,.box 84 [.p none (.sl 5 1 (l.map bD)),vI (u.i:Int),vI u.h])] (vI ((aA l u (xs.length:Int)).1)) [(0,.box 84 [.p none (.sl 5 1 (l.map bD)),vI (((aA l u (xs.length:Int)).2.i:Nat):Int),vI ((aA l u (xs.length:Int)).2.h)])]/\(xs.length:Int)=(xs.length:Int)/\l.map bD=l.map bD/\(u.i:Int)=(u.i:Int)/\u.h=u.h/\0<=((aA l u (xs.length:Int)).1)/\Lm aI xs/\((aA l u (xs.length:Int)).1)<(xs.length:Int)/\Em aI xs (((aA l u (xs.length:Int)).1).toNat) fun e11=>e11=((bP l u xs).1)/\l.map bD=l.map bD/\(((aA l u (xs.length:Int)).2.i:Nat):Int)=(((bP l u xs).2.i:Nat):Int)/\((aA l u (xs.length:Int)).2.h)=((bP l u xs).2.h)/\True) (by kernel_rfl) ?_;have hb:=dV l u (n:=xs.length) (by omega);refine⟨List.length_map _,gU l u (by assumption) (xs.length:Int),rfl,rfl,rfl,rfl,by omega,List.length_map _,by omega,rfl,by omega,fun e11 h11=>?_⟩;refine⟨?_,rfl,?_,?_,trivial⟩<;>(first|rfl|(rw[aKZ (by assumption)]<;>rfl))
abbrev pF (l:List Int):List AV × List (Nat × Rs) × AV × List (Nat × Rs):=([.p none (.sl 5 1 (l.map bD))],[],.ptr 0 0,[(0,.box 84 [.p none (.sl 5 1 (l.map bD)),vI (((aT l).i:Nat):Int),vI ((aT l).h)])])
abbrev yA (l:List Int):Prop:=Cm 38 (pF l).1 (pF l).2.1 (pF l).2.2.1 (pF l).2.2.2
theorem aI5 (l:List Int)(hl:l.length<=1048576):yA l:=by
 refine cqx Try.func38 (.len l.length<| .loop Nat (Q1 Nat) ([3,4]++rg 8 20) [] (fun k=>[(4,vI (k:Int)),(3,vI (rA l k))]) (fun k=>[]) (fun k=>k<=l.length/\k<=4000) (fun k=>4000 - k) (fun k=> .len l.length<| .br (.lit<| .lit<| .br (.raw<| .elem _ bD l (fun e22=> .raw<| .raw<| .raw<| .back [])) (.fin [(0,3100)])) (.fin [(0,3100)]))) (p:=Lm bD l/\(cR ((10101:Int)+(l.length:Int))/\((∃(k:Nat),0=(k:Int)/\((10101:Int)+(l.length:Int))=(rA l k)/\k<=l.length/\k<=4000)/\ ∀(k:Nat),(k<=l.length/\k<=4000)->Lm bD l/\Br ((k:Int)<(l.length:Int)) (Br ((k:Int)<4000) (0<=(k:Int)/\Em bD l k fun e22=>cR ((k:Int)+1)/\ ∃(k' :Nat),((k:Int)+1)=(k' :Int)/\(mR .and .i64 (IntKind.i64.wrap ((IntKind.i64.wrap ((IntKind.i64.wrap ((rA l k)*131))+(IntKind.i64.wrap e22)))+7)) (1073741823:Int))=(rA l k')/\(k' <=l.length/\k' <=4000)/\4000 - k' <4000 - k) (l.map bD=l.map bD/\0=(((aT l).i:Nat):Int)/\(rA l k)=((aT l).h)/\True)) (l.map bD=l.map bD/\0=(((aT l).i:Nat):Int)/\(rA l k)=((aT l).h)/\True)))) (by kernel_rfl) ?_;refine⟨List.length_map _,⟨by omega,by omega⟩,⟨0,(by rfl),(by rfl),Nat.zero_le _,Nat.zero_le _⟩,fun k ⟨hk,hk2⟩=>?_⟩;refine⟨List.length_map _,dd (fun g12=>?_) fun g12=>?_⟩
 ·refine dd (fun c0=>?_) fun c0=>?_
  ·refine aBD fun e22 h22=>?_;refine aBV ?_;exact⟨k+1,(by rfl),(by (rw[aKU h22];done)),⟨by omega,by omega⟩,by omega⟩
  ·refine⟨rfl,?_,?_,trivial⟩<;>(first|rfl|(rw[aT,show min l.length 4000=k by omega]<;>rfl))
 ·refine⟨rfl,?_,?_,trivial⟩<;>(first|rfl|(rw[aT,show min l.length 4000=k by omega]<;>rfl))
def aMh (_:Int):Prop:=True
def aI6 (l:List Int):Prop:= ∀x∈l,aMh x
def aI7:Rd Int:=fun _ cs n=>cs= [.int .u8 n]
theorem aGu {H:Type}{enc:TypeId × Value->H}{P:Program}{w:World}{base:Nat}{spare:Nat->Bool}{held:Bool}{t:TypeId}{fuel:Nat}{cs:List Value}{x:DataW H × List MemPlace}(ht:P.underlying t=some (.int .u8))(h:DataW.trod enc P w base spare held fuel t cs=some x): ∃n,aI7 w cs n:=by
 obtain⟨n,rfl,_,_⟩:=DataW.trod_int ht h;exact⟨n,rfl⟩
def RByteS:Rd (List Int):=fun w cs l=>kG (Lv w) w [.sl 5 1 (l.map bD)] cs/\aI6 l
theorem openByteS {H:Type}{enc:TypeId × Value->H}{w:World}{base:Nat}{spare:Nat->Bool}{held:Bool}{fuel:Nat}{cs:List Value}{x:DataW H × List MemPlace}(h:DataW.trod enc Try.prog w base spare held fuel 22 cs=some x): ∃l,RByteS w cs l:=by
 obtain⟨l,hl⟩:=aEh (k:=1) (R:=aI7) Try.underlying22 (by kernel_rfl) (by omega) (fun _ _ _ h=>aGu Try.underlying5 h) h;obtain⟨A,c,rfl,_⟩:=id hl;exact⟨l,aD6 (aHj (R:=aI7) (enc:=bD) (fun cs x h=>by obtain rfl:=h;exact aD6 aJe aF6) hl) aF6,fun _ _=>trivial⟩
def bW (n d:Int):Bool:=inB d 1 2147483647&&inB n (-2147483647) 2147483647&&decide (Int.gcd n d=1)
theorem tJ {n d:Int}(h:bW n d=true):1<=d/\d<=2147483647/\ -2147483647<=n/\n<=2147483647/\Int.gcd n d=1:=by
 simp only[bW,Bool.and_eq_true,decide_eq_true_eq] at h;obtain⟨⟨h1,h2⟩,h3⟩:=h;have:=aDL h1;have:=aDL h2;exact⟨by omega,by omega,by omega,by omega,h3⟩
def aX (n d:Int):Int × Int × Bool:=
 if d=0 then (0,0,false) else
 let n1:=if d<0 then -n else n
 let d1:=if d<0 then -d else d
 let g:Int:=Int.gcd n1 d1
 if bW (n1.tdiv g) (d1.tdiv g)=true then (n1.tdiv g,d1.tdiv g,true) else (0,0,false)
def aCl (a b c d:Int):Int × Int × Bool:=if bW a b=true/\bW c d=true then aX (a*d+c*b) (b*d) else (0,0,false)
def aCm (a b c d:Int):Int × Int × Bool:=if bW a b=true/\bW c d=true then aX (a*d - c*b) (b*d) else (0,0,false)
def aGv (a b c d:Int):Int × Int × Bool:=if bW a b=true/\bW c d=true then aX (a*c) (b*d) else (0,0,false)
def aBT (a b c d:Int):Int × Int × Bool:=if bW a b=true/\bW c d=true then aX (a*d) (b*c) else (0,0,false)
def aI8 (a b c d:Int):Int:=if bW a b=true/\bW c d=true then (if a*d<c*b then -1 else if c*b<a*d then 1 else 0) else 0
theorem aDw (x y:Int):Int.gcd y (x.tmod y)=Int.gcd x y:=by
 rw[Int.gcd_comm x y];unfold Int.gcd;rw[Int.natAbs_tmod,Nat.gcd_comm y.natAbs (x.natAbs%y.natAbs),<-Nat.gcd_rec]
theorem aK0 (x:Int):(Int.gcd x 0:Int)=(if x< -x then -x else x):=by
 rw[Int.gcd_zero_right];split<;>omega
theorem vD {x y:Int}(h:y≠0):(x.tmod y).natAbs<y.natAbs:=by
 rw[Int.natAbs_tmod];exact Nat.mod_lt _ (by omega)
theorem aAK {x:Int}{n:Nat}(h:x.natAbs<n)(hn:n<=9223372036854775807): -9223372036854775807<=x/\x<=9223372036854775807:=by omega
theorem aI9 (n g:Int)(hn: -9223372036854775807<=n/\n<=9223372036854775807): -9223372036854775807<=n.tdiv g/\n.tdiv g<=9223372036854775807:=by
 have h1:(n.tdiv g).natAbs=n.natAbs/g.natAbs:=Int.natAbs_tdiv n g;have h2:n.natAbs/g.natAbs<=n.natAbs:=Nat.div_le_self _ _;omega
theorem gB {n d:Int}(h:d≠0):1<=(Int.gcd n d:Int):=by
 have:0<Int.gcd n d:=Int.gcd_pos_of_ne_zero_right n h;omega
theorem aMJ {n d:Int}(h:d≠0):(Int.gcd n d:Int)<=d.natAbs:=by
 have:Int.gcd n d<=d.natAbs:=by
  unfold Int.gcd;exact Nat.gcd_le_right _ (by omega)
 omega
theorem iF (n:Int):aX n 0=(0,0,false):=by simp[aX]
theorem wL {n d g:Int}(h:0<d)(hg:g=Int.gcd n d):aX n d=if bW (n.tdiv g) (d.tdiv g)=true then (n.tdiv g,d.tdiv g,true) else (0,0,false):=by
 subst hg;unfold aX;rw[if_neg (by omega)];simp only[if_neg (show ¬d<0 by omega)]
theorem wM {n d g:Int}(h:d<0)(hg:g=Int.gcd (-n) (-d)):aX n d=if bW ((-n).tdiv g) ((-d).tdiv g)=true then ((-n).tdiv g,(-d).tdiv g,true) else (0,0,false):=by
 subst hg;unfold aX;rw[if_neg (by omega)];simp only[if_pos h]
theorem dL {x y:Int}(hx: -2147483647<=x/\x<=2147483647)(hy: -2147483647<=y/\y<=2147483647): -4611686014132420609<=x*y/\x*y<=4611686014132420609:=by
 have h1:(x*y).natAbs=x.natAbs*y.natAbs:=Int.natAbs_mul x y;have h2:x.natAbs*y.natAbs<=2147483647*2147483647:=Nat.mul_le_mul (by omega) (by omega);omega
theorem yB {a b c d:Int}(h:bW a b=false\/bW c d=false):aCl a b c d=(0,0,false):=by rcases h with h | h<;>simp[aCl,h]
theorem rC {a b c d:Int}(h:bW a b=true)(h' :bW c d=true):aCl a b c d=aX (a*d+c*b) (b*d):=by simp[aCl,h,h']
theorem aFt {a b c d:Int}(h:bW a b=false\/bW c d=false):aCm a b c d=(0,0,false):=by rcases h with h | h<;>simp[aCm,h]
theorem aAL {a b c d:Int}(h:bW a b=true)(h' :bW c d=true):aCm a b c d=aX (a*d - c*b) (b*d):=by simp[aCm,h,h']
theorem yC {a b c d:Int}(h:bW a b=false\/bW c d=false):aGv a b c d=(0,0,false):=by rcases h with h | h<;>simp[aGv,h]
theorem mX {a b c d:Int}(h:bW a b=true)(h' :bW c d=true):aGv a b c d=aX (a*c) (b*d):=by simp[aGv,h,h']
theorem yD {a b c d:Int}(h:bW a b=false\/bW c d=false):aBT a b c d=(0,0,false):=by rcases h with h | h<;>simp[aBT,h]
theorem oP {a b c d:Int}(h:bW a b=true)(h' :bW c d=true):aBT a b c d=aX (a*d) (b*c):=by simp[aBT,h,h']
theorem aGw {a b d:Int}:aBT a b 0 d=(0,0,false):=by unfold aBT;split<;>simp[aX]
theorem yE {a b c d:Int}(h:bW a b=false\/bW c d=false):aI8 a b c d=0:=by rcases h with h | h<;>simp[aI8,h]
theorem mY {a b c d:Int}(h:bW a b=true)(h' :bW c d=true):aI8 a b c d=if a*d<c*b then -1 else if c*b<a*d then 1 else 0:=by simp[aI8,h,h']
def aJ (r:aC):Bool:=bW r.num r.den
def eS (q:Int × Int × Bool):aC × Bool:=(⟨q.1,q.2.1⟩,q.2.2)
def cT (a b:aC):aC × Bool:=eS (aCl a.num a.den b.num b.den)
def iU (a b:aC):aC × Bool:=eS (aCm a.num a.den b.num b.den)
def bQ (a b:aC):aC × Bool:=eS (aGv a.num a.den b.num b.den)
def aR (a b:aC):aC × Bool:=eS (aBT a.num a.den b.num b.den)
def bK (a b:aC):Int:=aI8 a.num a.den b.num b.den
theorem bA {r:aC}(h:aJ r=true):1<=r.den/\r.den<=2147483647/\ -2147483647<=r.num/\r.num<=2147483647/\Int.gcd r.num r.den=1:=tJ h
theorem eA {n d:Int}:Int.gcd (n.natAbs:Int) d=Int.gcd n d:=by simp[Int.gcd]
theorem kQ {n d:Int}:bW n d=(decide (1<=d/\d<=2147483647)&&(decide (-2147483647<=n/\n<=2147483647)&&decide (((Int.gcd n d:Nat):Int)=1))):=by
 have e:decide (((Int.gcd n d:Nat):Int)=1)=decide (Int.gcd n d=1):=by congr 1;simp;omega
 rw[e];simp only[bW,Bool.and_assoc]
 congr 1
 ·simp[inB,Bool.decide_and]
 congr 1
 simp[inB,Bool.decide_and]
abbrev mI (n:Int)(a:Int)(c:Int):Prop:=Cn 47 [.one (.int .i64 n),.one (.int .i64 a),.one (.int .i64 c)] (vB (decide (a<=n/\n<=c))) []
theorem vE (n a c:Int):mI n a c:=by
 refine cq Try.func47 (.br (.fin []) (.fin [])) (p:=Br (a<=n) (((decide (n<=c))=(decide (a<=n/\n<=c)))/\True) (((false)=(decide (a<=n/\n<=c)))/\True)) (by kernel_rfl) ?_;refine dd (fun g10=>?_) fun g10=>?_
 ·apply et1
  ·first|(simp[*];done)|(simp;omega)
 ·apply et1
  ·first|(simp[*];done)|(simp;omega)
abbrev gE (n:Int)(a:Int)(c:Int):Prop:=Cn 48 [.one (.int .i64 n),.one (.int .i64 a),.one (.int .i64 c)] (vB (decide (a<=n/\n<=c))) []
theorem lB (n a c:Int):gE n a c:=by
 refine cq Try.func48 (.br (.fin []) (.fin [])) (p:=Br (a<=n) (((decide (n<=c))=(decide (a<=n/\n<=c)))/\True) (((false)=(decide (a<=n/\n<=c)))/\True)) (by kernel_rfl) ?_;refine dd (fun g10=>?_) fun g10=>?_
 ·apply et1
  ·first|(simp[*];done)|(simp;omega)
 ·apply et1
  ·first|(simp[*];done)|(simp;omega)
abbrev kR (a:Int)(c:Int):Prop:=Cn 89 [.one (.int .i64 a),.one (.int .i64 c)] (vI ((Int.gcd a c:Nat):Int)) []
theorem rD (a c:Int)(ha: -9223372036854775807<=a/\a<=9223372036854775807)(hc: -9223372036854775807<=c/\c<=9223372036854775807):kR a c:=by
 refine cq Try.func89 (.loop (Int × Int) (Q2 Int Int) [0,1,5,6,7,8,9,10] [] (fun yy0=>[(0,vI yy0.1),(1,vI yy0.2)]) (fun yy0=>[]) (fun yy0=>(-9223372036854775807<=yy0.1/\yy0.1<=9223372036854775807)/\(-9223372036854775807<=yy0.2/\yy0.2<=9223372036854775807)/\Int.gcd yy0.1 yy0.2=Int.gcd a c) (fun yy0=>yy0.2.natAbs) (fun yy0=> .br (.back []) (.fin []))) (p:=(∃(x:Int) (y:Int),a=x/\c=y/\(-9223372036854775807<=x/\x<=9223372036854775807)/\(-9223372036854775807<=y/\y<=9223372036854775807)/\Int.gcd x y=Int.gcd a c)/\ ∀(x:Int) (y:Int),((-9223372036854775807<=x/\x<=9223372036854775807)/\(-9223372036854775807<=y/\y<=9223372036854775807)/\Int.gcd x y=Int.gcd a c)->Nb (y=0) (y≠0/\ ∃(x' :Int) (y' :Int),y=x' /\(Int.tmod x y)=y' /\((-9223372036854775807<=x' /\x' <=9223372036854775807)/\(-9223372036854775807<=y' /\y' <=9223372036854775807)/\Int.gcd x' y' =Int.gcd a c)/\y'.natAbs<y.natAbs) (cR (-x)/\(if x<(-x) then (-x) else x)=((Int.gcd a c:Nat):Int)/\True)) (by kernel_rfl) ?_;refine⟨⟨a,c,rfl,rfl,ha,hc,rfl⟩,fun x y ⟨hx,hy,hg⟩=>?_⟩;refine dn (fun c0=>?_) fun c0=>?_
 ·refine⟨by omega,?_⟩;exact⟨y,Int.tmod x y,rfl,rfl,⟨hy,aAK (vD c0) (by omega),by rw[aDw];exact hg⟩,vD c0⟩
 ·refine⟨⟨by omega,by omega⟩,?_,trivial⟩
  ·subst c0;rw[<-hg,aK0]
abbrev pG (a:Int)(c:Int):Prop:=Cn 68 [.one (.int .i64 a),.one (.int .i64 c)] (vI ((Int.gcd a c:Nat):Int)) []
theorem aAM (a c:Int)(ha:0<=a/\a<=9223372036854775807)(hc:0<=c/\c<=9223372036854775807):pG a c:=by
 refine cq Try.func68 (.loop (Int × Int) (Q2 Int Int) ([0,1]++rg 5 8) [] (fun yy0=>[(0,vI yy0.1),(1,vI yy0.2)]) (fun yy0=>[]) (fun yy0=>(0<=yy0.1/\yy0.1<=9223372036854775807)/\(0<=yy0.2/\yy0.2<=9223372036854775807)/\Int.gcd yy0.1 yy0.2=Int.gcd a c) (fun yy0=>yy0.2.natAbs) (fun yy0=> .br (.back []) (.fin []))) (p:=(∃(x:Int) (y:Int),a=x/\c=y/\(0<=x/\x<=9223372036854775807)/\(0<=y/\y<=9223372036854775807)/\Int.gcd x y=Int.gcd a c)/\ ∀(x:Int) (y:Int),((0<=x/\x<=9223372036854775807)/\(0<=y/\y<=9223372036854775807)/\Int.gcd x y=Int.gcd a c)->Nb (y=0) (y≠0/\ ∃(x' :Int) (y' :Int),y=x' /\(Int.tmod x y)=y' /\((0<=x' /\x' <=9223372036854775807)/\(0<=y' /\y' <=9223372036854775807)/\Int.gcd x' y' =Int.gcd a c)/\y'.natAbs<y.natAbs) (x=((Int.gcd a c:Nat):Int)/\True)) (by kernel_rfl) ?_;refine⟨⟨a,c,rfl,rfl,ha,hc,rfl⟩,fun x y ⟨hx,hy,hg⟩=>?_⟩;refine dn (fun c0=>?_) fun c0=>?_
 ·refine⟨by omega,?_⟩;exact⟨y,Int.tmod x y,rfl,rfl,⟨hy,⟨Int.tmod_nonneg _ hx.1,(aAK (vD c0) (by omega)).2⟩,by rw[aDw];exact hg⟩,vD c0⟩
 ·apply et1
  ·subst c0;rw[<-hg,Int.gcd_zero_right];omega
abbrev pH (n:Int):Prop:=Cn 69 [.one (.int .i64 n)] (vI (n.natAbs:Int)) []
theorem aAN (n:Int)(hn: -9223372036854775807<=n/\n<=9223372036854775807):pH n:=by
 refine cq Try.func69 (.br (.fin []) (.fin [])) (p:=Br (n<0) (cR (-n)/\(-n)=(n.natAbs:Int)/\True) (n=(n.natAbs:Int)/\True)) (by kernel_rfl) ?_;refine dd (fun c0=>?_) fun c0=>?_
 ·refine⟨⟨by omega,by omega⟩,?_,trivial⟩
  ·omega
 ·apply et1
  ·omega
abbrev eB (r:aC):Prop:=Cn 62 [.agg [.int .i64 r.num,.int .i64 r.den]] (vB (aJ r)) []
theorem gF (r:aC):eB r:=by
 refine cq Try.func62 (.call (vB (decide (1<=r.den/\r.den<=2147483647))) []<| .br (.call (vB (decide ((-2147483647:Int)<=r.num/\r.num<=2147483647))) []<| .lit<| .br (.call (vI ((Int.gcd r.num r.den:Nat):Int)) []<| .fin []) (.fin [])) (.fin [])) (p:=mI r.den (1:Int) (2147483647:Int)/\Br (1<=r.den/\r.den<=2147483647) (mI r.num (-2147483647:Int) (2147483647:Int)/\Br ((-2147483647:Int)<=r.num/\r.num<=2147483647) (kR r.num r.den/\(decide (((Int.gcd r.num r.den:Nat):Int)=1))=(aJ r)/\True) ((false)=(aJ r)/\True)) ((false)=(aJ r)/\True)) (by kernel_rfl) ?_;refine⟨vE _ _ _,dd (fun g6=>?_) fun g6=>?_⟩
 ·refine⟨vE _ _ _,dd (fun g11=>?_) fun g11=>?_⟩
  ·refine⟨rD _ _ (by omega) (by omega),?_,trivial⟩
   ·(try rw[eA]);rw[aJ,kQ];simp[*]
  ·apply et1
   ·(try rw[eA]);rw[aJ,kQ];simp[*]
 ·apply et1
  ·(try rw[eA]);rw[aJ,kQ];simp[*]
abbrev dN (r:aC):Prop:=Cn 26 [.agg [.int .i64 r.num,.int .i64 r.den]] (vB (aJ r)) []
theorem fH (r:aC):dN r:=by
 refine cq Try.func26 (.call (vB (decide (1<=r.den/\r.den<=2147483647))) []<| .br (.call (vB (decide ((-2147483647:Int)<=r.num/\r.num<=2147483647))) []<| .lit<| .br (.call (vI (r.num.natAbs:Int)) []<| .call (vI ((Int.gcd (r.num.natAbs:Int) r.den:Nat):Int)) []<| .fin []) (.fin [])) (.fin [])) (p:=gE r.den (1:Int) (2147483647:Int)/\Br (1<=r.den/\r.den<=2147483647) (gE r.num (-2147483647:Int) (2147483647:Int)/\Br ((-2147483647:Int)<=r.num/\r.num<=2147483647) (pH r.num/\pG (r.num.natAbs:Int) r.den/\(decide (((Int.gcd (r.num.natAbs:Int) r.den:Nat):Int)=1))=(aJ r)/\True) ((false)=(aJ r)/\True)) ((false)=(aJ r)/\True)) (by kernel_rfl) ?_;refine⟨lB _ _ _,dd (fun g6=>?_) fun g6=>?_⟩
 ·refine⟨lB _ _ _,dd (fun g11=>?_) fun g11=>?_⟩
  ·refine⟨aAN _ (by omega),aAM _ _ (by omega) (by omega),?_,trivial⟩
   ·(try rw[eA]);rw[aJ,kQ];simp[*]
  ·apply et1
   ·(try rw[eA]);rw[aJ,kQ];simp[*]
 ·apply et1
  ·(try rw[eA]);rw[aJ,kQ];simp[*]
theorem aIa {n d:Int}:Int.gcd (-n) (-d)=Int.gcd n d:=by simp[Int.gcd]
theorem oE {n d:Int}(h:0<d):aX n d=if bW (n.tdiv (Int.gcd n d)) (d.tdiv (Int.gcd n d))=true then (n.tdiv (Int.gcd n d),d.tdiv (Int.gcd n d),true) else (0,0,false):=wL h rfl
theorem rE {n d:Int}(h:d<0):aX n d=if bW ((-n).tdiv (Int.gcd (-n) (-d))) ((-d).tdiv (Int.gcd (-n) (-d)))=true then ((-n).tdiv (Int.gcd (-n) (-d)),(-d).tdiv (Int.gcd (-n) (-d)),true) else (0,0,false):=wM h rfl
theorem aDx {n:Int}:eS (aX n 0)=(⟨0,0⟩,false):=by rw[iF];rfl
theorem aCn {n d:Int}(h:0<d)(c:aJ ⟨n.tdiv (Int.gcd n d),d.tdiv (Int.gcd n d)⟩=true):eS (aX n d)=(⟨n.tdiv (Int.gcd n d),d.tdiv (Int.gcd n d)⟩,true):=by
 rw[oE h,if_pos (show bW _ _=true from c)];rfl
theorem aAO {n d:Int}(h:0<d)(c:aJ ⟨n.tdiv (Int.gcd n d),d.tdiv (Int.gcd n d)⟩=false):eS (aX n d)=(⟨0,0⟩,false):=by
 rw[oE h,if_neg (by rw[show bW _ _=false from c];simp)];rfl
theorem aCo {n d:Int}(h:d<0)(c:aJ ⟨(-n).tdiv (Int.gcd (-n) (-d)),(-d).tdiv (Int.gcd (-n) (-d))⟩=true):eS (aX n d)=(⟨(-n).tdiv (Int.gcd (-n) (-d)),(-d).tdiv (Int.gcd (-n) (-d))⟩,true):=by
 rw[rE h,if_pos (show bW _ _=true from c)];rfl
theorem aAP {n d:Int}(h:d<0)(c:aJ ⟨(-n).tdiv (Int.gcd (-n) (-d)),(-d).tdiv (Int.gcd (-n) (-d))⟩=false):eS (aX n d)=(⟨0,0⟩,false):=by
 rw[rE h,if_neg (by rw[show bW _ _=false from c];simp)];rfl
theorem hJ {n g:Int}(hn: -9223372036854775807<=n/\n<=9223372036854775807):cR (n.tdiv g):=by have:=aI9 n g hn;exact⟨by omega,by omega⟩
abbrev oQ (n:Int)(d:Int):AV × List (Nat × Rs):=(.tup [.agg [vI ((eS (aX n d)).1.num),vI ((eS (aX n d)).1.den)],vB ((eS (aX n d)).2)],[])
abbrev sC (n:Int)(d:Int):Prop:=Cn 93 [.one (.int .i64 n),.one (.int .i64 d)] (oQ n d).1 (oQ n d).2
theorem aCp (n d:Int)(hn: -9223372036854775807<=n/\n<=9223372036854775807)(hd: -9223372036854775807<=d/\d<=9223372036854775807):sC n d:=by
 refine cq Try.func93 (.br (.fin []) (.lit<| .lit<| .lit<| .lit<| .br (.lit<| .lit<| .lit<| .lit<| .br (.fin []) (.lit<| .lit<| .lit<| .lit<| .br (.fin []) (.br (.call (vI ((Int.gcd (-n) (-d):Nat):Int)) []<| .call (vB (aJ (⟨Int.tdiv (-n) ((Int.gcd (-n) (-d):Nat):Int),Int.tdiv (-d) ((Int.gcd (-n) (-d):Nat):Int)⟩:aC))) []<| .br (.fin []) (.fin [])) (.call (vI ((Int.gcd n d:Nat):Int)) []<| .call (vB (aJ (⟨Int.tdiv n ((Int.gcd n d:Nat):Int),Int.tdiv d ((Int.gcd n d:Nat):Int)⟩:aC))) []<| .br (.fin []) (.fin []))))) (.lit<| .lit<| .lit<| .lit<| .lit<| .lit<| .lit<| .lit<| .lit<| .br (.fin []) (.br (.call (vI ((Int.gcd (-n) (-d):Nat):Int)) []<| .call (vB (aJ (⟨Int.tdiv (-n) ((Int.gcd (-n) (-d):Nat):Int),Int.tdiv (-d) ((Int.gcd (-n) (-d):Nat):Int)⟩:aC))) []<| .br (.fin []) (.fin [])) (.call (vI ((Int.gcd n d:Nat):Int)) []<| .call (vB (aJ (⟨Int.tdiv n ((Int.gcd n d:Nat):Int),Int.tdiv d ((Int.gcd n d:Nat):Int)⟩:aC))) []<| .br (.fin []) (.fin [])))))) (p:=Br (d=0) (0=((eS (aX n d)).1.num)/\0=((eS (aX n d)).1.den)/\(false)=((eS (aX n d)).2)/\True) (cR (-n)/\Br (n=(-n)) (Nb (n=0) (0=((eS (aX n d)).1.num)/\0=((eS (aX n d)).1.den)/\(false)=((eS (aX n d)).2)/\True) (cR (-d)/\Br (d=(-d)) (0=((eS (aX n d)).1.num)/\0=((eS (aX n d)).1.den)/\(false)=((eS (aX n d)).2)/\True) (Br (d<0) (cR (-n)/\cR (-d)/\kR (-n) (-d)/\((Int.gcd (-n) (-d):Nat):Int)≠0/\cR (Int.tdiv (-n) ((Int.gcd (-n) (-d):Nat):Int))/\((Int.gcd (-n) (-d):Nat):Int)≠0/\cR (Int.tdiv (-d) ((Int.gcd (-n) (-d):Nat):Int))/\eB (⟨Int.tdiv (-n) ((Int.gcd (-n) (-d):Nat):Int),Int.tdiv (-d) ((Int.gcd (-n) (-d):Nat):Int)⟩:aC)/\Nr (aJ (⟨Int.tdiv (-n) ((Int.gcd (-n) (-d):Nat):Int),Int.tdiv (-d) ((Int.gcd (-n) (-d):Nat):Int)⟩:aC)) (0=((eS (aX n d)).1.num)/\0=((eS (aX n d)).1.den)/\(false)=((eS (aX n d)).2)/\True) ((Int.tdiv (-n) ((Int.gcd (-n) (-d):Nat):Int))=((eS (aX n d)).1.num)/\(Int.tdiv (-d) ((Int.gcd (-n) (-d):Nat):Int))=((eS (aX n d)).1.den)/\(true)=((eS (aX n d)).2)/\True)) (kR n d/\((Int.gcd n d:Nat):Int)≠0/\cR (Int.tdiv n ((Int.gcd n d:Nat):Int))/\((Int.gcd n d:Nat):Int)≠0/\cR (Int.tdiv d ((Int.gcd n d:Nat):Int))/\eB (⟨Int.tdiv n ((Int.gcd n d:Nat):Int),Int.tdiv d ((Int.gcd n d:Nat):Int)⟩:aC)/\Nr (aJ (⟨Int.tdiv n ((Int.gcd n d:Nat):Int),Int.tdiv d ((Int.gcd n d:Nat):Int)⟩:aC)) (0=((eS (aX n d)).1.num)/\0=((eS (aX n d)).1.den)/\(false)=((eS (aX n d)).2)/\True) ((Int.tdiv n ((Int.gcd n d:Nat):Int))=((eS (aX n d)).1.num)/\(Int.tdiv d ((Int.gcd n d:Nat):Int))=((eS (aX n d)).1.den)/\(true)=((eS (aX n d)).2)/\True))))) (cR (-d)/\Br (d=(-d)) (0=((eS (aX n d)).1.num)/\0=((eS (aX n d)).1.den)/\(false)=((eS (aX n d)).2)/\True) (Br (d<0) (cR (-n)/\cR (-d)/\kR (-n) (-d)/\((Int.gcd (-n) (-d):Nat):Int)≠0/\cR (Int.tdiv (-n) ((Int.gcd (-n) (-d):Nat):Int))/\((Int.gcd (-n) (-d):Nat):Int)≠0/\cR (Int.tdiv (-d) ((Int.gcd (-n) (-d):Nat):Int))/\eB (⟨Int.tdiv (-n) ((Int.gcd (-n) (-d):Nat):Int),Int.tdiv (-d) ((Int.gcd (-n) (-d):Nat):Int)⟩:aC)/\Nr (aJ (⟨Int.tdiv (-n) ((Int.gcd (-n) (-d):Nat):Int),Int.tdiv (-d) ((Int.gcd (-n) (-d):Nat):Int)⟩:aC)) (0=((eS (aX n d)).1.num)/\0=((eS (aX n d)).1.den)/\(false)=((eS (aX n d)).2)/\True) ((Int.tdiv (-n) ((Int.gcd (-n) (-d):Nat):Int))=((eS (aX n d)).1.num)/\(Int.tdiv (-d) ((Int.gcd (-n) (-d):Nat):Int))=((eS (aX n d)).1.den)/\(true)=((eS (aX n d)).2)/\True)) (kR n d/\((Int.gcd n d:Nat):Int)≠0/\cR (Int.tdiv n ((Int.gcd n d:Nat):Int))/\((Int.gcd n d:Nat):Int)≠0/\cR (Int.tdiv d ((Int.gcd n d:Nat):Int))/\eB (⟨Int.tdiv n ((Int.gcd n d:Nat):Int),Int.tdiv d ((Int.gcd n d:Nat):Int)⟩:aC)/\Nr (aJ (⟨Int.tdiv n ((Int.gcd n d:Nat):Int),Int.tdiv d ((Int.gcd n d:Nat):Int)⟩:aC)) (0=((eS (aX n d)).1.num)/\0=((eS (aX n d)).1.den)/\(false)=((eS (aX n d)).2)/\True) ((Int.tdiv n ((Int.gcd n d:Nat):Int))=((eS (aX n d)).1.num)/\(Int.tdiv d ((Int.gcd n d:Nat):Int))=((eS (aX n d)).1.den)/\(true)=((eS (aX n d)).2)/\True)))))) (by kernel_rfl) ?_;refine dd (fun g10=>?_) fun g10=>?_
 ·apply et3<;>((subst g10;rw[aDx]<;>rfl))
 ·refine⟨by exact⟨by omega,by omega⟩,dd (fun g15=>?_) fun g15=>?_⟩
  ·refine dn (fun g20=>?_) fun g20=>?_
   ·apply et3<;>((exfalso;omega))
   ·refine⟨by exact⟨by omega,by omega⟩,dd (fun c0=>?_) fun c0=>?_⟩
    ·apply et3<;>((exfalso;omega))
    ·refine dd (fun c1=>?_) fun c1=>?_
     ·have q1:((Int.gcd (-n) (-d):Nat):Int)≠0:=by have:=gB (n:= -n) (d:= -d) (by omega);omega
      have q2:((Int.gcd ((Int.natAbs (-n):Nat):Int) (-d):Nat):Int)≠0:=by rw[eA];have:=gB (n:= -n) (d:= -d) (by omega);omega
      refine⟨by exact⟨by omega,by omega⟩,by exact⟨by omega,by omega⟩,rD _ _ (by omega) (by omega),by omega,by exact hJ (by omega),by omega,by exact hJ (by omega),gF (⟨Int.tdiv (-n) ((Int.gcd (-n) (-d):Nat):Int),Int.tdiv (-d) ((Int.gcd (-n) (-d):Nat):Int)⟩:aC),dm (fun c2=>?_) fun c2=>?_⟩
      ·apply et3<;>((rw[aAP (by omega) c2]<;>rfl))
      ·apply et3<;>((rw[aCo (by omega) c2]<;>rfl))
     ·have q1:((Int.gcd n d:Nat):Int)≠0:=by have:=gB (n:=n) (d:=d) (by omega);omega
      have q2:((Int.gcd ((Int.natAbs n:Nat):Int) d:Nat):Int)≠0:=by rw[eA];have:=gB (n:=n) (d:=d) (by omega);omega
      refine⟨rD _ _ (by omega) (by omega),by omega,by exact hJ hn,by omega,by exact hJ (by omega),gF (⟨Int.tdiv n ((Int.gcd n d:Nat):Int),Int.tdiv d ((Int.gcd n d:Nat):Int)⟩:aC),dm (fun c2=>?_) fun c2=>?_⟩
      ·apply et3<;>((rw[aAO (by omega) c2]<;>rfl))
      ·apply et3<;>((rw[aCn (by omega) c2]<;>rfl))
  ·refine⟨by exact⟨by omega,by omega⟩,dd (fun c0=>?_) fun c0=>?_⟩
   ·apply et3<;>((exfalso;omega))
   ·refine dd (fun c1=>?_) fun c1=>?_
    ·have q1:((Int.gcd (-n) (-d):Nat):Int)≠0:=by have:=gB (n:= -n) (d:= -d) (by omega);omega
     have q2:((Int.gcd ((Int.natAbs (-n):Nat):Int) (-d):Nat):Int)≠0:=by rw[eA];have:=gB (n:= -n) (d:= -d) (by omega);omega
     refine⟨by exact⟨by omega,by omega⟩,by exact⟨by omega,by omega⟩,rD _ _ (by omega) (by omega),by omega,by exact hJ (by omega),by omega,by exact hJ (by omega),gF (⟨Int.tdiv (-n) ((Int.gcd (-n) (-d):Nat):Int),Int.tdiv (-d) ((Int.gcd (-n) (-d):Nat):Int)⟩:aC),dm (fun c2=>?_) fun c2=>?_⟩
     ·apply et3<;>((rw[aAP (by omega) c2]<;>rfl))
     ·apply et3<;>((rw[aCo (by omega) c2]<;>rfl))
    ·have q1:((Int.gcd n d:Nat):Int)≠0:=by have:=gB (n:=n) (d:=d) (by omega);omega
     have q2:((Int.gcd ((Int.natAbs n:Nat):Int) d:Nat):Int)≠0:=by rw[eA];have:=gB (n:=n) (d:=d) (by omega);omega
     refine⟨rD _ _ (by omega) (by omega),by omega,by exact hJ hn,by omega,by exact hJ (by omega),gF (⟨Int.tdiv n ((Int.gcd n d:Nat):Int),Int.tdiv d ((Int.gcd n d:Nat):Int)⟩:aC),dm (fun c2=>?_) fun c2=>?_⟩
     ·apply et3<;>((rw[aAO (by omega) c2]<;>rfl))
     ·apply et3<;>((rw[aCn (by omega) c2]<;>rfl))
abbrev jI (n:Int)(d:Int):AV × List (Nat × Rs):=(.tup [.agg [vI ((eS (aX n d)).1.num),vI ((eS (aX n d)).1.den)],vB ((eS (aX n d)).2)],[])
abbrev kS (n:Int)(d:Int):Prop:=Cn 60 [.one (.int .i64 n),.one (.int .i64 d)] (jI n d).1 (jI n d).2
theorem sD (n d:Int)(hn: -9223372036854775807<=n/\n<=9223372036854775807)(hd: -9223372036854775807<=d/\d<=9223372036854775807):kS n d:=by
 refine cq Try.func60 (.br (.fin []) (.lit<| .lit<| .br (.fin []) (.lit<| .lit<| .br (.fin []) (.br (.call (vI (((-n).natAbs:Nat):Int)) []<| .call (vI ((Int.gcd (((-n).natAbs:Nat):Int) (-d):Nat):Int)) []<| .call (vB (aJ (⟨Int.tdiv (-n) ((Int.gcd (((-n).natAbs:Nat):Int) (-d):Nat):Int),Int.tdiv (-d) ((Int.gcd (((-n).natAbs:Nat):Int) (-d):Nat):Int)⟩:aC))) []<| .br (.fin []) (.fin [])) (.call (vI (n.natAbs:Int)) []<| .call (vI ((Int.gcd (n.natAbs:Int) d:Nat):Int)) []<| .call (vB (aJ (⟨Int.tdiv n ((Int.gcd (n.natAbs:Int) d:Nat):Int),Int.tdiv d ((Int.gcd (n.natAbs:Int) d:Nat):Int)⟩:aC))) []<| .br (.fin []) (.fin [])))))) (p:=Br (d=0) (0=((eS (aX n d)).1.num)/\0=((eS (aX n d)).1.den)/\(false)=((eS (aX n d)).2)/\True) (Br (n<(-9223372036854775807:Int)) (0=((eS (aX n d)).1.num)/\0=((eS (aX n d)).1.den)/\(false)=((eS (aX n d)).2)/\True) (Br (d<(-9223372036854775807:Int)) (0=((eS (aX n d)).1.num)/\0=((eS (aX n d)).1.den)/\(false)=((eS (aX n d)).2)/\True) (Br (d<0) (cR (-n)/\cR (-d)/\pH (-n)/\pG (((-n).natAbs:Nat):Int) (-d)/\((Int.gcd (((-n).natAbs:Nat):Int) (-d):Nat):Int)≠0/\cR (Int.tdiv (-n) ((Int.gcd (((-n).natAbs:Nat):Int) (-d):Nat):Int))/\((Int.gcd (((-n).natAbs:Nat):Int) (-d):Nat):Int)≠0/\cR (Int.tdiv (-d) ((Int.gcd (((-n).natAbs:Nat):Int) (-d):Nat):Int))/\dN (⟨Int.tdiv (-n) ((Int.gcd (((-n).natAbs:Nat):Int) (-d):Nat):Int),Int.tdiv (-d) ((Int.gcd (((-n).natAbs:Nat):Int) (-d):Nat):Int)⟩:aC)/\Nr (aJ (⟨Int.tdiv (-n) ((Int.gcd (((-n).natAbs:Nat):Int) (-d):Nat):Int),Int.tdiv (-d) ((Int.gcd (((-n).natAbs:Nat):Int) (-d):Nat):Int)⟩:aC)) (0=((eS (aX n d)).1.num)/\0=((eS (aX n d)).1.den)/\(false)=((eS (aX n d)).2)/\True) ((Int.tdiv (-n) ((Int.gcd (((-n).natAbs:Nat):Int) (-d):Nat):Int))=((eS (aX n d)).1.num)/\(Int.tdiv (-d) ((Int.gcd (((-n).natAbs:Nat):Int) (-d):Nat):Int))=((eS (aX n d)).1.den)/\(true)=((eS (aX n d)).2)/\True)) (pH n/\pG (n.natAbs:Int) d/\((Int.gcd (n.natAbs:Int) d:Nat):Int)≠0/\cR (Int.tdiv n ((Int.gcd (n.natAbs:Int) d:Nat):Int))/\((Int.gcd (n.natAbs:Int) d:Nat):Int)≠0/\cR (Int.tdiv d ((Int.gcd (n.natAbs:Int) d:Nat):Int))/\dN (⟨Int.tdiv n ((Int.gcd (n.natAbs:Int) d:Nat):Int),Int.tdiv d ((Int.gcd (n.natAbs:Int) d:Nat):Int)⟩:aC)/\Nr (aJ (⟨Int.tdiv n ((Int.gcd (n.natAbs:Int) d:Nat):Int),Int.tdiv d ((Int.gcd (n.natAbs:Int) d:Nat):Int)⟩:aC)) (0=((eS (aX n d)).1.num)/\0=((eS (aX n d)).1.den)/\(false)=((eS (aX n d)).2)/\True) ((Int.tdiv n ((Int.gcd (n.natAbs:Int) d:Nat):Int))=((eS (aX n d)).1.num)/\(Int.tdiv d ((Int.gcd (n.natAbs:Int) d:Nat):Int))=((eS (aX n d)).1.den)/\(true)=((eS (aX n d)).2)/\True)))))) (by kernel_rfl) ?_;refine dd (fun g10=>?_) fun g10=>?_
 ·apply et3<;>((try simp only[eA] at*);(subst g10;rw[aDx]<;>rfl))
 ·refine dd (fun g14=>?_) fun g14=>?_
  ·apply et3<;>((try simp only[eA] at*);(exfalso;omega))
  ·refine dd (fun c0=>?_) fun c0=>?_
   ·apply et3<;>((try simp only[eA] at*);(exfalso;omega))
   ·refine dd (fun c1=>?_) fun c1=>?_
    ·have q1:((Int.gcd (-n) (-d):Nat):Int)≠0:=by have:=gB (n:= -n) (d:= -d) (by omega);omega
     have q2:((Int.gcd ((Int.natAbs (-n):Nat):Int) (-d):Nat):Int)≠0:=by rw[eA];have:=gB (n:= -n) (d:= -d) (by omega);omega
     refine⟨by exact⟨by omega,by omega⟩,by exact⟨by omega,by omega⟩,aAN _ (by omega),aAM _ _ (by omega) (by omega),by omega,by exact hJ (by omega),by omega,by exact hJ (by omega),fH (⟨Int.tdiv (-n) ((Int.gcd (((-n).natAbs:Nat):Int) (-d):Nat):Int),Int.tdiv (-d) ((Int.gcd (((-n).natAbs:Nat):Int) (-d):Nat):Int)⟩:aC),dm (fun c2=>?_) fun c2=>?_⟩
     ·apply et3<;>((try simp only[eA] at*);(rw[aAP (by omega) c2]<;>rfl))
     ·apply et3<;>((try simp only[eA] at*);(rw[aCo (by omega) c2]<;>rfl))
    ·have q1:((Int.gcd n d:Nat):Int)≠0:=by have:=gB (n:=n) (d:=d) (by omega);omega
     have q2:((Int.gcd ((Int.natAbs n:Nat):Int) d:Nat):Int)≠0:=by rw[eA];have:=gB (n:=n) (d:=d) (by omega);omega
     refine⟨aAN _ (by omega),aAM _ _ (by omega) (by omega),by omega,by exact hJ hn,by omega,by exact hJ (by omega),fH (⟨Int.tdiv n ((Int.gcd (n.natAbs:Int) d:Nat):Int),Int.tdiv d ((Int.gcd (n.natAbs:Int) d:Nat):Int)⟩:aC),dm (fun c2=>?_) fun c2=>?_⟩
     ·apply et3<;>((try simp only[eA] at*);(rw[aAO (by omega) c2]<;>rfl))
     ·apply et3<;>((try simp only[eA] at*);(rw[aCn (by omega) c2]<;>rfl))
abbrev aBq (l:List Int):Prop:=Cn 6 [.one (.sl 5 1 (l.map bD))] (vB (decide (1048576<(l.length:Int)))) []
theorem aK1 (l:List Int):aBq l:=by
 refine cq Try.func6 (.len l.length<| .fin []) (p:=Lx (l.map bD)<| Lm bD l/\(decide (1048576<(l.length:Int)))=(decide (1048576<(l.length:Int)))/\True) (by kernel_rfl) ?_;refine lx fun n0=>?_;refine⟨List.length_map _,?_,trivial⟩
 ·rfl
def gV (l:List Int)(u:Cu):aC × Cu:=
 if (aA l u 8).1=0 then (⟨(bP l (aA l u 8).2 [0,1,-1,2,2147483647,-2147483647,2147483648]).1,(bP l (bP l (aA l u 8).2 [0,1,-1,2,2147483647,-2147483647,2147483648]).2 [1,0,2,-1,2147483647,2147483648]).1⟩,(bP l (bP l (aA l u 8).2 [0,1,-1,2,2147483647,-2147483647,2147483648]).2 [1,0,2,-1,2147483647,2147483648]).2)
 else if (aA l u 8).1=1 then (⟨(aA l (aA l u 8).2 9).1*2,2⟩,(aA l (aA l u 8).2 9).2)
 else ((eS (aX ((aA l (aA l u 8).2 41).1 - 20) (1+(aA l (aA l (aA l u 8).2 41).2 12).1))).1,(aA l (aA l (aA l u 8).2 41).2 12).2)
theorem aIb {l:List Int}{u:Cu}(h:(aA l u 8).1=0):gV l u=(⟨(bP l (aA l u 8).2 [0,1,-1,2,2147483647,-2147483647,2147483648]).1,(bP l (bP l (aA l u 8).2 [0,1,-1,2,2147483647,-2147483647,2147483648]).2 [1,0,2,-1,2147483647,2147483648]).1⟩,(bP l (bP l (aA l u 8).2 [0,1,-1,2,2147483647,-2147483647,2147483648]).2 [1,0,2,-1,2147483647,2147483648]).2):=by rw[gV,if_pos h]
theorem aIc {l:List Int}{u:Cu}(h0: ¬(aA l u 8).1=0)(h:(aA l u 8).1=1):gV l u=(⟨(aA l (aA l u 8).2 9).1*2,2⟩,(aA l (aA l u 8).2 9).2):=by rw[gV,if_neg h0,if_pos h]
theorem aId {l:List Int}{u:Cu}(h0: ¬(aA l u 8).1=0)(h: ¬(aA l u 8).1=1):gV l u=((eS (aX ((aA l (aA l u 8).2 41).1 - 20) (1+(aA l (aA l (aA l u 8).2 41).2 12).1))).1,(aA l (aA l (aA l u 8).2 41).2 12).2):=by rw[gV,if_neg h0,if_neg h]
abbrev yF (l:List Int)(u:Cu):List AV × List (Nat × Rs) × AV × List (Nat × Rs):=([.ptr 0 0],[(0,.box 84 [.p none (.sl 5 1 (l.map bD)),vI (u.i:Int),vI u.h])],.agg [vI ((gV l u).1.num),vI ((gV l u).1.den)],[(0,.box 84 [.p none (.sl 5 1 (l.map bD)),vI (((gV l u).2.i:Nat):Int),vI ((gV l u).2.h)])])
abbrev aK2 (l:List Int)(u:Cu):Prop:=Cm 59 (yF l u).1 (yF l u).2.1 (yF l u).2.2.1 (yF l u).2.2.2
theorem aMi (l:List Int)(u:Cu)(hl:l.length<=1048576):aK2 l u:=by
 refine cqx Try.func59 (.callxs [.ptr 0 0,vI 8] [(0,.box 84 [.p none (.sl 5 1 (l.map bD)),vI (u.i:Int),vI u.h])] [(0,0)] (vI ((aA l u (8:Int)).1)) [(0,.box 84 [.p none (.sl 5 1 (l.map bD)),vI (((aA l u (8:Int)).2.i:Nat):Int),vI ((aA l u (8:Int)).2.h)])]<| .br (.callxs [.ptr 0 0,.own 1] [(0,.box 84 [.p none (.sl 5 1 (l.map bD)),vI (((aA l u (8:Int)).2.i:Nat):Int),vI ((aA l u (8:Int)).2.h)]),(1,.arr 3 1 true (([(0:Int),(1:Int),(-1:Int),(2:Int),(2147483647:Int),(-2147483647:Int),(2147483648:Int)]:List Int).map aI))] [(0,0),(1,1000)] (vI ((bP l ((aA l u (8:Int)).2) ([(0:Int),(1:Int),(-1:Int),(2:Int),(2147483647:Int),(-2147483647:Int),(2147483648:Int)]:List Int)).1)) [(0,.box 84 [.p none (.sl 5 1 (l.map bD)),vI (((bP l ((aA l u (8:Int)).2) ([(0:Int),(1:Int),(-1:Int),(2:Int),(2147483647:Int),(-2147483647:Int),(2147483648:Int)]:List Int)).2.i:Nat):Int),vI ((bP l ((aA l u (8:Int)).2) ([(0:Int),(1:Int),(-1:Int),(2:Int),(2147483647:Int),(-2147483647:Int),(2147483648:Int)]:List Int)).2.h)])]<| .callxs [.ptr 0 0,.own 1] [(0,.box 84 [.p none (.sl 5 1 (l.map bD)),vI ((((bP l ((aA l u (8:Int)).2) ([(0:Int),(1:Int),(-1:Int),(2:Int),(2147483647:Int),(-2147483647:Int),(2147483648:Int)]:List Int)).2).i:Nat):Int),vI (((bP l ((aA l u (8:Int)).2) ([(0:Int),(1:Int),(-1:Int),(2:Int),(2147483647:Int),(-2147483647:Int),(2147483648:Int)]:List Int)).2).h)]),(1,.arr 3 1 true (([(1:Int),(0:Int),(2:Int),(-1:Int),(2147483647:Int),(2147483648:Int)]:List Int).map aI))] [(0,0),(1,1300)] (vI ((bP l ((bP l ((aA l u (8:Int)).2) ([(0:Int),(1:Int),(-1:Int),(2:Int),(2147483647:Int),(-2147483647:Int),(2147483648:Int)]:List Int)).2) ([(1:Int),(0:Int),(2:Int),(-1:Int),(2147483647:Int),(2147483648:Int)]:List Int)).1)) [(0,.box 84 [.p none (.sl 5 1 (l.map bD)),vI (((bP l ((bP l ((aA l u (8:Int)).2) ([(0:Int),(1:Int),(-1:Int),(2:Int),(2147483647:Int),(-2147483647:Int),(2147483648:Int)]:List Int)).2) ([(1:Int),(0:Int),(2:Int),(-1:Int),(2147483647:Int),(2147483648:Int)]:List Int)).2.i:Nat):Int),vI ((bP l ((bP l ((aA l u (8:Int)).2) ([(0:Int),(1:Int),(-1:Int),(2:Int),(2147483647:Int),(-2147483647:Int),(2147483648:Int)]:List Int)).2) ([(1:Int),(0:Int),(2:Int),(-1:Int),(2147483647:Int),(2147483648:Int)]:List Int)).2.h)])]<| .fin [(0,0)]) (.br (.callxs [.ptr 0 0,vI 9] [(0,.box 84 [.p none (.sl 5 1 (l.map bD)),vI (((aA l u (8:Int)).2.i:Nat):Int),vI ((aA l u (8:Int)).2.h)])] [(0,0)] (vI ((aA l ((aA l u (8:Int)).2) (9:Int)).1)) [(0,.box 84 [.p none (.sl 5 1 (l.map bD)),vI (((aA l ((aA l u (8:Int)).2) (9:Int)).2.i:Nat):Int),vI ((aA l ((aA l u (8:Int)).2) (9:Int)).2.h)])]<| .fin [(0,0)]) (.callxs [.ptr 0 0,vI 41] [(0,.box 84 [.p none (.sl 5 1 (l.map bD)),vI (((aA l u (8:Int)).2.i:Nat):Int),vI ((aA l u (8:Int)).2.h)])] [(0,0)] (vI ((aA l ((aA l u (8:Int)).2) (41:Int)).1)) [(0,.box 84 [.p none (.sl 5 1 (l.map bD)),vI (((aA l ((aA l u (8:Int)).2) (41:Int)).2.i:Nat):Int),vI ((aA l ((aA l u (8:Int)).2) (41:Int)).2.h)])]<| .callxs [.ptr 0 0,vI 12] [(0,.box 84 [.p none (.sl 5 1 (l.map bD)),vI ((((aA l ((aA l u (8:Int)).2) (41:Int)).2).i:Nat):Int),vI (((aA l ((aA l u (8:Int)).2) (41:Int)).2).h)])] [(0,0)] (vI ((aA l ((aA l ((aA l u (8:Int)).2) (41:Int)).2) (12:Int)).1)) [(0,.box 84 [.p none (.sl 5 1 (l.map bD)),vI (((aA l ((aA l ((aA l u (8:Int)).2) (41:Int)).2) (12:Int)).2.i:Nat):Int),vI ((aA l ((aA l ((aA l u (8:Int)).2) (41:Int)).2) (12:Int)).2.h)])]<| bX (jI (((aA l ((aA l u (8:Int)).2) (41:Int)).1) - 20) ((1:Int)+((aA l ((aA l ((aA l u (8:Int)).2) (41:Int)).2) (12:Int)).1)))<| .fin [(0,0)]))) (p:=fR Try.prog 61 [.ptr 0 0,vI 8] [(0,.box 84 [.p none (.sl 5 1 (l.map bD)),vI (u.i:Int),vI u.h])] (vI ((aA l u (8:Int)).1)) [(0,.box 84 [.p none (.sl 5 1 (l.map bD)),vI (((aA l u (8:Int)).2.i:Nat):Int),vI ((aA l u (8:Int)).2.h)])]/\(8:Int)=8/\l.map bD=l.map bD/\(u.i:Int)=(u.i:Int)/\u.h=u.h/\Br (((aA l u (8:Int)).1)=0) (fR Try.prog 80 [.ptr 0 0,.own 1] [(0,.box 84 [.p none (.sl 5 1 (l.map bD)),vI (((aA l u (8:Int)).2.i:Nat):Int),vI ((aA l u (8:Int)).2.h)]),(1,.arr 3 1 true (([(0:Int),(1:Int),(-1:Int),(2:Int),(2147483647:Int),(-2147483647:Int),(2147483648:Int)]:List Int).map aI))] (vI ((bP l ((aA l u (8:Int)).2) ([(0:Int),(1:Int),(-1:Int),(2:Int),(2147483647:Int),(-2147483647:Int),(2147483648:Int)]:List Int)).1)) [(0,.box 84 [.p none (.sl 5 1 (l.map bD)),vI (((bP l ((aA l u (8:Int)).2) ([(0:Int),(1:Int),(-1:Int),(2:Int),(2147483647:Int),(-2147483647:Int),(2147483648:Int)]:List Int)).2.i:Nat):Int),vI ((bP l ((aA l u (8:Int)).2) ([(0:Int),(1:Int),(-1:Int),(2:Int),(2147483647:Int),(-2147483647:Int),(2147483648:Int)]:List Int)).2.h)])]/\l.map bD=l.map bD/\(((aA l u (8:Int)).2.i:Nat):Int)=(((aA l u (8:Int)).2.i:Nat):Int)/\((aA l u (8:Int)).2.h)=((aA l u (8:Int)).2.h)/\[[.int .i64 (0:Int)],[.int .i64 (1:Int)],[.int .i64 (-1:Int)],[.int .i64 (2:Int)],[.int .i64 (2147483647:Int)],[.int .i64 (-2147483647:Int)],[.int .i64 (2147483648:Int)]]=([(0:Int),(1:Int),(-1:Int),(2:Int),(2147483647:Int),(-2147483647:Int),(2147483648:Int)]:List Int).map aI/\fR Try.prog 80 [.ptr 0 0,.own 1] [(0,.box 84 [.p none (.sl 5 1 (l.map bD)),vI ((((bP l ((aA l u (8:Int)).2) ([(0:Int),(1:Int),(-1:Int),(2:Int),(2147483647:Int),(-2147483647:Int),(2147483648:Int)]:List Int)).2).i:Nat):Int),vI (((bP l ((aA l u (8:Int)).2) ([(0:Int),(1:Int),(-1:Int),(2:Int),(2147483647:Int),(-2147483647:Int),(2147483648:Int)]:List Int)).2).h)]),(1,.arr 3 1 true (([(1:Int),(0:Int),(2:Int),(-1:Int),(2147483647:Int),(2147483648:Int)]:List Int).map aI))] (vI ((bP l ((bP l ((aA l u (8:Int)).2) ([(0:Int),(1:Int),(-1:Int),(2:Int),(2147483647:Int),(-2147483647:Int),(2147483648:Int)]:List Int)).2) ([(1:Int),(0:Int),(2:Int),(-1:Int),(2147483647:Int),(2147483648:Int)]:List Int)).1)) [(0,.box 84 [.p none (.sl 5 1 (l.map bD)),vI (((bP l ((bP l ((aA l u (8:Int)).2) ([(0:Int),(1:Int),(-1:Int),(2:Int),(2147483647:Int),(-2147483647:Int),(2147483648:Int)]:List Int)).2) ([(1:Int),(0:Int),(2:Int),(-1:Int),(2147483647:Int),(2147483648:Int)]:List Int)).2.i:Nat):Int),vI ((bP l ((bP l ((aA l u (8:Int)).2) ([(0:Int),(1:Int),(-1:Int),(2:Int),(2147483647:Int),(-2147483647:Int),(2147483648:Int)]:List Int)).2) ([(1:Int),(0:Int),(2:Int),(-1:Int),(2147483647:Int),(2147483648:Int)]:List Int)).2.h)])]/\l.map bD=l.map bD/\(((bP l ((aA l u (8:Int)).2) ([(0:Int),(1:Int),(-1:Int),(2:Int),(2147483647:Int),(-2147483647:Int),(2147483648:Int)]:List Int)).2.i:Nat):Int)=((((bP l ((aA l u (8:Int)).2) ([(0:Int),(1:Int),(-1:Int),(2:Int),(2147483647:Int),(-2147483647:Int),(2147483648:Int)]:List Int)).2).i:Nat):Int)/\((bP l ((aA l u (8:Int)).2) ([(0:Int),(1:Int),(-1:Int),(2:Int),(2147483647:Int),(-2147483647:Int),(2147483648:Int)]:List Int)).2.h)=(((bP l ((aA l u (8:Int)).2) ([(0:Int),(1:Int),(-1:Int),(2:Int),(2147483647:Int),(-2147483647:Int),(2147483648:Int)]:List Int)).2).h)/\[[.int .i64 (1:Int)],[.int .i64 (0:Int)],[.int .i64 (2:Int)],[.int .i64 (-1:Int)],[.int .i64 (2147483647:Int)],[.int .i64 (2147483648:Int)]]=([(1:Int),(0:Int),(2:Int),(-1:Int),(2147483647:Int),(2147483648:Int)]:List Int).map aI/\((bP l ((aA l u (8:Int)).2) ([(0:Int),(1:Int),(-1:Int),(2:Int),(2147483647:Int),(-2147483647:Int),(2147483648:Int)]:List Int)).1)=((gV l u).1.num)/\((bP l ((bP l ((aA l u (8:Int)).2) ([(0:Int),(1:Int),(-1:Int),(2:Int),(2147483647:Int),(-2147483647:Int),(2147483648:Int)]:List Int)).2) ([(1:Int),(0:Int),(2:Int),(-1:Int),(2147483647:Int),(2147483648:Int)]:List Int)).1)=((gV l u).1.den)/\l.map bD=l.map bD/\(((bP l ((bP l ((aA l u (8:Int)).2) ([(0:Int),(1:Int),(-1:Int),(2:Int),(2147483647:Int),(-2147483647:Int),(2147483648:Int)]:List Int)).2) ([(1:Int),(0:Int),(2:Int),(-1:Int),(2147483647:Int),(2147483648:Int)]:List Int)).2.i:Nat):Int)=(((gV l u).2.i:Nat):Int)/\((bP l ((bP l ((aA l u (8:Int)).2) ([(0:Int),(1:Int),(-1:Int),(2:Int),(2147483647:Int),(-2147483647:Int),(2147483648:Int)]:List Int)).2) ([(1:Int),(0:Int),(2:Int),(-1:Int),(2147483647:Int),(2147483648:Int)]:List Int)).2.h)=((gV l u).2.h)/\True) (Br (((aA l u (8:Int)).1)=1) (fR Try.prog 61 [.ptr 0 0,vI 9] [(0,.box 84 [.p none (.sl 5 1 (l.map bD)),vI (((aA l u (8:Int)).2.i:Nat):Int),vI ((aA l u (8:Int)).2.h)])] (vI ((aA l ((aA l u (8:Int)).2) (9:Int)).1)) [(0,.box 84 [.p none (.sl 5 1 (l.map bD)),vI (((aA l ((aA l u (8:Int)).2) (9:Int)).2.i:Nat):Int),vI ((aA l ((aA l u (8:Int)).2) (9:Int)).2.h)])]/\(9:Int)=9/\l.map bD=l.map bD/\(((aA l u (8:Int)).2.i:Nat):Int)=(((aA l u (8:Int)).2.i:Nat):Int)/\((aA l u (8:Int)).2.h)=((aA l u (8:Int)).2.h)/\cR (((aA l ((aA l u (8:Int)).2) (9:Int)).1)*2)/\(((aA l ((aA l u (8:Int)).2) (9:Int)).1)*2)=((gV l u).1.num)/\2=((gV l u).1.den)/\l.map bD=l.map bD/\(((aA l ((aA l u (8:Int)).2) (9:Int)).2.i:Nat):Int)=(((gV l u).2.i:Nat):Int)/\((aA l ((aA l u (8:Int)).2) (9:Int)).2.h)=((gV l u).2.h)/\True) (fR Try.prog 61 [.ptr 0 0,vI 41] [(0,.box 84 [.p none (.sl 5 1 (l.map bD)),vI (((aA l u (8:Int)).2.i:Nat):Int),vI ((aA l u (8:Int)).2.h)])] (vI ((aA l ((aA l u (8:Int)).2) (41:Int)).1)) [(0,.box 84 [.p none (.sl 5 1 (l.map bD)),vI (((aA l ((aA l u (8:Int)).2) (41:Int)).2.i:Nat):Int),vI ((aA l ((aA l u (8:Int)).2) (41:Int)).2.h)])]/\(41:Int)=41/\l.map bD=l.map bD/\(((aA l u (8:Int)).2.i:Nat):Int)=(((aA l u (8:Int)).2.i:Nat):Int)/\((aA l u (8:Int)).2.h)=((aA l u (8:Int)).2.h)/\cR (((aA l ((aA l u (8:Int)).2) (41:Int)).1) - 20)/\fR Try.prog 61 [.ptr 0 0,vI 12] [(0,.box 84 [.p none (.sl 5 1 (l.map bD)),vI ((((aA l ((aA l u (8:Int)).2) (41:Int)).2).i:Nat):Int),vI (((aA l ((aA l u (8:Int)).2) (41:Int)).2).h)])] (vI ((aA l ((aA l ((aA l u (8:Int)).2) (41:Int)).2) (12:Int)).1)) [(0,.box 84 [.p none (.sl 5 1 (l.map bD)),vI (((aA l ((aA l ((aA l u (8:Int)).2) (41:Int)).2) (12:Int)).2.i:Nat):Int),vI ((aA l ((aA l ((aA l u (8:Int)).2) (41:Int)).2) (12:Int)).2.h)])]/\(12:Int)=12/\l.map bD=l.map bD/\(((aA l ((aA l u (8:Int)).2) (41:Int)).2.i:Nat):Int)=((((aA l ((aA l u (8:Int)).2) (41:Int)).2).i:Nat):Int)/\((aA l ((aA l u (8:Int)).2) (41:Int)).2.h)=(((aA l ((aA l u (8:Int)).2) (41:Int)).2).h)/\cR ((1:Int)+((aA l ((aA l ((aA l u (8:Int)).2) (41:Int)).2) (12:Int)).1))/\kS (((aA l ((aA l u (8:Int)).2) (41:Int)).1) - 20) ((1:Int)+((aA l ((aA l ((aA l u (8:Int)).2) (41:Int)).2) (12:Int)).1))/\(((eS (aX (((aA l ((aA l u (8:Int)).2) (41:Int)).1) - 20) ((1:Int)+((aA l ((aA l ((aA l u (8:Int)).2) (41:Int)).2) (12:Int)).1)))).1).num)=((gV l u).1.num)/\(((eS (aX (((aA l ((aA l u (8:Int)).2) (41:Int)).1) - 20) ((1:Int)+((aA l ((aA l ((aA l u (8:Int)).2) (41:Int)).2) (12:Int)).1)))).1).den)=((gV l u).1.den)/\l.map bD=l.map bD/\(((aA l ((aA l ((aA l u (8:Int)).2) (41:Int)).2) (12:Int)).2.i:Nat):Int)=(((gV l u).2.i:Nat):Int)/\((aA l ((aA l ((aA l u (8:Int)).2) (41:Int)).2) (12:Int)).2.h)=((gV l u).2.h)/\True))) (by kernel_rfl) ?_;have w1:=dV l u (n:=8) (by omega);have w2:=dV l (aA l u 8).2 (n:=9) (by omega);have w3:=dV l (aA l u 8).2 (n:=41) (by omega);have w4:=dV l (aA l (aA l u 8).2 41).2 (n:=12) (by omega);refine⟨gU l u (by assumption) (8:Int),rfl,rfl,rfl,rfl,dd (fun c0=>?_) fun c0=>?_⟩
 ·refine⟨aCk l ((aA l u (8:Int)).2) (by assumption) ([(0:Int),(1:Int),(-1:Int),(2:Int),(2147483647:Int),(-2147483647:Int),(2147483648:Int)]:List Int) (by decide),rfl,rfl,rfl,rfl,aCk l ((bP l ((aA l u (8:Int)).2) ([(0:Int),(1:Int),(-1:Int),(2:Int),(2147483647:Int),(-2147483647:Int),(2147483648:Int)]:List Int)).2) (by assumption) ([(1:Int),(0:Int),(2:Int),(-1:Int),(2147483647:Int),(2147483648:Int)]:List Int) (by decide),rfl,rfl,rfl,rfl,?_,?_,rfl,?_,?_,trivial⟩<;>(first|(rw[aIb c0]<;>rfl)|(rw[aIc c0 c1]<;>rfl)|(rw[aId c0 c1]<;>rfl))
 ·refine dd (fun c1=>?_) fun c1=>?_
  ·refine⟨gU l ((aA l u (8:Int)).2) (by assumption) (9:Int),rfl,rfl,rfl,rfl,⟨by omega,by omega⟩,?_,?_,rfl,?_,?_,trivial⟩<;>(first|(rw[aIb c0]<;>rfl)|(rw[aIc c0 c1]<;>rfl)|(rw[aId c0 c1]<;>rfl))
  ·refine⟨gU l ((aA l u (8:Int)).2) (by assumption) (41:Int),rfl,rfl,rfl,rfl,⟨by omega,by omega⟩,gU l ((aA l ((aA l u (8:Int)).2) (41:Int)).2) (by assumption) (12:Int),rfl,rfl,rfl,rfl,⟨by omega,by omega⟩,sD _ _ (by first|omega|(dsimp only;omega)) (by first|omega|(dsimp only;omega)),?_,?_,rfl,?_,?_,trivial⟩<;>(first|(rw[aIb c0]<;>rfl)|(rw[aIc c0 c1]<;>rfl)|(rw[aId c0 c1]<;>rfl))
def sO (x:Int):Bool:=decide (-9<=x/\x<=9)
def pZ (x:Int):Bool:=decide (0<=x/\x<=99)
def fM (n:Int)(r:List Int):Bool:=r.all sO&&decide ((r.length:Int)=n)
def aW (p:aQ):Bool:=decide (1<=(p.objective.length:Int)/\(p.objective.length:Int)<=15)&&(decide ((p.rows.length:Int)<=64)&&(decide ((p.limits.length:Int)=p.rows.length)&&((p.rows++[p.objective]).all (fM p.objective.length)&&p.limits.all pZ)))
theorem jJ {p:aQ}(h: ¬((1<=(p.objective.length:Int)/\(p.objective.length:Int)<=15)/\(p.rows.length:Int)<=64/\(p.limits.length:Int)=p.rows.length)):aW p=false:=by
 cases e:aW p with
 | false=>rfl
 | true=>
   simp only[aW,Bool.and_eq_true,decide_eq_true_eq] at e;exact absurd ⟨e.1,e.2.1,e.2.2.1⟩ h
theorem aDy {p:aQ}(h:(p.rows++[p.objective]).all (fM p.objective.length)=false):aW p=false:=by simp only[aW,h,Bool.false_and,Bool.and_false]
theorem pI {p:aQ}{k:Nat}{r:List Int}(h:(p.rows++[p.objective])[k]? =some r)(hr:fM p.objective.length r=false):aW p=false:=aDy (fE h hr)
theorem xL {p:aQ}{k:Nat}{r:List Int}(h:p.rows[k]? =some r)(hr:fM p.objective.length r=false):aW p=false:=by
 refine pI (k:=k) (r:=r) ?_ hr;rw[List.getElem?_append_left (List.getElem?_eq_some_iff.1 h).1];exact h
theorem aFJ {p:aQ}(hr:fM p.objective.length p.objective=false):aW p=false:=pI (k:=p.rows.length) (r:=p.objective) (by simp) hr
theorem aAQ {p:aQ}{k:Nat}{x:Int}(h:p.limits[k]? =some x)(hx:pZ x=false):aW p=false:=by
 simp only[aW,fE h hx,Bool.and_false]
theorem aBr {p:aQ}(h:(1<=(p.objective.length:Int)/\(p.objective.length:Int)<=15)/\(p.rows.length:Int)<=64/\(p.limits.length:Int)=p.rows.length)(h1:(p.rows++[p.objective]).all (fM p.objective.length)=true)(h2:p.limits.all pZ=true):aW p=true:=by
 simp only[aW,h1,h2,Bool.and_true,Bool.and_eq_true,decide_eq_true_eq];exact h
theorem aAR {n:Int}{r:List Int}{k:Nat}{x:Int}(h:r[k]? =some x)(hx:sO x=false):fM n r=false:=by simp only[fM,fE h hx,Bool.false_and]
theorem aBs {n:Int}{r:List Int}(h: ¬(r.length:Int)=n):fM n r=false:=by simp only[fM,decide_eq_false h,Bool.and_false]
theorem aAS {n:Int}{r:List Int}(h:r.all sO=true)(hl:(r.length:Int)=n):fM n r=true:=by simp only[fM,h,decide_eq_true hl,Bool.and_true]
theorem cP {p:aQ}(h:aW p=true):(1<=p.objective.length/\p.objective.length<=15)/\p.rows.length<=64/\p.limits.length=p.rows.length/\(∀r∈p.rows++[p.objective],r.length=p.objective.length/\ ∀x∈r,-9<=x/\x<=9)/\ ∀x∈p.limits,0<=x/\x<=99:=by
 simp only[aW,Bool.and_eq_true,decide_eq_true_eq,List.all_eq_true] at h;obtain⟨h1,h2,h3,h4,h5⟩:=h;refine⟨by omega,by omega,by omega,fun r hr=>?_,fun x hx=>?_⟩
 ·have:=h4 r hr;simp only[fM,Bool.and_eq_true,decide_eq_true_eq,List.all_eq_true] at this;refine⟨by omega,fun x hx=>?_⟩;have:=this.1 x hx;simpa [sO] using this
 have:=h5 x hx;simpa [pZ] using this
theorem aK3 {p:aQ}(hp: ∀r∈p.rows,r.length<=1048576)(ho:p.objective.length<=1048576){k:Nat}{r:List Int}(h:((([]:List (List Int))++p.rows)++[p.objective])[k]? =some r):r.length<=1048576:=by
 have:=List.mem_of_getElem? h;simp only[List.nil_append,List.mem_append,List.mem_singleton] at this;rcases this with h | rfl
 ·exact hp _ h
 exact ho
abbrev iG (p:aQ):Prop:=Cn 10 [.agg [.sl 3 1 (p.objective.map aI),.sl 24 1 (p.rows.map aZ),.sl 3 1 (p.limits.map aI)]] (vB (aW p)) []
theorem mJ (p:aQ)(hp: ∀r∈p.rows,r.length<=1048576):iG p:=by
 refine cq Try.func10 (.len p.objective.length<| .call (vB (decide (1<=(p.objective.length:Int)/\(p.objective.length:Int)<=15))) []<| .br (.fin []) (.len p.rows.length<| .lit<| .lit<| .br (.fin []) (.len p.limits.length<| .len p.rows.length<| .lit<| .lit<| .br (.fin []) (.appr (List Int) aZ ([]:List (List Int)) p.rows<| .appr (List Int) aZ (([]:List (List Int))++p.rows) ([p.objective]:List (List Int))<| .len (((([]:List (List Int))++p.rows)++[p.objective]).length)<| .loop Nat (Q1 Nat) ([5,7]++rg 40 19) [] (fun k=>[(40,vI (k:Int))]) (fun k=>[]) (fun k=>k<=((([]:List (List Int))++p.rows)++[p.objective]).length/\(((([]:List (List Int))++p.rows)++[p.objective]).take k).all (fM p.objective.length)=true) (fun k=>((([]:List (List Int))++p.rows)++[p.objective]).length - k) (fun k=> .br (.len (((([]:List (List Int))++p.rows)++[p.objective]).length)<| .elem _ aZ ((([]:List (List Int))++p.rows)++[p.objective]) (fun e43=> .len e43.length<| .loop Nat (Q1 Nat) ([7]++rg 46 8) [] (fun j=>[(46,vI (j:Int))]) (fun j=>[]) (fun j=>j<=e43.length/\(e43.take j).all sO=true) (fun j=>e43.length - j) (fun j=> .br (.elem _ aI e43 (fun e48=> .call (vB (decide ((-9:Int)<=e48/\e48<=9))) []<| .br (.fin []) (.back []))) (.len e43.length<| .br (.fin []) (.back []))))) (.len p.limits.length<| .loop Nat (Q1 Nat) ([9]++rg 62 8) [] (fun i=>[(62,vI (i:Int))]) (fun i=>[]) (fun i=>i<=p.limits.length/\(p.limits.take i).all pZ=true) (fun i=>p.limits.length - i) (fun i=> .br (.elem _ aI p.limits (fun e64=> .call (vB (decide (0<=e64/\e64<=99))) []<| .br (.fin []) (.back []))) (.fin [])))))))) (p:=Lx (p.objective.map aI)<| Lx (p.rows.map aZ)<| Lx (p.limits.map aI)<| Lm aI p.objective/\(mI (p.objective.length:Int) (1:Int) (15:Int)/\Nb (1<=(p.objective.length:Int)/\(p.objective.length:Int)<=15) ((false)=(aW p)/\True) (Lm aZ p.rows/\Br (64<(p.rows.length:Int)) ((false)=(aW p)/\True) (Lm aI p.limits/\(Lm aZ p.rows/\Nb ((p.limits.length:Int)=(p.rows.length:Int)) ((false)=(aW p)/\True) ([]=([]:List (List Int)).map aZ/\p.rows.map aZ=p.rows.map aZ/\(([]:List (List Int)).length+p.rows.length)*24<=140737488355328/\((([]:List (List Int))++p.rows).map aZ=(([]:List (List Int))++p.rows).map aZ/\[[.sl 3 1 (p.objective.map aI)]]=([p.objective]:List (List Int)).map aZ/\((([]:List (List Int))++p.rows).length+([p.objective]:List (List Int)).length)*24<=140737488355328/\(Lm aZ ((([]:List (List Int))++p.rows)++[p.objective])/\((∃(k:Nat),0=(k:Int)/\k<=((([]:List (List Int))++p.rows)++[p.objective]).length/\(((([]:List (List Int))++p.rows)++[p.objective]).take k).all (fM p.objective.length)=true)/\ ∀(k:Nat),(k<=((([]:List (List Int))++p.rows)++[p.objective]).length/\(((([]:List (List Int))++p.rows)++[p.objective]).take k).all (fM p.objective.length)=true)->Br ((k:Int)<((((([]:List (List Int))++p.rows)++[p.objective]).length:Nat):Int)) (0<=(k:Int)/\Lm aZ ((([]:List (List Int))++p.rows)++[p.objective])/\(k:Int)<((((([]:List (List Int))++p.rows)++[p.objective]).length:Nat):Int)/\Em aZ ((([]:List (List Int))++p.rows)++[p.objective]) k fun e43=>Lm aI e43/\((∃(j:Nat),0=(j:Int)/\j<=e43.length/\(e43.take j).all sO=true)/\ ∀(j:Nat),(j<=e43.length/\(e43.take j).all sO=true)->Br ((j:Int)<(e43.length:Int)) (0<=(j:Int)/\Em aI e43 j fun e48=>mI e48 (-9:Int) (9:Int)/\Nb ((-9:Int)<=e48/\e48<=9) ((false)=(aW p)/\True) (cR ((j:Int)+1)/\ ∃(j' :Nat),((j:Int)+1)=(j' :Int)/\(j' <=e43.length/\(e43.take j').all sO=true)/\e43.length - j' <e43.length - j)) (Lm aI e43/\Nb ((e43.length:Int)=(p.objective.length:Int)) ((false)=(aW p)/\True) (cR ((k:Int)+1)/\ ∃(k' :Nat),((k:Int)+1)=(k' :Int)/\(k' <=((([]:List (List Int))++p.rows)++[p.objective]).length/\(((([]:List (List Int))++p.rows)++[p.objective]).take k').all (fM p.objective.length)=true)/\((([]:List (List Int))++p.rows)++[p.objective]).length - k' <((([]:List (List Int))++p.rows)++[p.objective]).length - k)))) (Lm aI p.limits/\((∃(i:Nat),0=(i:Int)/\i<=p.limits.length/\(p.limits.take i).all pZ=true)/\ ∀(i:Nat),(i<=p.limits.length/\(p.limits.take i).all pZ=true)->Br ((i:Int)<(p.limits.length:Int)) (0<=(i:Int)/\Em aI p.limits i fun e64=>mI e64 (0:Int) (99:Int)/\Nb (0<=e64/\e64<=99) ((false)=(aW p)/\True) (cR ((i:Int)+1)/\ ∃(i' :Nat),((i:Int)+1)=(i' :Int)/\(i' <=p.limits.length/\(p.limits.take i').all pZ=true)/\p.limits.length - i' <p.limits.length - i)) ((true)=(aW p)/\True)))))))))))) (by kernel_rfl) ?_;refine lx fun n0=>lx fun n1=>lx fun n2=>?_;refine⟨List.length_map _,vE _ _ _,dn (fun g16=>?_) fun g16=>?_⟩
 ·apply et1
  ·(exact(jJ (by omega)).symm)
 ·refine⟨List.length_map _,dd (fun g22=>?_) fun g22=>?_⟩
  ·apply et1
   ·(exact(jJ (by omega)).symm)
  ·refine⟨List.length_map _,List.length_map _,dn (fun c0=>?_) fun c0=>?_⟩
   ·apply et1
    ·(exact(jJ (by omega)).symm)
   ·refine⟨rfl,rfl,by simp;omega,rfl,rfl,by simp;omega,List.length_map _,⟨0,rfl,Nat.zero_le _,rfl⟩,fun k ⟨hk,ha⟩=>?_⟩;refine dd (fun c1=>?_) fun c1=>?_
    ·have hLk:k<65:=by simp at c1;omega
     refine⟨by omega,List.length_map _,by omega,rfl,by omega,fun e43 h43=>?_⟩;have he43:=aK3 hp (by omega) h43;refine⟨List.length_map _,⟨0,rfl,Nat.zero_le _,rfl⟩,fun j ⟨hj,hb⟩=>?_⟩;refine dd (fun c2=>?_) fun c2=>?_
     ·refine aBD fun e48 h48=>?_;refine⟨vE _ _ _,dn (fun c3=>?_) fun c3=>?_⟩
      ·apply et1
       ·(exact(pI h43 (aAR h48 (decide_eq_false c3))).symm)
      ·refine aBV ?_;exact⟨j+1,rfl,⟨by omega,gY h48 hb (decide_eq_true c3)⟩,by omega⟩
     ·refine⟨List.length_map _,dn (fun c4=>?_) fun c4=>?_⟩
      ·apply et1
       ·(exact(pI h43 (aBs c4)).symm)
      ·refine aBV ?_;exact⟨k+1,rfl,⟨by omega,gY h43 ha (aAS (eZ (by omega) hb) (by omega))⟩,by omega⟩
    ·have hrows:=eZ (by omega) ha;refine⟨List.length_map _,⟨0,rfl,Nat.zero_le _,rfl⟩,fun i ⟨hi,hc⟩=>?_⟩;refine dd (fun c5=>?_) fun c5=>?_
     ·refine aBD fun e64 h64=>?_;refine⟨vE _ _ _,dn (fun c6=>?_) fun c6=>?_⟩
      ·apply et1
       ·(exact(aAQ h64 (decide_eq_false c6)).symm)
      ·refine aBV ?_;exact⟨i+1,rfl,⟨by omega,gY h64 hc (decide_eq_true c6)⟩,by omega⟩
     ·apply et1
      ·(exact(aBr (by omega) hrows (eZ (by omega) hc)).symm)
abbrev iH (p:aQ):Prop:=Cn 11 [.agg [.sl 3 1 (p.objective.map aI),.sl 24 1 (p.rows.map aZ),.sl 3 1 (p.limits.map aI)]] (vB (aW p)) []
theorem mK (p:aQ):iH p:=by
 refine cq Try.func11 (.len p.objective.length<| .call (vB (decide (1<=(p.objective.length:Int)/\(p.objective.length:Int)<=15))) []<| .br (.fin []) (.len p.rows.length<| .lit<| .lit<| .br (.fin []) (.len p.rows.length<| .len p.limits.length<| .lit<| .lit<| .br (.fin []) (.loop Nat (Q1 Nat) ([4]++rg 28 12) [] (fun k=>[(4,vI (k:Int))]) (fun k=>[]) (fun k=>k<=p.objective.length/\(p.objective.take k).all sO=true) (fun k=>p.objective.length - k) (fun k=> .br (.elem _ aI p.objective (fun e36=> .call (vB (decide ((-9:Int)<=e36/\e36<=9))) []<| .br (.fin []) (.back []))) (.loop Nat (Q1 Nat) ([5,6]++rg 40 39) [] (fun i=>[(5,vI (i:Int))]) (fun i=>[]) (fun i=>i<=p.rows.length/\(p.rows.take i).all (fM p.objective.length)=true/\(p.limits.take i).all pZ=true) (fun i=>p.rows.length - i) (fun i=> .len p.rows.length<| .br (.elem _ aZ p.rows (fun e50=> .len e50.length<| .br (.fin []) (.elem _ aI p.limits (fun e59=> .call (vB (decide (0<=e59/\e59<=99))) []<| .lit<| .lit<| .br (.fin []) (.loop Nat (Q1 Nat) ([6]++rg 64 15) [] (fun j=>[(6,vI (j:Int))]) (fun j=>[]) (fun j=>j<=p.objective.length/\(e50.take j).all sO=true) (fun j=>p.objective.length - j) (fun j=> .br (.elem _ aZ p.rows (fun e72=> .elem _ aI e72 (fun e75=> .call (vB (decide ((-9:Int)<=e75/\e75<=9))) []<| .br (.fin []) (.back [])))) (.back []))))))) (.fin [])))))))) (p:=Lx (p.objective.map aI)<| Lx (p.rows.map aZ)<| Lx (p.limits.map aI)<| Lm aI p.objective/\(gE (p.objective.length:Int) (1:Int) (15:Int)/\Nb (1<=(p.objective.length:Int)/\(p.objective.length:Int)<=15) ((false)=(aW p)/\True) (Lm aZ p.rows/\Br (64<(p.rows.length:Int)) ((false)=(aW p)/\True) (Lm aZ p.rows/\(Lm aI p.limits/\Nb ((p.rows.length:Int)=(p.limits.length:Int)) ((false)=(aW p)/\True) ((∃(k:Nat),0=(k:Int)/\k<=p.objective.length/\(p.objective.take k).all sO=true)/\ ∀(k:Nat),(k<=p.objective.length/\(p.objective.take k).all sO=true)->Br ((k:Int)<(p.objective.length:Int)) (0<=(k:Int)/\Em aI p.objective k fun e36=>gE e36 (-9:Int) (9:Int)/\Nb ((-9:Int)<=e36/\e36<=9) ((false)=(aW p)/\True) (cR ((k:Int)+1)/\ ∃(k' :Nat),((k:Int)+1)=(k' :Int)/\(k' <=p.objective.length/\(p.objective.take k').all sO=true)/\p.objective.length - k' <p.objective.length - k)) ((∃(i:Nat),0=(i:Int)/\i<=p.rows.length/\(p.rows.take i).all (fM p.objective.length)=true/\(p.limits.take i).all pZ=true)/\ ∀(i:Nat),(i<=p.rows.length/\(p.rows.take i).all (fM p.objective.length)=true/\(p.limits.take i).all pZ=true)->Lm aZ p.rows/\Br ((i:Int)<(p.rows.length:Int)) (0<=(i:Int)/\Em aZ p.rows i fun e50=>Lm aI e50/\Nb ((e50.length:Int)=(p.objective.length:Int)) ((false)=(aW p)/\True) (0<=(i:Int)/\Em aI p.limits i fun e59=>gE e59 (0:Int) (99:Int)/\Nb (0<=e59/\e59<=99) ((false)=(aW p)/\True) ((∃(j:Nat),0=(j:Int)/\j<=p.objective.length/\(e50.take j).all sO=true)/\ ∀(j:Nat),(j<=p.objective.length/\(e50.take j).all sO=true)->Br ((j:Int)<(p.objective.length:Int)) (0<=(i:Int)/\Em aZ p.rows i fun e72=>0<=(j:Int)/\Em aI e72 j fun e75=>gE e75 (-9:Int) (9:Int)/\Nb ((-9:Int)<=e75/\e75<=9) ((false)=(aW p)/\True) (cR ((j:Int)+1)/\ ∃(j' :Nat),((j:Int)+1)=(j' :Int)/\(j' <=p.objective.length/\(e50.take j').all sO=true)/\p.objective.length - j' <p.objective.length - j)) (cR ((i:Int)+1)/\ ∃(i' :Nat),((i:Int)+1)=(i' :Int)/\(i' <=p.rows.length/\(p.rows.take i').all (fM p.objective.length)=true/\(p.limits.take i').all pZ=true)/\p.rows.length - i' <p.rows.length - i)))) ((true)=(aW p)/\True)))))))) (by kernel_rfl) ?_;refine lx fun n0=>lx fun n1=>lx fun n2=>?_;refine⟨List.length_map _,lB _ _ _,dn (fun g13=>?_) fun g13=>?_⟩
 ·apply et1
  ·(exact(jJ (by omega)).symm)
 ·refine⟨List.length_map _,dd (fun g19=>?_) fun g19=>?_⟩
  ·apply et1
   ·(exact(jJ (by omega)).symm)
  ·refine⟨List.length_map _,List.length_map _,dn (fun c0=>?_) fun c0=>?_⟩
   ·apply et1
    ·(exact(jJ (by omega)).symm)
   ·refine⟨⟨0,rfl,Nat.zero_le _,rfl⟩,fun k ⟨hk,ha⟩=>?_⟩;refine dd (fun c1=>?_) fun c1=>?_
    ·refine aBD fun e36 h36=>?_;refine⟨lB _ _ _,dn (fun c2=>?_) fun c2=>?_⟩
     ·apply et1
      ·(exact(aFJ (aAR h36 (decide_eq_false c2))).symm)
     ·refine aBV ?_;exact⟨k+1,rfl,⟨by omega,gY h36 ha (decide_eq_true c2)⟩,by omega⟩
    ·have hobj:=eZ (by omega) ha;refine⟨⟨0,rfl,Nat.zero_le _,rfl,rfl⟩,fun i ⟨hi,hr,hl⟩=>?_⟩;refine⟨List.length_map _,dd (fun c3=>?_) fun c3=>?_⟩
     ·refine aBD fun e50 h50=>?_;refine⟨List.length_map _,dn (fun g55=>?_) fun g55=>?_⟩
      ·apply et1
       ·(exact(xL h50 (aBs g55)).symm)
      ·refine aBD fun e59 h59=>?_;refine⟨lB _ _ _,dn (fun c4=>?_) fun c4=>?_⟩
       ·apply et1
        ·(exact(aAQ h59 (decide_eq_false c4)).symm)
       ·refine⟨⟨0,rfl,Nat.zero_le _,rfl⟩,fun j ⟨hj,hb⟩=>?_⟩;refine dd (fun c5=>?_) fun c5=>?_
        ·refine aBD fun e72 h72=>?_;obtain rfl:=(fS h50 h72).symm;refine aBD fun e75 h75=>?_;refine⟨lB _ _ _,dn (fun c6=>?_) fun c6=>?_⟩
         ·apply et1
          ·(exact(xL h50 (aAR h75 (decide_eq_false c6))).symm)
         ·refine aBV ?_;exact⟨j+1,rfl,⟨by omega,gY h75 hb (decide_eq_true c6)⟩,by omega⟩
        ·refine aBV ?_;exact⟨i+1,rfl,⟨by omega,gY h50 hr (aAS (eZ (by omega) hb) (by omega)),gY h59 hl (decide_eq_true c4)⟩,by omega⟩
     ·have hrows:(p.rows++[p.objective]).all (fM p.objective.length)=true:=by rw[List.all_append,eZ (by omega) hr,List.all_cons,aAS hobj rfl];rfl
      apply et1
      ·(exact(aBr (by omega) hrows (eZ (by omega) hl)).symm)
end Go.Proofs.Ytepphdhnkaiamaa
