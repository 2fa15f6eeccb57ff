/-
  Contracts and plain laws, joined: part 2.
-/
import Derived.Test.YtgamjlgfnmpcjaaGreatDoorst0
import Derived.IntWalk
import Derived.Laws.StructEq
import Derived.Orders
import Derived.Laws.BytesArg
namespace Go.Proofs.YtgamjlgfnmpcjaaGreatDoor
open Go.ChangeShapes Go.WideShapes Go.ChangeAt Go.RowKit
set_option linter.unusedVariables false
set_option linter.unusedSimpArgs false
set_option maxRecDepth 100000
set_option maxHeartbeats 4000000
mutual
def fT (g:Nat->Nat):AV->AV
 | .p (some h) x=> .p (some (g h)) x
 | .p none x=> .p none x
 | .own h=> .own (g h)
 | .ptr h o=> .ptr (g h) o
 | .ep h k i o=> .ep (g h) k i o
 | .rp (some h) x=> .rp (some (g h)) x
 | .rp none x=> .rp none x
 | .agg cs=> .agg (pZ g cs)
 | .tup cs=> .tup (pZ g cs)
 | .fn f cs=> .fn f (pZ g cs)
 | .nil=> .nil
 | .bsl h n=> .bsl (g h) n
 | .no=> .no
def pZ (g:Nat->Nat):List AV->List AV
 | []=>[]
 | x::xs=>fT g x::pZ g xs
end
mutual
theorem aC.map {K:Nat->Prop}{φ φ' :dW}{w:World}{g:Nat->Nat}: ∀(x:AV) (v:Value),(∀h pl,h∈bD x->φ' (g h)=some pl->φ h=some pl)->aC K φ w x v->aC K φ' w (fT g x) v
 | .p none x,v,_,h=>by unfold fT;unfold aC at*;exact h
 | .p (some k) x,v,hm,h=>by unfold fT;unfold aC at*;exact fun pl hp=>h pl (hm k pl (by simp[bD]) hp)
 | .own k,v,hm,h=>by unfold fT;unfold aC at*;exact fun pl hp=>h pl (hm k pl (by simp[bD]) hp)
 | .ptr k o,v,hm,h=>by unfold fT;unfold aC at*;obtain⟨g',e,q⟩:=h;exact⟨g',e,fun pl hp=>q pl (hm k pl (by simp[bD]) hp)⟩
 | .ep k _ _ _,v,hm,h=>by unfold fT;unfold aC at*;exact fun pl hp=>h pl (hm k pl (by simp[bD]) hp)
 | .rp none x,v,_,h=>by unfold fT;unfold aC at*;exact h
 | .rp (some k) x,v,hm,h=>by unfold fT;unfold aC at*;exact fun pl hp=>h pl (hm k pl (by simp[bD]) hp)
 | .agg cs,v,hm,h=>by
   unfold fT;unfold aC at*;obtain⟨vs,e,h1,h2⟩:=h;exact⟨vs,e,h1,aH.map cs _ (fun k pl hk=>hm k pl (by simpa [bD] using hk)) h2⟩
 | .tup cs,v,hm,h=>by
   unfold fT;unfold aC at*;obtain⟨vs,e,h2⟩:=h;exact⟨vs,e,aH.map cs _ (fun k pl hk=>hm k pl (by simpa [bD] using hk)) h2⟩
 | .fn f cs,v,hm,h=>by
   unfold fT;unfold aC at*;obtain⟨vs,e,h2⟩:=h;exact⟨vs,e,aH.map cs _ (fun k pl hk=>hm k pl (by simpa [bD] using hk)) h2⟩
 | .nil,v,_,h=>by unfold fT;unfold aC at*;exact h
 | .bsl k n,v,hm,h=>by unfold fT;unfold aC at*;exact fun pl hp=>h pl (hm k pl (by simp[bD]) hp)
 | .no,v,_,_=>by unfold fT;unfold aC;trivial
theorem aH.map {K:Nat->Prop}{φ φ' :dW}{w:World}{g:Nat->Nat}: ∀(xs:List AV) (vs:List Value),(∀h pl,h∈dB xs->φ' (g h)=some pl->φ h=some pl)->aH K φ w xs vs->aH K φ' w (pZ g xs) vs
 | [],vs,_,h=>by unfold pZ;unfold aH at*;exact h
 | x::xs,vs,hm,h=>by
   unfold pZ;unfold aH at*;obtain⟨v,vs',e,h1,h2⟩:=h;exact⟨v,vs',e,aC.map x v (fun k pl hk=>hm k pl (by simp[dB,hk])) h1,aH.map xs vs' (fun k pl hk=>hm k pl (by simp[dB,hk])) h2⟩
end
mutual
def fN:AV->Bool
 | .p none x=>x.val?.isSome
 | .own _=>true
 | .nil=>true
 | .agg cs=>uX cs
 | .tup cs=>uX cs
 | .no=>true
 | _=>false
def uX:List AV->Bool
 | []=>true
 | x::xs=>fN x&&uX xs
end
mutual
theorem uY {K K' :Nat->Prop}{φ:dW}{w:World}: ∀(x:AV) (v:Value),fN x=true->aC K φ w x v->aC K' φ w x v
 | .p none x,v,hc,h=>by
   unfold fN at hc;unfold aC at*;cases hx:x.val? with
   | none=>simp[hx] at hc
   | some u=>exact(dR.scalar hx).2 ((dR.scalar hx).1 h)
 | .p (some k) x,v,hc,h=>by simp[fN] at hc
 | .own k,v,_,h=>by unfold aC at*;exact h
 | .ptr k o,v,hc,_=>by simp[fN] at hc
 | .ep k _ _ _,v,hc,_=>by simp[fN] at hc
 | .rp none x,v,hc,h=>by simp[fN] at hc
 | .rp (some k) x,v,hc,h=>by simp[fN] at hc
 | .agg cs,v,hc,h=>by
   unfold fN at hc;unfold aC at*;obtain⟨vs,e,h1,h2⟩:=h;exact⟨vs,e,h1,nG cs _ hc h2⟩
 | .tup cs,v,hc,h=>by
   unfold fN at hc;unfold aC at*;obtain⟨vs,e,h2⟩:=h;exact⟨vs,e,nG cs _ hc h2⟩
 | .fn f cs,v,hc,h=>by simp[fN] at hc
 | .nil,v,_,h=>by unfold aC at*;exact h
 | .bsl k n,v,hc,h=>by simp[fN] at hc
 | .no,v,_,_=>by unfold aC;trivial
theorem nG {K K' :Nat->Prop}{φ:dW}{w:World}: ∀(xs:List AV) (vs:List Value),uX xs=true->aH K φ w xs vs->aH K' φ w xs vs
 | [],vs,_,h=>by unfold aH at*;exact h
 | x::xs,vs,hc,h=>by
   unfold uX at hc;simp only[aBT] at hc;unfold aH at*;obtain⟨v,vs',e,h1,h2⟩:=h;exact⟨v,vs',e,uY x v hc.1 h1,nG xs vs' hc.2 h2⟩
end
def aBn:Rs->Bool
 | .arr _ _ true _=>true
 | _=>false
def aB3:Rs->Bool
 | .arr _ _ _ _=>true
 | _=>false
inductive Ar where
 | one (x:aS)
 | agg (xs:List aS)
 | ref (xs:List aS)
 | fn (f:FuncId) (caps:List (List aS))
def aGE (A:Nat->Prop)(w:World)(xs:List aS)(v:Value):Prop:= ∃a,v= .pointer a/\eT A w xs a 0
def aAG (A:Nat->Prop)(w:World):List (List aS)->List Value->Prop
 | [],vs=>vs= []
 | x::xs,vs=> ∃v vs',vs=v::vs' /\aGE A w x v/\aAG A w xs vs'
def aDm (A:Nat->Prop)(w:World):Ar->Value->Prop
 | .one x,v=>dR A w x v
 | .agg xs,v=> ∃vs:Array Value,v= .agg vs/\fF A w xs vs.toList
 | .ref xs,v=>aGE A w xs v
 | .fn f caps,v=> ∃vs:Array Value,v= .func (.func f) #[] vs/\aAG A w caps vs.toList
def jU (A:Nat->Prop)(w:World):List Ar->List Value->Prop
 | [],vs=>vs= []
 | x::xs,vs=> ∃v vs',vs=v::vs' /\aDm A w x v/\jU A w xs vs'
def aLI (A:Nat->Prop)(w:World)(rv:AV)(rs:List (Nat × Rs))(e:Ending)(w' :World):Prop:=
 ∃v K φ,e= .returned v/\Below w.heap.size w w' /\(∀b,K b->b<w'.heap.size/\(A b\/w.heap.size<=b))/\(∀b,K b-> ∀h pl,φ h=some pl->b ∉ pl.F)/\
  (∀h r,aN rs h=some r-> ∃pl,φ h=some pl/\Holds K φ w' pl r)/\(∀h,aN rs h=none->φ h=none)/\
  (∀h h' pl pl',h≠h' ->φ h=some pl->φ h' =some pl' -> ∀g∈pl.F,g ∉ pl'.F)/\(∀h pl,φ h=some pl->pl.F.Nodup)/\(∀h pl,φ h=some pl-> ∀g∈pl.F,w.heap.size<=g/\g<w'.heap.size)/\
  aC K φ w' rv v
def fG (P : Program) (f : FuncId) : Bool := match P.funcs[f]? with | some fn => !(fn.name == "runtime.NumGoroutine") && fn.body.isSome | none => false
def zC (P:Program)(f:FuncId)(args:List Ar)(rv:AV)(rs:List (Nat × Rs)):Prop:=
 fG P f=true/\ ∀(A:Nat->Prop) (w:World) (vs:Array Value),(∀b,A b->b<w.heap.size)->jU A w args vs.toList->Calls P f vs w (aLI A w rv rs)
def AsD (S:St):AV->aS->Prop
 | .p o x,y=>iN S o/\y=x
 | .own h,y=> ∃e k d xs,S.res h=some (.arr e k d xs)/\y= .sl e k xs
 | .nil,y=> ∃e k,y= .sl e k []
 | _,_=>False
def aB4 (S:St):List AV->List aS->Prop
 | [],ys=>ys= []
 | x::xs,ys=> ∃y ys',ys=y::ys' /\AsD S x y/\aB4 S xs ys'
def aBo (S:St):AV->List aS->Prop
 | .rp o xs,ys=>iN S o/\ys=xs
 | .ptr h off,ys=> ∃t cs,S.res h=some (.box t cs)/\aB4 S (cs.drop off) ys/\ys≠[]
 | _,_=>False
def aCv (S:St):List AV->List (List aS)->Prop
 | [],ys=>ys= []
 | x::xs,ys=> ∃y ys',ys=y::ys' /\aBo S x y/\aCv S xs ys'
def aDn (S:St):AV->Ar->Prop
 | .agg cs,y=> ∃ys,y= .agg ys/\aB4 S cs ys
 | .fn f cs,y=> ∃caps,y= .fn f caps/\aCv S cs caps
 | .rp o xs,y=> ∃ys,y= .ref ys/\aBo S (.rp o xs) ys
 | .ptr h off,y=> ∃ys,y= .ref ys/\aBo S (.ptr h off) ys
 | x,y=> ∃d,y= .one d/\AsD S x d
def aAH (S:St):List AV->List Ar->Prop
 | [],ys=>ys= []
 | x::xs,ys=> ∃y ys',ys=y::ys' /\aDn S x y/\aAH S xs ys'
mutual
def kT:AV->Bool
 | .p none _=>true
 | .nil=>true
 | .agg cs=>jV cs
 | _=>false
def jV:List AV->Bool
 | []=>true
 | x::xs=>kT x&&jV xs
end
section
variable {K:Nat->Prop} {φ:dW} {A:Nat->Prop} {w0:oR} {N:Nat} {S:St} {a:Act} {w:World} {P:Program}
theorem mQ {B:Nat->Prop}{e k:Nat}:dR B w (.sl e k []) (.slice none 0 0):=by
 unfold dR;exact⟨none,0,rfl,aLB _,by unfold maxLen;omega,by unfold dI;trivial⟩
theorem G.rdOwn (hG:G K φ A w0 N S a w){h:Nat}{e k:Nat}{d:Bool}{xs:List (List aS)}{v:Value}(hr:S.res h=some (.arr e k d xs))(hm:aC K φ w (.own h) v):dR (fun b=>b<w.heap.size) w (.sl e k xs) v:=by
 obtain⟨pl,css,hp,ho,hcl,hck,htop,hrow⟩:=hG.owned hr;unfold aC at hm;rw[hm pl hp];obtain⟨b,c,e1,h1,h2,h3,h4⟩:=gP ho hck hcl;unfold dR;refine⟨b,c,e1,h1,h2,?_⟩;by_cases hn:0<xs.length
 ·obtain⟨g,rfl,hg⟩:=h3 hn;have hlt:g<w.heap.size:=(hG.ge h pl hp g (aHk _ (by rw[htop,hg];simp))).2;refine rY hlt hcl (fun i x c hx hc=>⟨(hrow i x c hx hc).1,fF.mono (fun _ _=>rfl) (fun b hb=>?_) x c (hrow i x c hx hc).2.1⟩) fun i c hc j u hu=>?_
  ·rcases hb with hb | hb
   ·exact(hG.kin b hb).1
   exact(hG.ge h pl hp b (aFK _ hb)).2
  obtain⟨g',e2,_,hcell⟩:=h4 i c hc;simp only[Option.some.injEq,Addr.mk.injEq,and_true] at e2;subst e2;rw[Nat.zero_add];exact hcell j u hu
 have:xs= []:=aGC (by omega);subst this;unfold dI;trivial
theorem aHs (hG:G K φ A w0 N S a w){x:AV}{y:aS}{v:Value}(h:AsD S x y)(hm:aC K φ w x v):dR (fun b=>b<w.heap.size) w y v:=by
 unfold AsD at h;split at h
 ·rename_i o x';obtain⟨hl,rfl⟩:=h;cases o with
  | none=>unfold aC at hm;exact dR.mono (fun _ _=>rfl) (fun b hb=>(hG.kin b hb).1) _ _ hm
  | some g=>
    obtain⟨r,hr⟩:=hl;obtain⟨pl,hp,_⟩:=hG.dom g r hr;unfold aC at hm;exact dR.mono (fun _ _=>rfl) (fun b hb=>by rcases hb with hb | hb;exact(hG.kin b hb).1;exact(hG.ge g pl hp b (aFK _ hb)).2) _ _ (hm pl hp)
 ·obtain⟨e,k,d,xs,hr,rfl⟩:=h;exact hG.rdOwn hr hm
 ·obtain⟨e,k,rfl⟩:=h;unfold aC at hm;rw[hm];exact mQ
 exact h.elim
theorem aCw (hG:G K φ A w0 N S a w): ∀{xs:List AV} {ys:List aS} {vs:List Value},aB4 S xs ys->aH K φ w xs vs->fF (fun b=>b<w.heap.size) w ys vs
 | [],ys,vs,h,hm=>by unfold aH at hm;rw[hm,show ys= [] from h];exact rfl
 | x::xs,ys,vs,⟨y,ys',e,h1,h2⟩,hm=>by
   subst e;unfold aH at hm;obtain⟨v,vs',rfl,h3,h4⟩:=hm;exact⟨v,vs',rfl,aHs hG h1 h3,aCw hG h2 h4⟩
theorem oV {K:Nat->Prop}{φ:dW}{w:World}: ∀(n:Nat) {xs:List AV} {vs:List Value},aH K φ w xs vs->aH K φ w (xs.drop n) (vs.drop n)
 | 0,_,_,h=>by simpa using h
 | n+1,[],vs,h=>by unfold aH at h;subst h;simp only[List.drop_nil];unfold aH;rfl
 | n+1,x::xs,vs,h=>by
   unfold aH at h;obtain⟨v,vs',rfl,_,h2⟩:=h;simpa using oV n h2
theorem aAI (hG:G K φ A w0 N S a w){x:AV}{y:List aS}{v:Value}(h:aBo S x y)(hm:aC K φ w x v):aGE (fun b=>b<w.heap.size) w y v:=by
 unfold aBo at h;split at h
 ·rename_i o xs;obtain⟨hl,rfl⟩:=h;cases o with
  | none=>
    unfold aC at hm;obtain⟨a,e,hr⟩:=hm;exact⟨a,e,eT.mono (fun _ _=>rfl) (fun b hb=>(hG.kin b hb).1) _ _ _ hr⟩
  | some g=>
    obtain⟨r,hr⟩:=hl;obtain⟨pl,hp,_⟩:=hG.dom g r hr;unfold aC at hm;obtain⟨a,e,hr⟩:=hm pl hp;exact⟨a,e,eT.mono (fun _ _=>rfl) (fun b hb=>by rcases hb with hb | hb;exact(hG.kin b hb).1;exact(hG.ge g pl hp b (aFK _ hb)).2) _ _ _ hr⟩
 ·rename_i h0 off;obtain⟨t,cs,hr,hd,hne⟩:=h;obtain⟨g,vs,hp,hB,h1,hl⟩:=hG.boxed hr;unfold aC at hm;obtain⟨g',rfl,hg⟩:=hm;have hgg:=hg _ hp;simp only[List.cons.injEq,and_true] at hgg;subst hgg;have hlt:=(hG.ge h0 _ hp g (by simp[Pl.F])).2;refine⟨_,rfl,eT.mk (fun _=>hlt) (aCw hG hd (oV off hl)) fun j u hu=>?_⟩;rw[List.getElem?_drop] at hu;rw[Nat.add_zero,hB.cell (off+j)];simpa using hu
 exact h.elim
theorem aBp (hG:G K φ A w0 N S a w): ∀{xs:List AV} {ys:List (List aS)} {vs:List Value},aCv S xs ys->aH K φ w xs vs->aAG (fun b=>b<w.heap.size) w ys vs
 | [],ys,vs,h,hm=>by unfold aH at hm;rw[hm,show ys= [] from h];exact rfl
 | x::xs,ys,vs,⟨y,ys',e,h1,h2⟩,hm=>by
   subst e;unfold aH at hm;obtain⟨v,vs',rfl,h3,h4⟩:=hm;exact⟨v,vs',rfl,aAI hG h1 h3,aBp hG h2 h4⟩
theorem aJn (hG:G K φ A w0 N S a w){x:AV}{y:Ar}{v:Value}(h:aDn S x y)(hm:aC K φ w x v):aDm (fun b=>b<w.heap.size) w y v:=by
 unfold aDn at h;split at h
 ·obtain⟨ys,rfl,h⟩:=h;unfold aC at hm;obtain⟨vs,e,_,hl⟩:=hm;exact⟨vs,e,aCw hG h hl⟩
 ·obtain⟨caps,rfl,h⟩:=h;unfold aC at hm;obtain⟨vs,e,hl⟩:=hm;exact⟨vs,e,aBp hG h hl⟩
 ·obtain⟨ys,rfl,h⟩:=h;exact aAI hG h hm
 ·obtain⟨ys,rfl,h⟩:=h;exact aAI hG h hm
 obtain⟨d,rfl,h⟩:=h;exact aHs hG h hm
theorem aGF {x:AV}{y:aS}{v:Value}(hs:kT x=true)(h:AsD S x y)(hm:aC K φ w x v):dR K w y v:=by
 unfold AsD at h;split at h
 ·rename_i o x';cases o with
  | none=>obtain⟨_,rfl⟩:=h;unfold aC at hm;exact hm
  | some g=>simp[kT] at hs
 ·simp[kT] at hs
 ·obtain⟨e,k,rfl⟩:=h;unfold aC at hm;rw[hm];exact mQ
 exact h.elim
theorem aDo: ∀{xs:List AV} {ys:List aS} {vs:List Value},jV xs=true->aB4 S xs ys->aH K φ w xs vs->fF K w ys vs
 | [],ys,vs,_,h,hm=>by unfold aH at hm;rw[hm,show ys= [] from h];exact rfl
 | x::xs,ys,vs,hs,⟨y,ys',e,h1,h2⟩,hm=>by
   subst e;unfold jV at hs;simp only[aBT] at hs;unfold aH at hm;obtain⟨v,vs',rfl,h3,h4⟩:=hm;exact⟨v,vs',rfl,aGF hs.1 h1 h3,aDo hs.2 h2 h4⟩
theorem aHt {x:AV}{y:Ar}{v:Value}(hs:kT x=true)(h:aDn S x y)(hm:aC K φ w x v):aDm K w y v:=by
 unfold aDn at h;split at h
 ·obtain⟨ys,rfl,h⟩:=h;unfold aC at hm;unfold kT at hs;obtain⟨vs,e,_,hl⟩:=hm;exact⟨vs,e,aDo hs h hl⟩
 ·simp[kT] at hs
 ·simp[kT] at hs
 ·simp[kT] at hs
 obtain⟨d,rfl,h⟩:=h;exact aGF hs h hm
theorem mR (hb:Nat): ∀(rs:List (Nat × Rs)) (h:Nat),aN (rs.map fun q=>(hb+q.1,q.2)) h=if hb<=h then aN rs (h - hb) else none
 | [],h=>by simp[aN]
 | (k,r)::rs,h=>by
   simp only[aHl,aN,mR hb rs h];by_cases h1:hb<=h
   ·by_cases h2:h - hb=k
    ·have:h=hb+k:=by omega
     simp[h1,h2,this]
    have:h≠hb+k:=by omega
    simp[h1,h2,this]
   have:h≠hb+k:=by omega
   simp[h1,this]
theorem Holds.arrPhi {φ' :dW}{pl:Pl}{r:Rs}(ha:aB3 r=true)(h:Holds K φ w pl r):Holds K φ' w pl r:=by
 cases r with
 | box t cs=>simp[aB3] at ha
 | hole e k xs i j h=>simp[aB3] at ha
 | arr e k d xs=>cases d<;>exact h
theorem Holds.deepK {K' :Nat->Prop}{pl:Pl}{r:Rs}(ha:aBn r=true)(h:Holds K φ w pl r):Holds K' φ w pl r:=by
 cases r with
 | box t cs=>simp[aBn] at ha
 | hole e k xs i j h=>simp[aBn] at ha
 | arr e k d xs=>
   cases d with
   | true=>exact h
   | false=>simp[aBn] at ha
theorem bK: ∀{rs:List (Nat × Rs)} {h:Nat} {r:Rs},aN rs h=some r->(h,r)∈rs
 | [],_,_,e=>by simp[aN] at e
 | (k,r')::rs,h,r,e=>by
   simp only[aN] at e;split at e
   ·injection e with e;subst_vars;simp
   exact aM2 _ (bK e)
theorem aBq (hG:G K φ A w0 N S a w){dst:Option Nat}{A' K' :Nat->Prop}{rv:AV}{rs:List (Nat × Rs)}{hb:Nat}{w' :World}{v:Value}{Kr:Nat->Prop}{φr:dW}(hd: ∀d,dst=some d->d<N)
 (hbel:Below w.heap.size w w') (hkout: ∀b,Kr b-> ∀h pl,φr h=some pl->b ∉ pl.F)
 (hdom: ∀h r,aN rs h=some r-> ∃pl,φr h=some pl/\Holds Kr φr w' pl r) (hnon: ∀h,aN rs h=none->φr h=none)
 (hdisj: ∀h h' pl pl',h≠h' ->φr h=some pl->φr h' =some pl' -> ∀g∈pl.F,g ∉ pl'.F) (hnd: ∀h pl,φr h=some pl->pl.F.Nodup) (hge: ∀h pl,φr h=some pl-> ∀g∈pl.F,w.heap.size<=g/\g<w'.heap.size)
 (hm:aC K' φr w' rv v) (hH: ∀h r pl,aN rs h=some r->Holds Kr φr w' pl r->Holds K' φr w' pl r)
 (hK: ∀b,K b->K' b) (hK' : ∀b,K' b->K b\/(Kr b/\w.heap.size<=b/\b<w'.heap.size)) (ha: ∀q∈rs,aB3 q.2=true) (hf: ∀q∈rs,dS S (hb+q.1)) (hmt: ∀h∈bD rv,∃r,aN rs h=some r):
 ∃φ',G K' φ' A w0 N (S.apply dst ⟨fT (hb+ ·) rv,[],rs.map fun q=>(hb+q.1,q.2)⟩) (a.put dst v) w' /\Tr K φ w (· ∈([]:List Nat)) (aN (rs.map fun q=>(hb+q.1,q.2))) K' φ' w' :=by
 have hfs: ∀h r,aN (rs.map fun q=>(hb+q.1,q.2)) h=some r->hb<=h/\aN rs (h - hb)=some r:=fun h r e=>by
  rw[mR] at e;split at e
  ·exact⟨by assumption,e⟩
  cases e
 have hφs: ∀h pl,(if hb<=h then φr (h - hb) else none)=some pl->hb<=h/\φr (h - hb)=some pl:=fun h pl e=>by
  split at e
  ·exact⟨by assumption,e⟩
  cases e
 have hfresh: ∀h pl,(if hb<=h then φr (h - hb) else none)=some pl->dS S h:=fun h pl e=>by
  obtain⟨h1,h2⟩:=hφs h pl e;cases hc:aN rs (h - hb) with
  | none=>rw[hnon _ hc] at h2;cases h2
  | some r=>
    have:=hf _ (bK hc);simp only at this
    rwa [show hb+(h - hb)=h by omega] at this
 have hstep:=hG.step (C:=(· ∈([]:List Nat))) (φr:=fun h=>if hb<=h then φr (h - hb) else none) (ρ:=aN (rs.map fun q=>(hb+q.1,q.2))) (K' :=K') (w' :=w')
  (pK.of_below hbel _)
  (fun h pl e=>⟨hnd _ pl (hφs h pl e).2,fun g hg=>⟨(hge _ pl (hφs h pl e).2 g hg).2,.inl (hge _ pl (hφs h pl e).2 g hg).1⟩⟩)
  (fun h h' pl pl' hne e e' =>hdisj _ _ pl pl' (fun e2=>hne (by have:=(hφs h pl e).1;have:=(hφs h' pl' e').1;omega)) (hφs h pl e).2 (hφs h' pl' e').2)
  (fun h r e=>by
   obtain⟨h1,h2⟩:=hfs h r e;obtain⟨pl,hp,hh⟩:=hdom _ r h2;exact⟨pl,by simp[h1,hp],Holds.arrPhi (ha _ (bK h2)) (hH _ r pl h2 hh)⟩)
  (fun h e=>by
   rw[mR] at e;split at e
   ·rename_i h1;simp[h1,hnon _ e]
   rename_i h1;simp[h1])
  hK
  (fun b hb' =>by
   rcases hK' b hb' with h1 | ⟨h1,h2,h3⟩
   ·exact .inl h1
   exact .inr ⟨h3,.inl h2,fun h pl e=>hkout b h1 _ pl (hφs h pl e).2⟩)
  (fun t h pl hmm e=>absurd hmm ((hfresh h pl e).1 t))
  (fun h' r h pl _ hr hmm e=>absurd hmm ((hfresh h pl e).2.1 h' r hr))
 have hstep:=hstep (fun h pl e=> .inr (hfresh h pl e).2.2.2);refine⟨_,hstep.put hd (aC.map (φ:=φr) rv v (fun h pl hh e=>?_) hm),pK.of_below hbel _,hK,fun b hb' =>?_,fun h pl e=>?_,fun h pl _ e g hg=>hbel.block g (hG.ge h pl e g (aFK _ hg)).2⟩
 ·rcases aV e with e | ⟨e1,_,e⟩
  ·have:=(hφs _ pl e).2
   rwa [show hb+h - hb=h by omega] at this
  obtain⟨r,hr⟩:=hmt h hh;obtain⟨pl',hp',_⟩:=hdom h r hr;rw[if_pos (by omega),show hb+h - hb=h by omega,hp'] at e1;cases e1
 ·rcases hK' b hb' with h1 | ⟨h1,h2,h3⟩
  ·exact .inl h1
  exact .inr (.inl h2)
 rcases aV e with e | ⟨_,_,e⟩
 ·refine .inr ⟨hG.non h (hfresh h pl e).2.2.1,?_,fun g hg=> .inl (hge _ pl (hφs h pl e).2 g hg).1⟩;obtain⟨h1,h2⟩:=hφs h pl e;rw[mR,if_pos h1];cases hc:aN rs (h - hb) with
  | none=>rw[hnon _ hc] at h2;cases h2
  | some r=>exact⟨r,rfl⟩
 exact .inl e
end
mutual
theorem aC.unmap {K:Nat->Prop}{φ φ' :dW}{w:World}{g:Nat->Nat}: ∀(x:AV) (v:Value),(∀h pl,h∈bD x->φ' h=some pl->φ (g h)=some pl)->aC K φ w (fT g x) v->aC K φ' w x v
 | .p none x,v,_,h=>by unfold fT at h;unfold aC at*;exact h
 | .p (some k) x,v,hm,h=>by unfold fT at h;unfold aC at*;exact fun pl hp=>h pl (hm k pl (by simp[bD]) hp)
 | .own k,v,hm,h=>by unfold fT at h;unfold aC at*;exact fun pl hp=>h pl (hm k pl (by simp[bD]) hp)
 | .ptr k o,v,hm,h=>by unfold fT at h;unfold aC at*;obtain⟨g',e,q⟩:=h;exact⟨g',e,fun pl hp=>q pl (hm k pl (by simp[bD]) hp)⟩
 | .ep k _ _ _,v,hm,h=>by unfold fT at h;unfold aC at*;exact fun pl hp=>h pl (hm k pl (by simp[bD]) hp)
 | .rp none x,v,_,h=>by unfold fT at h;unfold aC at*;exact h
 | .rp (some k) x,v,hm,h=>by unfold fT at h;unfold aC at*;exact fun pl hp=>h pl (hm k pl (by simp[bD]) hp)
 | .agg cs,v,hm,h=>by
   unfold fT at h;unfold aC at*;obtain⟨vs,e,h1,h2⟩:=h;exact⟨vs,e,h1,aH.unmap cs _ (fun k pl hk=>hm k pl (by simpa [bD] using hk)) h2⟩
 | .tup cs,v,hm,h=>by
   unfold fT at h;unfold aC at*;obtain⟨vs,e,h2⟩:=h;exact⟨vs,e,aH.unmap cs _ (fun k pl hk=>hm k pl (by simpa [bD] using hk)) h2⟩
 | .fn f cs,v,hm,h=>by
   unfold fT at h;unfold aC at*;obtain⟨vs,e,h2⟩:=h;exact⟨vs,e,aH.unmap cs _ (fun k pl hk=>hm k pl (by simpa [bD] using hk)) h2⟩
 | .nil,v,_,h=>by unfold fT at h;unfold aC at*;exact h
 | .bsl k n,v,hm,h=>by unfold fT at h;unfold aC at*;exact fun pl hp=>h pl (hm k pl (by simp[bD]) hp)
 | .no,v,_,_=>by unfold aC;trivial
theorem aH.unmap {K:Nat->Prop}{φ φ' :dW}{w:World}{g:Nat->Nat}: ∀(xs:List AV) (vs:List Value),(∀h pl,h∈dB xs->φ' h=some pl->φ (g h)=some pl)->aH K φ w (pZ g xs) vs->aH K φ' w xs vs
 | [],vs,_,h=>by unfold pZ at h;unfold aH at*;exact h
 | x::xs,vs,hm,h=>by
   unfold pZ at h;unfold aH at*;obtain⟨v,vs',e,h1,h2⟩:=h;exact⟨v,vs',e,aC.unmap x v (fun k pl hk=>hm k pl (by simp[dB,hk])) h1,aH.unmap xs vs' (fun k pl hk=>hm k pl (by simp[dB,hk])) h2⟩
end
def aB5 (g:Nat->Nat):Rs->Rs
 | .box t cs=> .box t (pZ g cs)
 | .arr e k d xs=> .arr e k d xs
 | .hole e k xs i j h=> .hole e k xs i j (g h)
def nT (A:Nat->Prop)(w0:oR)(N:Nat)(S:St)(a:Act)(w:World):Prop:= ∃K φ,G K φ A w0 N S a w
def VC (P:Program)(N:Nat)(c:Code)(S:St)(Q:Exit->St->Prop):Prop:=
 ∀A w0 a w,nT A w0 N S a w->c.wp P (fun e a' w' => ∃S',nT A w0 N S' a' w' /\Q e S') a w
def aLJ (Kn:St->Prop)(Q:Exit->St->Prop):Exit->St->Prop
 | .normal,S=>Kn S
 | e,S=>Q e S
def aFT (id:Nat)(Q:Exit->St->Prop):Exit->St->Prop
 | .exit id',S=>if id' =id then Q .normal S else Q (.exit id') S
 | e,S=>Q e S
section
variable {P:Program} {N:Nat} {S:St} {Q:Exit->St->Prop}
theorem aJo (h:Q .normal S):VC P N .skip S Q:=fun A w0 a w hG=>wp_skip ⟨S,hG,h⟩
theorem aLV (h:Q .ret S):VC P N .ret S Q:=fun A w0 a w hG=>wp_ret ⟨S,hG,h⟩
theorem aJp {id:Nat}(h:Q (.exit id) S):VC P N (.exit id) S Q:=fun A w0 a w hG=>wp_exit ⟨S,hG,h⟩
theorem aCx {c:Code}{Q' :Exit->St->Prop}(h:VC P N c S Q)(hq: ∀e S,Q e S->Q' e S):VC P N c S Q' :=fun A w0 a w hG=>Code.wp_mono (fun e a w ⟨S',h1,h2⟩=>⟨S',h1,hq e S' h2⟩) (h A w0 a w hG)
theorem aLW {x y:Code}(h: ∀Kn:St->Prop,(∀S,VC P N y S Q->Kn S)->VC P N x S (aLJ Kn Q)):VC P N (.seq x y) S Q:=fun A w0 a w hG=>by
 refine wp_seq (Code.wp_mono (fun e a w ⟨S',h1,h2⟩=>?_) (h (fun S=>VC P N y S Q) (fun _ h=>h) A w0 a w hG));cases e with
 | normal=>exact h2 A w0 a w h1
 | _=>exact⟨S',h1,h2⟩
theorem aJq {c:Operand}{x y:Code}{t:Bool}(hc:S.ev c= .p none (.bool t))(hx:t=true->VC P N x S Q)(hy:t=false->VC P N y S Q):VC P N (.cond c x y) S Q:=fun A w0 a w hG=>by
 obtain⟨K,φ,hG'⟩:=hG;have e:a.eval c= .bool t:=eU (x:=S.ev c) (by rw[hc];rfl) (hG'.ev c);exact wp_cond_split e (fun ht=>hx ht A w0 a w ⟨K,φ,hG'⟩) (fun ht=>hy ht A w0 a w ⟨K,φ,hG'⟩)
theorem aHu {id:Nat}{c:Code}(h:VC P N c S (aFT id Q)):VC P N (.block id c) S Q:=fun A w0 a w hG=>by
 refine wp_block (Code.wp_mono (fun e a w ⟨S',h1,h2⟩=>?_) (h A w0 a w hG));cases e with
 | exit id' =>
   simp only[aFT,Exit.inBlock] at*;split at h2
   ·rename_i hid;rw[if_pos hid];exact⟨S',h1,h2⟩
   rename_i hid;rw[if_neg hid];exact⟨S',h1,h2⟩
 | _=>exact⟨S',h1,h2⟩
theorem tG (p:Nat->Prop)(h: ∃n,p n): ∃n,p n/\ ∀m,p m->n<=m:=by
 obtain⟨n,hn⟩:=h
 induction n using Nat.strongRecOn with
 | _ n ih=>
   by_cases hm: ∃m,m<n/\p m
   ·obtain⟨m,h1,h2⟩:=hm;exact ih m h1 h2
   exact⟨n,hn,fun m h=>Nat.le_of_not_lt fun h' =>hm ⟨m,h',h⟩⟩
def gvA:AV->Option (Option Bool)
 | .p none (.bool b)=>some (some b)
 | .tup []=>some none
 | _=>none
theorem aHw {x:AV}{b:Bool}(h:x= .p none (.bool b)):gvA x=some (some b):=by rw[h];rfl
theorem yC (K:Nat->Prop)(φ:dW)(w:World):aC K φ w (.tup []) undef:=by
 unfold aC;exact⟨#[],rfl,by unfold aH;rfl⟩
def Ops (P:Program)(N:Nat)(all:Array Oper):List Oper->St->(St->Prop)->Prop
 | [],S,K=>K S
 | o::rest,S,K=>(∀d,o.dst=some d->d<N)/\match o.guard with
   | none=> ∃e,nF P o S e/\Ops P N all rest (S.apply o.dst e) K
   | some (j,want)=> ∃d b,(all[j]?).bind (·.dst)=some d/\d<N/\gvA (S.slots d)=some b/\(b=some want-> ∃e,nF P o S e/\Ops P N all rest (S.apply o.dst e) K)/\(b≠some want->Ops P N all rest (S.put o.dst (.tup [])) K)
theorem aBr {A:Nat->Prop}{w0:oR}{S:St}{a:Act}{w:World}{K:Nat->Prop}{φ:dW}{all:Array Oper}{o:Oper}{j d:Nat}{want:Bool}{b:Option Bool}(hG:G K φ A w0 N S a w)(hg:o.guard=some (j,want))(hj:(all[j]?).bind (·.dst)=some d)(hd:d<N)(hs:gvA (S.slots d)=some b):
 Region.wanted o (yielded all a.tmps)=(b==some want):=by
 have h1:=hG.slots d;have hlt:d<a.tmps.size:=by rw[hG.size];exact hd
 rw[Array.getD_eq_getD_getElem?,Array.getElem?_eq_getElem hlt] at h1;unfold gvA at hs;split at hs
 ·rename_i b' hx;rw[hx] at h1;unfold aC dR at h1;have h2:a.tmps[d]? =some (.bool b'):=by rw[Array.getElem?_eq_getElem hlt];simpa using h1
  injection hs with hs
  subst hs;unfold Region.wanted;simp only[hg,yielded,hj,Option.bind_some,h2]
 ·rename_i hx;rw[hx] at h1;unfold aC at h1;obtain⟨vs,hv,_⟩:=h1;have h2:a.tmps[d]? =some (.tuple vs):=by rw[Array.getElem?_eq_getElem hlt];simpa using hv
  injection hs with hs
  subst hs;unfold Region.wanted;simp only[hg,yielded,hj,Option.bind_some,h2]
 cases hs
theorem wY {all:Array Oper}{Qw:Exit->Act->World->Prop}{A:Nat->Prop}{w0:oR}{Kn:St->Prop}(hQ: ∀S a w,Kn S->nT A w0 N S a w->Qw .normal a w): ∀(l:List Oper) (S:St) (a:Act) (w:World),Ops P N all l S Kn->nT A w0 N S a w->wpList P all Qw l a w
 | [],S,a,w,h,hG=>hQ S a w h hG
 | o::rest,S,a,w,h,⟨K,φ,hG⟩=>by
   unfold Ops at h;obtain⟨hd,h⟩:=h
   have step: ∀e,nF P o S e->Ops P N all rest (S.apply o.dst e) Kn->o.wp P a w (wpList P all Qw rest) Qw:=fun e hs ho=>
    Oper.wp_mono (fun a' w' ⟨K',φ',v,_,hG'⟩=>wY hQ rest _ a' w' ho ⟨K',φ',hG'⟩) (hs K φ A w0 N a w Qw hd hG)
   unfold wpList;split at h
   ·rename_i hg;obtain⟨e,hs,ho⟩:=h;rw[if_pos (by simp[Region.wanted,hg])];exact .inl (step e hs ho)
   rename_i j want hg;obtain⟨d,b,hj,hdN,hsl,h1,h2⟩:=h;rw[aBr hG hg hj hdN hsl];by_cases hb:b=some want
   ·obtain⟨e,hs,ho⟩:=h1 hb;rw[if_pos (by simp[hb])];exact .inl (step e hs ho)
   rw[if_neg (by simp[hb])];exact wY hQ rest _ _ w (h2 hb) ⟨K,φ,hG.put hd (yC _ _ _)⟩
theorem aGu {id:Nat}{ops:Array Oper}(h:Ops P N ops ops.toList S (Q .normal)):VC P N (.region id ops false) S Q:=fun A w0 a w hG=>
 wp_region_list (wY (fun S a w hq hG=>⟨S,hG,hq⟩) ops.toList S a w h hG)
def aJr (P:Program)(S:St):ResultVar->AV->Prop
 | .tmp t,x=>x=S.slots t
 | .cell t ty,x=> ∃h tb cs ag n bt z,S.slots t= .ptr h 0/\S.res h=some (.box tb cs)/\dH P ty=some (ag,n,bt,z)/\((ag=true/\n=cs.length/\x= .agg cs)\/(ag=false/\cs[0]? =some x))
def aJs (P:Program)(S:St):List ResultVar->List AV->Prop
 | [],xs=>xs= []
 | r::rs,xs=> ∃x xs',xs=x::xs' /\aJr P S r x/\aJs P S rs xs'
def aDp:List AV->AV
 | [x]=>x
 | xs=> .tup xs
def aAJ (tmps:Array Value)(r:ResultVar):Sem Value:=match r with | .tmp t=>pure (tmps.getD t undef) | .cell t ty=>do loadVar ty (<-asAddr (tmps.getD t undef))
theorem aFU {A:Nat->Prop}{w0:oR}{a:Act}{w:World}{K:Nat->Prop}{φ:dW}(hG:G K φ A w0 N S a w){r:ResultVar}{x:AV}(h:aJr P S r x):
 ∃v,(aAJ a.tmps r).run P w= .ok v w/\aC K φ w x v:=by
 cases r with
 | tmp t=>
   simp only[aJr] at h;subst h;exact⟨_,rfl,hG.slots t⟩
 | cell t ty=>
   simp only[aJr] at h;obtain⟨k,tb,cs,ag,n,bt,z,h1,h2,h3,h4⟩:=h;obtain⟨g,vs,hp,hB,hone,hl⟩:=hG.boxed h2;have h5:=hG.slots t;rw[h1] at h5;unfold aC at h5;obtain⟨g',he,hq'⟩:=h5;have hg' :=hq' _ hp;simp only[List.cons.injEq,and_true] at hg';subst hg';have hlen:=fD hl;simp only[aMw] at hlen;rcases h4 with ⟨rfl,rfl,rfl⟩ | ⟨rfl,hx⟩
   ·have:=mO h3 w g 0 vs.toList (by simpa using hlen) (fun j v hv=>by rw[hB.cell,<-Array.getElem?_toList,Nat.zero_add];exact hv);refine⟨.agg vs,?_,by unfold aC;exact⟨vs,rfl,hone,hl⟩⟩;simp only[aAJ,he,asAddr,Sem.run_bind,Sem.run_pure,Result.andThen_ok];simpa [Instr.loadAt,Instr.sureAddr] using this
   obtain⟨v,hv,hm⟩:=iP hl hx;have:=jS h3 w g 0 v (by rw[hB.cell,<-Array.getElem?_toList];exact hv);refine⟨v,?_,hm⟩;simp only[aAJ,he,asAddr,Sem.run_bind,Sem.run_pure,Result.andThen_ok];simpa [Instr.loadAt,Instr.sureAddr] using this
theorem aAK {A:Nat->Prop}{w0:oR}{a:Act}{w:World}{K:Nat->Prop}{φ:dW}(hG:G K φ A w0 N S a w): ∀{rs:List ResultVar} {xs:List AV},aJs P S rs xs->
 ∃vs:List Value,(rs.mapM (aAJ a.tmps)).run P w= .ok vs w/\aH K φ w xs vs
 | [],xs,h=>⟨[],by simp,by rw[show xs= [] from h];unfold aH;rfl⟩
 | r::rs,xs,⟨x,xs',e,h1,h2⟩=>by
   subst e;obtain⟨v,q1,q2⟩:=aFU hG h1;obtain⟨vs,q3,q4⟩:=aAK hG h2;refine⟨v::vs,?_,by unfold aH;exact⟨v,vs,rfl,q2,q4⟩⟩;simp only[List.mapM_cons,Sem.run_bind];rw[q1];simp only[Result.andThen_ok,Sem.run_bind];rw[q3];rfl
theorem sU {A:Nat->Prop}{w0:oR}{a:Act}{w:World}{K:Nat->Prop}{φ:dW}{fn:Func}{xs:List AV}(hG:G K φ A w0 N S a w)(h:aJs P S fn.results.toList xs): ∃v,(results fn a.tmps).run P w= .ok v w/\aC K φ w (aDp xs) v:=by
 obtain⟨vs,h1,h2⟩:=aAK hG h;have hl:=fD h2
 have hrun:(results fn a.tmps).run P w= .ok (if h:vs.toArray.size=1 then vs.toArray[0] else .tuple vs.toArray) w:=by
  have e:results fn a.tmps=(do let vs <-fn.results.mapM (aAJ a.tmps);pure (if h:vs.size=1 then vs[0] else .tuple vs)):=by
   unfold results
   congr 1
  rw[e,Array.mapM_eq_mapM_toList];simp only[Sem.run_bind,Sem.run_map,h1];rfl
 refine⟨_,hrun,?_⟩;rcases xs with _ | ⟨x,_ | ⟨y,xs⟩⟩
 ·have:vs= []:=aGC hl;subst this;simp only[aDp];unfold aC;exact⟨#[],rfl,h2⟩
 ·unfold aH at h2;obtain⟨v,vs',rfl,h3,h4⟩:=h2;unfold aH at h4;subst h4;exact h3
 rw[dif_neg (by simp at hl ⊢;omega)];simp only[aDp];unfold aC;exact⟨_,rfl,h2⟩
def aDq:Ar->AV
 | .one x=> .p none x
 | .agg xs=> .agg (xs.map (AV.p none))
 | .ref xs=> .rp none xs
 | .fn f caps=> .fn f (caps.map (AV.rp none))
def S0 (args:List Ar):St:=⟨fun t=>match args[t]? with | some x=>aDq x | none=> .no,fun _=>none⟩
theorem aDr {A:Nat->Prop}{w:World}: ∀{xs:List Ar} {vs:List Value} {i:Nat} {x:Ar},jU A w xs vs->xs[i]? =some x-> ∃v,vs[i]? =some v/\aDm A w x v
 | [],_,_,_,_,h=>by simp at h
 | y::xs,_,0,x,⟨v,vs',e,h1,_⟩,h=>by subst e;simp at h;subst h;exact⟨v,rfl,h1⟩
 | y::xs,_,i+1,x,⟨v,vs',e,_,h2⟩,h=>by
   subst e;simp at h;obtain⟨u,hu,hr⟩:=aDr h2 h;exact⟨u,by simpa using hu,hr⟩
theorem aBs {A:Nat->Prop}{w:World}: ∀{xs:List Ar} {vs:List Value},jU A w xs vs->vs.length=xs.length
 | [],_,h=>by rw[show _= [] from h];rfl
 | y::xs,_,⟨v,vs',e,_,h2⟩=>by subst e;simp[aBs h2]
theorem aAL {A:Nat->Prop}{w:World}{φ:dW}: ∀{xs:List (List aS)} {vs:List Value},aAG A w xs vs->aH A φ w (xs.map (AV.rp none)) vs
 | [],vs,h=>by unfold aAG at h;subst h;unfold List.map aH;rfl
 | x::xs,_,⟨v,vs',e,h1,h2⟩=>by
   subst e;rw[aHl];unfold aH;refine⟨v,vs',rfl,?_,aAL h2⟩;unfold aC;exact h1
theorem aFV {A:Nat->Prop}{w:World}{φ:dW}{x:Ar}{v:Value}(h:aDm A w x v):aC A φ w (aDq x) v:=by
 cases x with
 | one x=>simp only[aDq];unfold aC;exact h
 | ref xs=>simp only[aDq];unfold aC;exact h
 | fn f caps=>
   obtain⟨vs,rfl,hl⟩:=h;simp only[aDq];unfold aC;exact⟨vs,rfl,aAL hl⟩
 | agg xs=>
   obtain⟨vs,rfl,hl⟩:=h;simp only[aDq];obtain⟨h1,h2⟩:=fY (K:=A) (φ:=φ) (w:=w) (o:=none) (fun x v=>by unfold aC;exact Iff.rfl) hl
   have e2:xs.map (pOf none)=xs.map (AV.p none):=by
    apply List.map_congr_left;intro y _;unfold pOf;split<;>rfl
   rw[e2] at h1;unfold aC;exact⟨vs,rfl,h2,h1⟩
theorem aHy {w w' :World}(h:pK (fun _=>False) w w'):Below w.heap.size w w' :=⟨h.os,h.tape,h.output,h.size,fun k hk=>h.block k hk id⟩
theorem aGG {w:World}{φ0:dW}{hd: ∀h pl,φ0 h=some pl->h<100}{b:Nat}(h:oR.mine ⟨w,fun _=>False,φ0,hd⟩ b):w.heap.size<=b:=h.elim id False.elim
end
def aY:List (Nat × AV)->Nat->AV
 | [],_=> .no
 | (k,v)::l,t=>if t=k then v else aY l t
def aO:List (Nat × Option Rs)->Nat->Option Rs
 | [],_=>none
 | (k,r)::l,h=>if h=k then r else aO l h
def mk (sl:List (Nat × AV))(rs:List (Nat × Option Rs)):St:=⟨aY sl,aO rs⟩
theorem aHz (sl:List (Nat × AV))(rs:List (Nat × Option Rs))(d:Nat)(v:AV):(mk sl rs).put (some d) v=mk ((d,v)::sl) rs:=by
 simp only[St.put,mk]
 congr 1
def fC (del:List Nat):List (Nat × Option Rs):=del.map fun h=>(h,none)
def iK (new:List (Nat × Rs)):List (Nat × Option Rs):=new.map fun q=>(q.1,some q.2)
theorem aAM (del:List Nat)(rs:List (Nat × Option Rs))(h:Nat):aO (fC del++rs) h=if h∈del then none else aO rs h:=by
 induction del with
 | nil=>simp[fC]
 | cons k del ih=>
   simp only[fC,aHl,List.cons_append,aO] at*;rw[ih];by_cases e:h=k<;>simp[e]
theorem wZ (new:List (Nat × Rs))(rs:List (Nat × Option Rs))(h:Nat):aO (iK new++rs) h=match aN new h with | some r=>some r | none=>aO rs h:=by
 induction new with
 | nil=>simp[iK,aN]
 | cons q new ih=>
   obtain⟨k,r⟩:=q;simp only[iK,aHl,List.cons_append,aO,aN] at*;rw[ih];by_cases e:h=k<;>simp[e]
theorem aDs (sl:List (Nat × AV))(rs:List (Nat × Option Rs))(d:Nat)(v:AV)(del:List Nat)(new:List (Nat × Rs)):(mk sl rs).apply (some d) ⟨v,del,new⟩=mk ((d,v)::sl) (iK new++(fC del++rs)):=by
 unfold St.apply;rw[<-aHz]
 congr 1
 simp only[mk]
 congr 1
 funext h;rw[wZ,aAM];simp only[cY];cases aN new h<;>rfl
theorem aGv (sl:List (Nat × AV))(rs:List (Nat × Option Rs))(v:AV)(del:List Nat)(new:List (Nat × Rs)):(mk sl rs).apply none ⟨v,del,new⟩=mk sl (iK new++(fC del++rs)):=by
 unfold St.apply;simp only[St.put,mk]
 congr 1
 funext h;rw[wZ,aAM];simp only[cY];cases aN new h<;>rfl
section
variable {P:Program} {N:Nat} {all:Array Oper} {rest:List Oper} {sl:List (Nat × AV)} {rs:List (Nat × Option Rs)} {K:St->Prop} {ty:TypeId} {pos:String} {aft:Array Edge} {d:Nat} {gd:Option (Nat × Bool)}
def bX (sl:List (Nat × AV)):Operand->AV
 | .tmp t=>aY sl t
 | .const v=>avC v
 | .func f=> .fn f []
 | .global _=> .no
theorem bA (sl:List (Nat × AV))(rs:List (Nat × Option Rs))(x:Operand):(mk sl rs).ev x=bX sl x:=by cases x<;>rfl
theorem mS {c x y:Operand}{t:Bool}{v:AV}(hc:bX sl c= .p none (.bool t))(hv:(if t then bX sl x else bX sl y)=v):aQ P ⟨some d,.pick c x y,ty,pos,aft,gd⟩ (mk sl rs) ⟨v,[],[]⟩:=
 by rw[<-hv,<-bA sl rs,<-bA sl rs];exact aFO rfl (by rw[bA];exact hc)
theorem aFW {x:Operand}{i:Nat}{vs:List AV}{v:AV}(hx:bX sl x= .tup vs)(hv:vs[i]? =some v):aQ P ⟨some d,.extract x i,ty,pos,aft,gd⟩ (mk sl rs) ⟨v,[],[]⟩:=
 aBX rfl (by rw[bA];exact hx) hv
theorem aFX {x:Operand}{t e:TypeId}{n:Nat}(ht:P.underlying t=some (.slice e))(hn:aGD (mk sl rs) (bX sl x) n):aQ P ⟨some d,.call { callee:= .builtin .len,args:= #[x],argTypes:= #[t] },ty,pos,aft,gd⟩ (mk sl rs) ⟨.p none (.int .i64 n),[],[]⟩:=
 aGo rfl ht (by rw[bA];exact hn)
theorem fO {o:Op}{x:aS}{v:Value}(hx:x.val? =some v)(hr: ∀(e:Operand->Value) (w:World),(∀y u,aHp (bX sl y)=some u->e y=u)->(execOp e ⟨some d,o,ty,pos,aft,gd⟩).run P w= .ok (.value v) w):aQ P ⟨some d,o,ty,pos,aft,gd⟩ (mk sl rs) ⟨.p none x,[],[]⟩:=
 aFN hx fun e w he=>hr e w fun y u hu=>he y u (by rw[bA];exact hu)
theorem nH {x:AV}{y:aS}{v:Value}(h:x= .p none y)(hv:y.val? =some v):aHp x=some v:=by rw[h];exact hv
section
variable {x y:Operand} {t t' :TypeId} {k:IntKind} {m n:Int}
theorem cU {op:BinOp}{r:aS}{v:Value}(hx:bX sl x= .p none (.int k m))(hy:bX sl y= .p none (.int k n))(hv:r.val? =some v)(hr: ∀w,(binOp op t (.int k m) (.int k n)).run P w= .ok v w):aQ P ⟨some d,.binOp op t x y t',ty,pos,aft,gd⟩ (mk sl rs) ⟨.p none r,[],[]⟩:=
 fO hv (fun e w he=>by
  have h1:=he x _ (nH hx rfl);have h2:=he y _ (nH hy rfl)
  have hg:(eqGuard op t x y (.int k m) (.int k n)).run P w= .ok () w:=by
   unfold eqGuard;cases op<;>rfl
  simp only[execOp,h1,h2,Sem.run_bind,hg,Result.andThen_ok,hr];rfl)
theorem aLX (hx:bX sl x= .p none (.int k m))(hy:bX sl y= .p none (.int k n)):aQ P ⟨some d,.binOp .lss t x y t',ty,pos,aft,gd⟩ (mk sl rs) ⟨.p none (.bool (decide (m<n))),[],[]⟩:=
 cU hx hy rfl (fun w=>by simp[binOp,Op.intCmp])
theorem aLY (hx:bX sl x= .p none (.int k m))(hy:bX sl y= .p none (.int k n)):aQ P ⟨some d,.binOp .leq t x y t',ty,pos,aft,gd⟩ (mk sl rs) ⟨.p none (.bool (decide (m<=n))),[],[]⟩:=
 cU hx hy rfl (fun w=>by simp[binOp,Op.intCmp])
theorem aLZ (hx:bX sl x= .p none (.int k m))(hy:bX sl y= .p none (.int k n)):aQ P ⟨some d,.binOp .gtr t x y t',ty,pos,aft,gd⟩ (mk sl rs) ⟨.p none (.bool (decide (n<m))),[],[]⟩:=
 cU hx hy rfl (fun w=>by simp[binOp,Op.intCmp])
theorem aL0 (hx:bX sl x= .p none (.int k m))(hy:bX sl y= .p none (.int k n)):aQ P ⟨some d,.binOp .geq t x y t',ty,pos,aft,gd⟩ (mk sl rs) ⟨.p none (.bool (decide (n<=m))),[],[]⟩:=
 cU hx hy rfl (fun w=>by simp[binOp,Op.intCmp])
theorem aL1 (hx:bX sl x= .p none (.int k m))(hy:bX sl y= .p none (.int k n)):aQ P ⟨some d,.binOp .eql t x y t',ty,pos,aft,gd⟩ (mk sl rs) ⟨.p none (.bool (decide (m=n))),[],[]⟩:=
 cU hx hy rfl (fun w=>by simp[binOp,Op.intCmp];rfl)
theorem aL2 (hx:bX sl x= .p none (.int k m))(hy:bX sl y= .p none (.int k n)):aQ P ⟨some d,.binOp .neq t x y t',ty,pos,aft,gd⟩ (mk sl rs) ⟨.p none (.bool (!decide (m=n))),[],[]⟩:=
 cU hx hy rfl (fun w=>by simp[binOp,Op.intCmp];rfl)
theorem aL3 (hx:bX sl x= .p none (.int k m))(hy:bX sl y= .p none (.int k n)):aQ P ⟨some d,.binOp .add t x y t',ty,pos,aft,gd⟩ (mk sl rs) ⟨.p none (.int k (k.wrap (m+n))),[],[]⟩:=
 cU hx hy rfl (fun w=>by simp[binOp,Op.intArith])
theorem aL4 (hx:bX sl x= .p none (.int k m))(hy:bX sl y= .p none (.int k n)):aQ P ⟨some d,.binOp .sub t x y t',ty,pos,aft,gd⟩ (mk sl rs) ⟨.p none (.int k (k.wrap (m - n))),[],[]⟩:=
 cU hx hy rfl (fun w=>by simp[binOp,Op.intArith])
theorem aL5 (hx:bX sl x= .p none (.int k m))(hy:bX sl y= .p none (.int k n)):aQ P ⟨some d,.binOp .mul t x y t',ty,pos,aft,gd⟩ (mk sl rs) ⟨.p none (.int k (k.wrap (m*n))),[],[]⟩:=
 cU hx hy rfl (fun w=>by simp[binOp,Op.intArith])
theorem aL6 (hx:bX sl x= .p none (.int k m))(hy:bX sl y= .p none (.int k n))(h0:n≠0):aQ P ⟨some d,.binOp .quo t x y t',ty,pos,aft,gd⟩ (mk sl rs) ⟨.p none (.int k (k.wrap (m.tdiv n))),[],[]⟩:=
 cU hx hy rfl (fun w=>by simp[binOp,Op.intDiv,h0])
theorem aL7 (hx:bX sl x= .p none (.int k m))(hy:bX sl y= .p none (.int k n))(h0:n≠0):aQ P ⟨some d,.binOp .rem t x y t',ty,pos,aft,gd⟩ (mk sl rs) ⟨.p none (.int k (m.tmod n)),[],[]⟩:=
 cU hx hy rfl (fun w=>by simp[binOp,Op.intDiv,h0])
theorem aL8 {b:Bool}(hx:bX sl x= .p none (.bool b)):aQ P ⟨some d,.unOp .not t x,ty,pos,aft,gd⟩ (mk sl rs) ⟨.p none (.bool (!b)),[],[]⟩:=
 fO (x:= .bool (!b)) rfl (fun e w he=>by have h1:=he x _ (nH hx rfl);simp[execOp,h1,Op.unary])
theorem aL9 (hx:bX sl x= .p none (.int k m)):aQ P ⟨some d,.unOp .neg t x,ty,pos,aft,gd⟩ (mk sl rs) ⟨.p none (.int k (k.wrap (0 - m))),[],[]⟩:=
 fO (x:= .int k (k.wrap (0 - m))) rfl (fun e w he=>by have h1:=he x _ (nH hx rfl);simp[execOp,h1,Op.unary,Op.intArith])
end
theorem yD {op:BinOp}{x y:Operand}{t t' :TypeId}{m n:Bool}{r:aS}{v:Value}(hx:bX sl x= .p none (.bool m))(hy:bX sl y= .p none (.bool n))(hv:r.val? =some v)(hr: ∀w,(binOp op t (.bool m) (.bool n)).run P w= .ok v w):aQ P ⟨some d,.binOp op t x y t',ty,pos,aft,gd⟩ (mk sl rs) ⟨.p none r,[],[]⟩:=
 fO hv (fun e w he=>by
  have h1:=he x _ (nH hx rfl);have h2:=he y _ (nH hy rfl)
  have hg:(eqGuard op t x y (.bool m) (.bool n)).run P w= .ok () w:=by
   unfold eqGuard;cases op<;>rfl
  simp only[execOp,h1,h2,Sem.run_bind,hg,Result.andThen_ok,hr];rfl)
theorem aDt {x y:Operand}{t t' :TypeId}{m n:Bool}(hu:P.underlying t=some .bool)(hx:bX sl x= .p none (.bool m))(hy:bX sl y= .p none (.bool n)):aQ P ⟨some d,.binOp .neq t x y t',ty,pos,aft,gd⟩ (mk sl rs) ⟨.p none (.bool (!(m==n))),[],[]⟩:=
 yD hx hy rfl (fun w=>by
  have h:=run_equalIn_bool' (P:=P) w 9999 t m n hu;have h' :(Op.equal t (.bool m) (.bool n)).run P w= .ok (m==n) w:=h;simp only[binOp,Sem.run_bind,h',Result.andThen_ok,Sem.run_pure])
theorem aDu {x y:Operand}{t t' :TypeId}{m n:Bool}(hu:P.underlying t=some .bool)(hx:bX sl x= .p none (.bool m))(hy:bX sl y= .p none (.bool n)):aQ P ⟨some d,.binOp .eql t x y t',ty,pos,aft,gd⟩ (mk sl rs) ⟨.p none (.bool (m==n)),[],[]⟩:=
 yD hx hy rfl (fun w=>by
  have h:=run_equalIn_bool' (P:=P) w 9999 t m n hu;have h' :(Op.equal t (.bool m) (.bool n)).run P w= .ok (m==n) w:=h;simp only[binOp,Sem.run_bind,h',Result.andThen_ok,Sem.run_pure])
theorem lO {op:BinOp}{x y:Operand}{t t' :TypeId}{m n:ByteArray}{r:aS}{v:Value}(hx:bX sl x= .p none (.str m))(hy:bX sl y= .p none (.str n))(hv:r.val? =some v)(hr: ∀w,(binOp op t (.string m) (.string n)).run P w= .ok v w):aQ P ⟨some d,.binOp op t x y t',ty,pos,aft,gd⟩ (mk sl rs) ⟨.p none r,[],[]⟩:=
 fO hv (fun e w he=>by
  have h1:=he x _ (nH hx rfl);have h2:=he y _ (nH hy rfl)
  have hg:(eqGuard op t x y (.string m) (.string n)).run P w= .ok () w:=by
   unfold eqGuard;cases op<;>rfl
  simp only[execOp,h1,h2,Sem.run_bind,hg,Result.andThen_ok,hr];rfl)
theorem aB6 {x y:Operand}{t t' :TypeId}{m n:ByteArray}(hx:bX sl x= .p none (.str m))(hy:bX sl y= .p none (.str n)):aQ P ⟨some d,.binOp .neq t x y t',ty,pos,aft,gd⟩ (mk sl rs) ⟨.p none (.bool (!(m.toList==n.toList))),[],[]⟩:=
 lO hx hy rfl (fun w=>by simp[binOp,Op.stringOp])
theorem aB7 {x y:Operand}{t t' :TypeId}{m n:ByteArray}(hx:bX sl x= .p none (.str m))(hy:bX sl y= .p none (.str n)):aQ P ⟨some d,.binOp .eql t x y t',ty,pos,aft,gd⟩ (mk sl rs) ⟨.p none (.bool (m.toList==n.toList)),[],[]⟩:=
 lO hx hy rfl (fun w=>by simp[binOp,Op.stringOp])
theorem aGw {x:Operand}{s:TypeId}{f off o' hh k i:Nat}{ft:TypeId}{r:Rs}(hf:kS P s f=some (off,ft))(hx:bX sl x= .ep hh k i o')(hr:aO rs hh=some r):aQ P ⟨some d,.fieldAddr s x f,ty,pos,aft,gd⟩ (mk sl rs) ⟨.ep hh k i (o' +off),[],[]⟩:=
 zR rfl hf (by rw[bA];exact hx) ⟨r,hr⟩
theorem aGx {x y:Operand}{t e:TypeId}{k bt hh e' :Nat}{ag dp:Bool}{z:Value}{xs:List (List aS)}{ik:IntKind}{n:Int}(ht:P.underlying t=some (.slice e))(hk:dH P e=some (ag,k,bt,z))(hx:bX sl x= .own hh)(hr:aO rs hh=some (.arr e' k dp xs))(hy:bX sl y= .p none (.int ik n))(h0:0<=n)(hn:n<xs.length):aQ P ⟨some d,.indexAddr t x y,ty,pos,aft,gd⟩ (mk sl rs) ⟨.ep hh k n.toNat 0,[],[]⟩:=
 yZ rfl ht hk (by rw[bA];exact hx) hr (by rw[bA];exact hy) h0 hn
theorem aIA {x:Operand}{t tb:TypeId}{n bt off hh:Nat}{z:Value}{cs vs:List AV}(ht:dH P t=some (true,n,bt,z))(hx:bX sl x= .ptr hh off)(hr:aO rs hh=some (.box tb cs))(hn:off+n<=cs.length)(hv:(cs.drop off).take n=vs):aQ P ⟨some d,.load t x,ty,pos,aft,gd⟩ (mk sl rs) ⟨.agg vs,[],[]⟩:=
 by rw[<-hv];exact pV rfl ht (by rw[bA];exact hx) hr hn
theorem aGy {x:Operand}{t tb:TypeId}{n bt off hh:Nat}{z:Value}{cs:List AV}{v:AV}(ht:dH P t=some (false,n,bt,z))(hx:bX sl x= .ptr hh off)(hr:aO rs hh=some (.box tb cs))(hv:cs[off]? =some v):aQ P ⟨some d,.load t x,ty,pos,aft,gd⟩ (mk sl rs) ⟨v,[],[]⟩:=
 pL rfl ht (by rw[bA];exact hx) hr hv
theorem aDv {x:Operand}{t:TypeId}{n bt hh e k i off:Nat}{dp:Bool}{z:Value}{xs:List (List aS)}{row:List aS}{vs:List AV}(ht:dH P t=some (true,n,bt,z))(hx:bX sl x= .ep hh k i off)(hr:aO rs hh=some (.arr e k dp xs))(hi:xs[i]? =some row)(hn:off+n<=row.length)(hv:((row.drop off).take n).map (pOf (if dp then some hh else none))=vs):aQ P ⟨some d,.load t x,ty,pos,aft,gd⟩ (mk sl rs) ⟨.agg vs,[],[]⟩:=
 by rw[<-hv];exact aB1 rfl ht (by rw[bA];exact hx) hr hi hn
theorem aBt {x:Operand}{t:TypeId}{n bt hh e k i off:Nat}{dp:Bool}{z:Value}{xs:List (List aS)}{row:List aS}{y:aS}{v:AV}(ht:dH P t=some (false,n,bt,z))(hx:bX sl x= .ep hh k i off)(hr:aO rs hh=some (.arr e k dp xs))(hi:xs[i]? =some row)(hy:row[off]? =some y)(hv:pOf (if dp then some hh else none) y=v):aQ P ⟨some d,.load t x,ty,pos,aft,gd⟩ (mk sl rs) ⟨v,[],[]⟩:=
 by rw[<-hv];exact zV rfl ht (by rw[bA];exact hx) hr hi hy
theorem aGz {x y:Operand}{t tb:TypeId}{ag:Bool}{n bt off hh:Nat}{z:Value}{cs cs' :List AV}(ht:dH P t=some (ag,n,bt,z))(hx:bX sl x= .ptr hh off)(hr:aO rs hh=some (.box tb cs))(hc:iA (mk sl rs) (bX sl y))(hn:(cM (bX sl y)).length=n)(hl:off+n<=cs.length)(hv:cs.take off++cM (bX sl y)++cs.drop (off+n)=cs'):aQ P ⟨none,.store t x y,ty,pos,aft,gd⟩ (mk sl rs) ⟨.no,[hh],[(hh,.box tb cs')]⟩:=
 by rw[<-hv,<-bA sl rs];exact zA rfl ht (by rw[bA];exact hx) hr (by rw[bA];exact hc) (by rw[bA];exact hn) hl
theorem aHA {x y:Operand}{t:TypeId}{ag dp:Bool}{n bt off hh e k i:Nat}{z:Value}{xs xs' :List (List aS)}{row ys:List aS}{vs us:List Value}(ht:dH P t=some (ag,n,bt,z))(hx:bX sl x= .ep hh k i off)(hr:aO rs hh=some (.arr e k dp xs))(hi:xs[i]? =some row)(hrow:fB row vs)(hy:cM (bX sl y)=ys.map (AV.p none))(hys:fB ys us)(hn:ys.length=n)(hl:off+n<=row.length)
 (hv:xs.set i (row.take off++ys++row.drop (off+n))=xs'):aQ P ⟨none,.store t x y,ty,pos,aft,gd⟩ (mk sl rs) ⟨.no,[hh],[(hh,.arr e k dp xs')]⟩:=
 by rw[<-hv];exact zY rfl ht (by rw[bA];exact hx) hr hi hrow (by rw[bA];exact hy) hys hn hl
theorem aIB {t:TypeId}{parts:Array (Nat × Operand)}{z:Value}{ps:List (Nat × Nat)}{cs:List AV}(ht:uU P t=some (z,ps))(hc: ∀q∈parts.toList,iA (mk sl rs) (bX sl q.2))(hf:lM (ps.toArray[·]?) (z.cells.toList.map avC) (parts.toList.map fun q=>(q.1,bX sl q.2))=some cs):aQ P ⟨some d,.build t parts,ty,pos,aft,gd⟩ (mk sl rs) ⟨.agg cs,[],[]⟩:=
 aDh rfl ht (fun q hq=>by rw[bA];exact hc q hq) (by rw[<-hf];congr 1)
theorem aHB {S:St}:aAH S [] []:=rfl
theorem aFY {S:St}{x:AV}{y:Ar}{xs:List AV}{ys:List Ar}(h:aDn S x y)(h' :aAH S xs ys):aAH S (x::xs) (y::ys):=⟨y,ys,rfl,h,h'⟩
theorem aIC {S:St}{cs:List AV}{ys:List aS}(h:aB4 S cs ys):aDn S (.agg cs) (.agg ys):=⟨ys,rfl,h⟩
theorem aID {S:St}:aB4 S [] []:=rfl
theorem aHC {S:St}{x:AV}{y:aS}{xs:List AV}{ys:List aS}(h:AsD S x y)(h' :aB4 S xs ys):aB4 S (x::xs) (y::ys):=⟨y,ys,rfl,h,h'⟩
theorem aM7 {S:St}{x:aS}:AsD S (.p none x) x:=⟨trivial,rfl⟩
theorem aLa {h:Nat}{x:aS}{r:Rs}(hr:aO rs h=some r):AsD (mk sl rs) (.p (some h) x) x:=⟨⟨r,hr⟩,rfl⟩
theorem aJt {h e k:Nat}{dp:Bool}{xs:List (List aS)}(hr:aO rs h=some (.arr e k dp xs)):AsD (mk sl rs) (.own h) (.sl e k xs):=⟨e,k,dp,xs,hr,rfl⟩
def aJu (rs:List (Nat × Option Rs)):AV->Option aS
 | .p none x=>some x
 | .p (some h) x=>match aO rs h with | some _=>some x | none=>none
 | .own h=>match aO rs h with | some (.arr e k _ xs)=>some (.sl e k xs) | _=>none
 | .nil=>some (.sl 0 1 [])
 | _=>none
def aBu (rs:List (Nat × Option Rs)):List AV->Option (List aS)
 | []=>some []
 | x::xs=>match aJu rs x with | some y=>(match aBu rs xs with | some ys=>some (y::ys) | none=>none) | none=>none
def aAN (rs:List (Nat × Option Rs)):AV->Option (List aS)
 | .rp none xs=>some xs
 | .rp (some h) xs=>match aO rs h with | some _=>some xs | none=>none
 | .ptr h off=>match aO rs h with | some (.box _ cs)=>(match aBu rs (cs.drop off) with | some (y::ys)=>some (y::ys) | _=>none) | _=>none
 | _=>none
def uZ (rs:List (Nat × Option Rs)):List AV->Option (List (List aS))
 | []=>some []
 | x::xs=>match aAN rs x with | some y=>(match uZ rs xs with | some ys=>some (y::ys) | none=>none) | none=>none
def aIE (rs:List (Nat × Option Rs)):AV->Option Ar
 | .agg cs=>match aBu rs cs with | some ys=>some (.agg ys) | none=>none
 | .fn f cs=>match uZ rs cs with | some ys=>some (.fn f ys) | none=>none
 | .rp o xs=>match aAN rs (.rp o xs) with | some ys=>some (.ref ys) | none=>none
 | .ptr h off=>match aAN rs (.ptr h off) with | some ys=>some (.ref ys) | none=>none
 | x=>match aJu rs x with | some y=>some (.one y) | none=>none
def xA (rs:List (Nat × Option Rs)):List AV->Option (List Ar)
 | []=>some []
 | x::xs=>match aIE rs x with | some y=>(match xA rs xs with | some ys=>some (y::ys) | none=>none) | none=>none
theorem aGH {x:AV}{y:aS}(h:aJu rs x=some y):AsD (mk sl rs) x y:=by
 unfold aJu at h;split at h
 ·injection h with h;subst h;exact aM7
 ·split at h
  ·rename_i hr;injection h with h;subst h;exact aLa hr
  cases h
 ·split at h
  ·rename_i hr;injection h with h;subst h;exact aJt hr
  cases h
 ·injection h with h;subst h;exact⟨0,1,rfl⟩
 cases h
theorem aDw {A:Nat->Prop}{w:World}{e k:Nat}{v:Value}:dR A w (.sl e k []) v↔ ∃a c,v= .slice a 0 c/\c<=maxLen:=by
 unfold dR dI;constructor
 ·rintro⟨a,c,e,_,h,_⟩;exact⟨a,c,e,h⟩
 rintro⟨a,c,e,h⟩;exact⟨a,c,e,aB2 _,h,trivial⟩
theorem zC.imp {P:Program}{f:FuncId}{ys ys' :List Ar}{rv:AV}{rr:List (Nat × Rs)}(h: ∀A w vs,jU A w ys vs->jU A w ys' vs)(hC:zC P f ys' rv rr):zC P f ys rv rr:=⟨hC.1,fun A w vs hA hv=>hC.2 A w vs hA (h A w vs.toList hv)⟩
theorem aAO: ∀{xs:List AV} {ys:List aS},aBu rs xs=some ys->aB4 (mk sl rs) xs ys
 | [],ys,h=>by unfold aBu at h;injection h with h;subst h;exact aID
 | x::xs,ys,h=>by
   unfold aBu at h;split at h
   ·rename_i y hy;split at h
    ·rename_i zs hz;injection h with h
     subst h;exact aHC (aGH hy) (aAO hz)
    cases h
   cases h
theorem xB {x:AV}{y:List aS}(h:aAN rs x=some y):aBo (mk sl rs) x y:=by
 unfold aAN at h;split at h
 ·injection h with h;subst h;exact⟨trivial,rfl⟩
 ·split at h
  ·rename_i hr;injection h with h;subst h;exact⟨⟨_,hr⟩,rfl⟩
  cases h
 ·split at h
  ·rename_i hr;split at h
   ·rename_i hd;injection h with h;subst h;exact⟨_,_,hr,aAO hd,by simp⟩
   cases h
  cases h
 cases h
theorem aAP: ∀{xs:List AV} {ys:List (List aS)},uZ rs xs=some ys->aCv (mk sl rs) xs ys
 | [],ys,h=>by unfold uZ at h;injection h with h;subst h;exact rfl
 | x::xs,ys,h=>by
   unfold uZ at h;split at h
   ·rename_i y hy;split at h
    ·rename_i zs hz;injection h with h
     subst h;exact⟨y,zs,rfl,xB hy,aAP hz⟩
    cases h
   cases h
theorem aIF {x:AV}{y:Ar}(h:aIE rs x=some y):aDn (mk sl rs) x y:=by
 unfold aIE at h;split at h
 ·split at h
  ·rename_i hy;injection h with h;subst h;exact aIC (aAO hy)
  cases h
 ·split at h
  ·rename_i hy;injection h with h;subst h;exact⟨_,rfl,aAP hy⟩
  cases h
 ·split at h
  ·rename_i hy;injection h with h;subst h;exact⟨_,rfl,xB hy⟩
  cases h
 ·split at h
  ·rename_i hy;injection h with h;subst h;exact⟨_,rfl,xB hy⟩
  cases h
 rename_i hna hnf hnr hnp;split at h
 ·rename_i z hz;injection h with h
  subst h;have hd:=aGH (sl:=sl) hz;cases x with
  | agg cs=>exact absurd rfl (hna cs)
  | fn f cs=>exact absurd rfl (hnf f cs)
  | rp o xs=>exact absurd rfl (hnr o xs)
  | ptr h off=>exact absurd rfl (hnp h off)
  | _=>exact⟨z,rfl,hd⟩
 cases h
theorem aBv: ∀{xs:List AV} {ys:List Ar},xA rs xs=some ys->aAH (mk sl rs) xs ys
 | [],ys,h=>by unfold xA at h;injection h with h;subst h;exact aHB
 | x::xs,ys,h=>by
   unfold xA at h;split at h
   ·rename_i y hy;split at h
    ·rename_i zs hz;injection h with h
     subst h;exact aFY (aIF hy) (aBv hz)
    cases h
   cases h
theorem aLb {id:Nat}{l:List Oper}{S:St}{Q:Exit->St->Prop}(h:Ops P N l.toArray l S (Q .normal)):VC P N (.region id l.toArray false) S Q:=aGu (by simpa using h)
end
section
variable {P:Program} {N:Nat}
theorem pK.mono {U U' :Nat->Prop}{w w' :World}(h:pK U w w')(hU: ∀b,U b->U' b):pK U' w w' :=⟨h.os,h.tape,h.output,h.size,fun k hk hn=>h.block k hk (fun hu=>hn (hU k hu))⟩
theorem aQ.lift {o:Oper}{V S:St}{e:Eff}(hs:aQ P o V e)(h1: ∀t,V.slots t= .no\/S.slots t=V.slots t)(hV: ∀h r,V.res h=some r->S.res h=some r)
 (hm1: ∀t h,h∈bD (V.slots t)->S.res h=V.res h) (hm2: ∀h0 r h,V.res h0=some r->h∈eD r->S.res h=V.res h) (hm3: ∀h,h∈bD e.v->aN e.new h=none->S.res h=V.res h)
 (hm4: ∀k r h,aN e.new k=some r->h∈eD r->aN e.new h=none->S.res h=V.res h) (hnew: ∀h r,aN e.new h=some r->((∃r',V.res h=some r')/\h∈e.del)\/dS S h):aQ P o S e:=by
 intro K φ A w0 N a w Q hd hG
 have hφ1: ∀h pl,(match V.res h with | some _=>φ h | none=>none)=some pl->(∃r,V.res h=some r)/\φ h=some pl:=fun h pl e=>by
  split at e
  ·rename_i r hr;exact⟨⟨r,hr⟩,e⟩
  cases e
 have hφ1' : ∀h r,V.res h=some r->(match V.res h with | some _=>φ h | none=>none)=φ h:=fun h r hr=>by rw[hr]
 generalize hφ:(fun h=>match V.res h with | some _=>φ h | none=>none:dW)=φ1;have p1: ∀h pl,φ1 h=some pl->(∃r,V.res h=some r)/\φ h=some pl:=fun h pl e=>hφ1 h pl (by rw[<-hφ] at e;exact e);have p2: ∀h r,V.res h=some r->φ1 h=φ h:=fun h r hr=>by rw[<-hφ];exact hφ1' h r hr
 have p3: ∀h,V.res h=none->φ1 h=none:=fun h hr=>by rw[<-hφ];simp[hr]
 clear hφ1 hφ1' hφ
 have G1:G K φ1 A w0 N V a w:=by
  refine⟨fun h r hr=>?_,p3,fun h h' pl pl' hne e e' =>hG.disj h h' pl pl' hne (p1 h pl e).2 (p1 h' pl' e').2,fun h pl e=>hG.nodup h pl (p1 h pl e).2,fun h pl e=>hG.ge h pl (p1 h pl e).2,hG.kin,fun b hb h pl e=>hG.kout b hb h pl (p1 h pl e).2,hG.aK,fun t=>?_,hG.bel,hG.nd,hG.size,fun h pl pl0 e=>hG.pin h pl pl0 (p1 h pl e).2⟩
  ·obtain⟨pl,hp,hh⟩:=hG.dom h r (hV h r hr);exact⟨pl,by rw[p2 h r hr];exact hp,Holds.mono (fun _ _=>rfl) (fun _ h=>h) (fun _ _=>rfl) r (fun h' pl' _ e=>⟨(p1 h' pl' e).2,fun _ _=>rfl⟩) hh⟩
  rcases h1 t with e | e
  ·rw[e];unfold aC;trivial
  rw[<-e];exact aC.mono (fun _ _=>rfl) (fun _ h=>h) _ _ (fun h' pl' _ e=>⟨(p1 h' pl' e).2,fun _ _=>rfl⟩) (hG.slots t)
 refine Oper.wp_mono (fun a' w' ⟨K',φ',v,ha,G',tr⟩=>?_) (hs K φ1 A w0 N a w Q hd G1);have hfoot: ∀b,dF φ1 (· ∈e.del) b->dF φ (· ∈e.del) b:=fun b ⟨h,pl,hc,hp,hb⟩=>⟨h,pl,hc,(p1 h pl hp).2,hb⟩;have hres: ∀h,(V.apply o.dst e).res h=cY (· ∈e.del) (aN e.new) V.res h:=fun h=>by unfold St.apply St.put;cases o.dst<;>rfl
 have hnewdom: ∀h r,aN e.new h=some r-> ∃pl,φ' h=some pl/\Holds K' φ' w' pl r:=fun h r hr=>G'.dom h r (by rw[hres];simp[cY,hr])
 have hφr: ∀h pl,(if (aN e.new h).isSome then φ' h else none)=some pl->(∃r,aN e.new h=some r)/\φ' h=some pl:=fun h pl e' =>by
  split at e'
  ·rename_i hx;exact⟨Option.isSome_iff_exists.1 hx,e'⟩
  cases e'
 have hsame: ∀h pl,(aN e.new h=none->S.res h=V.res h)->bO (· ∈e.del) (fun h=>if (aN e.new h).isSome then φ' h else none) φ h=some pl->φ' h=some pl:=fun h pl hh e' =>by
  rcases aV e' with e' | ⟨e0,hc,e'⟩
  ·exact(hφr h pl e').2
  cases hx:aN e.new h with
  | some r=>
    obtain⟨pl',hp',_⟩:=hnewdom h r hx;simp[hx,hp'] at e0
  | none=>
    have hs' :=hh hx;cases hv:V.res h with
    | none=>rw[hv] at hs';rw[hG.non h hs'] at e';cases e'
    | some r=>
      obtain⟨pl',hp',_⟩:=G'.dom h r (by rw[hres];simp[cY,hx,hc,hv]);rcases tr.ph h pl' hp' with q | ⟨q,_⟩
      ·rw[p2 h r hv,e'] at q;injection q with q
       subst q;exact hp'
      rw[p2 h r hv,e'] at q;cases q
 have hold: ∀h pl,¬dS S h->(if (aN e.new h).isSome then φ' h else none)=some pl->φ h=some pl/\cH (· ∈pl.sub) w w' :=fun h pl hnf e' =>by
  obtain⟨⟨r,hr⟩,e'⟩:=hφr h pl e';rcases hnew h r hr with ⟨⟨r',hr'⟩,_⟩ | hf
  ·rcases tr.ph h pl e' with q | ⟨q,_⟩
   ·exact⟨(p1 h pl q).2,tr.sub h pl e' q⟩
   obtain⟨pl0,hp0,_⟩:=G1.dom h r' hr';rw[q] at hp0;cases hp0
  exact absurd hf hnf
 have hstep:=hG.step (C:=(· ∈e.del)) (φr:=fun h=>if (aN e.new h).isSome then φ' h else none) (ρ:=aN e.new) (K' :=K') (w' :=w')
  (tr.chg.mono hfoot)
  (fun h pl e' =>by
   obtain⟨⟨r,hr⟩,e'⟩:=hφr h pl e';refine⟨G'.nodup h pl e',fun g hg=>⟨(G'.ge h pl e' g hg).2,?_⟩⟩;rcases tr.ph h pl e' with q | ⟨_,_,q⟩
   ·rcases hnew h r hr with ⟨_,hdl⟩ | hf
    ·exact .inr ⟨h,pl,hdl,(p1 h pl q).2,hg⟩
    have:=(p1 h pl q).2;rw[hG.non h hf.2.2.1] at this;cases this
   rcases q g hg with q | q
   ·exact .inl q
   exact .inr (hfoot g q))
  (fun h h' pl pl' hne e1 e2=>G'.disj h h' pl pl' hne (hφr h pl e1).2 (hφr h' pl' e2).2)
  (fun h r hr=>by
   obtain⟨pl,hp,hh⟩:=hnewdom h r hr;exact⟨pl,by simp[hr,hp],Holds.mono (fun _ _=>rfl) (fun _ h=>h) (fun _ _=>rfl) r (fun h' pl' hm' e' =>⟨hsame h' pl' (hm4 h r h' hr hm') e',fun _ _=>rfl⟩) hh⟩)
  (fun h hr=>by simp[hr])
  tr.kk
  (fun b hb=>by
   rcases tr.kk' b hb with q | q
   ·exact .inl q
   refine .inr ⟨(G'.kin b hb).1,?_,fun h pl e' =>G'.kout b hb h pl (hφr h pl e').2⟩;rcases q with q | q
   ·exact .inl q
   exact .inr (hfoot b q))
  (fun t h pl hm' e' =>hold h pl (fun hf=>hf.1 t hm') e')
  (fun h' r h pl _ hr hm' e' =>hold h pl (fun hf=>hf.2.1 h' r hr hm') e')
  (fun h pl e' =>by
   obtain⟨⟨r,hr⟩,e'⟩:=hφr h pl e';rcases hnew h r hr with ⟨⟨r',hr'⟩,_⟩ | hf
   ·rcases tr.ph h pl e' with q | ⟨q,_⟩
    ·exact .inl (p1 h pl q).2
    obtain⟨pl0,hp0,_⟩:=G1.dom h r' hr';rw[q] at hp0;cases hp0
   exact .inr hf.2.2.2)
 refine⟨K',bO (· ∈e.del) (fun h=>if (aN e.new h).isSome then φ' h else none) φ,v,ha,?_,⟨tr.chg.mono hfoot,tr.kk,fun b hb=>?_,fun h pl e' =>?_,fun h pl e' e2=>?_⟩⟩
 ·have hsl: ∀d,o.dst=some d->aC K' (bO (· ∈e.del) (fun h=>if (aN e.new h).isSome then φ' h else none) φ) w' e.v v:=fun d hdst=>by
   have hsl:=G'.slots d;have h2:(V.apply o.dst e).slots d=e.v:=by rw[hdst];simp[St.apply,St.put,upd]
   rw[h2,ha,hdst] at hsl;simp only[Act.put] at hsl;rw[Array.getD_eq_getD_getElem?,Array.getElem?_setIfInBounds_self_of_lt (by rw[hG.size];exact hd d hdst)] at hsl;exact aC.mono (K:=K') (φ:=φ') (w:=w') (fun _ _=>rfl) (fun _ h=>h) e.v v (fun h' pl' hm' e' =>⟨hsame h' pl' (hm3 h' hm') e',fun _ _=>rfl⟩) hsl
  rw[ha];cases hdst:o.dst with
  | none=>exact hstep
  | some d=>exact hstep.put (d:=some d) (fun d' e' =>by injection e' with e';subst e';exact hd d hdst) (hsl d hdst)
 ·rcases tr.kk' b hb with q | q | q
  ·exact .inl q
  ·exact .inr (.inl q)
  exact .inr (.inr (hfoot b q))
 ·rcases aV e' with e' | ⟨_,_,e'⟩
  ·obtain⟨⟨r,hr⟩,e'⟩:=hφr h pl e';rcases tr.ph h pl e' with q | ⟨q1,q2,q3⟩
   ·exact .inl (p1 h pl q).2
   rcases hnew h r hr with ⟨⟨r',hr'⟩,_⟩ | hf
   ·obtain⟨pl0,hp0,_⟩:=G1.dom h r' hr';rw[q1] at hp0;cases hp0
   exact .inr ⟨hG.non h hf.2.2.1,q2,fun g hg=>by rcases q3 g hg with q | q;exact .inl q;exact .inr (hfoot g q)⟩
  exact .inl e'
 rcases aV e' with e' | ⟨_,hc,e'⟩
 ·obtain⟨⟨r,hr⟩,e3⟩:=hφr h pl e';exact(hold h pl (fun hf=>by rw[hG.non h hf.2.2.1] at e2;cases e2) e').2
 intro g hg
 exact(tr.chg.mono hfoot).block g (hG.ge h pl e' g (aFK _ hg)).2 (fun ⟨h3,pl3,hc3,q3,hm3'⟩=>by
  by_cases ex:h=h3
  ·subst ex;exact hc hc3
  exact hG.disj h h3 pl pl3 ex e' q3 g (aFK _ hg) hm3')
end
structure dT where
 i:Nat
 o:Oper
 skip:Bool
 vs:List (Nat × AV)
 vr:List (Nat × Option Rs)
 e:Eff
def dT.fr (r:dT):Bool:=match r.vr with | (99,none)::_=>true | _=>false
def dT.W (r:dT):List Nat:=if r.skip then [] else r.e.del++r.e.new.map (·.1)
def dT.Nw (r:dT):List Nat:=if r.skip then [] else (r.e.new.map (·.1)).filter fun h=> !r.e.del.contains h
def dT.M (r:dT):List Nat:=if r.skip then [] else bD r.e.v++(r.e.new.map fun q=>eD q.2).flatten
def dT.T (r:dT):List Nat:=if r.skip then [] else if r.fr then (r.vr.drop 1).map (·.1) else r.vr.map (·.1)++(r.vs.map fun q=>bD q.2).flatten++(r.vr.map fun q=>match q.2 with | some r=>eD r | none=>[]).flatten++r.M
def dT.gs (ops:Array Oper)(r:dT):List Nat:=match r.o.guard with | some (j,_)=>((ops[j]?).bind (·.dst)).toList | none=>[]
def dT.looks (ops:Array Oper)(r:dT):List Nat:=r.vs.map (·.1)++r.gs ops
def dT.next (r:dT)(S:St):St:=if r.skip then S.put r.o.dst (.tup []) else S.apply r.o.dst r.e
def vA (a b:List Nat):Bool:=a.all fun h=> !b.contains h
theorem iQ {a b:List Nat}(h:vA a b=true): ∀x∈a,x ∉ b:=by
 unfold vA at h;simp only[aFJ,Bool.not_eq_true',List.contains_eq_mem,decide_eq_false_iff_not] at h;exact h
def aAQ (ops:Array Oper)(x y:dT):Bool:=
 vA x.o.dst.toList (y.looks ops++y.o.dst.toList)&&vA y.o.dst.toList (x.looks ops)&&vA x.W (y.T++y.W)&&vA y.W x.T
def aM8 (x y:dT):Bool:=vA x.Nw (y.M++y.W)
def lP (ops:Array Oper):Nat->Nat->Array Edge->Bool
 | 0,_,_=>false
 | n+1,x,es=>es.any fun e=>Region.binds .any e&&(Nat.beq e.on x || (match ops[e.on]? with | some o=>lP ops n x o.after | none=>false))
def aCy (ops:Array Oper)(x y:dT):Bool:=lP ops ops.size x.i y.o.after
def qA (ops:Array Oper)(x y:dT):Bool:=(aCy ops x y || (aAQ ops x y&&aM8 x y))&&aM8 y x
def lQ (ops:Array Oper):List dT->Bool
 | []=>true
 | x::l=>l.all (fun y=>decide (x.i<y.i)&&qA ops x y)&&x.o.after.all (fun e=> !Region.binds .any e || decide (e.on<x.i))&&(x.skip || x.e.new.all fun q=> !x.e.del.contains q.1 || (aO x.vr q.1).isSome)&&lQ ops l
section
variable {P:Program} {N:Nat} {ops:Array Oper}
def tH (P:Program)(r:dT):Prop:=(r.fr=false->aQ P r.o (mk r.vs r.vr) r.e)/\(r.fr=true-> ∀S:St,(∀t∈r.vs.map (·.1),S.slots t=aY r.vs t)->(∀h∈r.T,S.res h=aO r.vr h)->aQ P r.o S r.e)
def Ok (P:Program)(N:Nat)(ops:Array Oper)(r:dT)(S:St):Prop:=
 ops[r.i]? =some r.o/\(∀d,r.o.dst=some d->d<N)/\
 (match r.o.guard with
  | none=>r.skip=false
  | some (j,want)=> ∃d b,(ops[j]?).bind (·.dst)=some d/\d<N/\gvA (S.slots d)=some b/\r.skip=(b !=some want))/\
 (r.skip=false->tH P r/\(∀t∈r.vs.map (·.1),S.slots t=aY r.vs t)/\ ∀h∈r.T,S.res h=aO r.vr h)
def tI (P:Program)(N:Nat)(ops:Array Oper):List dT->St->(St->Prop)->Prop
 | [],S,K=>K S
 | r::l,S,K=>Ok P N ops r S/\tI P N ops l (r.next S) K
theorem aBw {r:dT}{S:St}{t:Nat}(h:r.o.dst≠some t):(r.next S).slots t=S.slots t:=by
 unfold dT.next
 have put: ∀(S:St) v,(S.put r.o.dst v).slots t=S.slots t:=fun S v=>by
  cases hd:r.o.dst with
  | none=>rfl
  | some d=>simp only[St.put,upd];rw[if_neg (fun e=>h (by rw[hd,e]))]
 split
 ·exact put S _
 unfold St.apply;exact put _ _
theorem gJ {r:dT}{S:St}{h:Nat}(hw:h ∉ r.W):(r.next S).res h=S.res h:=by
 unfold dT.next;have put: ∀(S:St) v,(S.put r.o.dst v).res=S.res:=fun S v=>by cases r.o.dst<;>rfl
 split
 ·rw[put]
 rename_i hs;unfold dT.W at hw;rw[if_neg hs] at hw;simp only[aFZ,not_or] at hw;unfold St.apply;rw[put];simp only[cY]
 have:aN r.e.new h=none:=by
  cases hf:aN r.e.new h with
  | none=>rfl
  | some x=>exact absurd (aJl.2 ⟨_,bK hf,rfl⟩) hw.2
 rw[this];simp[hw.1]
theorem Ok.swap {x y:dT}{S:St}(h:Ok P N ops y (x.next S))(hd: ∀t∈x.o.dst.toList,t ∉ y.looks ops)(hw: ∀k∈x.W,k ∉ y.T):Ok P N ops y S:=by
 have hsl: ∀t∈y.looks ops,(x.next S).slots t=S.slots t:=fun t ht=>aBw (fun e=>hd t (by simp[e]) ht);obtain⟨h1,h2,h3,h4⟩:=h;refine⟨h1,h2,?_,fun hs=>?_⟩
 ·split at h3
  ·exact h3
  rename_i j want hg;obtain⟨d,b,q1,q2,q3,q4⟩:=h3;exact⟨d,b,q1,q2,by rw[<-q3];exact congrArg gvA (hsl d (by simp[dT.looks,dT.gs,hg,q1])).symm,q4⟩
 obtain⟨q1,q2,q3⟩:=h4 hs;exact⟨q1,fun t ht=>by rw[<-q2 t ht];exact(hsl t (by simp only[dT.looks,aFZ];exact .inl ht)).symm,fun k hk=>by rw[<-q3 k hk];exact(gJ (fun e=>hw k e hk)).symm⟩
theorem Ok.swap' {x y:dT}{S:St}(h:Ok P N ops x S)(hd: ∀t∈y.o.dst.toList,t ∉ x.looks ops)(hw: ∀k∈y.W,k ∉ x.T):Ok P N ops x (y.next S):=by
 have hsl: ∀t∈x.looks ops,(y.next S).slots t=S.slots t:=fun t ht=>aBw (fun e=>hd t (by simp[e]) ht);obtain⟨h1,h2,h3,h4⟩:=h;refine⟨h1,h2,?_,fun hs=>?_⟩
 ·split at h3
  ·exact h3
  rename_i j want hg;obtain⟨d,b,q1,q2,q3,q4⟩:=h3;exact⟨d,b,q1,q2,by rw[<-q3];exact congrArg gvA (hsl d (by simp[dT.looks,dT.gs,hg,q1])),q4⟩
 obtain⟨q1,q2,q3⟩:=h4 hs;exact⟨q1,fun t ht=>by rw[<-q2 t ht];exact hsl t (by simp only[dT.looks,aFZ];exact .inl ht),fun k hk=>by rw[<-q3 k hk];exact gJ (fun e=>hw k e hk)⟩
def dT.v (r:dT):AV:=if r.skip then .tup [] else r.e.v
theorem lR (r:dT)(S:St):(r.next S).slots=match r.o.dst with | some d=>upd S.slots d r.v | none=>S.slots:=by
 unfold dT.next dT.v;split<;>cases r.o.dst<;>rfl
theorem nU (r:dT)(S:St):(r.next S).res=if r.skip then S.res else cY (· ∈r.e.del) (aN r.e.new) S.res:=by
 unfold dT.next;split<;>(try unfold St.apply)<;>cases r.o.dst<;>rfl
theorem St.ext' {S S' :St}(h1:S.slots=S'.slots)(h2:S.res=S'.res):S=S' :=by cases S;cases S';simp_all
theorem aHD {x y:dT}{S:St}(hd: ∀t∈x.o.dst.toList,t ∉ y.o.dst.toList)(hw: ∀k∈x.W,k ∉ y.W):y.next (x.next S)=x.next (y.next S):=by
 apply St.ext'
 ·rw[lR,lR,lR,lR];cases hx:x.o.dst with
  | none=>cases hy:y.o.dst<;>rfl
  | some dx=>
    cases hy:y.o.dst with
    | none=>rfl
    | some dy=>
      have hne:dx≠dy:=fun e=>hd dx (by simp[hx]) (by simp[hy,e]);funext t;simp only[upd];by_cases h1:t=dx
      ·subst h1;simp[hne]
      by_cases h2:t=dy
      ·subst h2;simp[h1]
      simp[h1,h2]
 funext h;by_cases h1:h∈x.W
 ·have h2:=hw h h1;rw[gJ h2];by_cases h3:x.skip=true
  ·unfold dT.W at h1;simp[h3] at h1
  rw[nU x,nU x,if_neg h3,if_neg h3];simp only[cY];rw[gJ h2]
 rw[gJ (r:=x) h1];by_cases h2:h∈y.W
 ·by_cases h3:y.skip=true
  ·unfold dT.W at h2;simp[h3] at h2
  rw[nU y,nU y,if_neg h3,if_neg h3];simp only[cY];rw[gJ h1]
 rw[gJ h2,gJ h2,gJ h1]
theorem tI.bubble {y:dT}{l2:List dT}{K:St->Prop}: ∀{l1:List dT} {S:St},tI P N ops (l1++y::l2) S K->(∀x∈l1,aAQ ops x y=true)->Ok P N ops y S/\tI P N ops (l1++l2) (y.next S) K
 | [],S,h,_=>h
 | x::l1,S,h,ha=>by
   obtain⟨h1,h2⟩:=h;obtain⟨h3,h4⟩:=tI.bubble h2 (fun z hz=>ha z (by simp[hz]));have:=ha x (by simp);simp only[aAQ,aBT] at this;obtain⟨⟨⟨q1,q2⟩,q3⟩,q4⟩:=this;have q1:=iQ q1;have q2:=iQ q2;have q3:=iQ q3;have q4:=iQ q4;refine⟨h3.swap (fun t ht hm=>q1 t ht (aHk _ hm)) (fun k hk hm=>q3 k hk (aHk _ hm)),h1.swap' q2 q4,?_⟩;rw[<-aHD (fun t ht hm=>q1 t ht (aFK _ hm)) (fun k hk hm=>q3 k hk (aFK _ hm))];exact h4
theorem tI.bubble' {y:dT}{l2:List dT}{K:St->Prop}: ∀{l1:List dT} {S:St},tI P N ops (l1++y::l2) S K->ops[y.i]? =some y.o/\True
 | [],S,h=>⟨h.1.1,trivial⟩
 | x::l1,S,h=>tI.bubble' h.2
theorem aHE {l:List (Nat × AV)}{t:Nat}(h:aY l t≠ .no):t∈l.map (·.1):=by
 induction l with
 | nil=>simp[aY] at h
 | cons q l ih=>
   obtain⟨k,v⟩:=q;simp only[aY] at h;split at h
   ·simp_all
   simp[ih h]
theorem aDx {l:List (Nat × AV)}{t h:Nat}(hm:h∈bD (aY l t)):h∈(l.map fun q=>bD q.2).flatten:=by
 induction l with
 | nil=>simp[aY,bD] at hm
 | cons q l ih=>
   obtain⟨k,v⟩:=q;simp only[aY] at hm;simp only[aHl,aJj,aFZ];split at hm
   ·exact .inl hm
   exact .inr (ih hm)
theorem aBx {l:List (Nat × Option Rs)}{h:Nat}{r:Rs}(e:aO l h=some r):h∈l.map (·.1)/\ ∀k∈eD r,k∈(l.map fun q=>match q.2 with | some r=>eD r | none=>[]).flatten:=by
 induction l with
 | nil=>simp[aO] at e
 | cons q l ih=>
   obtain⟨k,v⟩:=q;simp only[aO] at e;split at e
   ·subst e;rename_i hk;subst hk;exact⟨by simp,fun k hk=>by simp[hk]⟩
   obtain⟨q1,q2⟩:=ih e;exact⟨by simp at q1 ⊢;exact .inr q1,fun k hk=>by simp only[aHl,aJj,aFZ];exact .inr (q2 k hk)⟩
theorem Ok.sound {r:dT}{S:St}(h:Ok P N ops r S)(hs:r.skip=false)(hf: ∀k∈r.Nw,dS S k)(hn:(r.e.new.all fun q=> !r.e.del.contains q.1 || (aO r.vr q.1).isSome)=true):aQ P r.o S r.e:=by
 obtain⟨_,_,_,h4⟩:=h;obtain⟨q1,q2,q3⟩:=h4 hs;cases hfr:r.fr with
 | true=>exact q1.2 hfr S q2 q3
 | false=>
 replace q1:=q1.1 hfr
 have hT: ∀k,k∈r.vr.map (·.1)\/k∈(r.vs.map fun q=>bD q.2).flatten\/k∈(r.vr.map fun q=>match q.2 with | some r=>eD r | none=>[]).flatten\/k∈r.M->S.res k=aO r.vr k:=fun k hk=>q3 k (by
  unfold dT.T;rw[hs,hfr];simp only[Bool.false_eq_true,if_false,aFZ];rcases hk with hk | hk | hk | hk<;>simp[hk])
 have hM: ∀k,k∈bD r.e.v\/k∈(r.e.new.map fun q=>eD q.2).flatten->k∈r.M:=fun k hk=>by
  unfold dT.M;rw[hs];simp only[Bool.false_eq_true,if_false,aFZ];exact hk
 refine q1.lift (fun t=>?_) (fun k x hx=>?_) (fun t k hk=>?_) (fun k0 x k hx hk=>?_) (fun k hk _=>hT k (.inr (.inr (.inr (hM k (.inl hk)))))) (fun k x h' hx hk _=>?_) (fun k x hx=>?_)
 ·by_cases e:aY r.vs t= .no
  ·exact .inl e
  exact .inr (q2 t (aHE e))
 ·rw[hT k (.inl (aBx hx).1)];exact hx
 ·exact hT k (.inr (.inl (aDx hk)))
 ·exact hT k (.inr (.inr (.inl ((aBx hx).2 k hk))))
 ·exact hT h' (.inr (.inr (.inr (hM h' (.inr (List.mem_flatten.2 ⟨_,aJl.2 ⟨_,bK hx,rfl⟩,hk⟩))))))
 by_cases e:k∈r.e.del
 ·refine .inl ⟨?_,e⟩;have:=aFJ.1 hn _ (bK hx);simp only[List.contains_eq_mem,e,decide_true,Bool.not_true,Bool.false_or] at this;exact Option.isSome_iff_exists.1 this
 exact .inr (hf k (by
  unfold dT.Nw;rw[hs];simp only[Bool.false_eq_true,if_false,aMu,List.contains_eq_mem,e,decide_false,Bool.not_false,and_true];exact aJl.2 ⟨_,bK hx,rfl⟩))
theorem dS.next {r:dT}{S:St}{k:Nat}(hf:dS S k)(h:k ∉ r.M++r.W):dS (r.next S) k:=by
 simp only[aFZ,not_or] at h;refine⟨fun t ht=>?_,fun h' x hx hm=>?_,by rw[gJ h.2];exact hf.2.2.1,hf.2.2.2⟩
 ·rw[lR] at ht
  have hv:k ∉ bD r.v:=fun hm=>by
   unfold dT.v at hm;split at hm
   ·simp[bD,dB] at hm
   rename_i hs;exact h.1 (by unfold dT.M;rw[if_neg hs];exact aHk _ hm)
  cases hd:r.o.dst with
  | none=>rw[hd] at ht;exact hf.1 t ht
  | some d=>
    rw[hd] at ht;simp only[upd] at ht;by_cases e:t=d
    ·rw[if_pos e] at ht;exact hv ht
    rw[if_neg e] at ht;exact hf.1 t ht
 rw[nU] at hx;split at hx
 ·exact hf.2.1 h' x hx hm
 rename_i hs;simp only[cY] at hx;split at hx
 ·rename_i y hy;injection hx with hx
  subst hx;exact h.1 (by unfold dT.M;rw[if_neg hs];exact aFK _ (List.mem_flatten.2 ⟨_,aJl.2 ⟨_,bK hy,rfl⟩,hm⟩))
 split at hx
 ·cases hx
 exact hf.2.1 h' x hx hm
theorem vC {ops:Array Oper}{y:dT}{l2:List dT}: ∀{l1:List dT},lQ ops (l1++y::l2)=true->lQ ops (l1++l2)=true/\(∀x∈l1,x.i<y.i/\qA ops x y=true)/\(∀z∈l2,y.i<z.i/\qA ops y z=true)/\(y.skip || y.e.new.all fun q=> !y.e.del.contains q.1 || (aO y.vr q.1).isSome)=true
 | [],h=>by
   simp only[aMg,lQ,aBT,aFJ,aMX] at h;obtain⟨⟨⟨h1,h2⟩,h3⟩,h4⟩:=h;exact⟨h4,by simp,h1,h3⟩
 | x::l1,h=>by
   simp only[List.cons_append,lQ,aBT] at h;obtain⟨⟨⟨h1,h2⟩,h3⟩,h4⟩:=h;obtain⟨q1,q2,q3,q4⟩:=vC h4;rw[aFJ] at h1;have hy:=h1 y (by simp);simp only[aBT,aMX] at hy;refine⟨?_,fun z hz=>?_,q3,q4⟩
   ·simp only[List.cons_append,lQ,aBT];refine⟨⟨⟨aFJ.2 fun z hz=>h1 z ?_,h2⟩,h3⟩,q1⟩;simp only[aFZ,aIo] at hz ⊢;rcases hz with hz | hz<;>simp[hz]
   rcases aIo.1 hz with rfl | hz
   ·exact hy
   exact q2 z hz
def aIG (ops:Array Oper)(listed:Array Bool):Prop:= ∀(i:Nat) (o:Oper),i<ops.size->ops[i]? =some o->listed.getD i true=true-> ∀e∈o.after,Region.binds .any e=true->listed.getD e.on false=true
theorem vD {ops:Array Oper}{listed:Array Bool}(hs:aIG ops listed)(h2: ∀i,i<ops.size->listed.getD i false=listed.getD i true): ∀(n x:Nat) (es:Array Edge),(∀e∈es,Region.binds .any e=true->listed.getD e.on false=true)->lP ops n x es=true->listed.getD x false=true
 | 0,x,es,_,h=>by simp[lP] at h
 | n+1,x,es,he,h=>by
   unfold lP at h;rw[Array.any_eq_true] at h;obtain⟨j,hj,h⟩:=h;simp only[aBT,Bool.or_eq_true] at h;have hl:=he _ (Array.getElem_mem hj) h.1;rcases h.2 with hb | hb
   ·rw[<-aD8 hb];exact hl
   split at hb
   ·rename_i o ho;have hi:=(Array.getElem?_eq_some_iff.1 ho).1;exact vD hs h2 n x o.after (hs _ o hi ho (by rw[<-h2 _ hi];exact hl)) hb
   cases hb
theorem aHF {Qw:Exit->Act->World->Prop}{A:Nat->Prop}{w0:oR}{Kn:St->Prop}(hQ: ∀S a w,Kn S->nT A w0 N S a w->Qw .normal a w): ∀(fuel:Nat) (l:List dT) (listed:Array Bool) (S:St) (a:Act) (w:World),l.length<=fuel->tI P N ops l S Kn->lQ ops l=true->
 (∀i,i<ops.size->(listed.getD i true=false↔ ∃r∈l,r.i=i))->(∀i,i<ops.size->listed.getD i false=listed.getD i true)->(∀r∈l,r.i<ops.size)->(∀r∈l,∀k∈r.Nw,dS S k)->aIG ops listed->nT A w0 N S a w->wpAny P .any ops Qw fuel listed a w:=by
 intro fuel
 induction fuel with
 | zero=>
   intro l listed S a w hl hr hlk hli hli2 hsz hf hsh hG;have:l= []:=aGC (by omega);subst this;refine⟨?_,hQ S a w hr hG⟩;unfold Region.ready;rw[List.filter_eq_nil_iff];intro i hi hc;simp only[aBT,Bool.not_eq_true'] at hc;obtain⟨r,hr,_⟩:=(hli i (aKt.1 hi)).1 hc.1;simp at hr
 | succ fuel ih=>
   intro l listed S a w hl hr hlk hli hli2 hsz hf hsh hG;refine⟨fun hnil=>?_,fun i hi=>?_⟩
   ·rcases l with _ | ⟨r,l⟩
    ·exact hQ S a w hr hG
    exfalso
    have hrd:r.i∈Region.ready .any ops listed:=by
     rw[mem_ready];have hsr:=hsz r (by simp);refine⟨(hli r.i hsr).2 ⟨r,by simp,rfl⟩,r.o,hr.1.1,fun e he hb=>?_⟩;simp only[lQ,aBT,aFJ,aMX] at hlk;obtain⟨⟨⟨h1,h2⟩,_⟩,_⟩:=hlk;have h2' :=Array.all_eq_true_iff_forall_mem.1 h2 e he;simp only[hb,Bool.not_true,Bool.false_or,aMX] at h2';rw[hli2 e.on (by omega)];cases hx:listed.getD e.on true with
     | true=>rfl
     | false=>
       obtain⟨z,hz,hzi⟩:=(hli e.on (by omega)).1 hx;rcases aIo.1 hz with rfl | hz
       ·omega
       have:=(h1 z hz).1;omega
    rw[hnil] at hrd;simp at hrd
   rw[mem_ready] at hi;obtain⟨hi1,o,ho,hdep⟩:=hi;have hsi:i<ops.size:=(Array.getElem?_eq_some_iff.1 ho).1;obtain⟨y,hy,rfl⟩:=(hli i hsi).1 hi1;obtain⟨l1,l2,rfl⟩:=List.append_of_mem hy;obtain⟨k1,k2,k3,k4⟩:=vC hlk;have hyo:=(tI.bubble' hr).1;have hoy:o=y.o:=by rw[hyo] at ho;injection ho with ho;exact ho.symm
   have hna: ∀x∈l1,aCy ops x y=false:=fun x hx=>by
    cases hc:aCy ops x y with
    | false=>rfl
    | true=>
      exfalso;have h1:=vD hsh hli2 _ _ _ (fun e he hb=>hdep e (by rw[hoy];exact he) hb) hc;have hxs:=hsz x (by simp[hx]);rw[hli2 x.i hxs] at h1;have:=(hli x.i hxs).2 ⟨x,by simp[hx],rfl⟩;rw[h1] at this;cases this
   have hap: ∀x∈l1,aAQ ops x y=true:=fun x hx=>by
    have:=(k2 x hx).2;simp only[qA,hna x hx,Bool.false_or,aBT] at this;exact this.1.1
   obtain⟨hok,hrest⟩:=tI.bubble hr hap
   have hfr: ∀x∈l1++l2,∀k∈x.Nw,dS (y.next S) k:=fun x hx k hk=>by
    have hfx:=hf x (by simp only[aFZ,aIo] at hx ⊢;rcases hx with hx | hx<;>simp[hx]) k hk;refine hfx.next ?_;rcases aFZ.1 hx with hx | hx
    ·have:=(k2 x hx).2;simp only[qA,hna x hx,Bool.false_or,aBT] at this;exact iQ this.1.2 k hk
    have:=(k3 x hx).2;simp only[qA,aBT] at this;exact iQ this.2 k hk
   have hgo: ∀(a' :Act) (w' :World),nT A w0 N (y.next S) a' w' ->wpAny P .any ops Qw fuel (listed.setIfInBounds y.i true) a' w' :=fun a' w' hG' =>by
    have hne: ∀x∈l1++l2,x.i≠y.i:=fun x hx=>by
     rcases aFZ.1 hx with hx | hx
     ·have:=(k2 x hx).1;omega
     have:=(k3 x hx).1;omega
    have hls:y.i<listed.size:=by
     rcases Nat.lt_or_ge y.i listed.size with h | h
     ·exact h
     rw[Array.getD_eq_getD_getElem?,Array.getElem?_eq_none h] at hi1;simp at hi1
    have hsh' :aIG ops (listed.setIfInBounds y.i true):=fun i q hi hq hl' e he hb=>by
     have key:listed.getD e.on false=true:=by
      by_cases ei:y.i=i
      ·subst ei;rw[hyo] at hq;injection hq with hq
       subst hq;exact hdep e (by rw[hoy];exact he) hb
      rw[getD_set_ne true ei] at hl';exact hsh i q hi hq hl' e he hb
     by_cases ee:y.i=e.on
     ·rw[<-ee,Array.getD_eq_getD_getElem?,Array.getElem?_setIfInBounds_self_of_lt hls];rfl
     rw[getD_set_ne false ee];exact key
    refine ih (l1++l2) _ _ a' w' (by simp at hl ⊢;omega) hrest k1 (fun i hi=>?_) (fun i hi=>?_) (fun r hr=>hsz r (by simp only[aFZ,aIo] at hr ⊢;rcases hr with hr | hr<;>simp[hr])) hfr hsh' hG'
    ·by_cases e:y.i=i
     ·subst e;rw[Array.getD_eq_getD_getElem?,Array.getElem?_setIfInBounds_self_of_lt hls];simp only[Option.getD_some,Bool.true_eq_false,false_iff,not_exists,not_and];exact fun x hx=>hne x hx
     rw[getD_set_ne true e,hli i hi];constructor
     ·rintro⟨r,hr,rfl⟩;refine⟨r,?_,rfl⟩;simp only[aFZ,aIo] at hr ⊢;rcases hr with hr | hr | hr
      ·exact .inl hr
      ·subst hr;exact absurd rfl e
      exact .inr hr
     rintro⟨r,hr,rfl⟩;refine⟨r,?_,rfl⟩;simp only[aFZ,aIo] at hr ⊢;rcases hr with hr | hr<;>simp[hr]
    by_cases e:y.i=i
    ·subst e;rw[Array.getD_eq_getD_getElem?,Array.getD_eq_getD_getElem?,Array.getElem?_setIfInBounds_self_of_lt hls];rfl
    rw[getD_set_ne true e,getD_set_ne false e,hli2 i hi]
   obtain⟨K,φ,hG⟩:=hG;have hok' :=hok;obtain⟨o1,o2,o3,o4⟩:=hok';unfold wpOp;rw[o1];simp only
   have exec:y.skip=false->y.o.wp P a w (wpAny P .any ops Qw fuel (listed.setIfInBounds y.i true)) Qw:=fun hs=>by
    have hn:(y.e.new.all fun q=> !y.e.del.contains q.1 || (aO y.vr q.1).isSome)=true:=by simpa [hs] using k4
    have:=hok.sound hs (hf y (by simp)) hn;refine Oper.wp_mono (fun a' w' ⟨K',φ',v,_,hG',_⟩=>hgo a' w' ⟨K',φ',?_⟩) (this K φ A w0 N a w Qw o2 hG);unfold dT.next;rw[hs];exact hG'
   split at o3
   ·rename_i hg;rw[if_pos (by simp[Region.wanted,hg])];exact .inl (exec o3)
   rename_i j want hg;obtain⟨d,b,q1,q2,q3,q4⟩:=o3;rw[aBr hG hg q1 q2 q3];by_cases hb:b=some want
   ·rw[if_pos (by simp[hb])];exact .inl (exec (by rw[q4];simp[hb]))
   rw[if_neg (by simp[hb])];refine hgo _ w ⟨K,φ,?_⟩;unfold dT.next;rw[if_pos (by rw[q4];simp[hb])];exact hG.put o2 (yC _ _ _)
end
def kQ (sl:List (Nat × AV)):List Operand->List (Nat × AV)
 | .tmp t::l=>(t,aY sl t)::kQ sl l
 | _::l=>kQ sl l
 | []=>[]
def opL:Op->List Operand
 | .move x | .assign x | .box _ x | .load _ x | .nilCheck x | .unOp _ _ x | .convert _ _ x | .fieldAddr _ x _ | .field _ x _ | .extract x _=>[x]
 | .pick c a b=>[c,a,b]
 | .build _ ps | .buildSlice _ _ ps=>ps.toList.map (·.2)
 | .store _ a v | .binOp _ _ a v _ | .makeSlice _ a v | .indexAddr _ a v | .index _ a v=>[a,v]
 | .call c=>(match c.callee with | .value f=>f::c.args.toList | _=>c.args.toList)
 | .slice _ x l h m=>x::(l.toList++h.toList++m.toList)
 | _=>[]
def gX (o:Op)(sl:List (Nat × AV)):List (Nat × AV):=kQ sl (opL o)
def aIH (rs:List (Nat × Option Rs))(l:List Nat):List Nat:=l.flatMap fun h=>match aO rs h with | some r=>eD r | none=>[]
def pM (o:Op)(sl:List (Nat × AV))(rs:List (Nat × Option Rs)):List (Nat × Option Rs):=
 let m0:=(gX o sl).flatMap fun q=>bD q.2
 let m1:=aIH rs m0
 (m0++m1++aIH rs m1).map fun h=>(h,aO rs h)
theorem gY (sl:List (Nat × AV)): ∀(l:List Operand) (t:Nat),t∈(kQ sl l).map (·.1)->aY (kQ sl l) t=aY sl t
 | [],t,h=>by simp[kQ] at h
 | .tmp u::l,t,h=>by
   simp only[kQ,aHl,aIo,aY] at h ⊢;by_cases e:t=u
   ·simp[e]
   rw[if_neg e];exact gY sl l t (h.resolve_left e)
 | .const _::l,t,h=>gY sl l t h
 | .func _::l,t,h=>gY sl l t h
 | .global _::l,t,h=>gY sl l t h
theorem aBy (rs:List (Nat × Option Rs)): ∀(l:List Nat) (h:Nat),aO (l.map fun k=>(k,aO rs k)) h=if h∈l then aO rs h else none
 | [],h=>by simp[aO]
 | k::l,h=>by
   simp only[aHl,aO,aBy rs l h];by_cases e:h=k<;>simp[e]
section
variable {P:Program} {N:Nat} {all:Array Oper}
def fU (i:Nat)(o:Oper)(sl:List (Nat × AV))(rs:List (Nat × Option Rs))(v:AV)(del:List Nat)(new:List (Nat × Rs)):dT:=⟨i,o,false,gX o.op sl,pM o.op sl rs,⟨v,del,new⟩⟩
def gK (i:Nat)(o:Oper)(sl:List (Nat × AV))(v:AV)(b:List (Nat × Option Rs)):dT:=⟨i,o,false,gX o.op sl,(99,none)::b,⟨v,[],[]⟩⟩
def tOk (r:dT)(rs:List (Nat × Option Rs)):Bool:= !r.fr&&r.T.all fun h=>(r.vr.map (·.1)).contains h || (aO rs h).isNone
def jW (sl:List (Nat × AV)):Option Nat->AV->List (Nat × AV)
 | some d,v=>(d,v)::sl
 | none,_=>sl
def jX (P:Program)(N:Nat)(all:Array Oper):Nat->List Oper->List (Nat × AV)->List (Nat × Option Rs)->List dT->(St->List dT->Prop)->Prop
 | i,[],sl,rs,acc,K=>K (mk sl rs) acc.reverse
 | i,o::rest,sl,rs,acc,K=>all[i]? =some o/\(∀d,o.dst=some d->d<N)/\match o.guard with
   | none=>(∃v del new,aQ P o (mk (gX o.op sl) (pM o.op sl rs)) ⟨v,del,new⟩/\tOk (fU i o sl rs v del new) rs=true/\jX P N all (i+1) rest (jW sl o.dst v) (iK new++(fC del++rs)) (fU i o sl rs v del new::acc) K)\/
     (∃v b,tH P (gK i o sl v b)/\(∀k∈b.map (·.1),aO rs k=aO ((99,none)::b) k)/\jX P N all (i+1) rest (jW sl o.dst v) rs (gK i o sl v b::acc) K)
   | some (j,want)=> ∃d b,(all[j]?).bind (·.dst)=some d/\d<N/\gvA (aY sl d)=some b/\
     (b=some want->(∃v del new,aQ P o (mk (gX o.op sl) (pM o.op sl rs)) ⟨v,del,new⟩/\tOk (fU i o sl rs v del new) rs=true/\jX P N all (i+1) rest (jW sl o.dst v) (iK new++(fC del++rs)) (fU i o sl rs v del new::acc) K)\/
      (∃v b,tH P (gK i o sl v b)/\(∀k∈b.map (·.1),aO rs k=aO ((99,none)::b) k)/\jX P N all (i+1) rest (jW sl o.dst v) rs (gK i o sl v b::acc) K))/\
     (b≠some want->jX P N all (i+1) rest (jW sl o.dst (.tup [])) rs (⟨i,o,true,[],[],⟨.no,[],[]⟩⟩::acc) K)
theorem eY (sl:List (Nat × AV))(rs:List (Nat × Option Rs))(d:Option Nat)(v:AV)(del:List Nat)(new:List (Nat × Rs)):(mk sl rs).apply d ⟨v,del,new⟩=mk (jW sl d v) (iK new++(fC del++rs)):=by
 cases d with
 | none=>exact aGv sl rs v del new
 | some d=>exact aDs sl rs d v del new
theorem aGI (sl:List (Nat × AV))(rs:List (Nat × Option Rs))(d:Option Nat)(v:AV):(mk sl rs).put d v=mk (jW sl d v) rs:=by
 cases d with
 | none=>rfl
 | some d=>exact aHz sl rs d v
theorem sD {K:St->List dT->Prop}: ∀(l:List Oper) (i:Nat) (sl:List (Nat × AV)) (rs:List (Nat × Option Rs)) (acc:List dT),jX P N all i l sl rs acc K->
 ∃recs S',tI P N all recs (mk sl rs) (fun S=>S=S')/\K S' (acc.reverse++recs)/\recs.map (·.i)=List.range' i l.length
 | [],i,sl,rs,acc,h=>⟨[],mk sl rs,rfl,by simpa [jX] using h,by simp⟩
 | o::rest,i,sl,rs,acc,h=>by
   unfold jX at h;obtain⟨hi,hd,h⟩:=h
   have exec:(match o.guard with | none=>True | some (j,want)=> ∃d,(all[j]?).bind (·.dst)=some d/\d<N/\gvA (aY sl d)=some (some want))->(∃v del new,aQ P o (mk (gX o.op sl) (pM o.op sl rs)) ⟨v,del,new⟩/\tOk (fU i o sl rs v del new) rs=true/\jX P N all (i+1) rest (jW sl o.dst v) (iK new++(fC del++rs)) (fU i o sl rs v del new::acc) K)->
    ∃recs S',tI P N all recs (mk sl rs) (fun S=>S=S')/\K S' (acc.reverse++recs)/\recs.map (·.i)=List.range' i (o::rest).length:=by
    rintro hg ⟨v,del,new,hs,ht,hrest⟩;obtain⟨recs,S',h1,h2,h3⟩:=sD rest (i+1) _ _ _ hrest;unfold tOk at ht;rw[aBT,Bool.not_eq_true'] at ht;obtain⟨hfr,ht⟩:=ht;refine⟨fU i o sl rs v del new::recs,S',⟨⟨hi,hd,?_,fun _=>⟨⟨fun _=>hs,fun e=>by rw[hfr] at e;cases e⟩,fun t ht=>?_,fun k hk=>?_⟩⟩,?_⟩,by simpa using h2,by simp[h3,fU,List.range'_succ]⟩
    ·cases hgd:o.guard with
     | none=>simp[fU,hgd]
     | some q=>
       obtain⟨j,want⟩:=q;rw[hgd] at hg;obtain⟨d,q1,q2,q3⟩:=hg;simp only[fU,hgd];exact⟨d,some want,q1,q2,q3,by simp⟩
    ·exact(gY sl _ t ht).symm
    ·have:=aFJ.1 ht k hk;simp only[Bool.or_eq_true,List.contains_eq_mem,aMX] at this;simp only[fU,pM,List.map_map] at this ⊢;rw[aBy];split
     ·rfl
     rename_i hn;rcases this with q | q
     ·exact absurd (by simpa [Function.comp_def] using q) hn
     show aO rs k=none;simpa using q
    unfold dT.next;simp only[fU,Bool.false_eq_true,if_false];rw[eY];exact h1
   have execF:(match o.guard with | none=>True | some (j,want)=> ∃d,(all[j]?).bind (·.dst)=some d/\d<N/\gvA (aY sl d)=some (some want))->(∃v b,tH P (gK i o sl v b)/\(∀k∈b.map (·.1),aO rs k=aO ((99,none)::b) k)/\jX P N all (i+1) rest (jW sl o.dst v) rs (gK i o sl v b::acc) K)->
    ∃recs S',tI P N all recs (mk sl rs) (fun S=>S=S')/\K S' (acc.reverse++recs)/\recs.map (·.i)=List.range' i (o::rest).length:=by
    rintro hg ⟨v,b,hs,hb,hrest⟩;obtain⟨recs,S',h1,h2,h3⟩:=sD rest (i+1) _ _ _ hrest;refine⟨gK i o sl v b::recs,S',⟨⟨hi,hd,?_,fun _=>⟨hs,fun t ht=>?_,fun k hk=>?_⟩⟩,?_⟩,by simpa using h2,by simp[h3,gK,List.range'_succ]⟩
    ·cases hgd:o.guard with
     | none=>simp[gK,hgd]
     | some q=>
       obtain⟨j,want⟩:=q;rw[hgd] at hg;obtain⟨d,q1,q2,q3⟩:=hg;simp only[gK,hgd];exact⟨d,some want,q1,q2,q3,by simp⟩
    ·exact(gY sl _ t ht).symm
    ·exact hb k (by simpa [dT.T,dT.fr,gK] using hk)
    unfold dT.next;simp only[gK,Bool.false_eq_true,if_false];rw[eY];exact h1
   split at h
   ·rename_i hg;exact h.elim (exec (by rw[hg];trivial)) (execF (by rw[hg];trivial))
   rename_i j want hg;obtain⟨d,b,q1,q2,q3,q4,q5⟩:=h;by_cases hb:b=some want
   ·exact(q4 hb).elim (exec (by rw[hg];exact⟨d,q1,q2,by rw[q3,hb]⟩)) (execF (by rw[hg];exact⟨d,q1,q2,by rw[q3,hb]⟩))
   obtain⟨recs,S',h1,h2,h3⟩:=sD rest (i+1) _ _ _ (q5 hb);refine⟨⟨i,o,true,[],[],⟨.no,[],[]⟩⟩::recs,S',⟨⟨hi,hd,?_,fun e=>by cases e⟩,?_⟩,by simpa using h2,by simp[h3,List.range'_succ]⟩
   ·simp only[hg];exact⟨d,b,q1,q2,q3,by simp[hb]⟩
   unfold dT.next;simp only[if_true];rw[aGI];exact h1
theorem nT.drew {A:Nat->Prop}{w0:oR}{S:St}{a:Act}{w:World}(h:nT A w0 N S a w):nT A w0 N S a { w with drawn:=w.drawn+1 }:=by
 obtain⟨K,φ,hG⟩:=h;have hs: ∀(B:Nat->Prop),cH B w { w with drawn:=w.drawn+1 }:=fun _ _ _=>rfl;refine⟨K,φ,fun h r hr=>?_,hG.non,hG.disj,hG.nodup,hG.ge,hG.kin,hG.kout,hG.aK,fun t=>aC.mono (hs _) (fun _ h=>h) _ _ (fun h pl _ e=>⟨e,hs _⟩) (hG.slots t),⟨hG.bel.os,hG.bel.tape,hG.bel.output,hG.bel.size,hG.bel.block⟩,hG.nd,hG.size,hG.pin⟩;obtain⟨pl,hp,hh⟩:=hG.dom h r hr;exact⟨pl,hp,Holds.mono (hs _) (fun _ h=>h) (fun _ _=>rfl) r (fun h pl _ e=>⟨e,hs _⟩) hh⟩
end
def qB:Nat->List Ar->List (Nat × AV)
 | _,[]=>[]
 | i,x::xs=>(i,aDq x)::qB (i+1) xs
theorem vE: ∀(xs:List Ar) (i t:Nat),aY (qB i xs) t=if i<=t then (match xs[t - i]? with | some x=>aDq x | none=> .no) else .no
 | [],i,t=>by simp[qB,aY]
 | x::xs,i,t=>by
   simp only[qB,aY,vE xs (i+1) t];by_cases e:t=i
   ·subst e;simp
   by_cases h:i<=t
   ·have:t - i=(t - (i+1))+1:=by omega
    rw[if_neg e,if_pos (by omega),if_pos h,this,List.getElem?_cons_succ]
   rw[if_neg e,if_neg (by omega),if_neg h]
theorem aM9 (args:List Ar):S0 args=mk (qB 0 args) []:=by
 apply St.ext'
 ·funext t;simp only[S0,mk,vE,aB2,if_true,Nat.sub_zero]
  try (cases args[t]? <;>rfl)
 funext h;simp[S0,mk,aO]
abbrev aE (n:Int):List aS:=[.int .i64 n]
theorem xC {α β:Type}{f:α->β}{l:List α}{k:Nat}{x:α}(h:l[k]? =some x):(l.map f)[k]? =some (f x):=by simp[h]
abbrev Lv (w:World):Nat->Prop:=fun b=>b<w.heap.size
section
variable {α:Type}
theorem aAR {R:Rd α}{enc:α->List aS}{w:World}{k:Nat}{a:Option Addr}(hR: ∀cs x,R w cs x->fF (Lv w) w (enc x) cs): ∀(xs:List α) (o:Nat),
 (∀i x,xs[i]? =some x-> ∃b off cs',a=some ⟨b,off,none⟩/\cs'.length=k/\(∀j u,cs'[j]? =some u->w.cell? ⟨b,off+(o+i*k)+j,none⟩=some u)/\R w cs' x)->dI (Lv w) w k (xs.map enc) a o
 | [],o,_=>by simp only[List.map_nil];unfold dI;trivial
 | x::xs,o,h=>by
   simp only[aHl];unfold dI;obtain⟨b,off,cs,rfl,hl,hc,hr⟩:=h 0 x rfl;have hrd:=hR cs x hr;have hlen:=hrd.len;refine⟨by omega,eT.mk (fun hne=>?_) hrd (fun j u hu=>by have:=hc j u hu;simpa using this),aAR hR xs (o+k) fun i y hy=>?_⟩
   ·have h0:0<cs.length:=by
     rcases Nat.eq_zero_or_pos cs.length with h | h
     ·exact absurd (aGC (by omega)) hne
     exact h
    have:=hc 0 _ (aCp h0);exact World.block_lt_of_cell? w _ this
   obtain⟨b',off',cs',e,hl',hc',hr'⟩:=h (i+1) y (by simpa using hy);refine⟨b',off',cs',e,hl',fun j u hu=>?_,hr'⟩;have:=hc' j u hu;rw[show off' +(o+k+i*k)+j=off' +(o+(i+1)*k)+j by rw[Nat.add_mul];omega];exact this
theorem vF {R:Rd α}{enc:α->List aS}{w:World}{e k:Nat}{v:Value}{xs:List α}(hR: ∀cs x,R w cs x->fF (Lv w) w (enc x) cs)(h:nE k R w [v] xs):dR (Lv w) w (.sl e k (xs.map enc)) v:=by
 obtain⟨a,c,hv,h1,h2,h3⟩:=h;simp only[List.cons.injEq,and_true] at hv;subst hv;unfold dR;refine⟨a,c,by simp,by simpa using h1,h2,aAR hR xs 0 fun i x hx=>?_⟩;obtain⟨b,off,cs,e,hl,hc,hr⟩:=h3 i x hx;exact⟨b,off,cs,e,hl,fun j u hu=>by have:=hc j u hu;simpa using this,hr⟩
end
section
variable {P:Program}
theorem arsRd_nil {A:Nat->Prop}{w:World}:jU A w [] []:=rfl
theorem arsRd_one {A:Nat->Prop}{w:World}{x:aS}{xs:List Ar}{v:Value}{vs:List Value}(h:dR A w x v)(h' :jU A w xs vs):jU A w (.one x::xs) (v::vs):=⟨v,vs,rfl,h,h'⟩
theorem arsRd_agg {A:Nat->Prop}{w:World}{x:List aS}{xs:List Ar}{us:Array Value}{vs:List Value}(h:fF A w x us.toList)(h' :jU A w xs vs):jU A w (.agg x::xs) (.agg us::vs):=⟨_,vs,rfl,⟨us,rfl,h⟩,h'⟩
theorem aCz {A:Nat->Prop}{w:World}{k:IntKind}{n:Int}:dR A w (.int k n) (.int k n):=by unfold dR;rfl
theorem iB {A:Nat->Prop}{w:World}{x:aS}{xs:List aS}{v:Value}{vs:List Value}(h:dR A w x v)(h' :fF A w xs vs):fF A w (x::xs) (v::vs):=⟨v,vs,rfl,h,h'⟩
theorem mT {A:Nat->Prop}{w:World}:fF A w [] []:=rfl
theorem zC.calls {f:FuncId}{args:List Ar}{rv:AV}{val:Value}{w:World}{vs:Array Value}(h:zC P f args rv [])(ha:jU (Lv w) w args vs.toList)(hv: ∀K φ w v,aC K φ w rv v->v=val):Calls P f vs w fun e w' =>e= .returned val/\Below w.heap.size w w' :=
 (h.2 (Lv w) w vs (fun _ h=>h) ha).mono fun e w' ⟨v,K,φ,he,hb,_,_,_,_,_,_,_,hm⟩=>⟨by rw[he,hv _ _ _ _ hm],hb⟩
theorem match_bool {b:Bool}: ∀K φ w v,aC K φ w (.p none (.bool b)) v->v= .bool b:=fun K φ w v h=>by unfold aC dR at h;exact h
end
section
variable {α:Type}
theorem kZ {w:World}{p:aS}{ps:List aS}{v:Value}{cs:List Value}{F1 F2:List Nat}(h1:lL w p v F1)(h2:bU w ps cs F2):bU w (p::ps) (v::cs) (F1++F2):=by
 unfold bU;exact⟨v,cs,F1,F2,rfl,rfl,h1,h2⟩
theorem aII {w:World}:bU w [] [] []:=by unfold bU;exact⟨rfl,rfl⟩
theorem aGJ {w:World}{k:IntKind}{n:Int}:lL w (.int k n) (.int k n) []:=by unfold lL;exact⟨rfl,rfl⟩
theorem aDy {w:World}{b:Bool}:lL w (.bool b) (.bool b) []:=by unfold lL;exact⟨rfl,rfl⟩
end
mutual
theorem lL.lt {w:World}: ∀{x:aS} {v:Value} {F:List Nat},lL w x v F-> ∀g∈F,g<w.heap.size
 | .int _ _,_,_,h,g,hg=>by unfold lL at h;rw[h.2] at hg;simp at hg
 | .bool _,_,_,h,g,hg=>by unfold lL at h;rw[h.2] at hg;simp at hg
 | .str _,_,_,h,g,hg=>by unfold lL at h;rw[h.2] at hg;simp at hg
 | .gone,_,_,h,g,hg=>by unfold lL at h;rw[h.2] at hg;simp at hg
 | .sl e k xs,v,F,h,g,hg=>by
   unfold lL at h;obtain⟨css,Fs,h1,rfl,h2⟩:=h;rcases aFZ.1 hg with hg | hg
   ·exact(uP h1 g hg).2
   exact bE.lt h2 g hg
theorem bE.lt {w:World}{k:Nat}: ∀{xs:List (List aS)} {css:List (List Value)} {Fs:List (List Nat)},bE w k xs css Fs-> ∀g∈Fs.flatten,g<w.heap.size
 | [],css,Fs,h,g,hg=>by unfold bE at h;rw[h.2] at hg;simp at hg
 | x::xs,css,Fs,h,g,hg=>by
   unfold bE at h;obtain⟨c,css',F,Fs',rfl,rfl,h1,h2,h3⟩:=h;rcases aFZ.1 (by simpa using hg:g∈F++Fs'.flatten) with hg | hg
   ·exact bU.lt h2 g hg
   exact bE.lt h3 g hg
theorem bU.lt {w:World}: ∀{ds:List aS} {cs:List Value} {F:List Nat},bU w ds cs F-> ∀g∈F,g<w.heap.size
 | [],cs,F,h,g,hg=>by unfold bU at h;rw[h.2] at hg;simp at hg
 | p::ps,cs,F,h,g,hg=>by
   unfold bU at h;obtain⟨v,cs',F1,F2,rfl,rfl,h1,h2⟩:=h;rcases aFZ.1 hg with hg | hg
   ·exact lL.lt h1 g hg
   exact bU.lt h2 g hg
end
abbrev Sl:=List (Nat × AV)
abbrev Rl:=List (Nat × Option Rs)
structure Qn (τ:Type) where
 all:(τ->Prop)->Prop
 ex:Nat->(τ->Prop)->Prop
 h1: ∀P,all P-> ∀x,P x
 h2: ∀n P,ex n P-> ∃x,P x
def Q1 (α:Type):Qn α:=⟨fun P=> ∀x,P x,fun _ P=> ∃x,P x,fun _ h=>h,fun _ _ h=>h⟩
def Q2 (α β:Type):Qn (α × β):=⟨fun P=> ∀x y,P (x,y),fun _ P=> ∃x y,P (x,y),fun _ h ⟨x,y⟩=>h x y,fun _ _ ⟨x,y,h⟩=>⟨(x,y),h⟩⟩
def Q3 (α β γ:Type):Qn (α × β × γ):=⟨fun P=> ∀x y z,P (x,y,z),fun _ P=> ∃x y z,P (x,y,z),fun _ h ⟨x,y,z⟩=>h x y z,fun _ _ ⟨x,y,z,h⟩=>⟨(x,y,z),h⟩⟩
inductive T:Type 1 where
 | fin (ren:List (Nat × Nat))
 | back (ren:List (Nat × Nat)) (n:Nat:=0)
 | br (a b:T)
 | lit (t:T)
 | yes (t:T)
 | no (t:T)
 | raw (t:T)
 | elem (α:Type) (enc:α->List aS) (l:List α) (t:α->T)
 | row (r:List aS) (t:T)
 | len (n:Nat) (t:T)
 | mk (n:Nat) (zr:List aS) (zs:List (List aS)) (t:T)
 | set (α:Type) (enc:α->List aS) (l:List α) (y:α->α) (t:α->T)
 | app (α:Type) (enc:α->List aS) (l l2:List α) (t:T)
 | appx (α:Type) (enc:α->List aS) (l:List α) (x:α) (t:T)
 | appr (α:Type) (enc:α->List aS) (l l2:List α) (t:T)
 | bld (α:Type) (enc:α->List aS) (x:α) (t:T)
 | apph (α:Type) (enc:α->List aS) (l:List α) (y:α) (t:T)
 | appy (α:Type) (enc:α->List aS) (l:List α) (y:α) (t:T)
 | call (rv:AV) (rr:List (Nat × Rs)) (t:T)
 | callx (fs:List AV) (ri:List (Nat × Rs)) (ren:List (Nat × Nat)) (rv:AV) (ro:List (Nat × Rs)) (t:T)
 | callxs (fs:List AV) (ri:List (Nat × Rs)) (ren:List (Nat × Nat)) (rv:AV) (ro:List (Nat × Rs)) (t:T)
 | bytes (l:List Int) (t:T)
 | split (rid h i j h' :Nat) (α:Type) (enc:α->List aS) (l:List α) (t:α->T)
 | join (rid h h' :Nat) (α:Type) (enc:α->List aS) (l:List α) (y:α->α) (t:α->T)
 | takeg (rid h n h' :Nat) (α:Type) (enc:α->List aS) (l:List α) (t:α->List α->T)
 | leave (rid h n h' :Nat) (α:Type) (enc:α->List aS) (x:α) (l:List α) (t:T)
 | setm (α:Type) (enc:α->List aS) (l:List α) (y:α->α) (t:α->T)
 | setr (α:Type) (enc:α->List aS) (l:List α) (y:α->α) (t:α->T)
 | sub (α:Type) (enc:α->List aS) (l:List α) (t:T)
 | stl (d:Nat) (t:T)
 | shal (rid h:Nat) (t:T)
 | stls (rid d:Nat) (t:T)
 | nilt (rid h off e k:Nat) (t:T)
 | stlb (rid h:Nat) (t:T)
 | loop (τ:Type) (q:Qn τ) (W V:List Nat) (osl:τ->Sl) (ors:τ->Rl) (inv:τ->Prop) (m:τ->Nat) (t:τ->T)
def aMa (P:Program)(i k:Nat)(f:Field):Bool:=
 !(f.name == "_") && Nat.beq f.offset i && (match P.underlying f.type with | some (.int _) => Nat.beq k 0 | some .bool => Nat.beq k 1 | some .string => Nat.beq k 2 | _ => false)
def aBz (P:Program):Nat->List Nat->List Field->Bool
 | _,[],[]=>true
 | i,k::ks,f::fs=>aMa P i k f&&aBz P (i+1) ks fs
 | _,_,_=>false
def seB (P:Program)(t:TypeId)(ks:List Nat):Bool:=
 (match P.underlying t with | some (.struct fs)=>aBz P 0 ks fs.toList | _=>false)&& !P.stoodInHeld t&& !P.eqGuardType P.depth t
structure Tb where
 ty:List (Nat × (Bool × Nat × Nat × Value))
 sl:List (Nat × Nat)
 fl:List (Nat × List (Nat × (Nat × Nat)))
 pl:List (Nat × (Value × List (Nat × Nat)))
 bo:List (Nat × Unit)
 st:List (Nat × Unit)
 nt:List (Nat × IntKind)
 se:List (Nat × List Nat)
def bM {α:Type}:List (Nat × α)->Nat->Option α
 | [],_=>none
 | (k,v)::l,t=>match Nat.beq t k with | true=>some v | false=>bM l t
def iR {α:Type}(p:Nat->α->Prop):List (Nat × α)->Prop
 | []=>True
 | (k,v)::l=>p k v/\iR p l
theorem bP {α:Type}{p:Nat->α->Prop}: ∀{l:List (Nat × α)} {t:Nat} {x:α},iR p l->bM l t=some x->p t x
 | [],_,_,_,h=>by simp[bM] at h
 | (k,v)::l,t,x,hf,h=>by
   unfold bM at h;split at h
   ·rename_i e;have:=aD8 e;subst this;injection h with h
    subst h;exact hf.1
   exact bP hf.2 h
structure fQ (P:Program) (tb:Tb):Prop where
 ty:iR (fun t x=>dH P t=some x) tb.ty
 sl:iR (fun t e=>P.underlying t=some (.slice e)) tb.sl
 fl:iR (fun t l=>iR (fun f x=>kS P t f=some x) l) tb.fl
 pl:iR (fun t x=>uU P t=some x) tb.pl
 bo:iR (fun t _=>P.underlying t=some .bool) tb.bo
 st:iR (fun t _=>P.underlying t=some .string) tb.st
 nt:iR (fun t k=>P.underlying t=some (.int k)) tb.nt
 se:iR (fun t ks=>seB P t ks=true) tb.se
def dO (n:Int):Prop:= -9223372036854775808<=n/\n<=9223372036854775807
abbrev vI (n:Int):AV:= .p none (.int .i64 n)
abbrev vB (b:Bool):AV:= .p none (.bool b)
def EqD:aS->aS->Prop
 | .int k a,.int k' b=>if k=k' then a=b else False
 | .bool a,.bool b=>a=b
 | .str a,.str b=>a=b
 | .sl e k xs,.sl e' k' ys=>match Nat.beq e e' &&Nat.beq k k' with | true=>xs=ys | false=>False
 | _,_=>False
theorem EqD.eq: ∀{x y:aS},EqD x y->x=y:=by
 intro x y h;unfold EqD at h;split at h
 ·split at h
  ·rename_i e;subst e;rw[h]
  cases h
 ·rw[h]
 ·rw[h]
 ·split at h
  ·rename_i e;rw[aBT] at e;rw[aD8 e.1,aD8 e.2,h]
  cases h
 cases h
def EqN (a b:Nat)(K:Prop):Prop:=match Nat.beq a b with | true=>K | false=>False
theorem EqN.eq {a b:Nat}{K:Prop}(h:EqN a b K):a=b/\K:=by
 unfold EqN at h;split at h
 ·rename_i e;exact⟨aD8 e,h⟩
 cases h
def eqO:Option Nat->Option Nat->Bool
 | none,none=>true
 | some a,some b=>Nat.beq a b
 | _,_=>false
theorem aLd: ∀{a b:Option Nat},eqO a b=true->a=b
 | none,none,_=>rfl
 | some a,some b,h=>by rw[aD8 h]
 | none,some _,h=>by cases h
 | some _,none,h=>by cases h
mutual
def EqA:AV->AV->Prop->Prop
 | .p o x,y,K=>(match y with | .p o' x' =>(match eqO o o' with | true=>EqD x x' /\K | false=>False) | _=>False)
 | .own h,y,K=>(match y with | .own h' =>EqN h h' K | _=>False)
 | .ptr h o,y,K=>(match y with | .ptr h' o' =>EqN h h' (EqN o o' K) | _=>False)
 | .nil,y,K=>(match y with | .nil=>K | _=>False)
 | .no,y,K=>(match y with | .no=>K | _=>False)
 | .agg cs,y,K=>(match y with | .agg cs' =>vG cs cs' K | _=>False)
 | .tup cs,y,K=>(match y with | .tup cs' =>vG cs cs' K | _=>False)
 | .fn f cs,y,K=>(match y with | .fn f' cs' =>EqN f f' (vG cs cs' K) | _=>False)
 | x,y,K=>x=y/\K
def vG:List AV->List AV->Prop->Prop
 | [],ys,K=>(match ys with | []=>K | _=>False)
 | x::xs,ys,K=>(match ys with | y::ys=>EqA x y (vG xs ys K) | []=>False)
end
mutual
theorem EqA.eq: ∀(x y:AV) (K:Prop),EqA x y K->x=y/\K
 | .p o x,y,K,h=>by
   unfold EqA at h;split at h
   ·split at h
    ·rename_i e;exact⟨by rw[aLd e,EqD.eq h.1],h.2⟩
    cases h
   cases h
 | .own h,y,K,hh=>by
   unfold EqA at hh;split at hh
   ·exact⟨by rw[hh.eq.1],hh.eq.2⟩
   cases hh
 | .ptr h o,y,K,hh=>by
   unfold EqA at hh;split at hh
   ·exact⟨by rw[hh.eq.1,hh.eq.2.eq.1],hh.eq.2.eq.2⟩
   cases hh
 | .nil,y,K,h=>by
   unfold EqA at h;split at h
   ·exact⟨rfl,h⟩
   cases h
 | .no,y,K,h=>by
   unfold EqA at h;split at h
   ·exact⟨rfl,h⟩
   cases h
 | .agg cs,y,K,h=>by
   unfold EqA at h;split at h
   ·have:=vG.eq cs _ K h;exact⟨by rw[this.1],this.2⟩
   cases h
 | .tup cs,y,K,h=>by
   unfold EqA at h;split at h
   ·have:=vG.eq cs _ K h;exact⟨by rw[this.1],this.2⟩
   cases h
 | .fn f cs,y,K,h=>by
   unfold EqA at h;split at h
   ·have:=vG.eq cs _ K h.eq.2;exact⟨by rw[h.eq.1,this.1],this.2⟩
   cases h
 | .ep _ _ _ _,y,K,h=>by unfold EqA at h;exact h
 | .rp _ _,y,K,h=>by unfold EqA at h;exact h
 | .bsl _ _,y,K,h=>by unfold EqA at h;exact h
theorem vG.eq: ∀(xs ys:List AV) (K:Prop),vG xs ys K->xs=ys/\K
 | [],ys,K,h=>by
   unfold vG at h;split at h
   ·exact⟨rfl,h⟩
   cases h
 | x::xs,ys,K,h=>by
   unfold vG at h;split at h
   ·rename_i y ys';have h1:=EqA.eq x y _ h;have h2:=vG.eq xs _ K h1.2;exact⟨by rw[h1.1,h2.1],h2.2⟩
   cases h
end
def EqR:Rs->Rs->Prop->Prop
 | .box t cs,y,K=>(match y with | .box t' cs' =>EqN t t' (vG cs cs' K) | _=>False)
 | .arr e k d xs,y,K=>(match y with | .arr e' k' d' ys=>(match Nat.beq e e' &&Nat.beq k k' &&(d==d') with | true=>xs=ys/\K | false=>False) | _=>False)
 | .hole _ _ _ _ _ _,_,_=>False
theorem EqR.eq {x y:Rs}{K:Prop}(h:EqR x y K):x=y/\K:=by
 cases x with
 | box t cs=>
   simp only[EqR] at h;split at h
   ·have:=vG.eq cs _ K h.eq.2;exact⟨by rw[h.eq.1,this.1],this.2⟩
   cases h
 | arr e k d xs=>
   simp only[EqR] at h;split at h
   ·split at h
    ·rename_i hb;simp only[aBT,beq_iff_eq] at hb;exact⟨by rw[aD8 hb.1.1,aD8 hb.1.2,hb.2,h.1],h.2⟩
    cases h
   cases h
 | hole e k xs i j q=>simp only[EqR] at h
def dL (sl:Sl)(rs:Rl)(h:Nat):Bool:=
 (Nat.ble 100 h&&(match aO rs h with | none=>true | some _=>false))&&sl.all (fun q=> !(bD (aY sl q.1)).contains h)&&rs.all (fun q=>match aO rs q.1 with | some r=> !(eD r).contains h | none=>true)
theorem cW {sl:Sl}{rs:Rl}{h:Nat}(hb:dL sl rs h=true):dS (mk sl rs) h:=by
 unfold dL at hb;simp only[aBT,aFJ] at hb;obtain⟨⟨⟨h0,h1⟩,h2⟩,h3⟩:=hb;refine⟨fun t ht=>?_,fun h' r hr hm=>?_,?_,aCd h0⟩
 ·simp only[mk] at ht
  have:t∈sl.map (·.1):=by
   refine Classical.byContradiction fun hn=>?_
   have e: ∀(l:Sl),t ∉ l.map (·.1)->aY l t= .no:=by
    intro l
    induction l with
    | nil=>intro _;rfl
    | cons q l ih=>
      intro hn;simp only[aHl,aIo,not_or] at hn;simp only[aY];rw[if_neg hn.1];exact ih hn.2
   rw[e sl hn] at ht;simp[bD] at ht
  obtain⟨q,hq,rfl⟩:=aJl.1 this;have:=h2 q hq;simp only[Bool.not_eq_true',List.contains_eq_mem,decide_eq_false_iff_not] at this;exact this ht
 ·simp only[mk] at hr
  have:h' ∈rs.map (·.1):=by
   refine Classical.byContradiction fun hn=>?_
   have e: ∀(l:Rl),h' ∉ l.map (·.1)->aO l h' =none:=by
    intro l
    induction l with
    | nil=>intro _;rfl
    | cons q l ih=>
      intro hn;simp only[aHl,aIo,not_or] at hn;simp only[aO];rw[if_neg hn.1];exact ih hn.2
   rw[e rs hn] at hr;cases hr
  obtain⟨q,hq,rfl⟩:=aJl.1 this;have:=h3 q hq;rw[hr] at this;simp only[Bool.not_eq_true',List.contains_eq_mem,decide_eq_false_iff_not] at this;exact this hm
 simp only[mk];cases hf:aO rs h with
 | none=>rfl
 | some r=>simp[hf] at h1
def arW (k:IntKind)(r:Int)(t:T)(K:AV->T->Prop):Prop:=match k with
 | .i64=>match t with | .raw t=>K (.p none (.int .i64 (IntKind.i64.wrap r))) t | t=>dO r/\K (.p none (.int .i64 r)) t
 | k=>K (.p none (.int k (k.wrap r))) t
def iL (op:BinOp)(k:IntKind)(m n:Int):Int:=k.wrap (match op with
 | .and=>(BitVec.ofInt k.bits m&&&BitVec.ofInt k.bits n).toNat
 | .or=>(BitVec.ofInt k.bits m ||| BitVec.ofInt k.bits n).toNat
 | .xor=>(BitVec.ofInt k.bits m^^^BitVec.ofInt k.bits n).toNat
 | _=>(BitVec.ofInt k.bits m&&& ~~~ BitVec.ofInt k.bits n).toNat:Nat)
def aLe (op:BinOp)(k:IntKind)(m n:Int)(t:T)(K:AV->T->Prop):Prop:=match op with
 | .lss=>K (vB (decide (m<n))) t
 | .leq=>K (vB (decide (m<=n))) t
 | .gtr=>K (vB (decide (n<m))) t
 | .geq=>K (vB (decide (n<=m))) t
 | .eql=>K (vB (decide (m=n))) t
 | .neq=>K (vB (!decide (m=n))) t
 | .add=>arW k (m+n) t K
 | .sub=>arW k (m - n) t K
 | .mul=>arW k (m*n) t K
 | .quo=>n≠0/\arW k (m.tdiv n) t K
 | .rem=>n≠0/\K (.p none (.int k (m.tmod n))) t
 | .and=>K (.p none (.int k (iL .and k m n))) t
 | .or=>K (.p none (.int k (iL .or k m n))) t
 | .xor=>K (.p none (.int k (iL .xor k m n))) t
 | .andNot=>K (.p none (.int k (iL .andNot k m n))) t
 | _=>False
def shW (op:BinOp)(k:IntKind)(m n:Int)(t:T)(K:AV->T->Prop):Prop:=match k with
 | .i64=>match op with
   | .shl=>(0<=n/\n<=64)/\arW .i64 (m*2^n.toNat) t K
   | .shr=>(0<=n/\n<=64)/\K (.p none (.int .i64 (m/2^n.toNat))) t
   | _=>False
 | _=>False
def aLf (op:BinOp)(m n:ByteArray)(t:T)(K:AV->T->Prop):Prop:=match op with
 | .eql=>K (vB (m.toList==n.toList)) t
 | .neq=>K (vB (!(m.toList==n.toList))) t
 | .add=>m.size+n.size<=9223372036854775807/\K (.p none (.str (m++n))) t
 | .lss=>K (vB (Op.bytesLess m.toList n.toList)) t
 | .geq=>K (vB (!Op.bytesLess m.toList n.toList)) t
 | _=>False
def eq1:Nat->aS->aS->Option Bool
 | 0,.int k a,.int k' b=>if k=k' then some (a==b) else none
 | 1,.bool a,.bool b=>some (a==b)
 | 2,.str a,.str b=>some (a.toList==b.toList)
 | _,_,_=>none
def aDA:List Nat->List aS->List aS->Option Bool
 | [],[],[]=>some true
 | k::ks,x::xs,y::ys=>(match eq1 k x y with | some b=>(match aDA ks xs ys with | some c=>some (b&&c) | none=>none) | none=>none)
 | _,_,_=>none
def aCA:List AV->Option (List aS)
 | []=>some []
 | .p none x::l=>(match x.val? with | some _=>(match aCA l with | some xs=>some (x::xs) | none=>none) | none=>none)
 | _::_=>none
def aLg (tb:Tb)(op:BinOp)(ty:TypeId)(xs ys:List AV)(t:T)(K:AV->T->Prop):Prop:=match bM tb.se ty with
 | some ks=>(match aCA xs with
   | some ds=>(match aCA ys with
     | some es=>(match aDA ks ds es with
       | some b=>(match op with | .eql=>K (vB b) t | .neq=>K (vB (!b)) t | _=>False)
       | none=>False)
     | none=>False)
   | none=>False)
 | none=>False
def aLh (tb:Tb)(op:BinOp)(ty:TypeId)(x y:AV)(t:T)(K:AV->T->Prop):Prop:=
 match x with
 | .p none (.int k m)=>(match y with
   | .p none (.int k' n)=>(match op with
     | .shl=>shW .shl k m n t K
     | .shr=>shW .shr k m n t K
     | op=>if k=k' then aLe op k m n t K else False)
   | _=>False)
 | .p none (.bool m)=>(match y with
   | .p none (.bool n)=>(match bM tb.bo ty with
     | some _=>(match op with
       | .eql=>K (vB (m==n)) t
       | .neq=>K (vB (!(m==n))) t
       | _=>False)
     | none=>False)
   | _=>False)
 | .p none (.str m)=>(match y with
   | .p none (.str n)=>aLf op m n t K
   | _=>False)
 | .agg xs=>(match y with
   | .agg ys=>aLg tb op ty xs ys t K
   | _=>False)
 | _=>False
def unW (op:UnOp)(x:AV)(t:T)(K:AV->T->Prop):Prop:=match op with
 | .not=>(match x with | .p none (.bool b)=>K (vB (!b)) t | _=>False)
 | .neg=>(match x with | .p none (.int k m)=>arW k (-m) t K | _=>False)
 | _=>False
def aIJ (c x y:AV)(t:T)(K:AV->T->Prop):Prop:=match c with
 | .p none (.bool b)=>(match t with
   | .br t1 t2=>(b=true->K x t1)/\(b=false->K y t2)
   | .lit t=>(match b with | true=>K x t | false=>K y t)
   | .yes t=>b=true/\K x t
   | .no t=>b=false/\K y t
   | t=>(match b with | true=>K x t | false=>K y t))
 | _=>False
def jY (rs:Rl):Option Nat->Bool
 | none=>true
 | some h=>(aO rs h).isSome
def aGK (xs:List (List aS))(i:Nat)(t:T)(K:List aS->T->Prop):Prop:=match t with
 | .elem _ enc l t=>xs=l.map enc/\i<l.length/\ ∀x,l[i]? =some x->K (enc x) (t x)
 | .row r t=>xs[i]? =some r/\K r t
 | _=>False
def aLi (tb:Tb)(rs:Rl)(ty:TypeId)(x y:AV)(t:T)(K:AV->T->Prop):Prop:=
 match y with
 | .p none (.int _ n)=>(match bM tb.sl ty with
   | some e=>(match bM tb.ty e with
     | some q=>(match x with
       | .p o (.sl _ k xs)=>(match Nat.beq k q.2.1&&jY rs o with
         | true=>0<=n/\aGK xs n.toNat t (fun r t=>K (.rp o r) t)
         | false=>False)
       | .own h=>(match aO rs h with
         | some (.arr _ k _ xs)=>(match Nat.beq k q.2.1 with
           | true=>(match t with | .len m t=>0<=n/\xs.length=m/\n<m/\K (.ep h k n.toNat 0) t | _=>False)
           | false=>False)
         | some (.hole _ k xs _ _ _)=>(match Nat.beq k q.2.1 with
           | true=>(match t with | .len m t=>0<=n/\xs.length=m/\n<m/\K (.ep h k n.toNat 0) t | _=>False)
           | false=>False)
         | _=>False)
       | _=>False)
     | none=>False)
   | none=>False)
 | _=>False
def aLj (tb:Tb)(rs:Rl)(s:TypeId)(x:AV)(f:Nat)(K:AV->Prop):Prop:=match bM tb.fl s with
 | some l=>(match bM l f with
   | some q=>(match x with
     | .ptr h o=>K (.ptr h (o+q.1))
     | .ep h k i o=>(match jY rs (some h) with | true=>K (.ep h k i (o+q.1)) | false=>False)
     | .rp o xs=>(match jY rs o with | true=>K (.rp o (xs.drop q.1)) | false=>False)
     | _=>False)
   | none=>False)
 | none=>False
def aIK (tb:Tb)(rs:Rl)(ty:TypeId)(x:AV)(t:T)(K:AV->T->Prop):Prop:=match bM tb.ty ty with
 | some (ag,n,_,_)=>(match x with
   | .ptr h off=>(match aO rs h with
     | some (.box _ cs)=>(match ag with
       | true=>(match Nat.ble (off+n) cs.length with | true=>K (.agg ((cs.drop off).take n)) t | false=>False)
       | false=>(match cs[off]? with | some v=>K v t | none=>False))
     | _=>False)
   | .rp o xs=>(match jY rs o with
     | true=>(match ag with
       | true=>(match Nat.ble n xs.length with | true=>K (.agg ((xs.take n).map (pOf o))) t | false=>False)
       | false=>(match xs[0]? with | some y=>K (pOf o y) t | none=>False))
     | false=>False)
   | .ep h k i off=>(match aO rs h with
     | some (.arr _ k' dp xs)=>(match Nat.beq k k' with
       | true=>aGK xs i t (fun row t=>match ag with
         | true=>(match Nat.ble (off+n) row.length with | true=>K (.agg (((row.drop off).take n).map (pOf (match dp with | true=>some h | false=>none)))) t | false=>False)
         | false=>(match row[off]? with | some y=>K (pOf (match dp with | true=>some h | false=>none) y) t | none=>False))
       | false=>False)
     | some (.hole _ k' _ i' j h')=>(match Nat.beq k k' &&Nat.beq off j&& !ag with
       | true=>i=i' /\K (.own h') t
       | false=>False)
     | _=>False)
   | _=>False)
 | none=>False
def nI (rs:Rl):AV->Bool
 | .p o _=>jY rs o
 | .own h=>jY rs (some h)
 | .ptr h _=>jY rs (some h)
 | .ep h _ _ _=>jY rs (some h)
 | .rp o _=>jY rs o
 | .bsl h _=>jY rs (some h)
 | .fn _ _=>true
 | .nil=>true
 | .agg _=>true
 | _=>false
def xD:List AV->Option (List aS)
 | []=>some []
 | .p none x::l=>(match x.val? with
   | some _=>(match xD l with | some ds=>some (x::ds) | none=>none)
   | none=>none)
 | _=>none
def nV:List aS->Bool
 | []=>true
 | x::l=>x.val?.isSome&&nV l
def stW (tb:Tb)(rs:Rl)(ty:TypeId)(x y:AV)(t:T)(K:List Nat->List (Nat × Rs)->T->Prop):Prop:=match bM tb.ty ty with
 | some (_,n,_,_)=>(match x with
   | .ptr h off=>(match aO rs h with
     | some (.box tq cs)=>(match nI rs y&&Nat.beq (cM y).length n&&Nat.ble (off+n) cs.length with
       | true=>K [h] [(h,.box tq (cs.take off++cM y++cs.drop (off+n)))] t
       | false=>False)
     | _=>False)
   | .ep h k i off=>(match aO rs h with
     | some (.arr e k' dp xs)=>(match Nat.beq k k' with
       | true=>(match xD (cM y) with
         | some ys=>(match Nat.beq ys.length n with
           | true=>(match t with
             | .set _ enc l y t=>xs=l.map enc/\i<l.length/\ ∀x,l[i]? =some x->nV (enc x)=true/\off+n<=(enc x).length/\(enc x).take off++ys++(enc x).drop (off+n)=enc (y x)/\K [h] [(h,.arr e k dp ((l.set i (y x)).map enc))] (t x)
             | _=>False)
           | false=>False)
         | none=>False)
       | false=>False)
     | _=>False)
   | _=>False)
 | none=>False
def aF0 (tb:Tb)(rs:Rl)(ty:TypeId)(parts:List (Nat × AV))(K:AV->Prop):Prop:=match bM tb.pl ty with
 | some (z,ps)=>(match parts.all (fun q=>nI rs q.2) with
   | true=>(match lM (ps.toArray[·]?) (z.cells.toList.map avC) parts with | some cs=>K (.agg cs) | none=>False)
   | false=>False)
 | none=>False
def yE (k:Nat):Nat->List aS->List (List aS)
 | 0,_=>[]
 | n+1,l=>l.take k::yE k n (l.drop k)
def aLk (tb:Tb)(sl:Sl)(rs:Rl)(d:Nat)(ty:TypeId)(n:Nat)(parts:List (Nat × AV))(K:AV->List (Nat × Rs)->Prop):Prop:=match bM tb.sl ty with
 | some e=>(match bM tb.ty e with
   | some (_,k,_,_)=>(match dL sl rs (100*d) with
     | true=>(match n with
       | 0=>(match parts with | []=>K (.own (100*d)) [(100*d,.arr e k true [])] | _=>False)
       | n=>(match parts.all (fun q=>nI rs q.2)&&Nat.ble (n*k) 16777216&&Nat.blt 0 (n*k) with
         | true=>(match lM (fun i=>some (i*k,k)) (List.replicate (n*k) AV.no) parts with
           | some cs=>(match xD cs with
             | some ds=>(match Nat.beq ds.length (n*k) with | true=>K (.own (100*d)) [(100*d,.arr e k true (yE k n ds))] | false=>False)
             | none=>(match (dB cs).contains (100*d) with | true=>False | false=>K (.bsl (100*d) n) [(100*d,.box e cs)]))
           | none=>False)
         | false=>False))
     | false=>False)
   | none=>False)
 | none=>False
def qC:List Value->List aS->Bool
 | [],[]=>true
 | .int k n::vs,.int k' m::ds=>(if k=k' then true else false)&&(if n=m then true else false)&&qC vs ds
 | .bool a::vs,.bool b::ds=>(a==b)&&qC vs ds
 | .slice none 0 0::vs,.sl _ _ []::ds=>qC vs ds
 | .string ⟨⟨[]⟩⟩::vs,.str ⟨⟨[]⟩⟩::ds=>qC vs ds
 | _,_=>false
def mkW (tb:Tb)(sl:Sl)(rs:Rl)(d:Nat)(ty:TypeId)(x y:AV)(t:T)(K:AV->List (Nat × Rs)->T->Prop):Prop:=match bM tb.sl ty with
 | some e=>(match bM tb.ty e with
   | some (_,k,bt,z)=>(match dL sl rs (100*d) with
     | true=>(match x with
       | .p none (.int _ a)=>(match y with
         | .p none (.int _ b)=>(match t with
           | .mk n zr zs t=>(match qC z.cells.toList zr with
             | true=>a=n/\b=n/\bt*n<=281474976710656/\n<=9223372036854775807/\List.replicate n zr=zs/\K (.own (100*d)) [(100*d,.arr e k true zs)] t
             | false=>False)
           | _=>False)
         | _=>False)
       | _=>False)
     | false=>False)
   | none=>False)
 | none=>False
def aLl (rs:Rl)(x:AV)(t:T)(K:AV->T->Prop):Prop:=match x with
 | .p o (.sl _ _ xs)=>(match jY rs o with
   | true=>(match t with | .len n t=>xs.length=n/\K (vI n) t | _=>False)
   | false=>False)
 | .own h=>(match aO rs h with
   | some (.arr _ _ _ xs)=>(match t with | .len n t=>xs.length=n/\K (vI n) t | _=>False)
   | _=>False)
 | .nil=>K (vI 0) t
 | _=>False
def sV (rs:Rl):List AV->List aS->Prop->Prop
 | [],row,K=>(match row with | []=>K | _=>False)
 | c::cs,row,K=>(match row with
   | []=>False
   | x::row=>(match c with
     | .p none y=>(match y.val? with | some _=>EqD y x/\sV rs cs row K | none=>False)
     | .own g=>(match x with
       | .sl e k ys=>(match aO rs g with
         | some (.arr e' k' true xs)=>(match Nat.beq e' e&&Nat.beq k' k with | true=>xs=ys/\sV rs cs row K | false=>False)
         | _=>False)
       | _=>False)
     | .nil=>(match x with | .sl _ _ ys=>ys= []/\sV rs cs row K | _=>False)
     | _=>False))
def qD:List AV->List Nat
 | []=>[]
 | .own g::cs=>g::qD cs
 | _::cs=>qD cs
def aJx (rs:Rl)(e k:Nat)(x:AV)(K:List Nat->Bool->List (List aS)->Prop):Prop:=match x with
 | .own h=>(match aO rs h with
   | some (.arr e' k' dp xs)=>(match Nat.beq e' e&&Nat.beq k' k with | true=>K [h] dp xs | false=>False)
   | _=>False)
 | .nil=>K [] true []
 | _=>False
def aJy (rs:Rl)(k:Nat)(x:AV)(K:List (List aS)->Prop):Prop:=match x with
 | .p o (.sl _ k' xs)=>(match jY rs o&&Nat.beq k' k with | true=>K xs | false=>False)
 | .own h=>(match aO rs h with
   | some (.arr _ k' _ xs)=>(match Nat.beq k' k with | true=>K xs | false=>False)
   | _=>False)
 | .nil=>K []
 | _=>False
def aDz:List AV->Option (List aS)
 | []=>some []
 | .p none x::cs=>(match aDz cs with | some r=>some (x::r) | none=>none)
 | _=>none
def oW:Nat->Nat->List aS->List (List aS)
 | 0,_,_=>[]
 | n+1,k,row=>row.take k::oW n k (row.drop k)
def roW (rs:Rl)(k:Nat)(x:AV)(K:List (List aS)->Prop):Prop:=match x with
 | .p none (.sl _ k' xs)=>(match Nat.beq k' k with | true=>K xs | false=>False)
 | .bsl h n=>(match aO rs h with
   | some (.box _ cs)=>(match aDz cs with | some row=>(match Nat.beq row.length (n*k) with | true=>K (oW n k row) | false=>False) | none=>False)
   | _=>False)
 | _=>False
def aIL (dp:Bool)(xs:List (List aS))(K:Prop):Prop:=match dp with
 | false=>K
 | true=>(match xs with | []=>K | _=>False)
def gE:List Nat->Bool
 | []=>true
 | x::l=> !l.contains x&&gE l
def aLm (tb:Tb)(sl:Sl)(rs:Rl)(d:Nat)(ty:TypeId)(s x:AV)(t:T)(K:AV->List Nat->List (Nat × Rs)->T->Prop):Prop:=match bM tb.sl ty with
 | some e=>(match bM tb.ty e with
   | some (_,k,bt,_)=>(match dL sl rs (100*d)&&Nat.blt 0 k&&Nat.blt 0 bt with
     | true=>aJx rs e k s (fun del dp xs=>match t with
       | .app _ enc l l2 t=>xs=l.map enc/\aJy rs k x (fun ys=>ys=l2.map enc)/\(∀x,nV (enc x)=true)/\(l.length+l2.length)*bt<=140737488355328/\K (.own (100*d)) del [(100*d,.arr e k dp ((l++l2).map enc))] t
       | .appr _ enc l l2 t=>aIL dp xs (xs=l.map enc/\roW rs k x (fun ys=>ys=l2.map enc/\(l.length+l2.length)*bt<=140737488355328/\K (.own (100*d)) del [(100*d,.arr e k false ((l++l2).map enc))] t))
       | .appx _ enc l y t=>(match dp with
         | true=>(match x with
           | .bsl h2 1=>(match aO rs h2 with
             | some (.box _ cs)=>(match gE (del++qD cs) with
               | true=>(match Nat.beq (enc y).length k with | true=>xs=l.map enc/\sV rs cs (enc y) ((l.length+1)*bt<=140737488355328/\K (.own (100*d)) (del++qD cs) [(100*d,.arr e k true ((l++[y]).map enc))] t) | false=>False)
               | false=>False)
             | _=>False)
           | _=>False)
         | false=>False)
       | _=>False)
     | false=>False)
   | none=>False)
 | none=>False
def aLn (tb:Tb)(sl:Sl)(rs:Rl)(d:Nat)(ty:TypeId)(n:Nat)(parts:List (Nat × AV)){α:Type}(enc:α->List aS)(y:α)(K:AV->List Nat->List (Nat × Rs)->Prop):Prop:=match bM tb.sl ty with
 | some e=>(match bM tb.ty e with
   | some (_,k,_,_)=>(match dL sl rs (100*d)&&Nat.beq n 1&&parts.all (fun q=>nI rs q.2)&&Nat.ble (1*k) 16777216&&Nat.blt 0 (1*k)&&Nat.beq (enc y).length k with
     | true=>(match lM (fun i=>some (i*k,k)) (List.replicate (1*k) AV.no) parts with
       | some cs=>(match gE (qD cs) with
         | true=>sV rs cs (enc y) (K (.own (100*d)) (qD cs) [(100*d,.arr e k true ([y].map enc))])
         | false=>False)
       | none=>False)
     | false=>False)
   | none=>False)
 | none=>False
def aIM (tb:Tb)(sl:Sl)(rs:Rl)(d:Nat)(ty:TypeId)(s x:AV){α:Type}(enc:α->List aS)(l:List α)(y:α)(K:AV->List Nat->List (Nat × Rs)->Prop):Prop:=match bM tb.sl ty with
 | some e=>(match bM tb.ty e with
   | some (_,k,bt,_)=>(match dL sl rs (100*d)&&Nat.beq k 1&&Nat.blt 0 bt with
     | true=>aJx rs e 1 s (fun del dp xs=>match dp with
       | true=>(match x with
         | .bsl h2 1=>(match aO rs h2 with
           | some (.box _ [.own hp])=>(match aO rs hp with
             | some (.arr e3 k3 true ys)=>(match gE (hp::del) with
               | true=>xs=l.map enc/\enc y= [.sl e3 k3 ys]/\(l.length+1)*bt<=140737488355328/\K (.own (100*d)) del [(100*d,.hole e 1 ((l++[y]).map enc) l.length 0 hp)]
               | false=>False)
             | _=>False)
           | _=>False)
         | _=>False)
       | false=>False)
     | false=>False)
   | _=>False)
 | _=>False
def aIN (tb:Tb)(sl:Sl)(rs:Rl)(d:Nat)(ty:TypeId)(s x:AV){α:Type}(enc:α->List aS)(l:List α)(y:α)(K:AV->List Nat->List (Nat × Rs)->Prop):Prop:=match bM tb.sl ty with
 | some e=>(match bM tb.ty e with
   | some (_,k,bt,_)=>(match dL sl rs (100*d)&&Nat.blt 0 k&&Nat.blt 0 bt with
     | true=>(match s with
       | .own h0=>(match aO rs h0 with
         | some (.hole e' k' xs i j hp)=>(match x with
           | .bsl h2 1=>(match aO rs h2 with
             | some (.box _ cs)=>(match Nat.beq e' e&&Nat.beq k' k&&gE (hp::h0::qD cs)&& !Nat.beq hp (100*d)&&Nat.beq (enc y).length k with
               | true=>xs=l.map enc/\sV rs cs (enc y) ((l.length+1)*bt<=140737488355328/\K (.own (100*d)) (h0::qD cs) [(100*d,.hole e k ((l++[y]).map enc) i j hp)])
               | false=>False)
             | _=>False)
           | _=>False)
         | _=>False)
       | _=>False)
     | false=>False)
   | _=>False)
 | _=>False
def aLo (tb:Tb)(sl:Sl)(rs:Rl)(d:Nat)(ty:TypeId)(s x:AV)(t:T)(K:AV->List Nat->List (Nat × Rs)->T->Prop):Prop:=match t with
 | .apph _ enc l y t=>aIM tb sl rs d ty s x enc l y (fun v del new=>K v del new t)
 | .appy _ enc l y t=>aIN tb sl rs d ty s x enc l y (fun v del new=>K v del new t)
 | t=>aLm tb sl rs d ty s x t K
def aIO (P:Program)(sl:Sl)(rs:Rl)(d:Nat)(f:FuncId)(args:List AV)(t:T)(K:AV->List (Nat × Rs)->T->Prop):Prop:=match t with
 | .call rv rr t=>(match xA rs args with
   | some ys=>(match ((fN rv&&rr.all fun q=>aBn q.2) || jV args)&&(rr.all fun q=>aB3 q.2&&dL sl rs (100*d+q.1))&&((bD rv).all fun h=>(aN rr h).isSome) with
     | true=>zC P f ys rv rr/\K (fT (100*d+ ·) rv) (rr.map fun q=>(100*d+q.1,q.2)) t
     | false=>False)
   | none=>False)
 | _=>False
def bN (b:Int):List aS:=[.int .u8 b]
def lS (l:List Int):ByteArray:=⟨(l.map fun n=>UInt8.ofNat n.toNat).toArray⟩
def oX (s:ByteArray)(i:Nat):Int:=((s.data.toList.getD i 0).toNat:Nat)
def cvW (tb:Tb)(rs:Rl)(src dst:TypeId)(x:AV)(t:T)(K:AV->T->Prop):Prop:=match bM tb.nt dst with
 | some k=>(match bM tb.nt src with
   | some _=>(match x with | .p none (.int _ n)=>arW k n t K | _=>False)
   | none=>False)
 | none=>(match bM tb.st dst with
   | some _=>(match bM tb.sl src with
     | some e=>(match bM tb.nt e with
       | some .u8=>(match t with
         | .bytes l t=>aJy rs 1 x (fun xs=>xs=l.map bN)/\K (.p none (.str (lS l))) t
         | _=>False)
       | _=>False)
     | none=>False)
   | none=>False)
def aLp (tb:Tb)(ty:TypeId)(x y:AV)(t:T)(K:AV->T->Prop):Prop:=match bM tb.st ty with
 | some _=>(match x with
   | .p none (.str s)=>(match y with
     | .p none (.int _ n)=>0<=n/\n<s.size/\K (.p none (.int .u8 (oX s n.toNat))) t
     | _=>False)
   | _=>False)
 | none=>False
def aLq (tb:Tb)(ty:TypeId)(x:AV)(lo hi:Option AV)(t:T)(K:AV->T->Prop):Prop:=match bM tb.st ty with
 | some _=>(match x with
   | .p none (.str s)=>(match lo with
     | none=>(match hi with
       | none=>False
       | some (.p none (.int _ b))=>0<=b/\b<=s.size/\K (.p none (.str (s.extract 0 b.toNat))) t
       | _=>False)
     | some (.p none (.int _ a))=>(match hi with
       | none=>0<=a/\a<=s.size/\K (.p none (.str (s.extract a.toNat s.size))) t
       | some (.p none (.int _ b))=>0<=a/\a<=b/\b<=s.size/\K (.p none (.str (s.extract a.toNat b.toNat))) t
       | _=>False)
     | _=>False)
   | _=>False)
 | none=>False
def aLr (tb:Tb)(rs:Rl)(ty:TypeId)(x:AV)(lo hi:Option AV)(t:T)(K:AV->T->Prop):Prop:=match bM tb.sl ty with
 | some e=>(match bM tb.ty e with
   | some (_,k,_,_)=>(match x with
     | .p o (.sl e' k' xs)=>(match jY rs o&&Nat.beq k' k with
       | true=>(match t with
         | .sub _ enc l t=>(match lo with
           | none=>(match hi with
             | some (.p none (.int _ b))=>xs=l.map enc/\0<=b/\b<=(l.length:Int)/\K (.p o (.sl e' k' ((l.take b.toNat).map enc))) t
             | _=>False)
           | some (.p none (.int _ a))=>(match hi with
             | none=>xs=l.map enc/\0<=a/\a<=(l.length:Int)/\K (.p o (.sl e' k' ((l.drop a.toNat).map enc))) t
             | some (.p none (.int _ b))=>xs=l.map enc/\0<=a/\a<=b/\b<=(l.length:Int)/\K (.p o (.sl e' k' (((l.take b.toNat).drop a.toNat).map enc))) t
             | _=>False)
           | _=>False)
         | _=>False)
       | false=>False)
     | _=>False)
   | none=>False)
 | none=>aLq tb ty x lo hi t K
def aJz (rs:Rl):AV->Option (AV × List Nat)
 | .own h=>(match aO rs h with | some (.arr e k _ xs)=>some (.p none (.sl e k xs),[h]) | _=>none)
 | .p none x=>some (.p none x,[])
 | .nil=>some (.nil,[])
 | _=>none
def aF1 (rs:Rl):List AV->Option (List AV × List Nat)
 | []=>some ([],[])
 | c::cs=>(match aJz rs c with | some q=>(match aF1 rs cs with | some r=>some (q.1::r.1,q.2++r.2) | none=>none) | none=>none)
def aHG (rs:Rl):AV->Option (AV × List Nat)
 | .agg cs=>(match aF1 rs cs with | some q=>some (.agg q.1,q.2) | none=>none)
 | x=>aJz rs x
def aGL (rs:Rl)(d:Nat)(x:AV)(t:T)(K:AV->List Nat->T->Prop):Prop:=match t with
 | .stl d' t=>(match Nat.beq d' d with
   | true=>(match aHG rs x with | some q=>K q.1 q.2 t | none=>False)
   | false=>K x [] (.stl d' t))
 | t=>K x [] t
def aF2 (tb:Tb)(s:TypeId)(x:AV)(f:Nat)(K:AV->Prop):Prop:=match bM tb.fl s with
 | some l=>(match bM l f with
   | some q=>(match bM tb.ty q.2 with
     | some (g,n,_,_)=>(match x with
       | .agg cs=>(match g with
         | true=>(match Nat.ble (q.1+n) cs.length with | true=>K (.agg ((cs.drop q.1).take n)) | false=>False)
         | false=>(match cs[q.1]? with | some y=>K y | none=>False))
       | _=>False)
     | none=>False)
   | none=>False)
 | none=>False
def aLs (P:Program)(tb:Tb)(sl:Sl)(rs:Rl)(d:Nat)(o:Op)(t:T)(K:AV->List Nat->List (Nat × Rs)->T->Prop):Prop:=match o with
 | .move x=>aGL rs d (bX sl x) t (fun v del t=>K v del [] t)
 | .assign x=>aGL rs d (bX sl x) t (fun v del t=>K v del [] t)
 | .pick c x y=>aIJ (bX sl c) (bX sl x) (bX sl y) t (fun v t=>K v [] [] t)
 | .extract x i=>(match bX sl x with | .tup vs=>(match vs[i]? with | some v=>K v [] [] t | none=>False) | _=>False)
 | .binOp op ty x y _=>aLh tb op ty (bX sl x) (bX sl y) t (fun v t=>K v [] [] t)
 | .unOp op _ x=>unW op (bX sl x) t (fun v t=>K v [] [] t)
 | .fieldAddr s x f=>aLj tb rs s (bX sl x) f (fun v=>K v [] [] t)
 | .field s x f=>aF2 tb s (bX sl x) f (fun v=>K v [] [] t)
 | .nilCheck x=>(match bX sl x with | .ptr h o=>K (.ptr h o) [] [] t | _=>False)
 | .indexAddr ty x y=>aLi tb rs ty (bX sl x) (bX sl y) t (fun v t=>K v [] [] t)
 | .load ty x=>aIK tb rs ty (bX sl x) t (fun v t=>K v [] [] t)
 | .alloc ty=>(match bM tb.ty ty with | some (_,_,_,z)=>(match dL sl rs (100*d) with | true=>K (.ptr (100*d) 0) [] [(100*d,.box ty (z.cells.toList.map avC))] t | false=>False) | none=>False)
 | .box ty x=>(match nI rs (bX sl x)&&dL sl rs (100*d) with | true=>K (.ptr (100*d) 0) [] [(100*d,.box ty (cM (bX sl x)))] t | false=>False)
 | .build ty parts=>aF0 tb rs ty (parts.toList.map fun q=>(q.1,bX sl q.2)) (fun v=>K v [] [] t)
 | .buildSlice ty n parts=>(match t with | .bld _ enc y t=>aLn tb sl rs d ty n (parts.toList.map fun q=>(q.1,bX sl q.2)) enc y (fun v del new=>K v del new t) | t=>aLk tb sl rs d ty n (parts.toList.map fun q=>(q.1,bX sl q.2)) (fun v new=>K v [] new t))
 | .makeSlice ty x y=>mkW tb sl rs d ty (bX sl x) (bX sl y) t (fun v new t=>K v [] new t)
 | .call c=>(match c with
   | ⟨.builtin b,⟨args⟩,⟨ts⟩⟩=>(match b with
     | .len=>(match args,ts with
       | [x],[ty]=>(match bM tb.sl ty with
         | some _=>aLl rs (bX sl x) t (fun v t=>K v [] [] t)
         | none=>(match bM tb.st ty with
           | some _=>(match bX sl x with | .p none (.str s)=>K (vI s.size) [] [] t | _=>False)
           | none=>False))
       | _,_=>False)
     | .min=>(match args with
       | [x,y]=>(match bX sl x with | .p none (.int k m)=>(match bX sl y with | .p none (.int _ n)=>K (.p none (.int k (if n<m then n else m))) [] [] t | _=>False) | _=>False)
       | _=>False)
     | .max=>(match args with
       | [x,y]=>(match bX sl x with | .p none (.int k m)=>(match bX sl y with | .p none (.int _ n)=>K (.p none (.int k (if m<n then n else m))) [] [] t | _=>False) | _=>False)
       | _=>False)
     | .append=>(match args,ts with
       | [s,x],[ty,ty']=>EqN ty' ty (aLo tb sl rs d ty (bX sl s) (bX sl x) t K)
       | _,_=>False)
     | _=>False)
   | ⟨.value x,⟨args⟩,_⟩=>(match bX sl x with
     | .fn f caps=>aIO P sl rs d f (args.map (bX sl)++caps) t (fun v new t=>K v [] new t)
     | _=>False)
   | _=>False)
 | .convert src dst x=>cvW tb rs src dst (bX sl x) t (fun v t=>K v [] [] t)
 | .index ty x y=>aLp tb ty (bX sl x) (bX sl y) t (fun v t=>K v [] [] t)
 | .slice ty x lo hi none=>aLr tb rs ty (bX sl x) (lo.map (bX sl)) (hi.map (bX sl)) t (fun v t=>K v [] [] t)
 | .makeFunc (.func f) ⟨[]⟩ captured=>K (.fn f (captured.toList.map (bX sl))) [] [] t
 | _=>False
def opW (P:Program)(tb:Tb)(sl:Sl)(rs:Rl)(dst:Option Nat)(o:Op)(t:T)(K:AV->List Nat->List (Nat × Rs)->T->Prop):Prop:=match dst with
 | some d=>aLs P tb sl rs d o t K
 | none=>(match o with
   | .store ty x y=>stW tb rs ty (bX sl x) (bX sl y) t (fun del new t=>K .no del new t)
   | _=>False)
theorem oY {sl:Sl}{rs:Rl}: ∀{o:Option Nat},jY rs o=true->iN (mk sl rs) o
 | none,_=>trivial
 | some h,e=>Option.isSome_iff_exists.1 e
theorem sE {rs:Rl}{h:Nat}(e:jY rs (some h)=true): ∃r,aO rs h=some r:=Option.isSome_iff_exists.1 e
theorem tJ {k:IntKind}{r:Int}{t:T}{K:AV->T->Prop}(h:arW k r t K): ∃t',K (.p none (.int k (k.wrap r))) t' :=by
 unfold arW at h;split at h
 ·split at h
  ·exact⟨_,h⟩
  have e:IntKind.i64.wrap r=r:=IntWalk.i64_in _ h.1;rw[e];exact⟨_,h.2⟩
 exact⟨_,h⟩
section
variable {K:Nat->Prop} {φ:dW} {A:Nat->Prop} {w0:oR} {N:Nat} {S:St} {a:Act} {w:World} {P:Program}
theorem G.holed (hG:G K φ A w0 N S a w){h e k i j h' :Nat}{xs:List (List aS)}(hr:S.res h=some (.hole e k xs i j h')):
 ∃(pl:Pl) (v:Value) (zs:List Value),φ h=some pl/\w.ownsRow 0 e k pl.val xs.length zs/\pl.top=pl.val.ownBlock.toList/\i<xs.length/\(∀pl',φ h' =some pl' ->v=pl'.val)/\ ∃g,pl.top= [g]/\w.cell? ⟨g,i*k+j,none⟩=some v:=by
 obtain⟨pl,hp,xs1,x1,d,x2,xs2,css1,c1,v,c2,css2,Fs1,F1,F2,Fs2,e0,e1,e2,e3,h1,h2,h3,h4,h5,h6,h7,h8⟩:=hG.dom h _ hr;have hi:i<xs.length:=by rw[e0];simp;omega
 have hl1:=h4.len;have hl2:=h7.len;have hc1:=h5.len;have hc2:=h6.len;have hlen:(css1++(c1++v::c2)::css2).length=xs.length:=by rw[e0];simp;omega
 have hk: ∀c∈css1++(c1++v::c2)::css2,c.length=k:=fun c hc=>by
  rcases aFZ.1 hc with hc | hc
  ·exact hl1.2 c hc
  rcases aIo.1 hc with rfl | hc
  ·rw[<-e3];simp;omega
  exact hl2.2 c hc
 obtain⟨b,c,hv,_,_,hb,hcell⟩:=gP h1 hk hlen;obtain⟨g,rfl,hg,hcs⟩:=hcell i (c1++v::c2) (by rw[aHx (by omega)];simp[hl1.1,e1]);refine⟨pl,v,_,hp,h1,h2,hi,h8.2,g,by rw[h2,hg];rfl,hcs j v ?_⟩;rw[aHx (by omega)];simp[hc1,e2]
theorem xE {o:Oper}{x y:Operand}{t e:TypeId}{k bt:Nat}{ag:Bool}{z:Value}{h i j h' :Nat}{e' :Nat}{xs:List (List aS)}{ik:IntKind}{n:Int}(ho:o.op= .indexAddr t x y)(ht:P.underlying t=some (.slice e))(hk:dH P e=some (ag,k,bt,z))
 (hx:S.ev x= .own h) (hh:S.res h=some (.hole e' k xs i j h')) (hy:S.ev y= .p none (.int ik n)) (h0:0<=n) (hn:n<xs.length):aQ P o S ⟨.ep h k n.toNat 0,[],[]⟩:=
 bZ fun K φ A w0 N a w hG=>by
  obtain⟨pl,v,zs,hp,hown,htop,_⟩:=hG.holed hh;have h1:=hG.ev x;rw[hx] at h1;unfold aC at h1;have he:=h1 pl hp;have h2:a.eval y= .int ik n:=eU (x:=S.ev y) (by rw[hy];rfl) (hG.ev y);obtain⟨b,c,hv,_,_,hb⟩:=eB hown;obtain⟨g,rfl,_,_⟩:=hb (by omega);rw[hv] at he htop;refine⟨.pointer (some ⟨g,0+n.toNat*k,none⟩),by simp[execOp,ho,he,h2,pU ht hk w ik n xs.length c g 0 h0 hn],?_⟩;unfold aC;exact fun pl' hp' =>by rw[hp] at hp';injection hp' with e;subst e;exact⟨g,by rw[htop];rfl,by simp⟩
theorem zD {o:Oper}{x:Operand}{t:TypeId}{n bt:Nat}{z:Value}{h e k i j h' :Nat}{xs:List (List aS)}(ho:o.op= .load t x)(ht:dH P t=some (false,n,bt,z))(hx:S.ev x= .ep h k i j)(hh:S.res h=some (.hole e k xs i j h')):
 aQ P o S ⟨.own h',[],[]⟩:=
 bZ fun K φ A w0 N a w hG=>by
  obtain⟨pl,v,zs,hp,_,_,_,h8,g,hg,hc⟩:=hG.holed hh;have h1:=hG.ev x;rw[hx] at h1;unfold aC at h1;obtain⟨g',hg',he⟩:=h1 pl hp;rw[hg] at hg';simp only[List.cons.injEq,and_true] at hg';subst hg';refine⟨v,?_,by unfold aC;exact h8⟩;simp only[execOp,ho,he,Sem.run_bind];rw[jS ht w g (i*k+j) v hc];rfl
end
section
variable {P:Program} {tb:Tb} {sl:Sl} {rs:Rl} {ty:TypeId} {pos:String} {aft:Array Edge} {d:Nat} {gd:Option (Nat × Bool)}
section
variable {x y:Operand} {s s' :TypeId}
theorem aEB {op:BinOp}{k k' :IntKind}{m n:Int}{r:aS}{v:Value}(hx:bX sl x= .p none (.int k m))(hy:bX sl y= .p none (.int k' n))(hv:r.val? =some v)(hr: ∀w,(binOp op s (.int k m) (.int k' n)).run P w= .ok v w):aQ P ⟨some d,.binOp op s x y s',ty,pos,aft,gd⟩ (mk sl rs) ⟨.p none r,[],[]⟩:=
 fO hv (fun e w he=>by
  have h1:=he x _ (nH hx rfl);have h2:=he y _ (nH hy rfl)
  have hg:(eqGuard op s x y (.int k m) (.int k' n)).run P w= .ok () w:=by
   unfold eqGuard;cases op<;>rfl
  simp only[execOp,h1,h2,Sem.run_bind,hg,Result.andThen_ok,hr];rfl)
theorem aKA {op:BinOp}{k:IntKind}{m n:Int}{t:T}{K:AV->T->Prop}(hx:bX sl x= .p none (.int k m))(hy:bX sl y= .p none (.int k n))(h:aLe op k m n t K): ∃v t',aQ P ⟨some d,.binOp op s x y s',ty,pos,aft,gd⟩ (mk sl rs) ⟨v,[],[]⟩/\K v t' :=by
 unfold aLe at h;split at h
 ·exact⟨_,_,aLX hx hy,h⟩
 ·exact⟨_,_,aLY hx hy,h⟩
 ·exact⟨_,_,aLZ hx hy,h⟩
 ·exact⟨_,_,aL0 hx hy,h⟩
 ·exact⟨_,_,aL1 hx hy,h⟩
 ·exact⟨_,_,aL2 hx hy,h⟩
 ·obtain⟨t',h⟩:=tJ h;exact⟨_,_,aL3 hx hy,h⟩
 ·obtain⟨t',h⟩:=tJ h;exact⟨_,_,aL4 hx hy,h⟩
 ·obtain⟨t',h⟩:=tJ h;exact⟨_,_,aL5 hx hy,h⟩
 ·obtain⟨t',h'⟩:=tJ h.2;exact⟨_,_,aL6 hx hy h.1,h'⟩
 ·exact⟨_,_,aL7 hx hy h.1,h.2⟩
 ·exact⟨_,_,cU hx hy rfl (fun w=>by simp[binOp,Op.intBits,iL]),h⟩
 ·exact⟨_,_,cU hx hy rfl (fun w=>by simp[binOp,Op.intBits,iL]),h⟩
 ·exact⟨_,_,cU hx hy rfl (fun w=>by simp[binOp,Op.intBits,iL]),h⟩
 ·exact⟨_,_,cU hx hy rfl (fun w=>by simp[binOp,Op.intBits,iL]),h⟩
 cases h
theorem aIP {op:BinOp}{k k' :IntKind}{m n:Int}{t:T}{K:AV->T->Prop}(hx:bX sl x= .p none (.int k m))(hy:bX sl y= .p none (.int k' n))(h:shW op k m n t K): ∃v t',aQ P ⟨some d,.binOp op s x y s',ty,pos,aft,gd⟩ (mk sl rs) ⟨v,[],[]⟩/\K v t' :=by
 unfold shW at h;split at h
 ·split at h
  ·obtain⟨⟨h0,h1⟩,h⟩:=h;obtain⟨t',h⟩:=tJ h;have hm:min n.toNat 64=n.toNat:=by omega
   refine⟨_,_,aEB hx hy rfl (fun w=>?_),h⟩;simp only[binOp,Op.shift];rw[if_neg (by omega)];simp[IntKind.bits,hm]
  ·obtain⟨⟨h0,h1⟩,h⟩:=h;have hm:min n.toNat 64=n.toNat:=by omega
   refine⟨_,_,aEB hx hy rfl (fun w=>?_),h⟩;simp only[binOp,Op.shift];rw[if_neg (by omega)];have:(0:Int)<=2^n.toNat:=by exact_mod_cast aB2 (2^n.toNat)
   simp[IntKind.bits,hm,Int.fdiv_eq_ediv_of_nonneg _ this]
  cases h
 cases h
theorem aKB {op:BinOp}{m n:ByteArray}{t:T}{K:AV->T->Prop}(hx:bX sl x= .p none (.str m))(hy:bX sl y= .p none (.str n))(h:aLf op m n t K): ∃v t',aQ P ⟨some d,.binOp op s x y s',ty,pos,aft,gd⟩ (mk sl rs) ⟨v,[],[]⟩/\K v t' :=by
 unfold aLf at h;split at h
 ·exact⟨_,_,aB7 hx hy,h⟩
 ·exact⟨_,_,aB6 hx hy,h⟩
 ·refine⟨_,_,lO hx hy rfl (fun w=>?_),h.2⟩;simp only[binOp,Op.stringOp]
  rw [if_neg (by have:=h.1;have e:IntKind.i64.max=9223372036854775807:=by decide
                 rw[e];omega)]
  simp
 ·exact⟨_,_,lO hx hy rfl (fun w=>by simp[binOp,Op.stringOp]),h⟩
 ·exact⟨_,_,lO hx hy rfl (fun w=>by simp[binOp,Op.stringOp]),h⟩
 cases h
theorem aAS {K:Nat->Prop}{φ:dW}{w:World}: ∀{xs:List AV} {ds:List aS} {vs:List Value},aCA xs=some ds->aH K φ w xs vs->ds.map aS.val? =vs.map some
 | [],ds,vs,h,hm=>by
   unfold aCA at h;injection h with h
   subst h;unfold aH at hm;subst hm;rfl
 | x::xs,ds,vs,h,hm=>by
   unfold aCA at h;split at h
   ·rename_i heq;cases heq
   ·rename_i y l heq;injection heq with e1 e2
    subst e1;subst e2;split at h
    ·rename_i u hu;split at h
     ·rename_i ds' hd;injection h with h
      subst h;unfold aH at hm;obtain⟨v,vs',rfl,h1,h2⟩:=hm;unfold aC at h1;rw[(dR.scalar hu).1 h1];simp[hu,aAS hd h2]
     cases h
    cases h
   cases h
theorem aEC {P:Program}{w:World}(dp:Nat): ∀(ks:List Nat) (xs ys:List aS) (us vs:List Value) (fs:List Field) (i:Nat) (U V:Array Value) (b:Bool),aDA ks xs ys=some b->xs.map aS.val? =us.map some->ys.map aS.val? =vs.map some->aBz P i ks fs=true->(∀j u,us[j]? =some u->U[i+j]? =some u)->(∀j u,vs[j]? =some u->V[i+j]? =some u)->
 (Op.eqFields (dp+1) U V fs).run P w= .ok b w
 | [],[],[],us,vs,fs,i,U,V,b,h,_,_,hf,_,_=>by
   unfold aDA at h;injection h with h
   subst h;cases fs with
   | nil=>simp[Op.eqFields]
   | cons f fs=>simp[aBz] at hf
 | k::ks,x::xs,y::ys,us,vs,fs,i,U,V,b,h,hu,hv,hf,hU,hV=>by
   cases us with
   | nil=>simp at hu
   | cons u us=>
   cases vs with
   | nil=>simp at hv
   | cons v vs=>
   cases fs with
   | nil=>simp[aBz] at hf
   | cons f fs=>
   simp only[aHl,List.cons.injEq] at hu hv;unfold aBz at hf;rw[aBT] at hf;obtain⟨hf1,hf2⟩:=hf;unfold aMa at hf1;simp only[aBT,Bool.not_eq_true',beq_eq_false_iff_ne] at hf1;obtain⟨⟨n1,n2⟩,n3⟩:=hf1;have n2:=aD8 n2;unfold aDA at h;split at h
   ·rename_i b1 hb1;split at h
    ·rename_i c hc;injection h with h
     subst h;have ih:=aEC (P:=P) (w:=w) dp ks xs ys us vs fs (i+1) U V c hc hu.2 hv.2 hf2 (fun j q hq=>by have:=hU (j+1) q (by simpa using hq);rw[show i+1+j=i+(j+1) by omega];exact this) (fun j q hq=>by have:=hV (j+1) q (by simpa using hq);rw[show i+1+j=i+(j+1) by omega];exact this);have hU0:=hU 0 u rfl;have hV0:=hV 0 v rfl;rw[Nat.add_zero] at hU0 hV0
     have key:(Op.equalIn (dp+1) f.type u v).run P w= .ok b1 w/\(isAgg f.type).run P w= .ok false w:=by
      split at n3
      ·rename_i kk hk;have:=aD8 n3;subst this;unfold eq1 at hb1;split at hb1
       ·rename_i k1 a1 k2 a2;split at hb1
        ·rename_i e;subst e;injection hb1 with hb1
         simp only[aS.val?,Option.some.injEq] at hu hv;rw[<-hu.1,<-hv.1,<-hb1];exact⟨run_equalIn_int w dp f.type _ _ _ _ hk,by simp[isAgg,run_underlying hk]⟩
        cases hb1
       ·rename_i e;cases e
       ·rename_i e;cases e
       cases hb1
      ·rename_i hk;have:=aD8 n3;subst this;unfold eq1 at hb1;split at hb1
       ·rename_i e;cases e
       ·injection hb1 with hb1
        simp only[aS.val?,Option.some.injEq] at hu hv;rw[<-hu.1,<-hv.1,<-hb1];exact⟨run_equalIn_bool' w dp f.type _ _ hk,by simp[isAgg,run_underlying hk]⟩
       ·rename_i e;cases e
       cases hb1
      ·rename_i hk;have:=aD8 n3;subst this;unfold eq1 at hb1;split at hb1
       ·rename_i e;cases e
       ·rename_i e;cases e
       ·injection hb1 with hb1
        simp only[aS.val?,Option.some.injEq] at hu hv;rw[<-hu.1,<-hv.1,<-hb1];exact⟨run_equalIn_string w dp f.type _ _ hk,by simp[isAgg,run_underlying hk]⟩
       cases hb1
      cases n3
     unfold Op.eqFields;rw[if_pos n1];simp only[part,Sem.run_bind,key.2,Result.andThen_ok,Bool.false_eq_true,if_false,n2,hU0,hV0,Sem.run_pure,key.1,Sem.run_ite];cases b1 with
     | true=>simpa using ih
     | false=>simp
    cases h
   cases h
 | [],[],_::_,_,_,_,_,_,_,_,h,_,_,_,_,_=>by simp[aDA] at h
 | [],_::_,_,_,_,_,_,_,_,_,h,_,_,_,_,_=>by simp[aDA] at h
 | _::_,[],_,_,_,_,_,_,_,_,h,_,_,_,_,_=>by simp[aDA] at h
 | _::_,_::_,[],_,_,_,_,_,_,_,h,_,_,_,_,_=>by simp[aDA] at h
theorem aKC {op:BinOp}{xs ys:List AV}{t:T}{K:AV->T->Prop}(hT:fQ P tb)(hx:bX sl x= .agg xs)(hy:bX sl y= .agg ys)(h:aLg tb op s xs ys t K): ∃v t',aQ P ⟨some d,.binOp op s x y s',ty,pos,aft,gd⟩ (mk sl rs) ⟨v,[],[]⟩/\K v t' :=by
 unfold aLg at h;split at h
 ·rename_i ks hk;have hk:=bP hT.se hk;unfold seB at hk;simp only[aBT,Bool.not_eq_true'] at hk;obtain⟨⟨k1,k2⟩,k3⟩:=hk;split at k1
  ·rename_i fs hfs;have hfo:P.fieldsOf s=fs:=by simp[Program.fieldsOf,hfs]
   split at h
   ·rename_i ds hds;split at h
    ·rename_i es hes;split at h
     ·rename_i b hb
      have run: ∀K φ A w0 N a w,G K φ A w0 N (mk sl rs) a w-> ∃U V:Array Value,a.eval x= .agg U/\a.eval y= .agg V/\(Op.equalIn 10000 s (.agg U) (.agg V)).run P w= .ok b w:=fun K φ A w0 N a w hG=>by
       have h1:=hG.ev x;have h2:=hG.ev y;rw[bA,hx] at h1;rw[bA,hy] at h2;unfold aC at h1 h2;obtain⟨U,e1,_,m1⟩:=h1;obtain⟨V,e2,_,m2⟩:=h2;refine⟨U,V,e1,e2,?_⟩;rw[show (10000:Nat)=9999+1 from rfl,run_equalIn_agg w 9999 s _ _ (by rw[hfo];exact hfs) k2,hfo];exact aEC 9998 ks ds es U.toList V.toList fs.toList 0 U V b hb (aAS hds m1) (aAS hes m2) k1 (fun j u hu=>by simpa using hu) (fun j u hu=>by simpa using hu)
      split at h
      ·refine⟨_,_,bZ fun K φ A w0 N a w hG=>?_,h⟩;obtain⟨U,V,e1,e2,hr⟩:=run K φ A w0 N a w hG;refine⟨.bool b,?_,by unfold aC dR;rfl⟩;have hg:(eqGuard .eql s x y (.agg U) (.agg V)).run P w= .ok () w:=run_eqGuard_agg w .eql s x y _ _ k3;simp only[execOp,e1,e2,Sem.run_bind,hg,Result.andThen_ok,run_eql_struct,hr];rfl
      ·refine⟨_,_,bZ fun K φ A w0 N a w hG=>?_,h⟩;obtain⟨U,V,e1,e2,hr⟩:=run K φ A w0 N a w hG;refine⟨.bool (!b),?_,by unfold aC dR;rfl⟩;have hg:(eqGuard .neq s x y (.agg U) (.agg V)).run P w= .ok () w:=run_eqGuard_agg w .neq s x y _ _ k3;simp only[execOp,e1,e2,Sem.run_bind,hg,Result.andThen_ok,run_neq_struct,hr];rfl
      cases h
     cases h
    cases h
   cases h
  cases k1
 cases h
theorem aKD {op:BinOp}{t:T}{K:AV->T->Prop}(hT:fQ P tb)(h:aLh tb op s (bX sl x) (bX sl y) t K): ∃v t',aQ P ⟨some d,.binOp op s x y s',ty,pos,aft,gd⟩ (mk sl rs) ⟨v,[],[]⟩/\K v t' :=by
 unfold aLh at h;split at h
 ·rename_i k m hx;split at h
  ·rename_i k' n hy;split at h
   ·exact aIP hx hy h
   ·exact aIP hx hy h
   split at h
   ·rename_i e;subst e;exact aKA hx hy h
   cases h
  cases h
 ·rename_i m hx;split at h
  ·rename_i n hy;split at h
   ·rename_i u hu;have hu:=bP hT.bo hu;split at h
    ·exact⟨_,_,aDu hu hx hy,h⟩
    ·exact⟨_,_,aDt hu hx hy,h⟩
    cases h
   cases h
  cases h
 ·rename_i m hx;split at h
  ·rename_i n hy;exact aKB hx hy h
  cases h
 ·rename_i xs hx;split at h
  ·rename_i ys hy;exact aKC hT hx hy h
  cases h
 cases h
theorem aLt {op:UnOp}{t:T}{K:AV->T->Prop}(h:unW op (bX sl x) t K): ∃v t',aQ P ⟨some d,.unOp op s x,ty,pos,aft,gd⟩ (mk sl rs) ⟨v,[],[]⟩/\K v t' :=by
 unfold unW at h;split at h
 ·split at h
  ·rename_i b hx;exact⟨_,_,aL8 hx,h⟩
  cases h
 ·split at h
  ·rename_i k m hx;obtain⟨t',h⟩:=tJ h;exact⟨_,t',aL9 hx,by rw[Int.zero_sub];exact h⟩
  cases h
 cases h
theorem aIQ {c:Operand}{t:T}{K:AV->T->Prop}(h:aIJ (bX sl c) (bX sl x) (bX sl y) t K): ∃v t',aQ P ⟨some d,.pick c x y,ty,pos,aft,gd⟩ (mk sl rs) ⟨v,[],[]⟩/\K v t' :=by
 unfold aIJ at h;split at h
 ·rename_i b hc;split at h
  ·cases b with
   | true=>exact⟨_,_,mS hc rfl,h.1 rfl⟩
   | false=>exact⟨_,_,mS hc rfl,h.2 rfl⟩
  ·cases b with
   | true=>exact⟨_,_,mS hc rfl,h⟩
   | false=>exact⟨_,_,mS hc rfl,h⟩
  ·obtain⟨e,h⟩:=h;subst e;exact⟨_,_,mS hc rfl,h⟩
  ·obtain⟨e,h⟩:=h;subst e;exact⟨_,_,mS hc rfl,h⟩
  cases b with
  | true=>exact⟨_,_,mS hc rfl,h⟩
  | false=>exact⟨_,_,mS hc rfl,h⟩
 cases h
theorem aED {xs:List (List aS)}{i:Nat}{t:T}{K:List aS->T->Prop}(h:aGK xs i t K): ∃r t',xs[i]? =some r/\K r t' :=by
 unfold aGK at h;split at h
 ·obtain⟨rfl,h1,h2⟩:=h;rename_i l t' ;exact⟨_,_,xC (aCp h1),h2 _ (aCp h1)⟩
 ·exact⟨_,_,h.1,h.2⟩
 cases h
theorem aKE {t:T}{K:AV->T->Prop}(hT:fQ P tb)(h:aLi tb rs s (bX sl x) (bX sl y) t K): ∃v t',aQ P ⟨some d,.indexAddr s x y,ty,pos,aft,gd⟩ (mk sl rs) ⟨v,[],[]⟩/\K v t' :=by
 unfold aLi at h;split at h
 ·rename_i ik n hy;split at h
  ·rename_i e he;split at h
   ·rename_i q hq;obtain⟨ag,k0,bt,z⟩:=q;have he:=bP hT.sl he;have hq:=bP hT.ty hq;split at h
    ·rename_i o te k xs hx;split at h
     ·rename_i hb;rw[aBT] at hb;have hk:=aD8 hb.1
      dsimp only at hk
      subst hk;obtain⟨r,t',h1,h2⟩:=aED h.2;exact⟨_,_,aBY (o' :=o) rfl he hq (by rw[bA];exact hx) (oY hb.2) (by rw[bA];exact hy) h.1 h1,h2⟩
     cases h
    ·rename_i hh hx;split at h
     ·rename_i e' k dp xs hr;split at h
      ·rename_i hb;have hk:=aD8 hb
       dsimp only at hk
       subst hk;split at h
       ·obtain⟨h0,h1,h2,h3⟩:=h;exact⟨_,_,aGx he hq hx hr hy h0 (by omega),h3⟩
       cases h
      cases h
     ·rename_i e' k xs _ _ _ hr;split at h
      ·rename_i hb;have hk:=aD8 hb
       dsimp only at hk
       subst hk;split at h
       ·obtain⟨h0,h1,h2,h3⟩:=h;exact⟨_,_,xE rfl he hq (by rw[bA];exact hx) hr (by rw[bA];exact hy) h0 (by omega),h3⟩
       cases h
      cases h
     cases h
    cases h
   cases h
  cases h
 cases h
theorem aKF {f:Nat}{K:AV->Prop}(hT:fQ P tb)(h:aLj tb rs s (bX sl x) f K): ∃v,aQ P ⟨some d,.fieldAddr s x f,ty,pos,aft,gd⟩ (mk sl rs) ⟨v,[],[]⟩/\K v:=by
 unfold aLj at h;split at h
 ·rename_i l hl;split at h
  ·rename_i q hq;have hf:=bP (bP hT.fl hl) hq;obtain⟨off,ft⟩:=q;split at h
   ·rename_i hh o hx;exact⟨_,nR rfl hf (by rw[bA];exact hx),h⟩
   ·rename_i hh k i o hx;split at h
    ·rename_i hb;obtain⟨r,hr⟩:=sE hb;exact⟨_,aGw hf hx hr,h⟩
    cases h
   ·rename_i o xs hx;split at h
    ·rename_i hb;exact⟨_,zS (o' :=o) rfl hf (by rw[bA];exact hx) (oY hb),h⟩
    cases h
   cases h
  cases h
 cases h
theorem aAT {P:Program}{s:TypeId}{f off:Nat}{ft:TypeId}{g:Bool}{n b:Nat}{z:Value}(h:kS P s f=some (off,ft))(ht:dH P ft=some (g,n,b,z))(w:World)(cs:Array Value):
 (g=true->(Instr.field s (.agg cs) f).run P w= .ok (.agg (cs.extract off (off+n))) w)/\(g=false-> ∀v,cs[off]? =some v->(Instr.field s (.agg cs) f).run P w= .ok v w):=by
 obtain⟨h1,h2,_⟩:=dK ht w;unfold kS at h;split at h
 ·rename_i fields hu;split at h
  ·rename_i fd hf;split at h
   ·rename_i i hi;split at h
    ·cases h
    simp only[Option.some.injEq,Prod.mk.injEq] at h;obtain⟨rfl,rfl⟩:=h;exact⟨fun e=>by subst e;simp[Instr.field,run_underlying hu,hf,asAgg,part,h1,h2],fun e v hv=>by subst e;simp[Instr.field,run_underlying hu,hf,asAgg,part,h1,hv]⟩
   cases h
  cases h
 cases h
theorem aHH {f:Nat}{K:AV->Prop}(hT:fQ P tb)(h:aF2 tb s (bX sl x) f K): ∃v,aQ P ⟨some d,.field s x f,ty,pos,aft,gd⟩ (mk sl rs) ⟨v,[],[]⟩/\K v:=by
 unfold aF2 at h;split at h
 ·rename_i l hl;split at h
  ·rename_i q hq;have hf:=bP (bP hT.fl hl) hq;obtain⟨off,ft⟩:=q;split at h
   ·rename_i g n b z hz;have hz:=bP hT.ty hz;split at h
    ·rename_i cs hx;split at h
     ·split at h
      ·rename_i hb;have hb:=aCd hb;refine⟨_,bZ fun K φ A w0 N a w hG=>?_,h⟩;have h1:=hG.ev x;rw[bA,hx] at h1;unfold aC at h1;obtain⟨vs,he,hone,hm⟩:=h1;refine⟨.agg (vs.extract off (off+n)),?_,?_⟩
       ·simp only[execOp,he,Sem.run_bind];rw[(aAT hf hz w vs).1 rfl];rfl
       unfold aC;refine⟨_,rfl,fun u hu=>hone u ?_,?_⟩
       ·rw[Array.toList_extract,List.extract_eq_take_drop] at hu;exact List.mem_of_mem_drop (List.mem_of_mem_take hu)
       rw[Array.toList_extract,List.extract_eq_take_drop,show off+n - off=n by omega];exact jR n (jQ off hm)
      cases h
     split at h
     ·rename_i y hy;refine⟨_,bZ fun K φ A w0 N a w hG=>?_,h⟩;have h1:=hG.ev x;rw[bA,hx] at h1;unfold aC at h1;obtain⟨vs,he,hone,hm⟩:=h1;obtain⟨v,hv,hmv⟩:=iP hm hy;refine⟨v,?_,hmv⟩;simp only[execOp,he,Sem.run_bind];rw[(aAT hf hz w vs).2 rfl v (by rw[<-Array.getElem?_toList];exact hv)];rfl
     cases h
    cases h
   cases h
  cases h
 cases h
theorem aIR {t:T}{K:AV->T->Prop}(hT:fQ P tb)(h:aIK tb rs s (bX sl x) t K): ∃v t',aQ P ⟨some d,.load s x,ty,pos,aft,gd⟩ (mk sl rs) ⟨v,[],[]⟩/\K v t' :=by
 unfold aIK at h;split at h
 ·rename_i ag n bt z hq;have hq:=bP hT.ty hq;split at h
  ·rename_i hh off hx;split at h
   ·rename_i tq cs hr;split at h
    ·split at h
     ·rename_i hb;exact⟨_,_,aIA hq hx hr (aCd hb) rfl,h⟩
     cases h
    split at h
    ·rename_i v hv;exact⟨_,_,aGy hq hx hr hv,h⟩
    cases h
   cases h
  ·rename_i o xs hx;split at h
   ·rename_i hl;split at h
    ·split at h
     ·rename_i hb;exact⟨_,_,aB0 (o' :=o) rfl hq (by rw[bA];exact hx) (oY hl) (aCd hb),h⟩
     cases h
    split at h
    ·rename_i y hy;exact⟨_,_,zU (o' :=o) rfl hq (by rw[bA];exact hx) (oY hl) hy,h⟩
    cases h
   cases h
  ·rename_i hh k i off hx;split at h
   ·rename_i e k' dp xs hr;split at h
    ·rename_i hb;have:=aD8 hb;subst this;obtain⟨row,t',h1,h2⟩:=aED h;cases ag with
     | true=>
       dsimp only at h2
       split at h2
       ·rename_i hb2;cases dp with
        | true=>exact⟨_,_,aDv hq hx hr h1 (aCd hb2) rfl,h2⟩
        | false=>exact⟨_,_,aDv hq hx hr h1 (aCd hb2) rfl,h2⟩
       cases h2
     | false=>
       dsimp only at h2
       split at h2
       ·rename_i y hy;cases dp with
        | true=>exact⟨_,_,aBt hq hx hr h1 hy rfl,h2⟩
        | false=>exact⟨_,_,aBt hq hx hr h1 hy rfl,h2⟩
       cases h2
    cases h
   ·rename_i e k' xs i' j h' hr;split at h
    ·rename_i hb;simp only[aBT,Bool.not_eq_true'] at hb;obtain⟨⟨b1,b2⟩,b3⟩:=hb;have b1:=aD8 b1;have b2:=aD8 b2;obtain⟨b4,h⟩:=h;subst b1 b2 b3 b4;exact⟨_,_,zD rfl hq (by rw[bA];exact hx) hr,h⟩
    cases h
   cases h
  cases h
 cases h
theorem aLu {c:Operand}{t:TypeId}(hc:iA (mk sl rs) (bX sl c))(hf:dL sl rs (100*d)=true):aQ P ⟨some d,.box t c,ty,pos,aft,gd⟩ (mk sl rs) ⟨.ptr (100*d) 0,[],[(100*d,.box t (cM (bX sl c)))]⟩:=
 by rw[<-bA sl rs];exact aGr rfl (by rw[bA];exact hc) (cW hf)
theorem aIS {t:TypeId}{ag:Bool}{n bt:Nat}{z:Value}(ht:dH P t=some (ag,n,bt,z))(hf:dL sl rs (100*d)=true):aQ P ⟨some d,.alloc t,ty,pos,aft,gd⟩ (mk sl rs) ⟨.ptr (100*d) 0,[],[(100*d,.box t (z.cells.toList.map avC))]⟩:=
 aDg rfl ht (cW hf)
theorem aHI {t e:TypeId}{k bt:Nat}{ag:Bool}{z:Value}(ht:P.underlying t=some (.slice e))(hk:dH P e=some (ag,k,bt,z))(hf:dL sl rs (100*d)=true):aQ P ⟨some d,.buildSlice t 0 #[],ty,pos,aft,gd⟩ (mk sl rs) ⟨.own (100*d),[],[(100*d,.arr e k true [])]⟩:=
 aCs rfl ht hk (cW hf)
theorem aHJ {t e:TypeId}{len k bt:Nat}{ag:Bool}{z:Value}{parts:Array (Nat × Operand)}{rows:List (List aS)}{css:List (List Value)}(ht:P.underlying t=some (.slice e))(hk:dH P e=some (ag,k,bt,z))(hs:len*k<=16777216)(hp:0<len*k)(hc: ∀q∈parts.toList,iA (mk sl rs) (bX sl q.2))
 (hf:lM (fun i=>some (i*k,k)) (List.replicate (len*k) AV.no) (parts.toList.map fun q=>(q.1,bX sl q.2))=some (rows.flatten.map (AV.p none))) (hfl:gW rows css) (hrk: ∀x∈rows,x.length=k) (hrl:rows.length=len) (hfr:dL sl rs (100*d)=true):aQ P ⟨some d,.buildSlice t len parts,ty,pos,aft,gd⟩ (mk sl rs) ⟨.own (100*d),[],[(100*d,.arr e k true rows)]⟩:=
 aCt rfl ht hk hs hp (fun q hq=>by rw[bA];exact hc q hq) (by rw[<-hf];congr 1) (cW hfr) hfl hrk hrl
theorem aLv {t e:TypeId}{len k bt:Nat}{ag:Bool}{z:Value}{parts:Array (Nat × Operand)}{cs:List AV}(ht:P.underlying t=some (.slice e))(hk:dH P e=some (ag,k,bt,z))(hs:len*k<=16777216)(hp:0<len*k)(hc: ∀q∈parts.toList,iA (mk sl rs) (bX sl q.2))
 (hf:lM (fun i=>some (i*k,k)) (List.replicate (len*k) AV.no) (parts.toList.map fun q=>(q.1,bX sl q.2))=some cs) (hfr:dL sl rs (100*d)=true) (hm:(dB cs).contains (100*d)=false):aQ P ⟨some d,.buildSlice t len parts,ty,pos,aft,gd⟩ (mk sl rs) ⟨.bsl (100*d) len,[],[(100*d,.box e cs)]⟩:=
 aGs rfl ht hk hs hp (fun q hq=>by rw[bA];exact hc q hq) (by rw[<-hf];congr 1) (cW hfr) (by simpa using hm)
theorem aKG {u v:Operand}{t e:TypeId}{k bt n:Nat}{ag:Bool}{z:Value}{kl kc:IntKind}{zr:List aS}(ht:P.underlying t=some (.slice e))(hk:dH P e=some (ag,k,bt,z))(hx:bX sl u= .p none (.int kl n))(hy:bX sl v= .p none (.int kc n))(hz: ∀w,bU w zr z.cells.toList [])(hn:bt*n<=281474976710656)(hm:n<=maxLen)(hf:dL sl rs (100*d)=true):aQ P ⟨some d,.makeSlice t u v,ty,pos,aft,gd⟩ (mk sl rs) ⟨.own (100*d),[],[(100*d,.arr e k true (List.replicate n zr))]⟩:=
 zB rfl ht hk (by rw[bA];exact hx) (by rw[bA];exact hy) hz hn hm (cW hf)
section
variable {u v:Operand} {t e:TypeId} {k bt:Nat} {ag:Bool} {z:Value} {del:List Nat} {dp:Bool} {xs ys:List (List aS)}
theorem aKH {dss:List (List Value)}{zs:List (List aS)}(ht:P.underlying t=some (.slice e))(hk:dH P e=some (ag,k,bt,z))(hpos:0<k)(htgt:pY (mk sl rs) (bX sl u) del e k dp xs)(hsrc:sB (mk sl rs) (bX sl v) k ys)(hf:gW ys dss)(hb:(xs.length+ys.length)*bt<=140737488355328)(h63:xs.length+ys.length<=maxLen)(hzs:xs++ys=zs)(hfr:dL sl rs (100*d)=true):aQ P ⟨some d,.call { callee:= .builtin .append,args:= #[u,v],argTypes:= #[t,t] },ty,pos,aft,gd⟩ (mk sl rs) ⟨.own (100*d),del,[(100*d,.arr e k dp zs)]⟩:=
 by rw[<-hzs];exact aAB rfl ht hk hpos (by rw[bA];exact htgt) (by rw[bA];exact hsrc) hf h63 hb (cW hfr)
theorem aKI {zs:List (List aS)}(ht:P.underlying t=some (.slice e))(hk:dH P e=some (ag,k,bt,z))(hpos:0<k)(htgt:pY (mk sl rs) (bX sl u) del e k dp xs)(hdx:dp=false\/xs= [])(hsrc:aDj (mk sl rs) (bX sl v) k ys)(hb:(xs.length+ys.length)*bt<=140737488355328)(h63:xs.length+ys.length<=maxLen)(hzs:xs++ys=zs)(hfr:dL sl rs (100*d)=true):aQ P ⟨some d,.call { callee:= .builtin .append,args:= #[u,v],argTypes:= #[t,t] },ty,pos,aft,gd⟩ (mk sl rs) ⟨.own (100*d),del,[(100*d,.arr e k false zs)]⟩:=
 by rw[<-hzs];exact aCu rfl ht hk hpos (by rw[bA];exact htgt) hdx (by rw[bA];exact hsrc) h63 hb (cW hfr)
theorem aKJ {h2:Nat}{e2:TypeId}{cs:List AV}{row:List aS}{hs:List Nat}{zs:List (List aS)}(ht:P.underlying t=some (.slice e))(hk:dH P e=some (ag,k,bt,z))(hpos:0<k)(htgt:pY (mk sl rs) (bX sl u) del e k dp xs)(hdx:dp=true\/xs= [])(hx:bX sl v= .bsl h2 1)(hr:aO rs h2=some (.box e2 cs))(hm:mP (mk sl rs) cs row hs)(hrow:row.length=k)(hnd:(del++hs).Nodup)(hb:(xs.length+1)*bt<=140737488355328)(h63:xs.length+1<=maxLen)(hzs:xs++[row]=zs)(hfr:dL sl rs (100*d)=true):aQ P ⟨some d,.call { callee:= .builtin .append,args:= #[u,v],argTypes:= #[t,t] },ty,pos,aft,gd⟩ (mk sl rs) ⟨.own (100*d),(del++hs),[(100*d,.arr e k true zs)]⟩:=
 by rw[<-hzs];exact aAC rfl ht hk hpos (by rw[bA];exact htgt) hdx (by rw[bA];exact hx) hr hm hrow hnd h63 hb (cW hfr)
theorem aKK {h2 hp:Nat}{e2 e3:TypeId}{k3:Nat}{ys zs:List (List aS)}(ht:P.underlying t=some (.slice e))(hk:dH P e=some (ag,1,bt,z))(htgt:pY (mk sl rs) (bX sl u) del e 1 true xs)(hx:bX sl v= .bsl h2 1)(hr:aO rs h2=some (.box e2 [.own hp]))(hhp:aO rs hp=some (.arr e3 k3 true ys))(hnd:hp ∉ del)(hb:(xs.length+1)*bt<=140737488355328)(h63:xs.length+1<=maxLen)(hzs:xs++[[.sl e3 k3 ys]]=zs)(hfr:dL sl rs (100*d)=true):aQ P ⟨some d,.call { callee:= .builtin .append,args:= #[u,v],argTypes:= #[t,t] },ty,pos,aft,gd⟩ (mk sl rs) ⟨.own (100*d),del,[(100*d,.hole e 1 zs xs.length 0 hp)]⟩:=
 by rw[<-hzs];exact aAE rfl ht hk (by rw[bA];exact htgt) (by rw[bA];exact hx) hr hhp hnd h63 hb (cW hfr)
theorem aKL {h0 h2 hp i j:Nat}{e2:TypeId}{cs:List AV}{row:List aS}{hs:List Nat}{zs:List (List aS)}(ht:P.underlying t=some (.slice e))(hk:dH P e=some (ag,k,bt,z))(hpos:0<k)(hs0:bX sl u= .own h0)(hr0:aO rs h0=some (.hole e k xs i j hp))(hx:bX sl v= .bsl h2 1)(hr:aO rs h2=some (.box e2 cs))(hm:mP (mk sl rs) cs row hs)(hrow:row.length=k)(hnd:(h0::hs).Nodup)(hnp:hp ∉ h0::hs)(hne:hp≠100*d)(hb:(xs.length+1)*bt<=140737488355328)(h63:xs.length+1<=maxLen)(hzs:xs++[row]=zs)(hfr:dL sl rs (100*d)=true):aQ P ⟨some d,.call { callee:= .builtin .append,args:= #[u,v],argTypes:= #[t,t] },ty,pos,aft,gd⟩ (mk sl rs) ⟨.own (100*d),h0::hs,[(100*d,.hole e k zs i j hp)]⟩:=
 by rw[<-hzs];exact aAF rfl ht hk hpos (by rw[bA];exact hs0) hr0 (by rw[bA];exact hx) hr hm hrow hnd hnp hne h63 hb (cW hfr)
end
theorem qE {x:AV}(h:nI rs x=true):iA (mk sl rs) x:=by
 cases x<;>simp only[nI] at h<;>first|exact oY h|trivial
theorem xF: ∀{cs:List AV} {ds:List aS},xD cs=some ds->cs=ds.map (AV.p none)/\ ∃us,fB ds us
 | [],ds,h=>by simp only[xD,Option.some.injEq] at h;subst h;exact⟨rfl,[],rfl⟩
 | c::cs,ds,h=>by
   unfold xD at h;split at h
   ·rename_i e;cases e
   ·rename_i x l e;injection e with e1 e2
    subst e1;subst e2;split at h
    ·rename_i v hv;split at h
     ·rename_i ds' hd;injection h with h
      subst h;obtain⟨h1,us,h2⟩:=xF hd;exact⟨by rw[h1];rfl,v::us,by simp only[fB,aHl,hv] at h2 ⊢;rw[h2]⟩
     cases h
    cases h
   cases h
theorem vH: ∀{ds:List aS},nV ds=true-> ∃us,fB ds us
 | [],_=>⟨[],rfl⟩
 | x::l,h=>by
   simp only[nV,aBT] at h;obtain⟨us,h2⟩:=vH h.2;obtain⟨v,hv⟩:=Option.isSome_iff_exists.1 h.1;exact⟨v::us,by simp only[fB,aHl,hv] at h2 ⊢;rw[h2]⟩
theorem aCB {α:Type}{enc:α->List aS}(h: ∀x,nV (enc x)=true): ∀(l:List α),∃css,gW (l.map enc) css
 | []=>⟨[],rfl⟩
 | x::l=>by
   obtain⟨us,h1⟩:=vH (h x);obtain⟨css,h2⟩:=aCB h l;exact⟨us::css,us,css,rfl,h1,h2⟩
theorem aLw {t:T}{K:List Nat->List (Nat × Rs)->T->Prop}(hT:fQ P tb)(h:stW tb rs s (bX sl x) (bX sl y) t K): ∃del new t',aQ P ⟨none,.store s x y,ty,pos,aft,gd⟩ (mk sl rs) ⟨.no,del,new⟩/\K del new t' :=by
 unfold stW at h;split at h
 ·rename_i ag n bt z hq;have hq:=bP hT.ty hq;split at h
  ·rename_i hh off hx;split at h
   ·rename_i tq cs hr;split at h
    ·rename_i hb;simp only[aBT] at hb;exact⟨_,_,_,aGz hq hx hr (qE hb.1.1) (aD8 hb.1.2) (aCd hb.2) rfl,h⟩
    cases h
   cases h
  ·rename_i hh k i off hx;split at h
   ·rename_i e k' dp xs hr;split at h
    ·rename_i hb;have:=aD8 hb;subst this;split at h
     ·rename_i ys hys;split at h
      ·rename_i hn;split at h
       ·obtain⟨h1,h2,h3⟩:=h;obtain⟨h4,h5,h6,h7⟩:=h3 _ (aCp h2);obtain⟨hy1,us,hy2⟩:=xF hys;obtain⟨vs,hv⟩:=vH h4;subst h1;exact⟨_,_,_,aHA hq hx hr (xC (aCp h2)) hv hy1 hy2 (aD8 hn) h5 (by rw[h6,List.map_set]),h7⟩
       cases h
      cases h
     cases h
    cases h
   cases h
  cases h
 cases h
theorem sF {parts:List (Nat × Operand)}(h:(parts.map fun q=>(q.1,bX sl q.2)).all (fun q=>nI rs q.2)=true): ∀q∈parts,iA (mk sl rs) (bX sl q.2):=fun q hq=>by
 have:=aFJ.1 h (q.1,bX sl q.2) (List.mem_map_of_mem (f:=fun q:Nat × Operand=>(q.1,bX sl q.2)) hq);exact qE this
theorem aHK {parts:Array (Nat × Operand)}{K:AV->Prop}(hT:fQ P tb)(h:aF0 tb rs s (parts.toList.map fun q=>(q.1,bX sl q.2)) K): ∃v,aQ P ⟨some d,.build s parts,ty,pos,aft,gd⟩ (mk sl rs) ⟨v,[],[]⟩/\K v:=by
 unfold aF0 at h;split at h
 ·rename_i z ps hp;have hp:=bP hT.pl hp;split at h
  ·rename_i hc;split at h
   ·rename_i cs hf;exact⟨_,aIB hp (sF hc) hf,h⟩
   cases h
  cases h
 cases h
theorem aEE (k:Nat): ∀(n:Nat) (l:List aS),l.length=n*k->(yE k n l).flatten=l/\(∀x∈yE k n l,x.length=k)/\(yE k n l).length=n
 | 0,l,h=>by
   have:l= []:=aGC (by simpa using h);subst this;simp[yE]
 | n+1,l,h=>by
   have hk:k<=l.length:=by rw[h,Nat.succ_mul];omega
   obtain⟨h1,h2,h3⟩:=aEE k n (l.drop k) (by rw[aMc,h,Nat.succ_mul];omega);simp only[yE];refine⟨by rw[aJj,h1,List.take_append_drop],fun x hx=>?_,by simp[h3]⟩;rcases aIo.1 hx with rfl | hx
   ·simp;omega
   exact h2 x hx
theorem yF (k:Nat): ∀(n:Nat) (l:List aS),(∀x∈l,x.val?.isSome=true)-> ∃css,gW (yE k n l) css
 | 0,l,h=>⟨[],rfl⟩
 | n+1,l,h=>by
   obtain⟨css,h1⟩:=yF k n (l.drop k) (fun x hx=>h x (List.mem_of_mem_drop hx))
   have hf: ∀(m:List aS),(∀x∈m,x.val?.isSome=true)->nV m=true:=by
    intro m
    induction m with
    | nil=>intro _;rfl
    | cons a m ih=>intro hm;simp only[nV,aBT];exact⟨hm a (by simp),ih fun x hx=>hm x (by simp[hx])⟩
   obtain⟨us,h2⟩:=vH (hf (l.take k) (fun x hx=>h x (List.mem_of_mem_take hx)));exact⟨us::css,us,css,rfl,h2,h1⟩
theorem aCC: ∀{ds:List aS} {us:List Value},fB ds us-> ∀x∈ds,x.val?.isSome=true
 | [],_,_,x,hx=>by simp at hx
 | y::ds,[],h,x,hx=>by simp[fB] at h
 | y::ds,u::us,h,x,hx=>by
   simp only[fB,aHl,List.cons.injEq] at h;rcases aIo.1 hx with rfl | hx
   ·rw[h.1];rfl
   exact aCC (us:=us) h.2 x hx
theorem aKM {n:Nat}{parts:Array (Nat × Operand)}{K:AV->List (Nat × Rs)->Prop}(hT:fQ P tb)(h:aLk tb sl rs d s n (parts.toList.map fun q=>(q.1,bX sl q.2)) K): ∃v new,aQ P ⟨some d,.buildSlice s n parts,ty,pos,aft,gd⟩ (mk sl rs) ⟨v,[],new⟩/\K v new:=by
 unfold aLk at h;split at h
 ·rename_i e he;have he:=bP hT.sl he;split at h
  ·rename_i ag k bt z hq;have hq:=bP hT.ty hq;split at h
   ·rename_i hf;split at h
    ·split at h
     ·rename_i hp
      have:parts= #[]:=by
       apply Array.ext';simpa using hp
      subst this;exact⟨_,_,aHI he hq hf,h⟩
     cases h
    split at h
    ·rename_i hb;simp only[aBT] at hb;have hb1:=aCd hb.1.2;have hb2:0<n*k:=by have:=hb.2;simpa [Nat.blt_eq] using this
     split at h
     ·rename_i cs hcs;split at h
      ·rename_i ds hds;split at h
       ·rename_i hl;obtain⟨h1,us,h2⟩:=xF hds;obtain⟨q1,q2,q3⟩:=aEE k n ds (aD8 hl);obtain⟨css,q4⟩:=yF k n ds (aCC h2);exact⟨_,_,aHJ he hq hb1 hb2 (sF hb.1.1) (by rw[hcs,h1,q1]) q4 q2 q3 hf,h⟩
       cases h
      split at h
      ·cases h
      rename_i hm;exact⟨_,_,aLv he hq hb1 hb2 (sF hb.1.1) hcs hf hm,h⟩
     cases h
    cases h
   cases h
  cases h
 cases h
theorem lT {w:World}: ∀{vs:List Value} {ds:List aS},qC vs ds=true->bU w ds vs []
 | [],[],_=>aII
 | .int k n::vs,.int k' m::ds,h=>by
   simp only[qC,aBT] at h;obtain⟨⟨h1,h2⟩,h3⟩:=h;have e1:k=k' :=by by_cases e:k=k' <;>simp[e] at h1 ⊢
   have e2:n=m:=by by_cases e:n=m<;>simp[e] at h2 ⊢
   subst e1;subst e2;exact kZ (F1:=[]) aGJ (lT h3)
 | .bool a::vs,.bool b::ds,h=>by
   simp only[qC,aBT,beq_iff_eq] at h;obtain⟨h1,h3⟩:=h;subst h1;exact kZ (F1:=[]) aDy (lT h3)
 | v::vs,d::ds,h=>by
   unfold qC at h;split at h
   ·rename_i e;cases e
   ·rename_i k n vs' k' m ds' e1 e2;simp only[aBT] at h;injection e1 with e1 e3
    injection e2 with e2 e4
    subst e1;subst e2;subst e3;subst e4;obtain⟨⟨h1,h2⟩,h3⟩:=h;have e1:k=k' :=by by_cases e:k=k' <;>simp[e] at h1 ⊢
    have e2:n=m:=by by_cases e:n=m<;>simp[e] at h2 ⊢
    subst e1;subst e2;exact kZ (F1:=[]) aGJ (lT h3)
   ·rename_i a vs' b ds' e1 e2;simp only[aBT,beq_iff_eq] at h;injection e1 with e1 e3
    injection e2 with e2 e4
    subst e1;subst e2;subst e3;subst e4;obtain⟨h1,h3⟩:=h;subst h1;exact kZ (F1:=[]) aDy (lT h3)
   ·rename_i vs' e k ds' e1 e2;injection e1 with e1 e3
    injection e2 with e2 e4
    subst e1;subst e2;subst e3;subst e4;refine kZ (F1:=[]) ?_ (lT h);unfold lL;refine⟨[],[],?_,rfl,by unfold bE;exact⟨rfl,rfl⟩⟩;exact World.ownsRow_nil w 0 e k
   ·rename_i vs' ds' e1 e2;injection e1 with e1 e3
    injection e2 with e2 e4
    subst e1;subst e2;subst e3;subst e4;refine kZ (F1:=[]) ?_ (lT h);unfold lL;exact⟨rfl,rfl⟩
   cases h
 | [],_::_,h=>by simp[qC] at h
 | _::_,[],h=>by simp[qC] at h
theorem aLx {t:T}{K:AV->List (Nat × Rs)->T->Prop}(hT:fQ P tb)(h:mkW tb sl rs d s (bX sl x) (bX sl y) t K): ∃v new t',aQ P ⟨some d,.makeSlice s x y,ty,pos,aft,gd⟩ (mk sl rs) ⟨v,[],new⟩/\K v new t' :=by
 unfold mkW at h;split at h
 ·rename_i e he;have he:=bP hT.sl he;split at h
  ·rename_i ag k bt z hq;have hq:=bP hT.ty hq;split at h
   ·rename_i hf;split at h
    ·rename_i ka a hx;split at h
     ·rename_i kb b hy;split at h
      ·split at h
       ·rename_i n zr zs t' hz;obtain⟨h1,h2,h3,h4,h5,h6⟩:=h;subst h5;subst h1;subst h2;exact⟨_,_,_,aKG he hq hx hy (fun w=>lT hz) h3 (by unfold maxLen;omega) hf,h6⟩
       cases h
      cases h
     cases h
    cases h
   cases h
  cases h
 cases h
theorem aKN {t:T}{K:AV->T->Prop}{e:Nat}(he:P.underlying s=some (.slice e))(h:aLl rs (bX sl x) t K): ∃v t',aQ P ⟨some d,.call { callee:= .builtin .len,args:= #[x],argTypes:= #[s] },ty,pos,aft,gd⟩ (mk sl rs) ⟨v,[],[]⟩/\K v t' :=by
 unfold aLl at h;split at h
 ·rename_i o e' k xs hx;split at h
  ·rename_i hl;split at h
   ·obtain⟨h1,h2⟩:=h;refine⟨_,_,aFX he ?_,h2⟩;rw[hx];cases o with
    | none=>exact h1.symm
    | some hh=>exact⟨sE hl,h1.symm⟩
   cases h
  cases h
 ·rename_i hh hx;split at h
  ·rename_i e' k dp xs hr;split at h
   ·obtain⟨h1,h2⟩:=h;refine⟨_,_,aFX he ?_,h2⟩;rw[hx];exact⟨_,_,_,_,hr,h1.symm⟩
   cases h
  cases h
 ·rename_i hx;exact⟨_,_,aFX (n:=0) he (by rw[hx];rfl),h⟩
 cases h
theorem gL {K:Prop}: ∀{cs:List AV} {row:List aS},sV rs cs row K->mP (mk sl rs) cs row (qD cs)/\K
 | [],row,h=>by
   unfold sV at h;split at h
   ·exact⟨⟨rfl,rfl⟩,h⟩
   cases h
 | c::cs,row,h=>by
   unfold sV at h;split at h
   ·cases h
   rename_i y row';split at h
   ·rename_i x;split at h
    ·rename_i v hv;exact⟨⟨_,_,[],_,rfl,rfl,⟨h.1.eq.symm,by rw[hv];rfl,rfl⟩,(gL h.2).1⟩,(gL h.2).2⟩
    cases h
   ·rename_i g;split at h
    ·rename_i e k ys;split at h
     ·rename_i e' k' xs hr;split at h
      ·rename_i hb;rw[aBT] at hb;have e1:=aD8 hb.1;have e2:=aD8 hb.2;subst e1;subst e2;obtain⟨rfl,h2⟩:=h;exact⟨⟨_,_,[g],_,rfl,rfl,⟨_,_,_,hr,rfl,rfl⟩,(gL h2).1⟩,(gL h2).2⟩
      cases h
     cases h
    cases h
   ·split at h
    ·rename_i e k ys;obtain⟨rfl,h2⟩:=h;exact⟨⟨_,_,[],_,rfl,rfl,⟨_,_,rfl,rfl⟩,(gL h2).1⟩,(gL h2).2⟩
    cases h
   cases h
theorem aGM {e k:Nat}{a:AV}{K:List Nat->Bool->List (List aS)->Prop}(h:aJx rs e k a K): ∃del dp xs,pY (mk sl rs) a del e k dp xs/\K del dp xs:=by
 unfold aJx at h;split at h
 ·rename_i hh;split at h
  ·rename_i e' k' dp xs hr;split at h
   ·rename_i hb;rw[aBT] at hb;have e1:=aD8 hb.1;have e2:=aD8 hb.2;subst e1;subst e2;exact⟨_,_,_,⟨hr,rfl⟩,h⟩
   cases h
  cases h
 ·exact⟨_,_,_,⟨rfl,rfl⟩,h⟩
 cases h
theorem aGN {k:Nat}{a:AV}{K:List (List aS)->Prop}(h:aJy rs k a K): ∃ys,sB (mk sl rs) a k ys/\K ys:=by
 unfold aJy at h;split at h
 ·rename_i o e k' xs;split at h
  ·rename_i hb;rw[aBT] at hb;exact⟨_,⟨oY hb.1,aD8 hb.2,rfl⟩,h⟩
  cases h
 ·rename_i hh;split at h
  ·rename_i e k' dp xs hr;split at h
   ·rename_i hb;have e1:=aD8 hb;subst e1;exact⟨_,⟨_,_,hr⟩,h⟩
   cases h
  cases h
 ·exact⟨_,rfl,h⟩
 cases h
theorem aEF: ∀{cs:List AV} {row:List aS},aDz cs=some row->cs=row.map (AV.p none)
 | [],row,h=>by
   simp only[aDz,Option.some.injEq] at h;rw[<-h];rfl
 | c::cs,row,h=>by
   unfold aDz at h;split at h
   ·rename_i e;cases e
   ·rename_i x cs' e;simp only[List.cons.injEq] at e;obtain⟨rfl,rfl⟩:=e;split at h
    ·rename_i r hr;injection h with h
     rw[<-h,aEF hr];rfl
    cases h
   cases h
theorem aCD {k:Nat}: ∀{n:Nat} {row:List aS},row.length=n*k->(oW n k row).flatten=row/\(oW n k row).length=n/\ ∀r∈oW n k row,r.length=k
 | 0,row,h=>by
   obtain rfl:row= []:=aGC (by simpa using h);exact⟨rfl,rfl,by simp[oW]⟩
 | n+1,row,h=>by
   rw[Nat.add_mul,Nat.one_mul] at h;obtain⟨h1,h2,h3⟩:=aCD (n:=n) (k:=k) (row:=row.drop k) (by rw[aMc];omega);refine⟨?_,by rw[oW,aJv,h2],?_⟩
   ·rw[oW,aJj,h1,List.take_append_drop]
   intro r hr;rw[oW] at hr;rcases aIo.1 hr with rfl | hr
   ·rw[aM4];omega
   exact h3 r hr
theorem aLy {k:Nat}{a:AV}{K:List (List aS)->Prop}(h:roW rs k a K): ∃ys,aDj (mk sl rs) a k ys/\K ys:=by
 unfold roW at h;split at h
 ·split at h
  ·rename_i hb;exact⟨_,⟨aD8 hb,rfl⟩,h⟩
  cases h
 ·split at h
  ·rename_i e cs hr;split at h
   ·rename_i row hrow;split at h
    ·rename_i hb;rw[aEF hrow] at hr;obtain⟨q1,q2,q3⟩:=aCD (aD8 hb);exact⟨_,⟨e,q2.symm,by rw[q1];exact hr,q3⟩,h⟩
    cases h
   cases h
  cases h
 cases h
theorem aIT {dp:Bool}{xs:List (List aS)}{K:Prop}(h:aIL dp xs K):(dp=false\/xs= [])/\K:=by
 unfold aIL at h;split at h
 ·exact⟨.inl rfl,h⟩
 split at h
 ·exact⟨.inr rfl,h⟩
 cases h
theorem iS: ∀{l:List Nat},gE l=true->l.Nodup
 | [],_=>List.nodup_nil
 | x::l,h=>by
   simp only[gE,aBT,Bool.not_eq_true',List.contains_eq_mem,decide_eq_false_iff_not] at h;exact List.nodup_cons.2 ⟨h.1,iS h.2⟩
theorem aKO {α:Type}{enc:α->List aS}{y:α}{n:Nat}{parts:Array (Nat × Operand)}{K:AV->List Nat->List (Nat × Rs)->Prop}(hT:fQ P tb)(h:aLn tb sl rs d s n (parts.toList.map fun q=>(q.1,bX sl q.2)) enc y K): ∃v del new,aQ P ⟨some d,.buildSlice s n parts,ty,pos,aft,gd⟩ (mk sl rs) ⟨v,del,new⟩/\K v del new:=by
 unfold aLn at h;split at h
 ·rename_i e he;have he:=bP hT.sl he;split at h
  ·rename_i ag k bt z hq;have hq:=bP hT.ty hq;split at h
   ·rename_i hb;simp only[aBT] at hb;obtain⟨⟨⟨⟨⟨b1,b2⟩,b3⟩,b4⟩,b5⟩,b6⟩:=hb;obtain rfl:n=1:=aD8 b2;have hb4:=aCd b4;have hb5:0<1*k:=by simpa [Nat.blt_eq] using b5
    split at h
    ·rename_i cs hcs;split at h
     ·rename_i hn;obtain⟨q1,q2⟩:=gL h;exact⟨_,_,_,wX rfl he hq hb4 hb5 (fun q hq=>by rw[bA];exact sF b3 q hq) (by rw[<-hcs];congr 1) q1 (aD8 b6) (iS hn) (cW b1),q2⟩
     cases h
    cases h
   cases h
  cases h
 cases h
theorem aKP {t:T}{K:AV->List Nat->List (Nat × Rs)->T->Prop}(hT:fQ P tb)(h:aLm tb sl rs d s (bX sl x) (bX sl y) t K): ∃v del new t',aQ P ⟨some d,.call { callee:= .builtin .append,args:= #[x,y],argTypes:= #[s,s] },ty,pos,aft,gd⟩ (mk sl rs) ⟨v,del,new⟩/\K v del new t' :=by
 unfold aLm at h;split at h
 ·rename_i e he;have he:=bP hT.sl he;split at h
  ·rename_i ag k bt z hq;have hq:=bP hT.ty hq;split at h
   ·rename_i hb;simp only[aBT] at hb;have hk:0<k:=by have:=hb.1.2;simpa [Nat.blt_eq] using this
    have hbt:0<bt:=by have:=hb.2;simpa [Nat.blt_eq] using this
    obtain⟨del,dp,xs,ht,h⟩:=aGM (sl:=sl) h
    have small: ∀n,n*bt<=140737488355328->n<=maxLen:=fun n hn=>by
     have:n*1<=n*bt:=Nat.mul_le_mul_left n hbt;unfold maxLen;omega
    split at h
    ·obtain⟨rfl,h2,h3,h4,h5⟩:=h;obtain⟨ys,q1,rfl⟩:=aGN (sl:=sl) h2;rename_i enc l l2 t';obtain⟨css,hc⟩:=aCB h3 l2;exact⟨_,_,_,_,aKH he hq hk ht q1 hc (by simpa using h4) (by simpa using small _ h4) (by rw[aHr]) hb.1.1,h5⟩
    ·obtain⟨hdx,rfl,h2⟩:=aIT h;obtain⟨ys,q1,rfl,h4,h5⟩:=aLy (sl:=sl) h2;exact⟨_,_,_,_,aKI he hq hk ht hdx q1 (by simpa using h4) (by simpa using small _ h4) (by rw[aHr]) hb.1.1,h5⟩
    ·split at h
     ·split at h
      ·rename_i h2 hx;split at h
       ·rename_i e2 cs hr;split at h
        ·rename_i hn;split at h
         rotate_left
         ·cases h
         rename_i q3;have q3:=aD8 q3;obtain⟨rfl,h⟩:=h;obtain⟨q2,q4,q5⟩:=gL (sl:=sl) h;exact⟨_,_,_,_,aKJ he hq hk ht (.inl rfl) hx hr q2 q3 (iS hn) (by simpa using q4) (by simpa using small _ q4) (by rw[aHr];rfl) hb.1.1,q5⟩
        cases h
       cases h
      cases h
     cases h
    cases h
   cases h
  cases h
 cases h
theorem aIU {α:Type}{enc:α->List aS}{l:List α}{y' :α}{K:AV->List Nat->List (Nat × Rs)->Prop}(hT:fQ P tb)(h:aIM tb sl rs d s (bX sl x) (bX sl y) enc l y' K): ∃v del new,aQ P ⟨some d,.call { callee:= .builtin .append,args:= #[x,y],argTypes:= #[s,s] },ty,pos,aft,gd⟩ (mk sl rs) ⟨v,del,new⟩/\K v del new:=by
 unfold aIM at h;split at h
 ·rename_i e he;have he:=bP hT.sl he;split at h
  ·rename_i ag k bt z hq;have hq:=bP hT.ty hq;split at h
   ·rename_i hb;simp only[aBT] at hb;obtain rfl:=aD8 hb.1.2;have hbt:0<bt:=by have:=hb.2;simpa [Nat.blt_eq] using this
    obtain⟨del,dp,xs,ht,h⟩:=aGM (sl:=sl) h;split at h
    ·split at h
     ·rename_i h2 hx;split at h
      ·rename_i e2 hp hr;split at h
       ·rename_i e3 k3 ys hh;split at h
        ·rename_i hn;obtain⟨rfl,h3,h4,h5⟩:=h;have hn:=List.nodup_cons.1 (iS hn);have h63:(l.length+1)*1<=(l.length+1)*bt:=Nat.mul_le_mul_left _ hbt;have:=aKK (d:=d) (ty:=ty) (pos:=pos) (aft:=aft) (gd:=gd) (v:=y) he hq ht hx hr hh hn.1 (by simpa using h4) (by simp only[aBS];unfold maxLen;omega) (zs:=(l++[y']).map enc) (by rw[aHr,<-h3];rfl) hb.1.1;rw[aBS] at this;exact⟨_,_,_,this,h5⟩
        cases h
       cases h
      cases h
     cases h
    cases h
   cases h
  cases h
 cases h
theorem aIV {α:Type}{enc:α->List aS}{l:List α}{y' :α}{K:AV->List Nat->List (Nat × Rs)->Prop}(hT:fQ P tb)(h:aIN tb sl rs d s (bX sl x) (bX sl y) enc l y' K): ∃v del new,aQ P ⟨some d,.call { callee:= .builtin .append,args:= #[x,y],argTypes:= #[s,s] },ty,pos,aft,gd⟩ (mk sl rs) ⟨v,del,new⟩/\K v del new:=by
 unfold aIN at h;split at h
 ·rename_i e he;have he:=bP hT.sl he;split at h
  ·rename_i ag k bt z hq;have hq:=bP hT.ty hq;split at h
   ·rename_i hb;simp only[aBT] at hb;have hk:0<k:=by have:=hb.1.2;simpa [Nat.blt_eq] using this
    have hbt:0<bt:=by have:=hb.2;simpa [Nat.blt_eq] using this
    split at h
    ·rename_i h0 hs0;split at h
     ·rename_i e' k' xs i j hp hr0;split at h
      ·rename_i h2 hx;split at h
       ·rename_i e2 cs hr;split at h
        ·rename_i hc;simp only[aBT,Bool.not_eq_true'] at hc;obtain⟨⟨⟨⟨c1,c2⟩,c3⟩,c4⟩,c5⟩:=hc;obtain rfl:=aD8 c1;obtain rfl:=aD8 c2;have hn:=List.nodup_cons.1 (iS c3);have hne:hp≠100*d:=fun q=>by rw[q,Nat.beq_refl] at c4;cases c4
         obtain⟨rfl,h⟩:=h;obtain⟨q2,q4,q5⟩:=gL (sl:=sl) h;have h63:(l.length+1)*1<=(l.length+1)*bt:=Nat.mul_le_mul_left _ hbt;exact⟨_,_,_,aKL he hq hk hs0 hr0 hx hr q2 (aD8 c5) hn.2 hn.1 hne (by simpa using q4) (by simp only[aBS];unfold maxLen;omega) (by rw[aHr];rfl) hb.1.1,q5⟩
        cases h
       cases h
      cases h
     cases h
    cases h
   cases h
  cases h
 cases h
theorem aKQ {t:T}{K:AV->List Nat->List (Nat × Rs)->T->Prop}(hT:fQ P tb)(h:aLo tb sl rs d s (bX sl x) (bX sl y) t K): ∃v del new t',aQ P ⟨some d,.call { callee:= .builtin .append,args:= #[x,y],argTypes:= #[s,s] },ty,pos,aft,gd⟩ (mk sl rs) ⟨v,del,new⟩/\K v del new t' :=by
 unfold aLo at h;split at h
 ·obtain⟨v,del,new,h1,h2⟩:=aIU (ty:=ty) (pos:=pos) (aft:=aft) (gd:=gd) hT h;exact⟨v,del,new,_,h1,h2⟩
 ·obtain⟨v,del,new,h1,h2⟩:=aIV (ty:=ty) (pos:=pos) (aft:=aft) (gd:=gd) hT h;exact⟨v,del,new,_,h1,h2⟩
 exact aKP hT h
theorem aCE {K:Nat->Prop}{φ:dW}{A:Nat->Prop}{w0:oR}{N:Nat}{S:St}{a:Act}{w:World}(hG:G K φ A w0 N S a w): ∀{xs:List AV} {ys:List Ar} {vs:List Value},aAH S xs ys->aH K φ w xs vs->jU (fun b=>b<w.heap.size) w ys vs
 | [],ys,vs,h,hm=>by unfold aH at hm;rw[hm,show ys= [] from h];exact rfl
 | x::xs,ys,vs,⟨y,ys',e,h1,h2⟩,hm=>by
   subst e;unfold aH at hm;obtain⟨v,vs',rfl,h3,h4⟩:=hm;exact⟨v,vs',rfl,aJn hG h1 h3,aCE hG h2 h4⟩
theorem aAU {K:Nat->Prop}{φ:dW}{A:Nat->Prop}{w0:oR}{N:Nat}{S:St}{a:Act}{w:World}(hG:G K φ A w0 N S a w): ∀{xs:List AV} {ys:List Ar} {vs:List Value},jV xs=true->aAH S xs ys->aH K φ w xs vs->jU K w ys vs
 | [],ys,vs,_,h,hm=>by unfold aH at hm;rw[hm,show ys= [] from h];exact rfl
 | x::xs,ys,vs,hs,⟨y,ys',e,h1,h2⟩,hm=>by
   subst e;simp only[jV,aBT] at hs;unfold aH at hm;obtain⟨v,vs',rfl,h3,h4⟩:=hm;exact⟨v,vs',rfl,aHt hs.1 h1 h3,aAU hG hs.2 h2 h4⟩
theorem xG {K:Nat->Prop}{φ:dW}{A:Nat->Prop}{w0:oR}{N:Nat}{a:Act}{w:World}(hG:G K φ A w0 N (mk sl rs) a w): ∀(xs:List Operand),aH K φ w (xs.map (bX sl)) (xs.map a.eval)
 | []=>by simp only[List.map_nil];unfold aH;rfl
 | x::xs=>by
   simp only[aHl];unfold aH;exact⟨_,_,rfl,by have:=hG.ev x;rw[bA] at this;exact this,xG hG xs⟩
theorem nW {o:Oper}{c:Operand}{f:FuncId}{caps:List AV}{xs:List Operand}{ts:Array TypeId}(ho:o.op= .call { callee:= .value c,args:=⟨xs⟩,argTypes:=ts })(hc:fG P f=true)(hx:bX sl c= .fn f caps)(K:Nat->Prop)(φ:dW)(A:Nat->Prop)(w0:oR)(N:Nat)(a:Act)(w:World)(hG:G K φ A w0 N (mk sl rs) a w):
 ∃vs:Array Value,(execOp a.eval o).run P w= .ok (.enter f vs) w/\aH K φ w (xs.map (bX sl)++caps) vs.toList:=by
 have hev:=hG.ev c;rw[bA,hx] at hev;unfold aC at hev;obtain⟨cs,he,hm⟩:=hev;refine⟨(xs.map a.eval).toArray++cs,?_,?_⟩
 ·unfold fG at hc;split at hc
  ·rename_i fn hf;simp only[aBT,Bool.not_eq_true',beq_eq_false_iff_ne,ne_eq] at hc;obtain⟨cd,hb⟩:=Option.isSome_iff_exists.1 hc.2;simp[execOp,ho,resolve,he,Deferred.ofValue,invoke,callFunc,hf,hc.1,hb]
  cases hc
 have:=fJ (xG hG xs) hm;simpa using this
theorem aIW {o:Oper}{f:FuncId}{avs:List AV}{ys:List Ar}{rv:AV}{rr:List (Nat × Rs)}{hb:Nat}(hrun: ∀K φ A w0 N a w,G K φ A w0 N (mk sl rs) a w-> ∃vs:Array Value,(execOp a.eval o).run P w= .ok (.enter f vs) w/\aH K φ w avs vs.toList)(hx:xA rs avs=some ys)(hC:zC P f ys rv rr)
 (hcl:(fN rv&&rr.all fun q=>aBn q.2)=true\/jV avs=true) (ha:(rr.all fun q=>aB3 q.2&&dL sl rs (hb+q.1))=true) (hmt:((bD rv).all fun h=>(aN rr h).isSome)=true):aQ P o (mk sl rs) ⟨fT (hb+ ·) rv,[],rr.map fun q=>(hb+q.1,q.2)⟩:=by
 intro K φ A w0 N a w Q hd hG;have hx:=aBv (sl:=sl) hx;simp only[aFJ,aBT] at ha hmt hcl;have hfr: ∀q∈rr,dS (mk sl rs) (hb+q.1):=fun q hq=>cW (ha q hq).2;have har: ∀q∈rr,aB3 q.2=true:=fun q hq=>(ha q hq).1;have hmt: ∀h∈bD rv,∃r,aN rr h=some r:=fun k hk=>Option.isSome_iff_exists.1 (hmt k hk);obtain⟨vs,hrn,hmv⟩:=hrun K φ A w0 N a w hG;unfold Oper.wp;rw[hrn,Oper.upon_enter];rcases hcl with ⟨hc1,hc2⟩ | hset
 ·refine(hC.2 (fun b=>b<w.heap.size) w _ (fun _ h=>h) (aCE hG hx hmv)).mono ?_;rintro e w' ⟨v,Kr,φr,rfl,h1,h2,h3,h4,h5,h6,h7,h8,h9⟩;obtain⟨φ',g1,g2⟩:=aBq (dst:=o.dst) (A' :=A) (K' :=K) (hb:=hb) hG hd h1 h3 h4 h5 h6 h7 h8 (uY rv v hc1 h9) (fun h r pl hr hh=>Holds.deepK (hc2 _ (bK hr)) hh) (fun _ h=>h) (fun _ h=> .inl h) har hfr hmt;exact⟨K,φ',v,rfl,g1,g2⟩
 refine(hC.2 K w _ (fun b hb=>(hG.kin b hb).1) (aAU hG hset hx hmv)).mono ?_;rintro e w' ⟨v,Kr,φr,rfl,h1,h2,h3,h4,h5,h6,h7,h8,h9⟩
 have hKr: ∀b,Kr b->K b\/(Kr b/\w.heap.size<=b/\b<w'.heap.size):=fun b hb=>by
  rcases(h2 b hb).2 with h | h
  ·exact .inl h
  exact .inr ⟨hb,h,(h2 b hb).1⟩
 obtain⟨φ',g1,g2⟩:=aBq (dst:=o.dst) (A' :=A) (K' :=fun b=>K b\/(Kr b/\w.heap.size<=b/\b<w'.heap.size)) (hb:=hb) hG hd h1 h3 h4 h5 h6 h7 h8
  (aC.mono (K:=Kr) (φ:=φr) (fun _ _=>rfl) hKr rv v (fun h pl _ e=>⟨e,fun _ _=>rfl⟩) h9)
  (fun h r pl hr hh=>Holds.mono (K:=Kr) (φ:=φr) (fun _ _=>rfl) hKr (fun _ _=>rfl) r (fun h pl _ e=>⟨e,fun _ _=>rfl⟩) hh) (fun _ h=> .inl h) (fun _ h=>h) har hfr hmt
 exact⟨_,φ',v,rfl,g1,g2⟩
theorem aIX {f:FuncId}{avs:List AV}{o:Oper}{t:T}{K:AV->List (Nat × Rs)->T->Prop}(hrun:fG P f=true-> ∀K φ A w0 N a w,G K φ A w0 N (mk sl rs) a w-> ∃vs:Array Value,(execOp a.eval o).run P w= .ok (.enter f vs) w/\aH K φ w avs vs.toList)(h:aIO P sl rs d f avs t K): ∃v new t',aQ P o (mk sl rs) ⟨v,[],new⟩/\K v new t' :=by
 unfold aIO at h;split at h
 ·split at h
  ·rename_i ys hys;split at h
   ·rename_i hb;simp only[aBT,Bool.or_eq_true] at hb;obtain⟨hC,h⟩:=h;refine⟨_,_,_,aIW (hrun hC.1) hys hC ?_ hb.1.2 hb.2,h⟩;simpa using hb.1.1
   cases h
  cases h
 cases h
theorem aEG {f:FuncId}{captured:Array Operand}:aQ P ⟨some d,.makeFunc (.func f) ⟨[]⟩ captured,ty,pos,aft,gd⟩ (mk sl rs) ⟨.fn f (captured.toList.map (bX sl)),[],[]⟩:=
 bZ fun K φ A w0 N a w hG=>by
  refine⟨.func (.func f) #[] (captured.map a.eval),by simp[execOp,Instr.makeFunc],?_⟩;unfold aC;exact⟨_,rfl,by simpa using xG hG captured.toList⟩
theorem aKR {x:Operand}{s s' :TypeId}{ks k k' :IntKind}{n:Int}(hs:P.underlying s=some (.int ks))(ht:P.underlying s' =some (.int k))(hx:bX sl x= .p none (.int k' n)):aQ P ⟨some d,.convert s s' x,ty,pos,aft,gd⟩ (mk sl rs) ⟨.p none (.int k (k.wrap n)),[],[]⟩:=
 fO rfl (fun e w he=>by
  have h1:=he x (.int k' n) (by rw[hx];rfl);simp[execOp,convert,h1,run_underlying hs,run_underlying ht,Conv.intToInt])
theorem aEH (l:List Int):gW (l.map bN) (l.map fun n=>[Value.int .u8 n]):=by
 induction l with
 | nil=>exact rfl
 | cons n l ih=>exact⟨_,_,rfl,rfl,ih⟩
theorem aF3 (l:List Int):(l.map fun n=>[Value.int .u8 n]).flatten=l.map (Value.int .u8):=by
 induction l with
 | nil=>rfl
 | cons n l ih=>simp[ih]
theorem aIY {x:Operand}{s s' e:TypeId}{l:List Int}(hs:P.underlying s=some (.slice e))(he:P.underlying e=some (.int .u8))(ht:P.underlying s' =some .string)(hx:sB (mk sl rs) (bX sl x) 1 (l.map bN)):aQ P ⟨some d,.convert s s' x,ty,pos,aft,gd⟩ (mk sl rs) ⟨.p none (.str (lS l)),[],[]⟩:=
 bZ fun K φ A w0 N a w hG=>by
  have hev:=hG.ev x;rw[bA] at hev;obtain⟨hS,_⟩:=sT hG (by omega) hx (aEH l) hev;rw[aF3,aBS] at hS;obtain⟨b,c,hv,h1,h2,h3⟩:=hS;refine⟨.string (lS l),?_,by unfold aC dR;rfl⟩;cases b with
  | none=>
    have h0:=h2 rfl;have:l= []:=aGC h0;subst this;simp only[execOp,hv,Sem.run_bind,run_convert_bytes_string w s s' e _ _ c hs he ht];simp[Conv.bytesToString,lS,ByteArray.empty,ByteArray.emptyWithCapacity];rfl
  | some ad=>
    have hl:(loadCells ad l.length).run P w= .ok (l.map (Value.int .u8)).toArray w:=by
     have:=run_loadCells_list (P:=P) w ad (l.map (Value.int .u8)) (fun j v hj=>h3 ad rfl j v hj);simpa using this
    simp only[execOp,hv,Sem.run_bind,run_convert_bytes_string w s s' e _ _ c hs he ht,run_bytesToString w ad l.length c l hl];rw[foldl_push_bytes];simp[lS,ByteArray.empty,ByteArray.emptyWithCapacity];rfl
theorem aLz {x:Operand}{s s' :TypeId}{t:T}{K:AV->T->Prop}(hT:fQ P tb)(h:cvW tb rs s s' (bX sl x) t K): ∃v t',aQ P ⟨some d,.convert s s' x,ty,pos,aft,gd⟩ (mk sl rs) ⟨v,[],[]⟩/\K v t' :=by
 unfold cvW at h;split at h
 ·rename_i k hk;split at h
  ·rename_i ks hks;split at h
   ·rename_i k' n hx;obtain⟨t',h⟩:=tJ h;exact⟨_,_,aKR (bP hT.nt hks) (bP hT.nt hk) hx,h⟩
   cases h
  cases h
 split at h
 ·rename_i hd;split at h
  ·rename_i e he;split at h
   ·rename_i hu;split at h
    ·rename_i l t';obtain⟨h1,h2⟩:=h;obtain⟨ys,q1,rfl⟩:=aGN (sl:=sl) h1;exact⟨_,_,aIY (bP hT.sl he) (bP hT.nt hu) (bP hT.st hd) q1,h2⟩
    cases h
   cases h
  cases h
 cases h
theorem aF4 {m:ByteArray}{i:Nat}(h:i<m.size): ∃b:UInt8,m[i]? =some b/\oX m i=(b.toNat:Int):=by
 refine⟨m[i],by simp[h],?_⟩;unfold oX
 congr 2
 rw[aFr,aCp (by simpa using h)];simp[ByteArray.getElem_eq_getElem_data]
theorem aKS {x y:Operand}{s:TypeId}{t:T}{K:AV->T->Prop}(hT:fQ P tb)(h:aLp tb s (bX sl x) (bX sl y) t K): ∃v t',aQ P ⟨some d,.index s x y,ty,pos,aft,gd⟩ (mk sl rs) ⟨v,[],[]⟩/\K v t' :=by
 unfold aLp at h;split at h
 ·rename_i hs;have hs:=bP hT.st hs;split at h
  ·rename_i m hx;split at h
   ·rename_i k n hy;obtain⟨h0,h1,h2⟩:=h;refine⟨_,_,fO rfl (fun e w he=>?_),h2⟩;have e1:=he x (.string m) (by rw[hx];rfl);have e2:=he y (.int k n) (by rw[hy];rfl);obtain⟨b,hb,hbb⟩:=aF4 (m:=m) (i:=n.toNat) (by omega);simp[execOp,Instr.index,e1,e2,asIntOf,run_underlying hs,h0,hb,hbb]
   cases h
  cases h
 cases h
theorem aKT {x:Operand}{s:TypeId}{lo hi:Option Operand}{t:T}{K:AV->T->Prop}(hT:fQ P tb)(h:aLq tb s (bX sl x) (lo.map (bX sl)) (hi.map (bX sl)) t K): ∃v t',aQ P ⟨some d,.slice s x lo hi none,ty,pos,aft,gd⟩ (mk sl rs) ⟨v,[],[]⟩/\K v t' :=by
 unfold aLq at h;split at h
 ·rename_i hs;have hs:=bP hT.st hs;split at h
  ·rename_i m hx;cases lo with
   | none=>
     cases hi with
     | none=>simp at h
     | some hi=>
       simp only[Option.map_none,Option.map_some] at h;split at h
       ·cases h
       ·rename_i k b hb;injection hb with hb
        obtain⟨h0,h1,h2⟩:=h;refine⟨_,_,fO rfl (fun e w he=>?_),h2⟩;have e1:=he x (.string m) (by rw[hx];rfl);have e2:=he hi (.int k b) (by rw[hb];rfl);simp[execOp,Instr.sliceAt,Instr.slice,Instr.sliceBounds,Instr.sliceBound,e1,e2,asIntOf,run_underlying hs,h0,h1]
       cases h
   | some lo=>
     simp only[Option.map_some] at h;split at h
     ·rename_i hq;cases hq
     ·rename_i k a ha;injection ha with ha
      cases hi with
      | none=>
        simp only[Option.map_none] at h;obtain⟨h0,h1,h2⟩:=h;refine⟨_,_,fO rfl (fun e w he=>?_),h2⟩;have e1:=he x (.string m) (by rw[hx];rfl);have e2:=he lo (.int k a) (by rw[ha];rfl);simp[execOp,Instr.sliceAt,Instr.slice,Instr.sliceBounds,Instr.sliceBound,e1,e2,asIntOf,run_underlying hs,h0,h1]
      | some hi=>
        simp only[Option.map_some] at h;split at h
        ·rename_i hq;cases hq
        ·rename_i k' b hb;injection hb with hb
         obtain⟨h0,h1,h2,h3⟩:=h;refine⟨_,_,fO rfl (fun e w he=>?_),h3⟩;have e1:=he x (.string m) (by rw[hx];rfl);have e2:=he lo (.int k a) (by rw[ha];rfl);have e3:=he hi (.int k' b) (by rw[hb];rfl);have q1:0<=b:=by omega
         have q2:a<=(b.toNat:Int):=by omega
         simp[execOp,Instr.sliceAt,Instr.slice,Instr.sliceBounds,Instr.sliceBound,e1,e2,e3,asIntOf,run_underlying hs,h0,q1,h2];intro hq;exfalso;omega
        cases h
     cases h
  cases h
 cases h
theorem dI.take' {B:Nat->Prop}{w:World}{k:Nat}{a:Option Addr}: ∀(n:Nat) {xs:List (List aS)} {o:Nat},dI B w k xs a o->dI B w k (xs.take n) a o
 | 0,xs,o,_=>by rw[List.take_zero];unfold dI;trivial
 | n+1,[],o,_=>by rw[List.take_nil];unfold dI;trivial
 | n+1,x::xs,o,h=>by
   rw[List.take_succ_cons];unfold dI at*;exact⟨h.1,h.2.1,dI.take' n h.2.2⟩
theorem dI.drop' {B:Nat->Prop}{w:World}{k:Nat}{a:Option Addr}: ∀(n:Nat) {xs:List (List aS)} {o:Nat},dI B w k xs a o->dI B w k (xs.drop n) a (o+n*k)
 | 0,xs,o,h=>by simpa using h
 | n+1,[],o,_=>by rw[List.drop_nil];unfold dI;trivial
 | n+1,x::xs,o,h=>by
   rw[List.drop_succ_cons];unfold dI at h;have:=dI.drop' n h.2.2;rw[show o+(n+1)*k=o+k+n*k by rw[Nat.add_mul];omega];exact this
theorem eT.shift {B:Nat->Prop}{w:World}{b off s o:Nat}{x:List aS}(h:eT B w x (some ⟨b,off,none⟩) (o+s)):eT B w x (some ⟨b,off+s,none⟩) o:=by
 obtain⟨b',off',vs,e,hb,hl,hc⟩:=h.vals;simp only[Option.some.injEq,Addr.mk.injEq,and_true] at e;obtain⟨rfl,rfl⟩:=e;refine eT.mk hb hl fun j v hv=>?_;have:=hc j v hv;rw[show off+s+o+j=off+(o+s)+j by omega];exact this
theorem dI.shift {B:Nat->Prop}{w:World}{k b off s:Nat}: ∀{xs:List (List aS)} {o:Nat},dI B w k xs (some ⟨b,off,none⟩) (o+s)->dI B w k xs (some ⟨b,off+s,none⟩) o
 | [],o,_=>by unfold dI;trivial
 | x::xs,o,h=>by
   unfold dI at*;refine⟨h.1,h.2.1.shift,dI.shift ?_⟩;rw[show o+k+s=o+s+k by omega];exact h.2.2
theorem aMA {B:Nat->Prop}{w:World}{e k len c l h:Nat}{xs:List (List aS)}{a:Option Addr}(hr:dR B w (.sl e k xs) (.slice a len c))(hlh:l<=h)(hh:h<=xs.length):
 len=xs.length/\len<=c/\dR B w (.sl e k ((xs.take h).drop l)) (.slice (if c=l then a else a.map (·.add (l*k))) (h - l) (c - l)):=by
 unfold dR at*;obtain⟨a',c',e1,h1,h2,h3⟩:=hr;simp only[Value.slice.injEq] at e1;obtain⟨rfl,rfl,rfl⟩:=e1;have hlen:((xs.take h).drop l).length=h - l:=by simp;omega
 refine⟨rfl,h1,_,_,by rw[hlen],by omega,by omega,?_⟩;cases hys:(xs.take h).drop l with
 | nil=>unfold dI;trivial
 | cons y ys=>
   have hlt:l<h:=by
    have:=congrArg List.length hys;simp only[aJv] at this;omega
   rw[if_neg (by omega)];cases xs with
   | nil=>simp at hys
   | cons x xs' =>
     have h4:=h3;unfold dI at h4;obtain⟨b,off,vs,rfl,_⟩:=h4.2.1.vals;have h5:=dI.drop' l (dI.take' h h3);rw[hys] at h5;simp only[Option.map_some,gI];exact h5.shift
theorem aKU {P:Program}{t e:TypeId}{k bt:Nat}{ag:Bool}{z:Value}(ht:P.underlying t=some (.slice e))(hk:dH P e=some (ag,k,bt,z))(w:World)(a:Option Addr)(len c:Nat)(lo hi:Option Value)(l h:Nat)
 (hlo:(lo=none/\l=0)\/ ∃ik,lo=some (.int ik l)) (hhi:(hi=none/\h=len)\/ ∃ik,hi=some (.int ik h)) (hlh:l<=h) (hh:h<=len) (hc:len<=c):
 (Instr.sliceAt t (.slice a len c) lo hi none).run P w= .ok (.slice (if c=l then a else a.map (·.add (l*k))) (h - l) (c - l)) w:=by
 have hs:=(dK hk w).2.1;have q1:h<=c:=by omega
 rcases hlo with ⟨rfl,rfl⟩ | ⟨i1,rfl⟩<;>rcases hhi with ⟨rfl,rfl⟩ | ⟨i2,rfl⟩<;>
  simp[Instr.sliceAt,Instr.slice,Instr.sliceBounds,Instr.sliceBound,asIntOf,run_underlying ht,hs,hlh,q1]
theorem aDB {x:Operand}{s e e' k bt:Nat}{ag:Bool}{z:Value}{lo hi:Option Operand}{ob:Option Nat}{xs:List (List aS)}{l h:Nat}(ht:P.underlying s=some (.slice e))(hk:dH P e=some (ag,k,bt,z))(hx:bX sl x= .p ob (.sl e' k xs))(hl:iN (mk sl rs) ob)
 (hlo:(lo=none/\l=0)\/ ∃y ik,lo=some y/\bX sl y= .p none (.int ik l)) (hhi:(hi=none/\h=xs.length)\/ ∃y ik,hi=some y/\bX sl y= .p none (.int ik h)) (hlh:l<=h) (hh:h<=xs.length):
 aQ P ⟨some d,.slice s x lo hi none,ty,pos,aft,gd⟩ (mk sl rs) ⟨.p ob (.sl e' k ((xs.take h).drop l)),[],[]⟩:=
 bZ fun K φ A w0 N a w hG=>by
  obtain⟨B,hB,_⟩:=hG.inO hl;have h1:=hG.ev x;rw[bA,hx,hB] at h1;have h1' :=h1;unfold dR at h1';obtain⟨b,c,he,_,_,_⟩:=h1';rw[he] at h1;obtain⟨_,hc,h2⟩:=aMA h1 hlh hh;refine⟨_,?_,(hB _ _).2 h2⟩
  have hr:=aKU ht hk w b xs.length c (lo.map a.eval) (hi.map a.eval) l h
   (by rcases hlo with ⟨rfl,rfl⟩ | ⟨y,ik,rfl,hy⟩
       ·exact .inl ⟨rfl,rfl⟩
       exact .inr ⟨ik,by rw[Option.map_some,eU (x:=(mk sl rs).ev y) (by rw[bA,hy];rfl) (hG.ev y)]⟩)
   (by rcases hhi with ⟨rfl,rfl⟩ | ⟨y,ik,rfl,hy⟩
       ·exact .inl ⟨rfl,rfl⟩
       exact .inr ⟨ik,by rw[Option.map_some,eU (x:=(mk sl rs).ev y) (by rw[bA,hy];rfl) (hG.ev y)]⟩) hlh hh hc
  simp only[execOp,he,Option.map_none];simp[hr]
theorem aKV {x:Operand}{s:TypeId}{lo hi:Option Operand}{t:T}{K:AV->T->Prop}(hT:fQ P tb)(h:aLr tb rs s (bX sl x) (lo.map (bX sl)) (hi.map (bX sl)) t K): ∃v t',aQ P ⟨some d,.slice s x lo hi none,ty,pos,aft,gd⟩ (mk sl rs) ⟨v,[],[]⟩/\K v t' :=by
 unfold aLr at h;split at h
 ·rename_i e hs;have hs:=bP hT.sl hs;split at h
  ·rename_i ag k bt z hk;have hk:=bP hT.ty hk;split at h
   ·rename_i o e' k' xs hx;split at h
    ·rename_i hb;rw[aBT] at hb;have:=aD8 hb.2;subst this;have hl:=oY (sl:=sl) hb.1;split at h
     ·rename_i α enc l t';cases lo with
      | none=>
        cases hi with
        | none=>simp at h
        | some hi=>
          simp only[Option.map_none,Option.map_some] at h;split at h
          ·rename_i k2 b hb2;injection hb2 with hb2
           obtain⟨rfl,h0,h1,h2⟩:=h;refine⟨_,_,?_,h2⟩;have:=aDB (d:=d) (ty:=ty) (pos:=pos) (aft:=aft) (gd:=gd) (lo:=none) (hi:=some hi) (l:=0) (h:=b.toNat) hs hk hx hl (.inl ⟨rfl,rfl⟩) (.inr ⟨hi,k2,rfl,by rw[hb2,Int.toNat_of_nonneg h0]⟩) (aB2 _) (by rw[aBS];omega);rw[List.drop_zero,<-List.map_take] at this;exact this
          cases h
      | some lo=>
        simp only[Option.map_some] at h;split at h
        ·rename_i hq;cases hq
        ·rename_i k1 a ha;injection ha with ha
         cases hi with
         | none=>
           simp only[Option.map_none] at h;obtain⟨rfl,h0,h1,h2⟩:=h;refine⟨_,_,?_,h2⟩;have:=aDB (d:=d) (ty:=ty) (pos:=pos) (aft:=aft) (gd:=gd) (lo:=some lo) (hi:=none) (l:=a.toNat) (h:=(l.map enc).length) hs hk hx hl (.inr ⟨lo,k1,rfl,by rw[ha,Int.toNat_of_nonneg h0]⟩) (.inl ⟨rfl,rfl⟩) (by rw[aBS];omega) (aLB _);rw[aLL,<-List.map_drop] at this;exact this
         | some hi=>
           simp only[Option.map_some] at h;split at h
           ·rename_i hq;cases hq
           ·rename_i k2 b hb2;injection hb2 with hb2
            obtain⟨rfl,h0,h1,h2,h3⟩:=h;refine⟨_,_,?_,h3⟩;have:=aDB (d:=d) (ty:=ty) (pos:=pos) (aft:=aft) (gd:=gd) (lo:=some lo) (hi:=some hi) (l:=a.toNat) (h:=b.toNat) hs hk hx hl (.inr ⟨lo,k1,rfl,by rw[ha,Int.toNat_of_nonneg h0]⟩) (.inr ⟨hi,k2,rfl,by rw[hb2,Int.toNat_of_nonneg (by omega)]⟩) (by omega) (by rw[aBS];omega);rw[<-List.map_take,<-List.map_drop] at this;exact this
           cases h
        cases h
     cases h
    cases h
   cases h
  cases h
 obtain⟨v,t',h1,h2⟩:=aKT (d:=d) (ty:=ty) (pos:=pos) (aft:=aft) (gd:=gd) (sl:=sl) (rs:=rs) hT h;exact⟨v,t',h1,h2⟩
section
variable {K:Nat->Prop} {φ:dW} {A:Nat->Prop} {w0:oR} {N:Nat} {S:St} {a:Act} {w:World}
theorem G.rdOwnF (hG:G K φ A w0 N S a w){h:Nat}{e k:Nat}{dp:Bool}{xs:List (List aS)}{v:Value}(hr:S.res h=some (.arr e k dp xs))(hm:aC K φ w (.own h) v){B:Nat->Prop}(hB: ∀b,K b->B b)(hB' : ∀pl,φ h=some pl-> ∀b∈pl.F,B b):dR B w (.sl e k xs) v:=by
 obtain⟨pl,css,hp,ho,hcl,hck,htop,hrow⟩:=hG.owned hr;unfold aC at hm;rw[hm pl hp];obtain⟨b,c,e1,h1,h2,h3,h4⟩:=gP ho hck hcl;unfold dR;refine⟨b,c,e1,h1,h2,?_⟩;by_cases hn:0<xs.length
 ·obtain⟨g,rfl,hg⟩:=h3 hn;have hlt:B g:=hB' pl hp g (aHk _ (by rw[htop,hg];simp));refine rY hlt hcl (fun i x c hx hc=>⟨(hrow i x c hx hc).1,fF.mono (fun _ _=>rfl) (fun b hb=>?_) x c (hrow i x c hx hc).2.1⟩) fun i c hc j u hu=>?_
  ·rcases hb with hb | hb
   ·exact hB b hb
   exact hB' pl hp b (aFK _ hb)
  obtain⟨g',e2,_,hcell⟩:=h4 i c hc;simp only[Option.some.injEq,Addr.mk.injEq,and_true] at e2;subst e2;rw[Nat.zero_add];exact hcell j u hu
 have:xs= []:=aGC (by omega);subst this;unfold dI;trivial
theorem aGO (hG:G K φ A w0 N (mk sl rs) a w){x y:AV}{hs:List Nat}{v:Value}{K' :Nat->Prop}{φ' :dW}(h:aJz rs x=some (y,hs))(hK: ∀b,K b->K' b)(hF: ∀b,dF φ (· ∈hs) b->K' b)(hm:aC K φ w x v):aC K' φ' w y v:=by
 unfold aJz at h;split at h
 ·rename_i h0;split at h
  ·rename_i e k dp xs hr;simp only[Option.some.injEq,Prod.mk.injEq] at h;obtain⟨rfl,rfl⟩:=h;have:=hG.rdOwnF (B:=K') (h:=h0) hr hm hK (fun pl hp b hb=>hF b ⟨h0,pl,by simp,hp,hb⟩);unfold aC;exact this
  cases h
 ·simp only[Option.some.injEq,Prod.mk.injEq] at h;obtain⟨rfl,rfl⟩:=h;unfold aC at*;exact dR.mono (fun _ _=>rfl) hK _ _ hm
 ·simp only[Option.some.injEq,Prod.mk.injEq] at h;obtain⟨rfl,rfl⟩:=h;unfold aC at*;exact hm
 cases h
theorem aDC (hG:G K φ A w0 N (mk sl rs) a w){K' :Nat->Prop}{φ' :dW}(hK: ∀b,K b->K' b): ∀{xs ys:List AV} {hs:List Nat} {vs:List Value},aF1 rs xs=some (ys,hs)->(∀b,dF φ (· ∈hs) b->K' b)->aH K φ w xs vs->aH K' φ' w ys vs
 | [],ys,hs,vs,h,_,hm=>by
   simp only[aF1,Option.some.injEq,Prod.mk.injEq] at h;obtain⟨rfl,rfl⟩:=h;unfold aH at*;exact hm
 | c::cs,ys,hs,vs,h,hF,hm=>by
   unfold aF1 at h;split at h
   ·rename_i q hq;split at h
    ·rename_i r hr;simp only[Option.some.injEq,Prod.mk.injEq] at h;obtain⟨rfl,rfl⟩:=h;unfold aH at hm;obtain⟨v,vs',rfl,h1,h2⟩:=hm;unfold aH;exact⟨v,vs',rfl,aGO hG hq hK (fun b ⟨h,pl,q1,q2,q3⟩=>hF b ⟨h,pl,aHk _ q1,q2,q3⟩) h1,aDC hG hK hr (fun b ⟨h,pl,q1,q2,q3⟩=>hF b ⟨h,pl,aFK _ q1,q2,q3⟩) h2⟩
    cases h
   cases h
theorem aGP (hG:G K φ A w0 N (mk sl rs) a w){x y:AV}{hs:List Nat}{v:Value}{K' :Nat->Prop}{φ' :dW}(h:aHG rs x=some (y,hs))(hK: ∀b,K b->K' b)(hF: ∀b,dF φ (· ∈hs) b->K' b)(hm:aC K φ w x v):aC K' φ' w y v:=by
 unfold aHG at h;split at h
 ·split at h
  ·rename_i q hq;simp only[Option.some.injEq,Prod.mk.injEq] at h;obtain⟨rfl,rfl⟩:=h;unfold aC at*;obtain⟨vs,e,h1,h2⟩:=hm;exact⟨vs,e,h1,aDC hG hK hq hF h2⟩
  cases h
 exact aGO hG h hK hF hm
end
theorem aHL {o:Oper}{x:Operand}{v:AV}{hs:List Nat}(ho:o.op= .move x\/o.op= .assign x)(h:aHG rs (bX sl x)=some (v,hs)):aQ P o (mk sl rs) ⟨v,hs,[]⟩:=by
 intro K φ A w0 N a w Q hd hG;have hr:(execOp a.eval o).run P w= .ok (.value (a.eval x)) w:=by rcases ho with ho | ho<;>simp[execOp,ho]
 have hm:=hG.ev x;rw[bA] at hm
 have hst:=hG.step (C:=(· ∈hs)) (φr:=fun _=>none) (ρ:=aN []) (K' :=fun b=>K b\/dF φ (· ∈hs) b) (w' :=w)
  ⟨rfl,rfl,rfl,aLB _,fun _ _ _=>rfl⟩
  (fun _ _ hp=>by cases hp) (fun _ _ _ _ _ hp=>by cases hp) (fun _ _ hp=>by simp[aN] at hp) (fun _ _=>rfl) (fun _ hb=> .inl hb)
  (fun b hb=>by
   rcases hb with hb | hb
   ·exact .inl hb
   refine .inr ⟨?_,.inr hb,fun _ _ hp=>by cases hp⟩;obtain⟨h0,pl,_,hp,hb'⟩:=hb;exact(hG.ge h0 pl hp b hb').2)
  (fun _ _ _ _ hp=>by cases hp) (fun _ _ _ _ _ _ _ hp=>by cases hp) (fun _ _ hp=>by cases hp)
 have hmv:aC (fun b=>K b\/dF φ (· ∈hs) b) (bO (· ∈hs) (fun _=>none) φ) w v (a.eval x):=aGP hG h (fun _ hb=> .inl hb) (fun _ hb=> .inr hb) hm;unfold Oper.wp;rw[hr,Oper.upon_value];refine⟨_,_,a.eval x,rfl,hst.put hd hmv,⟨⟨rfl,rfl,rfl,aLB _,fun _ _ _=>rfl⟩,fun _ hb=> .inl hb,fun b hb=>?_,fun h1 pl hp=>?_,fun _ _ _ _ _ _=>rfl⟩⟩
 ·rcases hb with hb | hb
  ·exact .inl hb
  exact .inr (.inr hb)
 simp only[bO] at hp;split at hp
 ·cases hp
 exact .inl hp
theorem aIZ {K:Nat->Prop}{φ:dW}{w:World}{pl:Pl}{e k:Nat}{dp:Bool}{xs:List (List aS)}(hh:Holds K φ w pl (.arr e k dp xs)){B:Nat->Prop}(hB: ∀b,K b->B b)(hB' : ∀b∈pl.F,B b):dR B w (.sl e k xs) pl.val:=by
 have hx: ∃css:List (List Value),w.ownsRow 0 e k pl.val xs.length css.flatten/\css.length=xs.length/\(∀c∈css,c.length=k)/\pl.top=pl.val.ownBlock.toList/\ ∀(i:Nat) x c,xs[i]? =some x->css[i]? =some c->x.length=k/\fF B w x c:=by
  cases dp with
  | true=>
    obtain⟨css,Fs,h1,h2,h3,h4⟩:=hh;have hl:=h4.len;exact⟨css,h1,hl.1,hl.2,h2,fun i x c hx hc=>bE.rd (A:=B) k xs css Fs i x c (fun g hg=>hB' g (aFK _ (by rw[h3];exact hg))) h4 hx hc⟩
  | false=>
    obtain⟨css,h1,h2,h3,h4⟩:=hh;have hl:=h4.len;exact⟨css,h1,hl.1,hl.2,h2,fun i x c hx hc=>⟨(h4.at_ hx hc).1,fF.mono (fun _ _=>rfl) hB x c (h4.at_ hx hc).2⟩⟩
 obtain⟨css,ho,hcl,hck,htop,hrow⟩:=hx;obtain⟨b,c,e1,h1,h2,h3,h4⟩:=gP ho hck hcl;unfold dR;refine⟨b,c,e1,h1,h2,?_⟩;by_cases hn:0<xs.length
 ·obtain⟨g,rfl,hg⟩:=h3 hn;have hlt:B g:=hB' g (aHk _ (by rw[htop,hg];simp));refine rY hlt hcl (fun i x c hx hc=>hrow i x c hx hc) fun i c hc j u hu=>?_;obtain⟨g',e2,_,hcell⟩:=h4 i c hc;simp only[Option.some.injEq,Addr.mk.injEq,and_true] at e2;subst e2;rw[Nat.zero_add];exact hcell j u hu
 have:xs= []:=aGC (by omega);subst this;unfold dI;trivial
mutual
def tK (rr:List (Nat × Rs)):AV->Option AV
 | .own h=>(match aN rr h with | some (.arr e k _ xs)=>some (.p none (.sl e k xs)) | _=>none)
 | .p none x=>some (.p none x)
 | .nil=>some .nil
 | .no=>some .no
 | .agg cs=>(match aCF rr cs with | some xs=>some (.agg xs) | none=>none)
 | .tup cs=>(match aCF rr cs with | some xs=>some (.tup xs) | none=>none)
 | _=>none
def aCF (rr:List (Nat × Rs)):List AV->Option (List AV)
 | []=>some []
 | c::cs=>(match tK rr c with | some x=>(match aCF rr cs with | some xs=>some (x::xs) | none=>none) | none=>none)
end
section
variable {K K' :Nat->Prop} {φ φ' :dW} {w:World} {rr:List (Nat × Rs)}
mutual
theorem aGQ (hd: ∀h r,aN rr h=some r-> ∃pl,φ h=some pl/\Holds K φ w pl r)(hK: ∀b,K b->K' b)(hF: ∀h pl,φ h=some pl-> ∀b∈pl.F,K' b): ∀(x:AV) {y:AV} {v:Value},tK rr x=some y->aC K φ w x v->aC K' φ' w y v
 | .own h,y,v,h1,hm=>by
   unfold tK at h1;split at h1
   ·rename_i e k dp xs hr;injection h1 with h1
    subst h1;obtain⟨pl,hp,hh⟩:=hd h _ hr;unfold aC at*;rw[hm pl hp];exact aIZ hh hK (hF h pl hp)
   cases h1
 | .p none x,y,v,h1,hm=>by
   unfold tK at h1;injection h1 with h1
   subst h1;unfold aC at*;exact dR.mono (fun _ _=>rfl) hK _ _ hm
 | .p (some _) x,y,v,h1,hm=>by unfold tK at h1;cases h1
 | .nil,y,v,h1,hm=>by
   unfold tK at h1;injection h1 with h1
   subst h1;unfold aC at*;exact hm
 | .no,y,v,h1,hm=>by
   unfold tK at h1;injection h1 with h1
   subst h1;unfold aC;trivial
 | .agg cs,y,v,h1,hm=>by
   unfold tK at h1;split at h1
   ·rename_i xs hx;injection h1 with h1
    subst h1;unfold aC at*;obtain⟨vs,e,q1,q2⟩:=hm;exact⟨vs,e,q1,aAV hd hK hF cs hx q2⟩
   cases h1
 | .tup cs,y,v,h1,hm=>by
   unfold tK at h1;split at h1
   ·rename_i xs hx;injection h1 with h1
    subst h1;unfold aC at*;obtain⟨vs,e,q2⟩:=hm;exact⟨vs,e,aAV hd hK hF cs hx q2⟩
   cases h1
 | .ptr _ _,y,v,h1,hm=>by unfold tK at h1;cases h1
 | .ep _ _ _ _,y,v,h1,hm=>by unfold tK at h1;cases h1
 | .rp _ _,y,v,h1,hm=>by unfold tK at h1;cases h1
 | .fn _ _,y,v,h1,hm=>by unfold tK at h1;cases h1
 | .bsl _ _,y,v,h1,hm=>by unfold tK at h1;cases h1
theorem aAV (hd: ∀h r,aN rr h=some r-> ∃pl,φ h=some pl/\Holds K φ w pl r)(hK: ∀b,K b->K' b)(hF: ∀h pl,φ h=some pl-> ∀b∈pl.F,K' b): ∀(xs:List AV) {ys:List AV} {vs:List Value},aCF rr xs=some ys->aH K φ w xs vs->aH K' φ' w ys vs
 | [],ys,vs,h1,hm=>by
   unfold aCF at h1;injection h1 with h1
   subst h1;unfold aH at*;exact hm
 | c::cs,ys,vs,h1,hm=>by
   unfold aCF at h1;split at h1
   ·rename_i x hx;split at h1
    ·rename_i xs hxs;injection h1 with h1
     subst h1;unfold aH at*;obtain⟨v,vs',rfl,q1,q2⟩:=hm;exact⟨v,vs',rfl,aGQ hd hK hF c hx q1,aAV hd hK hF cs hxs q2⟩
    cases h1
   cases h1
end
end
theorem aKW {f:FuncId}{ys:List Ar}{rv v:AV}{rr:List (Nat × Rs)}(hC:zC P f ys rv rr)(h:tK rr rv=some v):zC P f ys v []:=
 ⟨hC.1,fun A w vs hA hv=>(hC.2 A w vs hA hv).mono fun e w' ⟨u,K,φ,he,hb,h1,h2,h3,h4,h5,h6,h7,h8⟩=>
  ⟨u,fun b=>K b\/ ∃h pl,φ h=some pl/\b∈pl.F,fun _=>none,he,hb,fun b hb' =>by
   rcases hb' with q | ⟨h0,pl,hp,hm⟩
   ·exact h1 b q
   ·exact⟨(h7 h0 pl hp b hm).2,.inr (h7 h0 pl hp b hm).1⟩,fun _ _ _ _ hp=>(by cases hp),fun h0 r hr=>(by simp[aN] at hr),fun _ _=>rfl,fun _ _ _ _ _ hp=>(by cases hp),fun _ _ hp=>(by cases hp),fun _ _ hp=>(by cases hp),
   aGQ h3 (fun _ hb=> .inl hb) (fun h0 pl hp b hm=> .inr ⟨h0,pl,hp,hm⟩) rv h h8⟩⟩
theorem aEI {x:Operand}{d:Nat}{t:T}{K:AV->List Nat->T->Prop}(h:aGL rs d (bX sl x) t K): ∃v del t',(∀o:Oper,o.op= .move x\/o.op= .assign x->aQ P o (mk sl rs) ⟨v,del,[]⟩)/\K v del t' :=by
 unfold aGL at h;split at h
 ·split at h
  ·split at h
   ·rename_i q hq;exact⟨_,_,_,fun o ho=>aHL ho hq,h⟩
   cases h
  exact⟨_,_,_,fun o ho=>by rw[<-bA sl rs];exact tE ho,h⟩
 exact⟨_,_,_,fun o ho=>by rw[<-bA sl rs];exact tE ho,h⟩
theorem aAW {S:St}{o:Oper}{x:Operand}{h off:Nat}(ho:o.op= .nilCheck x)(hx:S.ev x= .ptr h off):aQ P o S ⟨.ptr h off,[],[]⟩:=
 bZ fun K φ A w0 N a w hG=>by
  have h1:=hG.ev x;rw[hx] at h1;have h2:=h1;unfold aC at h2;obtain⟨g,e,_⟩:=h2;exact⟨a.eval x,by simp[execOp,ho,e],h1⟩
theorem aKX {o:Op}{t:T}{K:AV->List Nat->List (Nat × Rs)->T->Prop}(hT:fQ P tb)(h:aLs P tb sl rs d o t K): ∃v del new t',aQ P ⟨some d,o,ty,pos,aft,gd⟩ (mk sl rs) ⟨v,del,new⟩/\K v del new t' :=by
 unfold aLs at h;split at h
 ·obtain⟨v,del,t',h1,h2⟩:=aEI (P:=P) h;exact⟨v,del,[],t',h1 _ (.inl rfl),h2⟩
 ·obtain⟨v,del,t',h1,h2⟩:=aEI (P:=P) h;exact⟨v,del,[],t',h1 _ (.inr rfl),h2⟩
 ·obtain⟨v,t',h1,h2⟩:=aIQ h;exact⟨_,_,_,_,h1,h2⟩
 ·split at h
  ·rename_i vs hx;split at h
   ·rename_i v hv;exact⟨_,_,_,_,aFW hx hv,h⟩
   cases h
  cases h
 ·obtain⟨v,t',h1,h2⟩:=aKD hT h;exact⟨_,_,_,_,h1,h2⟩
 ·obtain⟨v,t',h1,h2⟩:=aLt h;exact⟨_,_,_,_,h1,h2⟩
 ·obtain⟨v,h1,h2⟩:=aKF hT h;exact⟨_,_,_,_,h1,h2⟩
 ·obtain⟨v,h1,h2⟩:=aHH hT h;exact⟨_,_,_,_,h1,h2⟩
 ·split at h
  ·rename_i hx;exact⟨_,_,_,_,aAW rfl (by rw[bA];exact hx),h⟩
  cases h
 ·obtain⟨v,t',h1,h2⟩:=aKE hT h;exact⟨_,_,_,_,h1,h2⟩
 ·obtain⟨v,t',h1,h2⟩:=aIR hT h;exact⟨_,_,_,_,h1,h2⟩
 ·split at h
  ·rename_i hq;have hq:=bP hT.ty hq;split at h
   ·rename_i hf;exact⟨_,_,_,_,aIS hq hf,h⟩
   cases h
  cases h
 ·split at h
  ·rename_i hb;rw[aBT] at hb;exact⟨_,_,_,_,aLu (qE hb.1) hb.2,h⟩
  cases h
 ·obtain⟨v,h1,h2⟩:=aHK hT h;exact⟨_,_,_,_,h1,h2⟩
 ·split at h
  ·obtain⟨v,del,new,h1,h2⟩:=aKO hT h;exact⟨_,_,_,_,h1,h2⟩
  obtain⟨v,new,h1,h2⟩:=aKM hT h;exact⟨_,_,_,_,h1,h2⟩
 ·obtain⟨v,new,t',h1,h2⟩:=aLx hT h;exact⟨_,_,_,_,h1,h2⟩
 ·split at h
  ·split at h
   ·split at h
    ·split at h
     ·rename_i he;obtain⟨v,t',h1,h2⟩:=aKN (bP hT.sl he) h;exact⟨_,_,_,_,h1,h2⟩
     split at h
     ·rename_i x s _ _ _ _ he;have he:=bP hT.st he;split at h
      ·rename_i m hx;refine⟨_,_,_,_,fO (x:= .int .i64 m.size) rfl (fun e w hee=>?_),h⟩;have e1:=hee x (.string m) (by rw[hx];rfl);simp[execOp,resolve,invoke,builtin,Builtin.len_,run_underlying he,e1,goInt]
      cases h
     cases h
    cases h
   ·split at h
    ·rename_i x y;split at h
     ·rename_i k m hx;split at h
      ·rename_i k' n hy;refine⟨_,_,_,_,fO (x:= .int k (if n<m then n else m)) rfl (fun e w hee=>?_),h⟩;have e1:=hee x (.int k m) (by rw[hx];rfl);have e2:=hee y (.int k' n) (by rw[hy];rfl);simp[execOp,resolve,invoke,builtin,Builtin.min_,Builtin.min2,e1,e2]
      cases h
     cases h
    cases h
   ·split at h
    ·rename_i x y;split at h
     ·rename_i k m hx;split at h
      ·rename_i k' n hy;refine⟨_,_,_,_,fO (x:= .int k (if m<n then n else m)) rfl (fun e w hee=>?_),h⟩;have e1:=hee x (.int k m) (by rw[hx];rfl);have e2:=hee y (.int k' n) (by rw[hy];rfl);simp[execOp,resolve,invoke,builtin,Builtin.max_,Builtin.max2,e1,e2]
      cases h
     cases h
    cases h
   ·split at h
    ·obtain⟨e,h⟩:=h.eq;subst e;exact aKQ hT h
    cases h
   cases h
  ·split at h
   ·rename_i hx;obtain⟨v,new,t',h1,h2⟩:=aIX (o:=⟨some d,.call ⟨.value _,⟨_⟩,_⟩,ty,pos,aft,gd⟩) (fun hc=>nW rfl hc hx) h;exact⟨_,_,_,_,h1,h2⟩
   cases h
  cases h
 ·obtain⟨v,t',h1,h2⟩:=aLz hT h;exact⟨_,_,_,_,h1,h2⟩
 ·obtain⟨v,t',h1,h2⟩:=aKS hT h;exact⟨_,_,_,_,h1,h2⟩
 ·obtain⟨v,t',h1,h2⟩:=aKV hT h;exact⟨_,_,_,_,h1,h2⟩
 ·exact⟨_,_,_,_,aEG,h⟩
 cases h
end
theorem aI0 {o:Oper}{t:T}{K:AV->List Nat->List (Nat × Rs)->T->Prop}(hT:fQ P tb)(h:opW P tb sl rs o.dst o.op t K): ∃v del new t',aQ P o (mk sl rs) ⟨v,del,new⟩/\K v del new t' :=by
 obtain⟨dst,op,ty,pos,aft,gd⟩:=o;unfold opW at h
 dsimp only at h
 split at h
 ·exact aKX hT h
 split at h
 ·obtain⟨del,new,t',h1,h2⟩:=aLw hT h;exact⟨_,_,_,_,h1,h2⟩
 cases h
end
end Go.Proofs.YtgamjlgfnmpcjaaGreatDoor
