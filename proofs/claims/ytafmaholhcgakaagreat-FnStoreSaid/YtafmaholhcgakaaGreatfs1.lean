/-
  Contracts and plain laws, joined: part 2.
-/
import Derived.Test.YtafmaholhcgakaaGreatfs0
import Derived.IntWalk
import Derived.Laws.StructEq
import Derived.Orders
import Derived.Laws.BytesArg
namespace Go.Proofs.YtafmaholhcgakaaGreat
open Go.ChangeShapes Go.WideShapes Go.ChangeAt Go.RowKit
set_option linter.unusedVariables false
set_option linter.unusedSimpArgs false
set_option maxRecDepth 100000
set_option maxHeartbeats 4000000
mutual
def jA (g:Nat->Nat):AV->AV
 | .p (some h) x=> .p (some (g h)) x
 | .p none x=> .p none x
 | .own h=> .own (g h)
 | .ptr h o=> .ptr (g h) o
 | .ep h k i o=> .ep (g h) k i o
 | .rp (some h) x=> .rp (some (g h)) x
 | .rp none x=> .rp none x
 | .agg cs=> .agg (tM g cs)
 | .tup cs=> .tup (tM g cs)
 | .fn f cs=> .fn f (tM g cs)
 | .nil=> .nil
 | .bsl h n=> .bsl (g h) n
 | .no=> .no
def tM (g:Nat->Nat):List AV->List AV
 | []=>[]
 | x::xs=>jA g x::tM g xs
end
mutual
theorem aF.map {K:Nat->Prop}{φ φ' :fK}{w:World}{g:Nat->Nat}: ∀(x:AV) (v:Value),(∀h pl,h∈bS x->φ' (g h)=some pl->φ h=some pl)->aF K φ w x v->aF K φ' w (jA g x) v
 | .p none x,v,_,h=>by unfold jA;unfold aF at*;exact h
 | .p (some k) x,v,hm,h=>by unfold jA;unfold aF at*;exact fun pl hp=>h pl (hm k pl (by simp[bS]) hp)
 | .own k,v,hm,h=>by unfold jA;unfold aF at*;exact fun pl hp=>h pl (hm k pl (by simp[bS]) hp)
 | .ptr k o,v,hm,h=>by unfold jA;unfold aF at*;obtain⟨g',e,q⟩:=h;exact⟨g',e,fun pl hp=>q pl (hm k pl (by simp[bS]) hp)⟩
 | .ep k _ _ _,v,hm,h=>by unfold jA;unfold aF at*;exact fun pl hp=>h pl (hm k pl (by simp[bS]) hp)
 | .rp none x,v,_,h=>by unfold jA;unfold aF at*;exact h
 | .rp (some k) x,v,hm,h=>by unfold jA;unfold aF at*;exact fun pl hp=>h pl (hm k pl (by simp[bS]) hp)
 | .agg cs,v,hm,h=>by
   unfold jA;unfold aF at*;obtain⟨vs,e,h1,h2⟩:=h;exact⟨vs,e,h1,aL.map cs _ (fun k pl hk=>hm k pl (by simpa [bS] using hk)) h2⟩
 | .tup cs,v,hm,h=>by
   unfold jA;unfold aF at*;obtain⟨vs,e,h2⟩:=h;exact⟨vs,e,aL.map cs _ (fun k pl hk=>hm k pl (by simpa [bS] using hk)) h2⟩
 | .fn f cs,v,hm,h=>by
   unfold jA;unfold aF at*;obtain⟨vs,e,h2⟩:=h;exact⟨vs,e,aL.map cs _ (fun k pl hk=>hm k pl (by simpa [bS] using hk)) h2⟩
 | .nil,v,_,h=>by unfold jA;unfold aF at*;exact h
 | .bsl k n,v,hm,h=>by unfold jA;unfold aF at*;exact fun pl hp=>h pl (hm k pl (by simp[bS]) hp)
 | .no,v,_,_=>by unfold jA;unfold aF;trivial
theorem aL.map {K:Nat->Prop}{φ φ' :fK}{w:World}{g:Nat->Nat}: ∀(xs:List AV) (vs:List Value),(∀h pl,h∈eH xs->φ' (g h)=some pl->φ h=some pl)->aL K φ w xs vs->aL K φ' w (tM g xs) vs
 | [],vs,_,h=>by unfold tM;unfold aL at*;exact h
 | x::xs,vs,hm,h=>by
   unfold tM;unfold aL at*;obtain⟨v,vs',e,h1,h2⟩:=h;exact⟨v,vs',e,aF.map x v (fun k pl hk=>hm k pl (by simp[eH,hk])) h1,aL.map xs vs' (fun k pl hk=>hm k pl (by simp[eH,hk])) h2⟩
end
mutual
def iS:AV->Bool
 | .p none x=>x.val?.isSome
 | .own _=>true
 | .nil=>true
 | .agg cs=>yU cs
 | .tup cs=>yU cs
 | .no=>true
 | _=>false
def yU:List AV->Bool
 | []=>true
 | x::xs=>iS x&&yU xs
end
mutual
theorem yV {K K' :Nat->Prop}{φ:fK}{w:World}: ∀(x:AV) (v:Value),iS x=true->aF K φ w x v->aF K' φ w x v
 | .p none x,v,hc,h=>by
   unfold iS at hc;unfold aF at*;cases hx:x.val? with
   | none=>simp[hx] at hc
   | some u=>exact(fR.scalar hx).2 ((fR.scalar hx).1 h)
 | .p (some k) x,v,hc,h=>by simp[iS] at hc
 | .own k,v,_,h=>by unfold aF at*;exact h
 | .ptr k o,v,hc,_=>by simp[iS] at hc
 | .ep k _ _ _,v,hc,_=>by simp[iS] at hc
 | .rp none x,v,hc,h=>by simp[iS] at hc
 | .rp (some k) x,v,hc,h=>by simp[iS] at hc
 | .agg cs,v,hc,h=>by
   unfold iS at hc;unfold aF at*;obtain⟨vs,e,h1,h2⟩:=h;exact⟨vs,e,h1,qH cs _ hc h2⟩
 | .tup cs,v,hc,h=>by
   unfold iS at hc;unfold aF at*;obtain⟨vs,e,h2⟩:=h;exact⟨vs,e,qH cs _ hc h2⟩
 | .fn f cs,v,hc,h=>by simp[iS] at hc
 | .nil,v,_,h=>by unfold aF at*;exact h
 | .bsl k n,v,hc,h=>by simp[iS] at hc
 | .no,v,_,_=>by unfold aF;trivial
theorem qH {K K' :Nat->Prop}{φ:fK}{w:World}: ∀(xs:List AV) (vs:List Value),yU xs=true->aL K φ w xs vs->aL K' φ w xs vs
 | [],vs,_,h=>by unfold aL at*;exact h
 | x::xs,vs,hc,h=>by
   unfold yU at hc;simp only[aAO] at hc;unfold aL at*;obtain⟨v,vs',e,h1,h2⟩:=h;exact⟨v,vs',e,yV x v hc.1 h1,qH xs vs' hc.2 h2⟩
end
def aDo:Rs->Bool
 | .arr _ _ true _=>true
 | _=>false
def aD5:Rs->Bool
 | .arr _ _ _ _=>true
 | _=>false
inductive Ar where
 | one (x:bB)
 | agg (xs:List bB)
 | ref (xs:List bB)
 | fn (f:FuncId) (caps:List (List bB))
def aIF (A:Nat->Prop)(w:World)(xs:List bB)(v:Value):Prop:= ∃a,v= .pointer a/\gR A w xs a 0
def aBu (A:Nat->Prop)(w:World):List (List bB)->List Value->Prop
 | [],vs=>vs= []
 | x::xs,vs=> ∃v vs',vs=v::vs' /\aIF A w x v/\aBu A w xs vs'
def aKL (A:Nat->Prop)(w:World):Ar->Value->Prop
 | .one x,v=>fR A w x v
 | .agg xs,v=> ∃vs:Array Value,v= .agg vs/\jU A w xs vs.toList
 | .ref xs,v=>aIF A w xs v
 | .fn f caps,v=> ∃vs:Array Value,v= .func (.func f) #[] vs/\aBu A w caps vs.toList
def qU (A:Nat->Prop)(w:World):List Ar->List Value->Prop
 | [],vs=>vs= []
 | x::xs,vs=> ∃v vs',vs=v::vs' /\aKL A w x v/\qU A w xs vs'
def aNn (A:Nat->Prop)(w:World)(rv:AV)(rs:List (Nat × Rs))(e:Ending)(w' :World):Prop:=
 ∃v K φ,e= .returned v/\Below w.heap.size w w' /\(∀b,K b->b<w'.heap.size/\(A b\/w.heap.size<=b))/\(∀b,K b-> ∀h pl,φ h=some pl->b ∉ pl.F)/\
  (∀h r,aS rs h=some r-> ∃pl,φ h=some pl/\Holds K φ w' pl r)/\(∀h,aS rs h=none->φ h=none)/\
  (∀h h' pl pl',h≠h' ->φ h=some pl->φ h' =some pl' -> ∀g∈pl.F,g ∉ pl'.F)/\(∀h pl,φ h=some pl->pl.F.Nodup)/\(∀h pl,φ h=some pl-> ∀g∈pl.F,w.heap.size<=g/\g<w'.heap.size)/\
  aF K φ w' rv v
def hJ (P : Program) (f : FuncId) : Bool := match P.funcs[f]? with | some fn => !(fn.name == "runtime.NumGoroutine") && fn.body.isSome | none => false
def Con (P:Program)(f:FuncId)(args:List Ar)(rv:AV)(rs:List (Nat × Rs)):Prop:=
 hJ P f=true/\ ∀(A:Nat->Prop) (w:World) (vs:Array Value),(∀b,A b->b<w.heap.size)->qU A w args vs.toList->Calls P f vs w (aNn A w rv rs)
def AsD (S:St):AV->bB->Prop
 | .p o x,y=>lR S o/\y=x
 | .own h,y=> ∃e k d xs,S.res h=some (.arr e k d xs)/\y= .sl e k xs
 | .nil,y=> ∃e k,y= .sl e k []
 | _,_=>False
def aD6 (S:St):List AV->List bB->Prop
 | [],ys=>ys= []
 | x::xs,ys=> ∃y ys',ys=y::ys' /\AsD S x y/\aD6 S xs ys'
def aDp (S:St):AV->List bB->Prop
 | .rp o xs,ys=>lR S o/\ys=xs
 | .ptr h off,ys=> ∃t cs,S.res h=some (.box t cs)/\aD6 S (cs.drop off) ys/\ys≠[]
 | _,_=>False
def aEp (S:St):List AV->List (List bB)->Prop
 | [],ys=>ys= []
 | x::xs,ys=> ∃y ys',ys=y::ys' /\aDp S x y/\aEp S xs ys'
def aFi (S:St):AV->Ar->Prop
 | .agg cs,y=> ∃ys,y= .agg ys/\aD6 S cs ys
 | .fn f cs,y=> ∃caps,y= .fn f caps/\aEp S cs caps
 | .rp o xs,y=> ∃ys,y= .ref ys/\aDp S (.rp o xs) ys
 | .ptr h off,y=> ∃ys,y= .ref ys/\aDp S (.ptr h off) ys
 | x,y=> ∃d,y= .one d/\AsD S x d
def aBv (S:St):List AV->List Ar->Prop
 | [],ys=>ys= []
 | x::xs,ys=> ∃y ys',ys=y::ys' /\aFi S x y/\aBv S xs ys'
mutual
def nS:AV->Bool
 | .p none _=>true
 | .nil=>true
 | .agg cs=>mX cs
 | _=>false
def mX:List AV->Bool
 | []=>true
 | x::xs=>nS x&&mX xs
end
section
variable {K:Nat->Prop} {φ:fK} {A:Nat->Prop} {w0:rV} {N:Nat} {S:St} {a:Act} {w:World} {P:Program}
theorem pM {B:Nat->Prop}{e k:Nat}:fR B w (.sl e k []) (.slice none 0 0):=by
 unfold fR;exact⟨none,0,rfl,aKC _,by unfold maxLen;omega,by unfold eT;trivial⟩
theorem G.rdOwn (hG:G K φ A w0 N S a w){h:Nat}{e k:Nat}{d:Bool}{xs:List (List bB)}{v:Value}(hr:S.res h=some (.arr e k d xs))(hm:aF K φ w (.own h) v):fR (fun b=>b<w.heap.size) w (.sl e k xs) v:=by
 obtain⟨pl,css,hp,ho,hcl,hck,htop,hrow⟩:=hG.owned hr;unfold aF at hm;rw[hm pl hp];obtain⟨b,c,e1,h1,h2,h3,h4⟩:=kG ho hck hcl;unfold fR;refine⟨b,c,e1,h1,h2,?_⟩;by_cases hn:0<xs.length
 ·obtain⟨g,rfl,hg⟩:=h3 hn;have hlt:g<w.heap.size:=(hG.ge h pl hp g (aFw _ (by rw[htop,hg];simp))).2;refine vT hlt hcl (fun i x c hx hc=>⟨(hrow i x c hx hc).1,jU.mono (fun _ _=>rfl) (fun b hb=>?_) x c (hrow i x c hx hc).2.1⟩) fun i c hc j u hu=>?_
  ·rcases hb with hb | hb
   ·exact(hG.kin b hb).1
   exact(hG.ge h pl hp b (aDU _ hb)).2
  obtain⟨g',e2,_,hcell⟩:=h4 i c hc;simp only[Option.some.injEq,Addr.mk.injEq,and_true] at e2;subst e2;rw[Nat.zero_add];exact hcell j u hu
 have:xs= []:=aE6 (by omega);subst this;unfold eT;trivial
theorem aKN (hG:G K φ A w0 N S a w){x:AV}{y:bB}{v:Value}(h:AsD S x y)(hm:aF K φ w x v):fR (fun b=>b<w.heap.size) w y v:=by
 unfold AsD at h;split at h
 ·rename_i o x';obtain⟨hl,rfl⟩:=h;cases o with
  | none=>unfold aF at hm;exact fR.mono (fun _ _=>rfl) (fun b hb=>(hG.kin b hb).1) _ _ hm
  | some g=>
    obtain⟨r,hr⟩:=hl;obtain⟨pl,hp,_⟩:=hG.dom g r hr;unfold aF at hm;exact fR.mono (fun _ _=>rfl) (fun b hb=>by rcases hb with hb | hb;exact(hG.kin b hb).1;exact(hG.ge g pl hp b (aDU _ hb)).2) _ _ (hm pl hp)
 ·obtain⟨e,k,d,xs,hr,rfl⟩:=h;exact hG.rdOwn hr hm
 ·obtain⟨e,k,rfl⟩:=h;unfold aF at hm;rw[hm];exact pM
 exact h.elim
theorem aEq (hG:G K φ A w0 N S a w): ∀{xs:List AV} {ys:List bB} {vs:List Value},aD6 S xs ys->aL K φ w xs vs->jU (fun b=>b<w.heap.size) w ys vs
 | [],ys,vs,h,hm=>by unfold aL at hm;rw[hm,show ys= [] from h];exact rfl
 | x::xs,ys,vs,⟨y,ys',e,h1,h2⟩,hm=>by
   subst e;unfold aL at hm;obtain⟨v,vs',rfl,h3,h4⟩:=hm;exact⟨v,vs',rfl,aKN hG h1 h3,aEq hG h2 h4⟩
theorem rZ {K:Nat->Prop}{φ:fK}{w:World}: ∀(n:Nat) {xs:List AV} {vs:List Value},aL K φ w xs vs->aL K φ w (xs.drop n) (vs.drop n)
 | 0,_,_,h=>by simpa using h
 | n+1,[],vs,h=>by unfold aL at h;subst h;simp only[List.drop_nil];unfold aL;rfl
 | n+1,x::xs,vs,h=>by
   unfold aL at h;obtain⟨v,vs',rfl,_,h2⟩:=h;simpa using rZ n h2
theorem aBw (hG:G K φ A w0 N S a w){x:AV}{y:List bB}{v:Value}(h:aDp S x y)(hm:aF K φ w x v):aIF (fun b=>b<w.heap.size) w y v:=by
 unfold aDp at h;split at h
 ·rename_i o xs;obtain⟨hl,rfl⟩:=h;cases o with
  | none=>
    unfold aF at hm;obtain⟨a,e,hr⟩:=hm;exact⟨a,e,gR.mono (fun _ _=>rfl) (fun b hb=>(hG.kin b hb).1) _ _ _ hr⟩
  | some g=>
    obtain⟨r,hr⟩:=hl;obtain⟨pl,hp,_⟩:=hG.dom g r hr;unfold aF at hm;obtain⟨a,e,hr⟩:=hm pl hp;exact⟨a,e,gR.mono (fun _ _=>rfl) (fun b hb=>by rcases hb with hb | hb;exact(hG.kin b hb).1;exact(hG.ge g pl hp b (aDU _ hb)).2) _ _ _ hr⟩
 ·rename_i h0 off;obtain⟨t,cs,hr,hd,hne⟩:=h;obtain⟨g,vs,hp,hB,h1,hl⟩:=hG.boxed hr;unfold aF at hm;obtain⟨g',rfl,hg⟩:=hm;have hgg:=hg _ hp;simp only[List.cons.injEq,and_true] at hgg;subst hgg;have hlt:=(hG.ge h0 _ hp g (by simp[Pl.F])).2;refine⟨_,rfl,gR.mk (fun _=>hlt) (aEq hG hd (rZ off hl)) fun j u hu=>?_⟩;rw[List.getElem?_drop] at hu;rw[Nat.add_zero,hB.cell (off+j)];simpa using hu
 exact h.elim
theorem aDq (hG:G K φ A w0 N S a w): ∀{xs:List AV} {ys:List (List bB)} {vs:List Value},aEp S xs ys->aL K φ w xs vs->aBu (fun b=>b<w.heap.size) w ys vs
 | [],ys,vs,h,hm=>by unfold aL at hm;rw[hm,show ys= [] from h];exact rfl
 | x::xs,ys,vs,⟨y,ys',e,h1,h2⟩,hm=>by
   subst e;unfold aL at hm;obtain⟨v,vs',rfl,h3,h4⟩:=hm;exact⟨v,vs',rfl,aBw hG h1 h3,aDq hG h2 h4⟩
theorem aM1 (hG:G K φ A w0 N S a w){x:AV}{y:Ar}{v:Value}(h:aFi S x y)(hm:aF K φ w x v):aKL (fun b=>b<w.heap.size) w y v:=by
 unfold aFi at h;split at h
 ·obtain⟨ys,rfl,h⟩:=h;unfold aF at hm;obtain⟨vs,e,_,hl⟩:=hm;exact⟨vs,e,aEq hG h hl⟩
 ·obtain⟨caps,rfl,h⟩:=h;unfold aF at hm;obtain⟨vs,e,hl⟩:=hm;exact⟨vs,e,aDq hG h hl⟩
 ·obtain⟨ys,rfl,h⟩:=h;exact aBw hG h hm
 ·obtain⟨ys,rfl,h⟩:=h;exact aBw hG h hm
 obtain⟨d,rfl,h⟩:=h;exact aKN hG h hm
theorem aIG {x:AV}{y:bB}{v:Value}(hs:nS x=true)(h:AsD S x y)(hm:aF K φ w x v):fR K w y v:=by
 unfold AsD at h;split at h
 ·rename_i o x';cases o with
  | none=>obtain⟨_,rfl⟩:=h;unfold aF at hm;exact hm
  | some g=>simp[nS] at hs
 ·simp[nS] at hs
 ·obtain⟨e,k,rfl⟩:=h;unfold aF at hm;rw[hm];exact pM
 exact h.elim
theorem aFj: ∀{xs:List AV} {ys:List bB} {vs:List Value},mX xs=true->aD6 S xs ys->aL K φ w xs vs->jU K w ys vs
 | [],ys,vs,_,h,hm=>by unfold aL at hm;rw[hm,show ys= [] from h];exact rfl
 | x::xs,ys,vs,hs,⟨y,ys',e,h1,h2⟩,hm=>by
   subst e;unfold mX at hs;simp only[aAO] at hs;unfold aL at hm;obtain⟨v,vs',rfl,h3,h4⟩:=hm;exact⟨v,vs',rfl,aIG hs.1 h1 h3,aFj hs.2 h2 h4⟩
theorem aKO {x:AV}{y:Ar}{v:Value}(hs:nS x=true)(h:aFi S x y)(hm:aF K φ w x v):aKL K w y v:=by
 unfold aFi at h;split at h
 ·obtain⟨ys,rfl,h⟩:=h;unfold aF at hm;unfold nS at hs;obtain⟨vs,e,_,hl⟩:=hm;exact⟨vs,e,aFj hs h hl⟩
 ·simp[nS] at hs
 ·simp[nS] at hs
 ·simp[nS] at hs
 obtain⟨d,rfl,h⟩:=h;exact aIG hs h hm
theorem pN (hb:Nat): ∀(rs:List (Nat × Rs)) (h:Nat),aS (rs.map fun q=>(hb+q.1,q.2)) h=if hb<=h then aS rs (h - hb) else none
 | [],h=>by simp[aS]
 | (k,r)::rs,h=>by
   simp only[aGQ,aS,pN hb rs h];by_cases h1:hb<=h
   ·by_cases h2:h - hb=k
    ·have:h=hb+k:=by omega
     simp[h1,h2,this]
    have:h≠hb+k:=by omega
    simp[h1,h2,this]
   have:h≠hb+k:=by omega
   simp[h1,this]
theorem Holds.arrPhi {φ' :fK}{pl:Pl}{r:Rs}(ha:aD5 r=true)(h:Holds K φ w pl r):Holds K φ' w pl r:=by
 cases r with
 | box t cs=>simp[aD5] at ha
 | hole e k xs i j h=>simp[aD5] at ha
 | arr e k d xs=>cases d<;>exact h
theorem Holds.deepK {K' :Nat->Prop}{pl:Pl}{r:Rs}(ha:aDo r=true)(h:Holds K φ w pl r):Holds K' φ w pl r:=by
 cases r with
 | box t cs=>simp[aDo] at ha
 | hole e k xs i j h=>simp[aDo] at ha
 | arr e k d xs=>
   cases d with
   | true=>exact h
   | false=>simp[aDo] at ha
theorem bW: ∀{rs:List (Nat × Rs)} {h:Nat} {r:Rs},aS rs h=some r->(h,r)∈rs
 | [],_,_,e=>by simp[aS] at e
 | (k,r')::rs,h,r,e=>by
   simp only[aS] at e;split at e
   ·injection e with e;subst_vars;simp
   exact aLo _ (bW e)
theorem aDr (hG:G K φ A w0 N S a w){dst:Option Nat}{A' K' :Nat->Prop}{rv:AV}{rs:List (Nat × Rs)}{hb:Nat}{w' :World}{v:Value}{Kr:Nat->Prop}{φr:fK}(hd: ∀d,dst=some d->d<N)
 (hbel:Below w.heap.size w w') (hkout: ∀b,Kr b-> ∀h pl,φr h=some pl->b ∉ pl.F)
 (hdom: ∀h r,aS rs h=some r-> ∃pl,φr h=some pl/\Holds Kr φr w' pl r) (hnon: ∀h,aS rs h=none->φr h=none)
 (hdisj: ∀h h' pl pl',h≠h' ->φr h=some pl->φr h' =some pl' -> ∀g∈pl.F,g ∉ pl'.F) (hnd: ∀h pl,φr h=some pl->pl.F.Nodup) (hge: ∀h pl,φr h=some pl-> ∀g∈pl.F,w.heap.size<=g/\g<w'.heap.size)
 (hm:aF K' φr w' rv v) (hH: ∀h r pl,aS rs h=some r->Holds Kr φr w' pl r->Holds K' φr w' pl r)
 (hK: ∀b,K b->K' b) (hK' : ∀b,K' b->K b\/(Kr b/\w.heap.size<=b/\b<w'.heap.size)) (ha: ∀q∈rs,aD5 q.2=true) (hf: ∀q∈rs,fE S (hb+q.1)) (hmt: ∀h∈bS rv,∃r,aS rs h=some r):
 ∃φ',G K' φ' A w0 N (S.apply dst ⟨jA (hb+ ·) rv,[],rs.map fun q=>(hb+q.1,q.2)⟩) (a.put dst v) w' /\Tr K φ w (· ∈([]:List Nat)) (aS (rs.map fun q=>(hb+q.1,q.2))) K' φ' w' :=by
 have hfs: ∀h r,aS (rs.map fun q=>(hb+q.1,q.2)) h=some r->hb<=h/\aS rs (h - hb)=some r:=fun h r e=>by
  rw[pN] at e;split at e
  ·exact⟨by assumption,e⟩
  cases e
 have hφs: ∀h pl,(if hb<=h then φr (h - hb) else none)=some pl->hb<=h/\φr (h - hb)=some pl:=fun h pl e=>by
  split at e
  ·exact⟨by assumption,e⟩
  cases e
 have hfresh: ∀h pl,(if hb<=h then φr (h - hb) else none)=some pl->fE S h:=fun h pl e=>by
  obtain⟨h1,h2⟩:=hφs h pl e;cases hc:aS rs (h - hb) with
  | none=>rw[hnon _ hc] at h2;cases h2
  | some r=>
    have:=hf _ (bW hc);simp only at this
    rwa [show hb+(h - hb)=h by omega] at this
 have hstep:=hG.step (C:=(· ∈([]:List Nat))) (φr:=fun h=>if hb<=h then φr (h - hb) else none) (ρ:=aS (rs.map fun q=>(hb+q.1,q.2))) (K' :=K') (w' :=w')
  (sX.of_below hbel _)
  (fun h pl e=>⟨hnd _ pl (hφs h pl e).2,fun g hg=>⟨(hge _ pl (hφs h pl e).2 g hg).2,.inl (hge _ pl (hφs h pl e).2 g hg).1⟩⟩)
  (fun h h' pl pl' hne e e' =>hdisj _ _ pl pl' (fun e2=>hne (by have:=(hφs h pl e).1;have:=(hφs h' pl' e').1;omega)) (hφs h pl e).2 (hφs h' pl' e').2)
  (fun h r e=>by
   obtain⟨h1,h2⟩:=hfs h r e;obtain⟨pl,hp,hh⟩:=hdom _ r h2;exact⟨pl,by simp[h1,hp],Holds.arrPhi (ha _ (bW h2)) (hH _ r pl h2 hh)⟩)
  (fun h e=>by
   rw[pN] at e;split at e
   ·rename_i h1;simp[h1,hnon _ e]
   rename_i h1;simp[h1])
  hK
  (fun b hb' =>by
   rcases hK' b hb' with h1 | ⟨h1,h2,h3⟩
   ·exact .inl h1
   exact .inr ⟨h3,.inl h2,fun h pl e=>hkout b h1 _ pl (hφs h pl e).2⟩)
  (fun t h pl hmm e=>absurd hmm ((hfresh h pl e).1 t))
  (fun h' r h pl _ hr hmm e=>absurd hmm ((hfresh h pl e).2.1 h' r hr))
 have hstep:=hstep (fun h pl e=> .inr (hfresh h pl e).2.2.2);refine⟨_,hstep.put hd (aF.map (φ:=φr) rv v (fun h pl hh e=>?_) hm),sX.of_below hbel _,hK,fun b hb' =>?_,fun h pl e=>?_,fun h pl _ e g hg=>hbel.block g (hG.ge h pl e g (aDU _ hg)).2⟩
 ·rcases bH e with e | ⟨e1,_,e⟩
  ·have:=(hφs _ pl e).2
   rwa [show hb+h - hb=h by omega] at this
  obtain⟨r,hr⟩:=hmt h hh;obtain⟨pl',hp',_⟩:=hdom h r hr;rw[if_pos (by omega),show hb+h - hb=h by omega,hp'] at e1;cases e1
 ·rcases hK' b hb' with h1 | ⟨h1,h2,h3⟩
  ·exact .inl h1
  exact .inr (.inl h2)
 rcases bH e with e | ⟨_,_,e⟩
 ·refine .inr ⟨hG.non h (hfresh h pl e).2.2.1,?_,fun g hg=> .inl (hge _ pl (hφs h pl e).2 g hg).1⟩;obtain⟨h1,h2⟩:=hφs h pl e;rw[pN,if_pos h1];cases hc:aS rs (h - hb) with
  | none=>rw[hnon _ hc] at h2;cases h2
  | some r=>exact⟨r,rfl⟩
 exact .inl e
end
mutual
theorem aF.unmap {K:Nat->Prop}{φ φ' :fK}{w:World}{g:Nat->Nat}: ∀(x:AV) (v:Value),(∀h pl,h∈bS x->φ' h=some pl->φ (g h)=some pl)->aF K φ w (jA g x) v->aF K φ' w x v
 | .p none x,v,_,h=>by unfold jA at h;unfold aF at*;exact h
 | .p (some k) x,v,hm,h=>by unfold jA at h;unfold aF at*;exact fun pl hp=>h pl (hm k pl (by simp[bS]) hp)
 | .own k,v,hm,h=>by unfold jA at h;unfold aF at*;exact fun pl hp=>h pl (hm k pl (by simp[bS]) hp)
 | .ptr k o,v,hm,h=>by unfold jA at h;unfold aF at*;obtain⟨g',e,q⟩:=h;exact⟨g',e,fun pl hp=>q pl (hm k pl (by simp[bS]) hp)⟩
 | .ep k _ _ _,v,hm,h=>by unfold jA at h;unfold aF at*;exact fun pl hp=>h pl (hm k pl (by simp[bS]) hp)
 | .rp none x,v,_,h=>by unfold jA at h;unfold aF at*;exact h
 | .rp (some k) x,v,hm,h=>by unfold jA at h;unfold aF at*;exact fun pl hp=>h pl (hm k pl (by simp[bS]) hp)
 | .agg cs,v,hm,h=>by
   unfold jA at h;unfold aF at*;obtain⟨vs,e,h1,h2⟩:=h;exact⟨vs,e,h1,aL.unmap cs _ (fun k pl hk=>hm k pl (by simpa [bS] using hk)) h2⟩
 | .tup cs,v,hm,h=>by
   unfold jA at h;unfold aF at*;obtain⟨vs,e,h2⟩:=h;exact⟨vs,e,aL.unmap cs _ (fun k pl hk=>hm k pl (by simpa [bS] using hk)) h2⟩
 | .fn f cs,v,hm,h=>by
   unfold jA at h;unfold aF at*;obtain⟨vs,e,h2⟩:=h;exact⟨vs,e,aL.unmap cs _ (fun k pl hk=>hm k pl (by simpa [bS] using hk)) h2⟩
 | .nil,v,_,h=>by unfold jA at h;unfold aF at*;exact h
 | .bsl k n,v,hm,h=>by unfold jA at h;unfold aF at*;exact fun pl hp=>h pl (hm k pl (by simp[bS]) hp)
 | .no,v,_,_=>by unfold aF;trivial
theorem aL.unmap {K:Nat->Prop}{φ φ' :fK}{w:World}{g:Nat->Nat}: ∀(xs:List AV) (vs:List Value),(∀h pl,h∈eH xs->φ' h=some pl->φ (g h)=some pl)->aL K φ w (tM g xs) vs->aL K φ' w xs vs
 | [],vs,_,h=>by unfold tM at h;unfold aL at*;exact h
 | x::xs,vs,hm,h=>by
   unfold tM at h;unfold aL at*;obtain⟨v,vs',e,h1,h2⟩:=h;exact⟨v,vs',e,aF.unmap x v (fun k pl hk=>hm k pl (by simp[eH,hk])) h1,aL.unmap xs vs' (fun k pl hk=>hm k pl (by simp[eH,hk])) h2⟩
end
def aD7 (g:Nat->Nat):Rs->Rs
 | .box t cs=> .box t (tM g cs)
 | .arr e k d xs=> .arr e k d xs
 | .hole e k xs i j h=> .hole e k xs i j (g h)
def qV (A:Nat->Prop)(w0:rV)(N:Nat)(S:St)(a:Act)(w:World):Prop:= ∃K φ,G K φ A w0 N S a w
def VC (P:Program)(N:Nat)(c:Code)(S:St)(Q:Exit->St->Prop):Prop:=
 ∀A w0 a w,qV A w0 N S a w->c.wp P (fun e a' w' => ∃S',qV A w0 N S' a' w' /\Q e S') a w
def aNo (Kn:St->Prop)(Q:Exit->St->Prop):Exit->St->Prop
 | .normal,S=>Kn S
 | e,S=>Q e S
def aHM (id:Nat)(Q:Exit->St->Prop):Exit->St->Prop
 | .exit id',S=>if id' =id then Q .normal S else Q (.exit id') S
 | e,S=>Q e S
section
variable {P:Program} {N:Nat} {S:St} {Q:Exit->St->Prop}
theorem aM2 (h:Q .normal S):VC P N .skip S Q:=fun A w0 a w hG=>wp_skip ⟨S,hG,h⟩
theorem aON (h:Q .ret S):VC P N .ret S Q:=fun A w0 a w hG=>wp_ret ⟨S,hG,h⟩
theorem aM3 {id:Nat}(h:Q (.exit id) S):VC P N (.exit id) S Q:=fun A w0 a w hG=>wp_exit ⟨S,hG,h⟩
theorem aEr {c:Code}{Q' :Exit->St->Prop}(h:VC P N c S Q)(hq: ∀e S,Q e S->Q' e S):VC P N c S Q' :=fun A w0 a w hG=>Code.wp_mono (fun e a w ⟨S',h1,h2⟩=>⟨S',h1,hq e S' h2⟩) (h A w0 a w hG)
theorem aOO {x y:Code}(h: ∀Kn:St->Prop,(∀S,VC P N y S Q->Kn S)->VC P N x S (aNo Kn Q)):VC P N (.seq x y) S Q:=fun A w0 a w hG=>by
 refine wp_seq (Code.wp_mono (fun e a w ⟨S',h1,h2⟩=>?_) (h (fun S=>VC P N y S Q) (fun _ h=>h) A w0 a w hG));cases e with
 | normal=>exact h2 A w0 a w h1
 | _=>exact⟨S',h1,h2⟩
theorem aM4 {c:Operand}{x y:Code}{t:Bool}(hc:S.ev c= .p none (.bool t))(hx:t=true->VC P N x S Q)(hy:t=false->VC P N y S Q):VC P N (.cond c x y) S Q:=fun A w0 a w hG=>by
 obtain⟨K,φ,hG'⟩:=hG;have e:a.eval c= .bool t:=gS (x:=S.ev c) (by rw[hc];rfl) (hG'.ev c);exact wp_cond_split e (fun ht=>hx ht A w0 a w ⟨K,φ,hG'⟩) (fun ht=>hy ht A w0 a w ⟨K,φ,hG'⟩)
theorem aKP {id:Nat}{c:Code}(h:VC P N c S (aHM id Q)):VC P N (.block id c) S Q:=fun A w0 a w hG=>by
 refine wp_block (Code.wp_mono (fun e a w ⟨S',h1,h2⟩=>?_) (h A w0 a w hG));cases e with
 | exit id' =>
   simp only[aHM,Exit.inBlock] at*;split at h2
   ·rename_i hid;rw[if_pos hid];exact⟨S',h1,h2⟩
   rename_i hid;rw[if_neg hid];exact⟨S',h1,h2⟩
 | _=>exact⟨S',h1,h2⟩
theorem xA (p:Nat->Prop)(h: ∃n,p n): ∃n,p n/\ ∀m,p m->n<=m:=by
 obtain⟨n,hn⟩:=h
 induction n using Nat.strongRecOn with
 | _ n ih=>
   by_cases hm: ∃m,m<n/\p m
   ·obtain⟨m,h1,h2⟩:=hm;exact ih m h1 h2
   exact⟨n,hn,fun m h=>Nat.le_of_not_lt fun h' =>hm ⟨m,h',h⟩⟩
def gvA:AV->Option (Option Bool)
 | .p none (.bool b)=>some (some b)
 | .tup []=>some none
 | _=>none
theorem aKR {x:AV}{b:Bool}(h:x= .p none (.bool b)):gvA x=some (some b):=by rw[h];rfl
theorem aAl (K:Nat->Prop)(φ:fK)(w:World):aF K φ w (.tup []) undef:=by
 unfold aF;exact⟨#[],rfl,by unfold aL;rfl⟩
def Ops (P:Program)(N:Nat)(all:Array Oper):List Oper->St->(St->Prop)->Prop
 | [],S,K=>K S
 | o::rest,S,K=>(∀d,o.dst=some d->d<N)/\match o.guard with
   | none=> ∃e,qG P o S e/\Ops P N all rest (S.apply o.dst e) K
   | some (j,want)=> ∃d b,(all[j]?).bind (·.dst)=some d/\d<N/\gvA (S.slots d)=some b/\(b=some want-> ∃e,qG P o S e/\Ops P N all rest (S.apply o.dst e) K)/\(b≠some want->Ops P N all rest (S.put o.dst (.tup [])) K)
theorem aDs {A:Nat->Prop}{w0:rV}{S:St}{a:Act}{w:World}{K:Nat->Prop}{φ:fK}{all:Array Oper}{o:Oper}{j d:Nat}{want:Bool}{b:Option Bool}(hG:G K φ A w0 N S a w)(hg:o.guard=some (j,want))(hj:(all[j]?).bind (·.dst)=some d)(hd:d<N)(hs:gvA (S.slots d)=some b):
 Region.wanted o (yielded all a.tmps)=(b==some want):=by
 have h1:=hG.slots d;have hlt:d<a.tmps.size:=by rw[hG.size];exact hd
 rw[Array.getD_eq_getD_getElem?,Array.getElem?_eq_getElem hlt] at h1;unfold gvA at hs;split at hs
 ·rename_i b' hx;rw[hx] at h1;unfold aF fR at h1;have h2:a.tmps[d]? =some (.bool b'):=by rw[Array.getElem?_eq_getElem hlt];simpa using h1
  injection hs with hs
  subst hs;unfold Region.wanted;simp only[hg,yielded,hj,Option.bind_some,h2]
 ·rename_i hx;rw[hx] at h1;unfold aF at h1;obtain⟨vs,hv,_⟩:=h1;have h2:a.tmps[d]? =some (.tuple vs):=by rw[Array.getElem?_eq_getElem hlt];simpa using hv
  injection hs with hs
  subst hs;unfold Region.wanted;simp only[hg,yielded,hj,Option.bind_some,h2]
 cases hs
theorem aAP {all:Array Oper}{Qw:Exit->Act->World->Prop}{A:Nat->Prop}{w0:rV}{Kn:St->Prop}(hQ: ∀S a w,Kn S->qV A w0 N S a w->Qw .normal a w): ∀(l:List Oper) (S:St) (a:Act) (w:World),Ops P N all l S Kn->qV A w0 N S a w->wpList P all Qw l a w
 | [],S,a,w,h,hG=>hQ S a w h hG
 | o::rest,S,a,w,h,⟨K,φ,hG⟩=>by
   unfold Ops at h;obtain⟨hd,h⟩:=h
   have step: ∀e,qG P o S e->Ops P N all rest (S.apply o.dst e) Kn->o.wp P a w (wpList P all Qw rest) Qw:=fun e hs ho=>
    Oper.wp_mono (fun a' w' ⟨K',φ',v,_,hG'⟩=>aAP hQ rest _ a' w' ho ⟨K',φ',hG'⟩) (hs K φ A w0 N a w Qw hd hG)
   unfold wpList;split at h
   ·rename_i hg;obtain⟨e,hs,ho⟩:=h;rw[if_pos (by simp[Region.wanted,hg])];exact .inl (step e hs ho)
   rename_i j want hg;obtain⟨d,b,hj,hdN,hsl,h1,h2⟩:=h;rw[aDs hG hg hj hdN hsl];by_cases hb:b=some want
   ·obtain⟨e,hs,ho⟩:=h1 hb;rw[if_pos (by simp[hb])];exact .inl (step e hs ho)
   rw[if_neg (by simp[hb])];exact aAP hQ rest _ _ w (h2 hb) ⟨K,φ,hG.put hd (aAl _ _ _)⟩
theorem aJA {id:Nat}{ops:Array Oper}(h:Ops P N ops ops.toList S (Q .normal)):VC P N (.region id ops false) S Q:=fun A w0 a w hG=>
 wp_region_list (aAP (fun S a w hq hG=>⟨S,hG,hq⟩) ops.toList S a w h hG)
def aM5 (P:Program)(S:St):ResultVar->AV->Prop
 | .tmp t,x=>x=S.slots t
 | .cell t ty,x=> ∃h tb cs ag n bt z,S.slots t= .ptr h 0/\S.res h=some (.box tb cs)/\eM P ty=some (ag,n,bt,z)/\((ag=true/\n=cs.length/\x= .agg cs)\/(ag=false/\cs[0]? =some x))
def aM6 (P:Program)(S:St):List ResultVar->List AV->Prop
 | [],xs=>xs= []
 | r::rs,xs=> ∃x xs',xs=x::xs' /\aM5 P S r x/\aM6 P S rs xs'
def aFk:List AV->AV
 | [x]=>x
 | xs=> .tup xs
def aBx (tmps:Array Value)(r:ResultVar):Sem Value:=match r with | .tmp t=>pure (tmps.getD t undef) | .cell t ty=>do loadVar ty (<-asAddr (tmps.getD t undef))
theorem aHN {A:Nat->Prop}{w0:rV}{a:Act}{w:World}{K:Nat->Prop}{φ:fK}(hG:G K φ A w0 N S a w){r:ResultVar}{x:AV}(h:aM5 P S r x):
 ∃v,(aBx a.tmps r).run P w= .ok v w/\aF K φ w x v:=by
 cases r with
 | tmp t=>
   simp only[aM5] at h;subst h;exact⟨_,rfl,hG.slots t⟩
 | cell t ty=>
   simp only[aM5] at h;obtain⟨k,tb,cs,ag,n,bt,z,h1,h2,h3,h4⟩:=h;obtain⟨g,vs,hp,hB,hone,hl⟩:=hG.boxed h2;have h5:=hG.slots t;rw[h1] at h5;unfold aF at h5;obtain⟨g',he,hq'⟩:=h5;have hg' :=hq' _ hp;simp only[List.cons.injEq,and_true] at hg';subst hg';have hlen:=iH hl;simp only[aMa] at hlen;rcases h4 with ⟨rfl,rfl,rfl⟩ | ⟨rfl,hx⟩
   ·have:=pK h3 w g 0 vs.toList (by simpa using hlen) (fun j v hv=>by rw[hB.cell,<-Array.getElem?_toList,Nat.zero_add];exact hv);refine⟨.agg vs,?_,by unfold aF;exact⟨vs,rfl,hone,hl⟩⟩;simp only[aBx,he,asAddr,Sem.run_bind,Sem.run_pure,Result.andThen_ok];simpa [Instr.loadAt,Instr.sureAddr] using this
   obtain⟨v,hv,hm⟩:=lV hl hx;have:=mV h3 w g 0 v (by rw[hB.cell,<-Array.getElem?_toList];exact hv);refine⟨v,?_,hm⟩;simp only[aBx,he,asAddr,Sem.run_bind,Sem.run_pure,Result.andThen_ok];simpa [Instr.loadAt,Instr.sureAddr] using this
theorem aBy {A:Nat->Prop}{w0:rV}{a:Act}{w:World}{K:Nat->Prop}{φ:fK}(hG:G K φ A w0 N S a w): ∀{rs:List ResultVar} {xs:List AV},aM6 P S rs xs->
 ∃vs:List Value,(rs.mapM (aBx a.tmps)).run P w= .ok vs w/\aL K φ w xs vs
 | [],xs,h=>⟨[],by simp,by rw[show xs= [] from h];unfold aL;rfl⟩
 | r::rs,xs,⟨x,xs',e,h1,h2⟩=>by
   subst e;obtain⟨v,q1,q2⟩:=aHN hG h1;obtain⟨vs,q3,q4⟩:=aBy hG h2;refine⟨v::vs,?_,by unfold aL;exact⟨v,vs,rfl,q2,q4⟩⟩;simp only[List.mapM_cons,Sem.run_bind];rw[q1];simp only[Result.andThen_ok,Sem.run_bind];rw[q3];rfl
theorem wR {A:Nat->Prop}{w0:rV}{a:Act}{w:World}{K:Nat->Prop}{φ:fK}{fn:Func}{xs:List AV}(hG:G K φ A w0 N S a w)(h:aM6 P S fn.results.toList xs): ∃v,(results fn a.tmps).run P w= .ok v w/\aF K φ w (aFk xs) v:=by
 obtain⟨vs,h1,h2⟩:=aBy hG h;have hl:=iH h2
 have hrun:(results fn a.tmps).run P w= .ok (if h:vs.toArray.size=1 then vs.toArray[0] else .tuple vs.toArray) w:=by
  have e:results fn a.tmps=(do let vs <-fn.results.mapM (aBx a.tmps);pure (if h:vs.size=1 then vs[0] else .tuple vs)):=by
   unfold results
   congr 1
  rw[e,Array.mapM_eq_mapM_toList];simp only[Sem.run_bind,Sem.run_map,h1];rfl
 refine⟨_,hrun,?_⟩;rcases xs with _ | ⟨x,_ | ⟨y,xs⟩⟩
 ·have:vs= []:=aE6 hl;subst this;simp only[aFk];unfold aF;exact⟨#[],rfl,h2⟩
 ·unfold aL at h2;obtain⟨v,vs',rfl,h3,h4⟩:=h2;unfold aL at h4;subst h4;exact h3
 rw[dif_neg (by simp at hl ⊢;omega)];simp only[aFk];unfold aF;exact⟨_,rfl,h2⟩
def aFl:Ar->AV
 | .one x=> .p none x
 | .agg xs=> .agg (xs.map (AV.p none))
 | .ref xs=> .rp none xs
 | .fn f caps=> .fn f (caps.map (AV.rp none))
def S0 (args:List Ar):St:=⟨fun t=>match args[t]? with | some x=>aFl x | none=> .no,fun _=>none⟩
theorem aFm {A:Nat->Prop}{w:World}: ∀{xs:List Ar} {vs:List Value} {i:Nat} {x:Ar},qU A w xs vs->xs[i]? =some x-> ∃v,vs[i]? =some v/\aKL A w x v
 | [],_,_,_,_,h=>by simp at h
 | y::xs,_,0,x,⟨v,vs',e,h1,_⟩,h=>by subst e;simp at h;subst h;exact⟨v,rfl,h1⟩
 | y::xs,_,i+1,x,⟨v,vs',e,_,h2⟩,h=>by
   subst e;simp at h;obtain⟨u,hu,hr⟩:=aFm h2 h;exact⟨u,by simpa using hu,hr⟩
theorem aDt {A:Nat->Prop}{w:World}: ∀{xs:List Ar} {vs:List Value},qU A w xs vs->vs.length=xs.length
 | [],_,h=>by rw[show _= [] from h];rfl
 | y::xs,_,⟨v,vs',e,_,h2⟩=>by subst e;simp[aDt h2]
theorem aBz {A:Nat->Prop}{w:World}{φ:fK}: ∀{xs:List (List bB)} {vs:List Value},aBu A w xs vs->aL A φ w (xs.map (AV.rp none)) vs
 | [],vs,h=>by unfold aBu at h;subst h;unfold List.map aL;rfl
 | x::xs,_,⟨v,vs',e,h1,h2⟩=>by
   subst e;rw[aGQ];unfold aL;refine⟨v,vs',rfl,?_,aBz h2⟩;unfold aF;exact h1
theorem aHO {A:Nat->Prop}{w:World}{φ:fK}{x:Ar}{v:Value}(h:aKL A w x v):aF A φ w (aFl x) v:=by
 cases x with
 | one x=>simp only[aFl];unfold aF;exact h
 | ref xs=>simp only[aFl];unfold aF;exact h
 | fn f caps=>
   obtain⟨vs,rfl,hl⟩:=h;simp only[aFl];unfold aF;exact⟨vs,rfl,aBz hl⟩
 | agg xs=>
   obtain⟨vs,rfl,hl⟩:=h;simp only[aFl];obtain⟨h1,h2⟩:=jI (K:=A) (φ:=φ) (w:=w) (o:=none) (fun x v=>by unfold aF;exact Iff.rfl) hl
   have e2:xs.map (pOf none)=xs.map (AV.p none):=by
    apply List.map_congr_left;intro y _;unfold pOf;split<;>rfl
   rw[e2] at h1;unfold aF;exact⟨vs,rfl,h2,h1⟩
theorem aKT {w w' :World}(h:sX (fun _=>False) w w'):Below w.heap.size w w' :=⟨h.os,h.tape,h.output,h.size,fun k hk=>h.block k hk id⟩
theorem aIH {w:World}{φ0:fK}{hd: ∀h pl,φ0 h=some pl->h<100}{b:Nat}(h:rV.mine ⟨w,fun _=>False,φ0,hd⟩ b):w.heap.size<=b:=h.elim id False.elim
end
def bK:List (Nat × AV)->Nat->AV
 | [],_=> .no
 | (k,v)::l,t=>if t=k then v else bK l t
def aV:List (Nat × Option Rs)->Nat->Option Rs
 | [],_=>none
 | (k,r)::l,h=>if h=k then r else aV l h
def mk (sl:List (Nat × AV))(rs:List (Nat × Option Rs)):St:=⟨bK sl,aV rs⟩
theorem aKU (sl:List (Nat × AV))(rs:List (Nat × Option Rs))(d:Nat)(v:AV):(mk sl rs).put (some d) v=mk ((d,v)::sl) rs:=by
 simp only[St.put,mk]
 congr 1
def iE (del:List Nat):List (Nat × Option Rs):=del.map fun h=>(h,none)
def lN (new:List (Nat × Rs)):List (Nat × Option Rs):=new.map fun q=>(q.1,some q.2)
theorem aCA (del:List Nat)(rs:List (Nat × Option Rs))(h:Nat):aV (iE del++rs) h=if h∈del then none else aV rs h:=by
 induction del with
 | nil=>simp[iE]
 | cons k del ih=>
   simp only[iE,aGQ,List.cons_append,aV] at*;rw[ih];by_cases e:h=k<;>simp[e]
theorem aAQ (new:List (Nat × Rs))(rs:List (Nat × Option Rs))(h:Nat):aV (lN new++rs) h=match aS new h with | some r=>some r | none=>aV rs h:=by
 induction new with
 | nil=>simp[lN,aS]
 | cons q new ih=>
   obtain⟨k,r⟩:=q;simp only[lN,aGQ,List.cons_append,aV,aS] at*;rw[ih];by_cases e:h=k<;>simp[e]
theorem aFn (sl:List (Nat × AV))(rs:List (Nat × Option Rs))(d:Nat)(v:AV)(del:List Nat)(new:List (Nat × Rs)):(mk sl rs).apply (some d) ⟨v,del,new⟩=mk ((d,v)::sl) (lN new++(iE del++rs)):=by
 unfold St.apply;rw[<-aKU]
 congr 1
 simp only[mk]
 congr 1
 funext h;rw[aAQ,aCA];simp only[dZ];cases aS new h<;>rfl
theorem aJB (sl:List (Nat × AV))(rs:List (Nat × Option Rs))(v:AV)(del:List Nat)(new:List (Nat × Rs)):(mk sl rs).apply none ⟨v,del,new⟩=mk sl (lN new++(iE del++rs)):=by
 unfold St.apply;simp only[St.put,mk]
 congr 1
 funext h;rw[aAQ,aCA];simp only[dZ];cases aS new h<;>rfl
section
variable {P:Program} {N:Nat} {all:Array Oper} {rest:List Oper} {sl:List (Nat × AV)} {rs:List (Nat × Option Rs)} {K:St->Prop} {ty:TypeId} {pos:String} {aft:Array Edge} {d:Nat} {gd:Option (Nat × Bool)}
def cH (sl:List (Nat × AV)):Operand->AV
 | .tmp t=>bK sl t
 | .const v=>avC v
 | .func f=> .fn f []
 | .global _=> .no
theorem bN (sl:List (Nat × AV))(rs:List (Nat × Option Rs))(x:Operand):(mk sl rs).ev x=cH sl x:=by cases x<;>rfl
theorem pO {c x y:Operand}{t:Bool}{v:AV}(hc:cH sl c= .p none (.bool t))(hv:(if t then cH sl x else cH sl y)=v):aY P ⟨some d,.pick c x y,ty,pos,aft,gd⟩ (mk sl rs) ⟨v,[],[]⟩:=
 by rw[<-hv,<-bN sl rs,<-bN sl rs];exact aHH rfl (by rw[bN];exact hc)
theorem aHP {x:Operand}{i:Nat}{vs:List AV}{v:AV}(hx:cH sl x= .tup vs)(hv:vs[i]? =some v):aY P ⟨some d,.extract x i,ty,pos,aft,gd⟩ (mk sl rs) ⟨v,[],[]⟩:=
 aDZ rfl (by rw[bN];exact hx) hv
theorem aHQ {x:Operand}{t e:TypeId}{n:Nat}(ht:P.underlying t=some (.slice e))(hn:aIE (mk sl rs) (cH sl x) n):aY P ⟨some d,.call { callee:= .builtin .len,args:= #[x],argTypes:= #[t] },ty,pos,aft,gd⟩ (mk sl rs) ⟨.p none (.int .i64 n),[],[]⟩:=
 aIu rfl ht (by rw[bN];exact hn)
theorem iT {o:Op}{x:bB}{v:Value}(hx:x.val? =some v)(hr: ∀(e:Operand->Value) (w:World),(∀y u,aKJ (cH sl y)=some u->e y=u)->(execOp e ⟨some d,o,ty,pos,aft,gd⟩).run P w= .ok (.value v) w):aY P ⟨some d,o,ty,pos,aft,gd⟩ (mk sl rs) ⟨.p none x,[],[]⟩:=
 aHG hx fun e w he=>hr e w fun y u hu=>he y u (by rw[bN];exact hu)
theorem qI {x:AV}{y:bB}{v:Value}(h:x= .p none y)(hv:y.val? =some v):aKJ x=some v:=by rw[h];exact hv
section
variable {x y:Operand} {t t' :TypeId} {k:IntKind} {m n:Int}
theorem dU {op:BinOp}{r:bB}{v:Value}(hx:cH sl x= .p none (.int k m))(hy:cH sl y= .p none (.int k n))(hv:r.val? =some v)(hr: ∀w,(binOp op t (.int k m) (.int k n)).run P w= .ok v w):aY P ⟨some d,.binOp op t x y t',ty,pos,aft,gd⟩ (mk sl rs) ⟨.p none r,[],[]⟩:=
 iT hv (fun e w he=>by
  have h1:=he x _ (qI hx rfl);have h2:=he y _ (qI hy rfl)
  have hg:(eqGuard op t x y (.int k m) (.int k n)).run P w= .ok () w:=by
   unfold eqGuard;cases op<;>rfl
  simp only[execOp,h1,h2,Sem.run_bind,hg,Result.andThen_ok,hr];rfl)
theorem aOP (hx:cH sl x= .p none (.int k m))(hy:cH sl y= .p none (.int k n)):aY P ⟨some d,.binOp .lss t x y t',ty,pos,aft,gd⟩ (mk sl rs) ⟨.p none (.bool (decide (m<n))),[],[]⟩:=
 dU hx hy rfl (fun w=>by simp[binOp,Op.intCmp])
theorem aOQ (hx:cH sl x= .p none (.int k m))(hy:cH sl y= .p none (.int k n)):aY P ⟨some d,.binOp .leq t x y t',ty,pos,aft,gd⟩ (mk sl rs) ⟨.p none (.bool (decide (m<=n))),[],[]⟩:=
 dU hx hy rfl (fun w=>by simp[binOp,Op.intCmp])
theorem aOR (hx:cH sl x= .p none (.int k m))(hy:cH sl y= .p none (.int k n)):aY P ⟨some d,.binOp .gtr t x y t',ty,pos,aft,gd⟩ (mk sl rs) ⟨.p none (.bool (decide (n<m))),[],[]⟩:=
 dU hx hy rfl (fun w=>by simp[binOp,Op.intCmp])
theorem aOS (hx:cH sl x= .p none (.int k m))(hy:cH sl y= .p none (.int k n)):aY P ⟨some d,.binOp .geq t x y t',ty,pos,aft,gd⟩ (mk sl rs) ⟨.p none (.bool (decide (n<=m))),[],[]⟩:=
 dU hx hy rfl (fun w=>by simp[binOp,Op.intCmp])
theorem aOT (hx:cH sl x= .p none (.int k m))(hy:cH sl y= .p none (.int k n)):aY P ⟨some d,.binOp .eql t x y t',ty,pos,aft,gd⟩ (mk sl rs) ⟨.p none (.bool (decide (m=n))),[],[]⟩:=
 dU hx hy rfl (fun w=>by simp[binOp,Op.intCmp];rfl)
theorem aOU (hx:cH sl x= .p none (.int k m))(hy:cH sl y= .p none (.int k n)):aY P ⟨some d,.binOp .neq t x y t',ty,pos,aft,gd⟩ (mk sl rs) ⟨.p none (.bool (!decide (m=n))),[],[]⟩:=
 dU hx hy rfl (fun w=>by simp[binOp,Op.intCmp];rfl)
theorem aOV (hx:cH sl x= .p none (.int k m))(hy:cH sl y= .p none (.int k n)):aY P ⟨some d,.binOp .add t x y t',ty,pos,aft,gd⟩ (mk sl rs) ⟨.p none (.int k (k.wrap (m+n))),[],[]⟩:=
 dU hx hy rfl (fun w=>by simp[binOp,Op.intArith])
theorem aOW (hx:cH sl x= .p none (.int k m))(hy:cH sl y= .p none (.int k n)):aY P ⟨some d,.binOp .sub t x y t',ty,pos,aft,gd⟩ (mk sl rs) ⟨.p none (.int k (k.wrap (m - n))),[],[]⟩:=
 dU hx hy rfl (fun w=>by simp[binOp,Op.intArith])
theorem aOX (hx:cH sl x= .p none (.int k m))(hy:cH sl y= .p none (.int k n)):aY P ⟨some d,.binOp .mul t x y t',ty,pos,aft,gd⟩ (mk sl rs) ⟨.p none (.int k (k.wrap (m*n))),[],[]⟩:=
 dU hx hy rfl (fun w=>by simp[binOp,Op.intArith])
theorem aOY (hx:cH sl x= .p none (.int k m))(hy:cH sl y= .p none (.int k n))(h0:n≠0):aY P ⟨some d,.binOp .quo t x y t',ty,pos,aft,gd⟩ (mk sl rs) ⟨.p none (.int k (k.wrap (m.tdiv n))),[],[]⟩:=
 dU hx hy rfl (fun w=>by simp[binOp,Op.intDiv,h0])
theorem aOZ (hx:cH sl x= .p none (.int k m))(hy:cH sl y= .p none (.int k n))(h0:n≠0):aY P ⟨some d,.binOp .rem t x y t',ty,pos,aft,gd⟩ (mk sl rs) ⟨.p none (.int k (m.tmod n)),[],[]⟩:=
 dU hx hy rfl (fun w=>by simp[binOp,Op.intDiv,h0])
theorem aO0 {b:Bool}(hx:cH sl x= .p none (.bool b)):aY P ⟨some d,.unOp .not t x,ty,pos,aft,gd⟩ (mk sl rs) ⟨.p none (.bool (!b)),[],[]⟩:=
 iT (x:= .bool (!b)) rfl (fun e w he=>by have h1:=he x _ (qI hx rfl);simp[execOp,h1,Op.unary])
theorem aO1 (hx:cH sl x= .p none (.int k m)):aY P ⟨some d,.unOp .neg t x,ty,pos,aft,gd⟩ (mk sl rs) ⟨.p none (.int k (k.wrap (0 - m))),[],[]⟩:=
 iT (x:= .int k (k.wrap (0 - m))) rfl (fun e w he=>by have h1:=he x _ (qI hx rfl);simp[execOp,h1,Op.unary,Op.intArith])
end
theorem aAm {op:BinOp}{x y:Operand}{t t' :TypeId}{m n:Bool}{r:bB}{v:Value}(hx:cH sl x= .p none (.bool m))(hy:cH sl y= .p none (.bool n))(hv:r.val? =some v)(hr: ∀w,(binOp op t (.bool m) (.bool n)).run P w= .ok v w):aY P ⟨some d,.binOp op t x y t',ty,pos,aft,gd⟩ (mk sl rs) ⟨.p none r,[],[]⟩:=
 iT hv (fun e w he=>by
  have h1:=he x _ (qI hx rfl);have h2:=he y _ (qI hy rfl)
  have hg:(eqGuard op t x y (.bool m) (.bool n)).run P w= .ok () w:=by
   unfold eqGuard;cases op<;>rfl
  simp only[execOp,h1,h2,Sem.run_bind,hg,Result.andThen_ok,hr];rfl)
theorem aFo {x y:Operand}{t t' :TypeId}{m n:Bool}(hu:P.underlying t=some .bool)(hx:cH sl x= .p none (.bool m))(hy:cH sl y= .p none (.bool n)):aY P ⟨some d,.binOp .neq t x y t',ty,pos,aft,gd⟩ (mk sl rs) ⟨.p none (.bool (!(m==n))),[],[]⟩:=
 aAm hx hy rfl (fun w=>by
  have h:=run_equalIn_bool' (P:=P) w 9999 t m n hu;have h' :(Op.equal t (.bool m) (.bool n)).run P w= .ok (m==n) w:=h;simp only[binOp,Sem.run_bind,h',Result.andThen_ok,Sem.run_pure])
theorem aFp {x y:Operand}{t t' :TypeId}{m n:Bool}(hu:P.underlying t=some .bool)(hx:cH sl x= .p none (.bool m))(hy:cH sl y= .p none (.bool n)):aY P ⟨some d,.binOp .eql t x y t',ty,pos,aft,gd⟩ (mk sl rs) ⟨.p none (.bool (m==n)),[],[]⟩:=
 aAm hx hy rfl (fun w=>by
  have h:=run_equalIn_bool' (P:=P) w 9999 t m n hu;have h' :(Op.equal t (.bool m) (.bool n)).run P w= .ok (m==n) w:=h;simp only[binOp,Sem.run_bind,h',Result.andThen_ok,Sem.run_pure])
theorem oN {op:BinOp}{x y:Operand}{t t' :TypeId}{m n:ByteArray}{r:bB}{v:Value}(hx:cH sl x= .p none (.str m))(hy:cH sl y= .p none (.str n))(hv:r.val? =some v)(hr: ∀w,(binOp op t (.string m) (.string n)).run P w= .ok v w):aY P ⟨some d,.binOp op t x y t',ty,pos,aft,gd⟩ (mk sl rs) ⟨.p none r,[],[]⟩:=
 iT hv (fun e w he=>by
  have h1:=he x _ (qI hx rfl);have h2:=he y _ (qI hy rfl)
  have hg:(eqGuard op t x y (.string m) (.string n)).run P w= .ok () w:=by
   unfold eqGuard;cases op<;>rfl
  simp only[execOp,h1,h2,Sem.run_bind,hg,Result.andThen_ok,hr];rfl)
theorem aD8 {x y:Operand}{t t' :TypeId}{m n:ByteArray}(hx:cH sl x= .p none (.str m))(hy:cH sl y= .p none (.str n)):aY P ⟨some d,.binOp .neq t x y t',ty,pos,aft,gd⟩ (mk sl rs) ⟨.p none (.bool (!(m.toList==n.toList))),[],[]⟩:=
 oN hx hy rfl (fun w=>by simp[binOp,Op.stringOp])
theorem aD9 {x y:Operand}{t t' :TypeId}{m n:ByteArray}(hx:cH sl x= .p none (.str m))(hy:cH sl y= .p none (.str n)):aY P ⟨some d,.binOp .eql t x y t',ty,pos,aft,gd⟩ (mk sl rs) ⟨.p none (.bool (m.toList==n.toList)),[],[]⟩:=
 oN hx hy rfl (fun w=>by simp[binOp,Op.stringOp])
theorem aJC {x:Operand}{s:TypeId}{f off o' hh k i:Nat}{ft:TypeId}{r:Rs}(hf:nR P s f=some (off,ft))(hx:cH sl x= .ep hh k i o')(hr:aV rs hh=some r):aY P ⟨some d,.fieldAddr s x f,ty,pos,aft,gd⟩ (mk sl rs) ⟨.ep hh k i (o' +off),[],[]⟩:=
 aBf rfl hf (by rw[bN];exact hx) ⟨r,hr⟩
theorem aJD {x y:Operand}{t e:TypeId}{k bt hh e' :Nat}{ag dp:Bool}{z:Value}{xs:List (List bB)}{ik:IntKind}{n:Int}(ht:P.underlying t=some (.slice e))(hk:eM P e=some (ag,k,bt,z))(hx:cH sl x= .own hh)(hr:aV rs hh=some (.arr e' k dp xs))(hy:cH sl y= .p none (.int ik n))(h0:0<=n)(hn:n<xs.length):aY P ⟨some d,.indexAddr t x y,ty,pos,aft,gd⟩ (mk sl rs) ⟨.ep hh k n.toNat 0,[],[]⟩:=
 aBU rfl ht hk (by rw[bN];exact hx) hr (by rw[bN];exact hy) h0 hn
theorem aKV {x:Operand}{t tb:TypeId}{n bt off hh:Nat}{z:Value}{cs vs:List AV}(ht:eM P t=some (true,n,bt,z))(hx:cH sl x= .ptr hh off)(hr:aV rs hh=some (.box tb cs))(hn:off+n<=cs.length)(hv:(cs.drop off).take n=vs):aY P ⟨some d,.load t x,ty,pos,aft,gd⟩ (mk sl rs) ⟨.agg vs,[],[]⟩:=
 by rw[<-hv];exact tI rfl ht (by rw[bN];exact hx) hr hn
theorem aJE {x:Operand}{t tb:TypeId}{n bt off hh:Nat}{z:Value}{cs:List AV}{v:AV}(ht:eM P t=some (false,n,bt,z))(hx:cH sl x= .ptr hh off)(hr:aV rs hh=some (.box tb cs))(hv:cs[off]? =some v):aY P ⟨some d,.load t x,ty,pos,aft,gd⟩ (mk sl rs) ⟨v,[],[]⟩:=
 sY rfl ht (by rw[bN];exact hx) hr hv
theorem aFq {x:Operand}{t:TypeId}{n bt hh e k i off:Nat}{dp:Bool}{z:Value}{xs:List (List bB)}{row:List bB}{vs:List AV}(ht:eM P t=some (true,n,bt,z))(hx:cH sl x= .ep hh k i off)(hr:aV rs hh=some (.arr e k dp xs))(hi:xs[i]? =some row)(hn:off+n<=row.length)(hv:((row.drop off).take n).map (pOf (if dp then some hh else none))=vs):aY P ⟨some d,.load t x,ty,pos,aft,gd⟩ (mk sl rs) ⟨.agg vs,[],[]⟩:=
 by rw[<-hv];exact aD3 rfl ht (by rw[bN];exact hx) hr hi hn
theorem aDu {x:Operand}{t:TypeId}{n bt hh e k i off:Nat}{dp:Bool}{z:Value}{xs:List (List bB)}{row:List bB}{y:bB}{v:AV}(ht:eM P t=some (false,n,bt,z))(hx:cH sl x= .ep hh k i off)(hr:aV rs hh=some (.arr e k dp xs))(hi:xs[i]? =some row)(hy:row[off]? =some y)(hv:pOf (if dp then some hh else none) y=v):aY P ⟨some d,.load t x,ty,pos,aft,gd⟩ (mk sl rs) ⟨v,[],[]⟩:=
 by rw[<-hv];exact aBj rfl ht (by rw[bN];exact hx) hr hi hy
theorem aJF {x y:Operand}{t tb:TypeId}{ag:Bool}{n bt off hh:Nat}{z:Value}{cs cs' :List AV}(ht:eM P t=some (ag,n,bt,z))(hx:cH sl x= .ptr hh off)(hr:aV rs hh=some (.box tb cs))(hc:kZ (mk sl rs) (cH sl y))(hn:(dD (cH sl y)).length=n)(hl:off+n<=cs.length)(hv:cs.take off++dD (cH sl y)++cs.drop (off+n)=cs'):aY P ⟨none,.store t x y,ty,pos,aft,gd⟩ (mk sl rs) ⟨.no,[hh],[(hh,.box tb cs')]⟩:=
 by rw[<-hv,<-bN sl rs];exact aBV rfl ht (by rw[bN];exact hx) hr (by rw[bN];exact hc) (by rw[bN];exact hn) hl
theorem aJG {x y:Operand}{t:TypeId}{ag dp:Bool}{n bt off hh e k i:Nat}{z:Value}{xs xs' :List (List bB)}{row ys:List bB}{vs us:List Value}(ht:eM P t=some (ag,n,bt,z))(hx:cH sl x= .ep hh k i off)(hr:aV rs hh=some (.arr e k dp xs))(hi:xs[i]? =some row)(hrow:iD row vs)(hy:dD (cH sl y)=ys.map (AV.p none))(hys:iD ys us)(hn:ys.length=n)(hl:off+n<=row.length)
 (hv:xs.set i (row.take off++ys++row.drop (off+n))=xs'):aY P ⟨none,.store t x y,ty,pos,aft,gd⟩ (mk sl rs) ⟨.no,[hh],[(hh,.arr e k dp xs')]⟩:=
 by rw[<-hv];exact aBm rfl ht (by rw[bN];exact hx) hr hi hrow (by rw[bN];exact hy) hys hn hl
theorem aKW {t:TypeId}{parts:Array (Nat × Operand)}{z:Value}{ps:List (Nat × Nat)}{cs:List AV}(ht:yR P t=some (z,ps))(hc: ∀q∈parts.toList,kZ (mk sl rs) (cH sl q.2))(hf:oL (ps.toArray[·]?) (z.cells.toList.map avC) (parts.toList.map fun q=>(q.1,cH sl q.2))=some cs):aY P ⟨some d,.build t parts,ty,pos,aft,gd⟩ (mk sl rs) ⟨.agg cs,[],[]⟩:=
 aFd rfl ht (fun q hq=>by rw[bN];exact hc q hq) (by rw[<-hf];congr 1)
theorem aJH {S:St}:aBv S [] []:=rfl
theorem aHR {S:St}{x:AV}{y:Ar}{xs:List AV}{ys:List Ar}(h:aFi S x y)(h' :aBv S xs ys):aBv S (x::xs) (y::ys):=⟨y,ys,rfl,h,h'⟩
theorem aKX {S:St}{cs:List AV}{ys:List bB}(h:aD6 S cs ys):aFi S (.agg cs) (.agg ys):=⟨ys,rfl,h⟩
theorem aKY {S:St}:aD6 S [] []:=rfl
theorem aJI {S:St}{x:AV}{y:bB}{xs:List AV}{ys:List bB}(h:AsD S x y)(h' :aD6 S xs ys):aD6 S (x::xs) (y::ys):=⟨y,ys,rfl,h,h'⟩
theorem aPU {S:St}{x:bB}:AsD S (.p none x) x:=⟨trivial,rfl⟩
theorem aO2 {h:Nat}{x:bB}{r:Rs}(hr:aV rs h=some r):AsD (mk sl rs) (.p (some h) x) x:=⟨⟨r,hr⟩,rfl⟩
theorem aM7 {h e k:Nat}{dp:Bool}{xs:List (List bB)}(hr:aV rs h=some (.arr e k dp xs)):AsD (mk sl rs) (.own h) (.sl e k xs):=⟨e,k,dp,xs,hr,rfl⟩
def aM8 (rs:List (Nat × Option Rs)):AV->Option bB
 | .p none x=>some x
 | .p (some h) x=>match aV rs h with | some _=>some x | none=>none
 | .own h=>match aV rs h with | some (.arr e k _ xs)=>some (.sl e k xs) | _=>none
 | .nil=>some (.sl 0 1 [])
 | _=>none
def aDv (rs:List (Nat × Option Rs)):List AV->Option (List bB)
 | []=>some []
 | x::xs=>match aM8 rs x with | some y=>(match aDv rs xs with | some ys=>some (y::ys) | none=>none) | none=>none
def aCB (rs:List (Nat × Option Rs)):AV->Option (List bB)
 | .rp none xs=>some xs
 | .rp (some h) xs=>match aV rs h with | some _=>some xs | none=>none
 | .ptr h off=>match aV rs h with | some (.box _ cs)=>(match aDv rs (cs.drop off) with | some (y::ys)=>some (y::ys) | _=>none) | _=>none
 | _=>none
def yW (rs:List (Nat × Option Rs)):List AV->Option (List (List bB))
 | []=>some []
 | x::xs=>match aCB rs x with | some y=>(match yW rs xs with | some ys=>some (y::ys) | none=>none) | none=>none
def aKZ (rs:List (Nat × Option Rs)):AV->Option Ar
 | .agg cs=>match aDv rs cs with | some ys=>some (.agg ys) | none=>none
 | .fn f cs=>match yW rs cs with | some ys=>some (.fn f ys) | none=>none
 | .rp o xs=>match aCB rs (.rp o xs) with | some ys=>some (.ref ys) | none=>none
 | .ptr h off=>match aCB rs (.ptr h off) with | some ys=>some (.ref ys) | none=>none
 | x=>match aM8 rs x with | some y=>some (.one y) | none=>none
def aAR (rs:List (Nat × Option Rs)):List AV->Option (List Ar)
 | []=>some []
 | x::xs=>match aKZ rs x with | some y=>(match aAR rs xs with | some ys=>some (y::ys) | none=>none) | none=>none
theorem aII {x:AV}{y:bB}(h:aM8 rs x=some y):AsD (mk sl rs) x y:=by
 unfold aM8 at h;split at h
 ·injection h with h;subst h;exact aPU
 ·split at h
  ·rename_i hr;injection h with h;subst h;exact aO2 hr
  cases h
 ·split at h
  ·rename_i hr;injection h with h;subst h;exact aM7 hr
  cases h
 ·injection h with h;subst h;exact⟨0,1,rfl⟩
 cases h
theorem Con.imp {P:Program}{f:FuncId}{ys ys' :List Ar}{rv:AV}{rr:List (Nat × Rs)}(h: ∀A w vs,qU A w ys vs->qU A w ys' vs)(hC:Con P f ys' rv rr):Con P f ys rv rr:=⟨hC.1,fun A w vs hA hv=>hC.2 A w vs hA (h A w vs.toList hv)⟩
theorem aCC: ∀{xs:List AV} {ys:List bB},aDv rs xs=some ys->aD6 (mk sl rs) xs ys
 | [],ys,h=>by unfold aDv at h;injection h with h;subst h;exact aKY
 | x::xs,ys,h=>by
   unfold aDv at h;split at h
   ·rename_i y hy;split at h
    ·rename_i zs hz;injection h with h
     subst h;exact aJI (aII hy) (aCC hz)
    cases h
   cases h
theorem aAS {x:AV}{y:List bB}(h:aCB rs x=some y):aDp (mk sl rs) x y:=by
 unfold aCB at h;split at h
 ·injection h with h;subst h;exact⟨trivial,rfl⟩
 ·split at h
  ·rename_i hr;injection h with h;subst h;exact⟨⟨_,hr⟩,rfl⟩
  cases h
 ·split at h
  ·rename_i hr;split at h
   ·rename_i hd;injection h with h;subst h;exact⟨_,_,hr,aCC hd,by simp⟩
   cases h
  cases h
 cases h
theorem aCD: ∀{xs:List AV} {ys:List (List bB)},yW rs xs=some ys->aEp (mk sl rs) xs ys
 | [],ys,h=>by unfold yW at h;injection h with h;subst h;exact rfl
 | x::xs,ys,h=>by
   unfold yW at h;split at h
   ·rename_i y hy;split at h
    ·rename_i zs hz;injection h with h
     subst h;exact⟨y,zs,rfl,aAS hy,aCD hz⟩
    cases h
   cases h
theorem aK0 {x:AV}{y:Ar}(h:aKZ rs x=some y):aFi (mk sl rs) x y:=by
 unfold aKZ at h;split at h
 ·split at h
  ·rename_i hy;injection h with h;subst h;exact aKX (aCC hy)
  cases h
 ·split at h
  ·rename_i hy;injection h with h;subst h;exact⟨_,rfl,aCD hy⟩
  cases h
 ·split at h
  ·rename_i hy;injection h with h;subst h;exact⟨_,rfl,aAS hy⟩
  cases h
 ·split at h
  ·rename_i hy;injection h with h;subst h;exact⟨_,rfl,aAS hy⟩
  cases h
 rename_i hna hnf hnr hnp;split at h
 ·rename_i z hz;injection h with h
  subst h;have hd:=aII (sl:=sl) hz;cases x with
  | agg cs=>exact absurd rfl (hna cs)
  | fn f cs=>exact absurd rfl (hnf f cs)
  | rp o xs=>exact absurd rfl (hnr o xs)
  | ptr h off=>exact absurd rfl (hnp h off)
  | _=>exact⟨z,rfl,hd⟩
 cases h
theorem aDw: ∀{xs:List AV} {ys:List Ar},aAR rs xs=some ys->aBv (mk sl rs) xs ys
 | [],ys,h=>by unfold aAR at h;injection h with h;subst h;exact aJH
 | x::xs,ys,h=>by
   unfold aAR at h;split at h
   ·rename_i y hy;split at h
    ·rename_i zs hz;injection h with h
     subst h;exact aHR (aK0 hy) (aDw hz)
    cases h
   cases h
theorem aO3 {id:Nat}{l:List Oper}{S:St}{Q:Exit->St->Prop}(h:Ops P N l.toArray l S (Q .normal)):VC P N (.region id l.toArray false) S Q:=aJA (by simpa using h)
end
section
variable {P:Program} {N:Nat}
theorem sX.mono {U U' :Nat->Prop}{w w' :World}(h:sX U w w')(hU: ∀b,U b->U' b):sX U' w w' :=⟨h.os,h.tape,h.output,h.size,fun k hk hn=>h.block k hk (fun hu=>hn (hU k hu))⟩
theorem aY.lift {o:Oper}{V S:St}{e:Eff}(hs:aY P o V e)(h1: ∀t,V.slots t= .no\/S.slots t=V.slots t)(hV: ∀h r,V.res h=some r->S.res h=some r)
 (hm1: ∀t h,h∈bS (V.slots t)->S.res h=V.res h) (hm2: ∀h0 r h,V.res h0=some r->h∈fU r->S.res h=V.res h) (hm3: ∀h,h∈bS e.v->aS e.new h=none->S.res h=V.res h)
 (hm4: ∀k r h,aS e.new k=some r->h∈fU r->aS e.new h=none->S.res h=V.res h) (hnew: ∀h r,aS e.new h=some r->((∃r',V.res h=some r')/\h∈e.del)\/fE S h):aY P o S e:=by
 intro K φ A w0 N a w Q hd hG
 have hφ1: ∀h pl,(match V.res h with | some _=>φ h | none=>none)=some pl->(∃r,V.res h=some r)/\φ h=some pl:=fun h pl e=>by
  split at e
  ·rename_i r hr;exact⟨⟨r,hr⟩,e⟩
  cases e
 have hφ1' : ∀h r,V.res h=some r->(match V.res h with | some _=>φ h | none=>none)=φ h:=fun h r hr=>by rw[hr]
 generalize hφ:(fun h=>match V.res h with | some _=>φ h | none=>none:fK)=φ1;have p1: ∀h pl,φ1 h=some pl->(∃r,V.res h=some r)/\φ h=some pl:=fun h pl e=>hφ1 h pl (by rw[<-hφ] at e;exact e);have p2: ∀h r,V.res h=some r->φ1 h=φ h:=fun h r hr=>by rw[<-hφ];exact hφ1' h r hr
 have p3: ∀h,V.res h=none->φ1 h=none:=fun h hr=>by rw[<-hφ];simp[hr]
 clear hφ1 hφ1' hφ
 have G1:G K φ1 A w0 N V a w:=by
  refine⟨fun h r hr=>?_,p3,fun h h' pl pl' hne e e' =>hG.disj h h' pl pl' hne (p1 h pl e).2 (p1 h' pl' e').2,fun h pl e=>hG.nodup h pl (p1 h pl e).2,fun h pl e=>hG.ge h pl (p1 h pl e).2,hG.kin,fun b hb h pl e=>hG.kout b hb h pl (p1 h pl e).2,hG.aK,fun t=>?_,hG.bel,hG.nd,hG.size,fun h pl pl0 e=>hG.pin h pl pl0 (p1 h pl e).2⟩
  ·obtain⟨pl,hp,hh⟩:=hG.dom h r (hV h r hr);exact⟨pl,by rw[p2 h r hr];exact hp,Holds.mono (fun _ _=>rfl) (fun _ h=>h) (fun _ _=>rfl) r (fun h' pl' _ e=>⟨(p1 h' pl' e).2,fun _ _=>rfl⟩) hh⟩
  rcases h1 t with e | e
  ·rw[e];unfold aF;trivial
  rw[<-e];exact aF.mono (fun _ _=>rfl) (fun _ h=>h) _ _ (fun h' pl' _ e=>⟨(p1 h' pl' e).2,fun _ _=>rfl⟩) (hG.slots t)
 refine Oper.wp_mono (fun a' w' ⟨K',φ',v,ha,G',tr⟩=>?_) (hs K φ1 A w0 N a w Q hd G1);have hfoot: ∀b,eL φ1 (· ∈e.del) b->eL φ (· ∈e.del) b:=fun b ⟨h,pl,hc,hp,hb⟩=>⟨h,pl,hc,(p1 h pl hp).2,hb⟩;have hres: ∀h,(V.apply o.dst e).res h=dZ (· ∈e.del) (aS e.new) V.res h:=fun h=>by unfold St.apply St.put;cases o.dst<;>rfl
 have hnewdom: ∀h r,aS e.new h=some r-> ∃pl,φ' h=some pl/\Holds K' φ' w' pl r:=fun h r hr=>G'.dom h r (by rw[hres];simp[dZ,hr])
 have hφr: ∀h pl,(if (aS e.new h).isSome then φ' h else none)=some pl->(∃r,aS e.new h=some r)/\φ' h=some pl:=fun h pl e' =>by
  split at e'
  ·rename_i hx;exact⟨Option.isSome_iff_exists.1 hx,e'⟩
  cases e'
 have hsame: ∀h pl,(aS e.new h=none->S.res h=V.res h)->bZ (· ∈e.del) (fun h=>if (aS e.new h).isSome then φ' h else none) φ h=some pl->φ' h=some pl:=fun h pl hh e' =>by
  rcases bH e' with e' | ⟨e0,hc,e'⟩
  ·exact(hφr h pl e').2
  cases hx:aS e.new h with
  | some r=>
    obtain⟨pl',hp',_⟩:=hnewdom h r hx;simp[hx,hp'] at e0
  | none=>
    have hs' :=hh hx;cases hv:V.res h with
    | none=>rw[hv] at hs';rw[hG.non h hs'] at e';cases e'
    | some r=>
      obtain⟨pl',hp',_⟩:=G'.dom h r (by rw[hres];simp[dZ,hx,hc,hv]);rcases tr.ph h pl' hp' with q | ⟨q,_⟩
      ·rw[p2 h r hv,e'] at q;injection q with q
       subst q;exact hp'
      rw[p2 h r hv,e'] at q;cases q
 have hold: ∀h pl,¬fE S h->(if (aS e.new h).isSome then φ' h else none)=some pl->φ h=some pl/\cX (· ∈pl.sub) w w' :=fun h pl hnf e' =>by
  obtain⟨⟨r,hr⟩,e'⟩:=hφr h pl e';rcases hnew h r hr with ⟨⟨r',hr'⟩,_⟩ | hf
  ·rcases tr.ph h pl e' with q | ⟨q,_⟩
   ·exact⟨(p1 h pl q).2,tr.sub h pl e' q⟩
   obtain⟨pl0,hp0,_⟩:=G1.dom h r' hr';rw[q] at hp0;cases hp0
  exact absurd hf hnf
 have hstep:=hG.step (C:=(· ∈e.del)) (φr:=fun h=>if (aS e.new h).isSome then φ' h else none) (ρ:=aS e.new) (K' :=K') (w' :=w')
  (tr.chg.mono hfoot)
  (fun h pl e' =>by
   obtain⟨⟨r,hr⟩,e'⟩:=hφr h pl e';refine⟨G'.nodup h pl e',fun g hg=>⟨(G'.ge h pl e' g hg).2,?_⟩⟩;rcases tr.ph h pl e' with q | ⟨_,_,q⟩
   ·rcases hnew h r hr with ⟨_,hdl⟩ | hf
    ·exact .inr ⟨h,pl,hdl,(p1 h pl q).2,hg⟩
    have:=(p1 h pl q).2;rw[hG.non h hf.2.2.1] at this;cases this
   rcases q g hg with q | q
   ·exact .inl q
   exact .inr (hfoot g q))
  (fun h h' pl pl' hne e1 e2=>G'.disj h h' pl pl' hne (hφr h pl e1).2 (hφr h' pl' e2).2)
  (fun h r hr=>by
   obtain⟨pl,hp,hh⟩:=hnewdom h r hr;exact⟨pl,by simp[hr,hp],Holds.mono (fun _ _=>rfl) (fun _ h=>h) (fun _ _=>rfl) r (fun h' pl' hm' e' =>⟨hsame h' pl' (hm4 h r h' hr hm') e',fun _ _=>rfl⟩) hh⟩)
  (fun h hr=>by simp[hr])
  tr.kk
  (fun b hb=>by
   rcases tr.kk' b hb with q | q
   ·exact .inl q
   refine .inr ⟨(G'.kin b hb).1,?_,fun h pl e' =>G'.kout b hb h pl (hφr h pl e').2⟩;rcases q with q | q
   ·exact .inl q
   exact .inr (hfoot b q))
  (fun t h pl hm' e' =>hold h pl (fun hf=>hf.1 t hm') e')
  (fun h' r h pl _ hr hm' e' =>hold h pl (fun hf=>hf.2.1 h' r hr hm') e')
  (fun h pl e' =>by
   obtain⟨⟨r,hr⟩,e'⟩:=hφr h pl e';rcases hnew h r hr with ⟨⟨r',hr'⟩,_⟩ | hf
   ·rcases tr.ph h pl e' with q | ⟨q,_⟩
    ·exact .inl (p1 h pl q).2
    obtain⟨pl0,hp0,_⟩:=G1.dom h r' hr';rw[q] at hp0;cases hp0
   exact .inr hf.2.2.2)
 refine⟨K',bZ (· ∈e.del) (fun h=>if (aS e.new h).isSome then φ' h else none) φ,v,ha,?_,⟨tr.chg.mono hfoot,tr.kk,fun b hb=>?_,fun h pl e' =>?_,fun h pl e' e2=>?_⟩⟩
 ·have hsl: ∀d,o.dst=some d->aF K' (bZ (· ∈e.del) (fun h=>if (aS e.new h).isSome then φ' h else none) φ) w' e.v v:=fun d hdst=>by
   have hsl:=G'.slots d;have h2:(V.apply o.dst e).slots d=e.v:=by rw[hdst];simp[St.apply,St.put,upd]
   rw[h2,ha,hdst] at hsl;simp only[Act.put] at hsl;rw[Array.getD_eq_getD_getElem?,Array.getElem?_setIfInBounds_self_of_lt (by rw[hG.size];exact hd d hdst)] at hsl;exact aF.mono (K:=K') (φ:=φ') (w:=w') (fun _ _=>rfl) (fun _ h=>h) e.v v (fun h' pl' hm' e' =>⟨hsame h' pl' (hm3 h' hm') e',fun _ _=>rfl⟩) hsl
  rw[ha];cases hdst:o.dst with
  | none=>exact hstep
  | some d=>exact hstep.put (d:=some d) (fun d' e' =>by injection e' with e';subst e';exact hd d hdst) (hsl d hdst)
 ·rcases tr.kk' b hb with q | q | q
  ·exact .inl q
  ·exact .inr (.inl q)
  exact .inr (.inr (hfoot b q))
 ·rcases bH e' with e' | ⟨_,_,e'⟩
  ·obtain⟨⟨r,hr⟩,e'⟩:=hφr h pl e';rcases tr.ph h pl e' with q | ⟨q1,q2,q3⟩
   ·exact .inl (p1 h pl q).2
   rcases hnew h r hr with ⟨⟨r',hr'⟩,_⟩ | hf
   ·obtain⟨pl0,hp0,_⟩:=G1.dom h r' hr';rw[q1] at hp0;cases hp0
   exact .inr ⟨hG.non h hf.2.2.1,q2,fun g hg=>by rcases q3 g hg with q | q;exact .inl q;exact .inr (hfoot g q)⟩
  exact .inl e'
 rcases bH e' with e' | ⟨_,hc,e'⟩
 ·obtain⟨⟨r,hr⟩,e3⟩:=hφr h pl e';exact(hold h pl (fun hf=>by rw[hG.non h hf.2.2.1] at e2;cases e2) e').2
 intro g hg
 exact(tr.chg.mono hfoot).block g (hG.ge h pl e' g (aDU _ hg)).2 (fun ⟨h3,pl3,hc3,q3,hm3'⟩=>by
  by_cases ex:h=h3
  ·subst ex;exact hc hc3
  exact hG.disj h h3 pl pl3 ex e' q3 g (aDU _ hg) hm3')
end
structure fF where
 i:Nat
 o:Oper
 skip:Bool
 vs:List (Nat × AV)
 vr:List (Nat × Option Rs)
 e:Eff
def fF.fr (r:fF):Bool:=match r.vr with | (99,none)::_=>true | _=>false
def fF.W (r:fF):List Nat:=if r.skip then [] else r.e.del++r.e.new.map (·.1)
def fF.Nw (r:fF):List Nat:=if r.skip then [] else (r.e.new.map (·.1)).filter fun h=> !r.e.del.contains h
def fF.M (r:fF):List Nat:=if r.skip then [] else bS r.e.v++(r.e.new.map fun q=>fU q.2).flatten
def fF.T (r:fF):List Nat:=if r.skip then [] else if r.fr then (r.vr.drop 1).map (·.1) else r.vr.map (·.1)++(r.vs.map fun q=>bS q.2).flatten++(r.vr.map fun q=>match q.2 with | some r=>fU r | none=>[]).flatten++r.M
def fF.gs (ops:Array Oper)(r:fF):List Nat:=match r.o.guard with | some (j,_)=>((ops[j]?).bind (·.dst)).toList | none=>[]
def fF.looks (ops:Array Oper)(r:fF):List Nat:=r.vs.map (·.1)++r.gs ops
def fF.next (r:fF)(S:St):St:=if r.skip then S.put r.o.dst (.tup []) else S.apply r.o.dst r.e
def yX (a b:List Nat):Bool:=a.all fun h=> !b.contains h
theorem lW {a b:List Nat}(h:yX a b=true): ∀x∈a,x ∉ b:=by
 unfold yX at h;simp only[aDT,Bool.not_eq_true',List.contains_eq_mem,decide_eq_false_iff_not] at h;exact h
def aCE (ops:Array Oper)(x y:fF):Bool:=
 yX x.o.dst.toList (y.looks ops++y.o.dst.toList)&&yX y.o.dst.toList (x.looks ops)&&yX x.W (y.T++y.W)&&yX y.W x.T
def aPV (x y:fF):Bool:=yX x.Nw (y.M++y.W)
def oO (ops:Array Oper):Nat->Nat->Array Edge->Bool
 | 0,_,_=>false
 | n+1,x,es=>es.any fun e=>Region.binds .any e&&(Nat.beq e.on x || (match ops[e.on]? with | some o=>oO ops n x o.after | none=>false))
def aEs (ops:Array Oper)(x y:fF):Bool:=oO ops ops.size x.i y.o.after
def tN (ops:Array Oper)(x y:fF):Bool:=(aEs ops x y || (aCE ops x y&&aPV x y))&&aPV y x
def oP (ops:Array Oper):List fF->Bool
 | []=>true
 | x::l=>l.all (fun y=>decide (x.i<y.i)&&tN ops x y)&&x.o.after.all (fun e=> !Region.binds .any e || decide (e.on<x.i))&&(x.skip || x.e.new.all fun q=> !x.e.del.contains q.1 || (aV x.vr q.1).isSome)&&oP ops l
section
variable {P:Program} {N:Nat} {ops:Array Oper}
def xB (P:Program)(r:fF):Prop:=(r.fr=false->aY P r.o (mk r.vs r.vr) r.e)/\(r.fr=true-> ∀S:St,(∀t∈r.vs.map (·.1),S.slots t=bK r.vs t)->(∀h∈r.T,S.res h=aV r.vr h)->aY P r.o S r.e)
def Ok (P:Program)(N:Nat)(ops:Array Oper)(r:fF)(S:St):Prop:=
 ops[r.i]? =some r.o/\(∀d,r.o.dst=some d->d<N)/\
 (match r.o.guard with
  | none=>r.skip=false
  | some (j,want)=> ∃d b,(ops[j]?).bind (·.dst)=some d/\d<N/\gvA (S.slots d)=some b/\r.skip=(b !=some want))/\
 (r.skip=false->xB P r/\(∀t∈r.vs.map (·.1),S.slots t=bK r.vs t)/\ ∀h∈r.T,S.res h=aV r.vr h)
def xC (P:Program)(N:Nat)(ops:Array Oper):List fF->St->(St->Prop)->Prop
 | [],S,K=>K S
 | r::l,S,K=>Ok P N ops r S/\xC P N ops l (r.next S) K
theorem aDx {r:fF}{S:St}{t:Nat}(h:r.o.dst≠some t):(r.next S).slots t=S.slots t:=by
 unfold fF.next
 have put: ∀(S:St) v,(S.put r.o.dst v).slots t=S.slots t:=fun S v=>by
  cases hd:r.o.dst with
  | none=>rfl
  | some d=>simp only[St.put,upd];rw[if_neg (fun e=>h (by rw[hd,e]))]
 split
 ·exact put S _
 unfold St.apply;exact put _ _
theorem jV {r:fF}{S:St}{h:Nat}(hw:h ∉ r.W):(r.next S).res h=S.res h:=by
 unfold fF.next;have put: ∀(S:St) v,(S.put r.o.dst v).res=S.res:=fun S v=>by cases r.o.dst<;>rfl
 split
 ·rw[put]
 rename_i hs;unfold fF.W at hw;rw[if_neg hs] at hw;simp only[aD4,not_or] at hw;unfold St.apply;rw[put];simp only[dZ]
 have:aS r.e.new h=none:=by
  cases hf:aS r.e.new h with
  | none=>rfl
  | some x=>exact absurd (aID.2 ⟨_,bW hf,rfl⟩) hw.2
 rw[this];simp[hw.1]
theorem Ok.swap {x y:fF}{S:St}(h:Ok P N ops y (x.next S))(hd: ∀t∈x.o.dst.toList,t ∉ y.looks ops)(hw: ∀k∈x.W,k ∉ y.T):Ok P N ops y S:=by
 have hsl: ∀t∈y.looks ops,(x.next S).slots t=S.slots t:=fun t ht=>aDx (fun e=>hd t (by simp[e]) ht);obtain⟨h1,h2,h3,h4⟩:=h;refine⟨h1,h2,?_,fun hs=>?_⟩
 ·split at h3
  ·exact h3
  rename_i j want hg;obtain⟨d,b,q1,q2,q3,q4⟩:=h3;exact⟨d,b,q1,q2,by rw[<-q3];exact congrArg gvA (hsl d (by simp[fF.looks,fF.gs,hg,q1])).symm,q4⟩
 obtain⟨q1,q2,q3⟩:=h4 hs;exact⟨q1,fun t ht=>by rw[<-q2 t ht];exact(hsl t (by simp only[fF.looks,aD4];exact .inl ht)).symm,fun k hk=>by rw[<-q3 k hk];exact(jV (fun e=>hw k e hk)).symm⟩
theorem Ok.swap' {x y:fF}{S:St}(h:Ok P N ops x S)(hd: ∀t∈y.o.dst.toList,t ∉ x.looks ops)(hw: ∀k∈y.W,k ∉ x.T):Ok P N ops x (y.next S):=by
 have hsl: ∀t∈x.looks ops,(y.next S).slots t=S.slots t:=fun t ht=>aDx (fun e=>hd t (by simp[e]) ht);obtain⟨h1,h2,h3,h4⟩:=h;refine⟨h1,h2,?_,fun hs=>?_⟩
 ·split at h3
  ·exact h3
  rename_i j want hg;obtain⟨d,b,q1,q2,q3,q4⟩:=h3;exact⟨d,b,q1,q2,by rw[<-q3];exact congrArg gvA (hsl d (by simp[fF.looks,fF.gs,hg,q1])),q4⟩
 obtain⟨q1,q2,q3⟩:=h4 hs;exact⟨q1,fun t ht=>by rw[<-q2 t ht];exact hsl t (by simp only[fF.looks,aD4];exact .inl ht),fun k hk=>by rw[<-q3 k hk];exact jV (fun e=>hw k e hk)⟩
def fF.v (r:fF):AV:=if r.skip then .tup [] else r.e.v
theorem oQ (r:fF)(S:St):(r.next S).slots=match r.o.dst with | some d=>upd S.slots d r.v | none=>S.slots:=by
 unfold fF.next fF.v;split<;>cases r.o.dst<;>rfl
theorem qW (r:fF)(S:St):(r.next S).res=if r.skip then S.res else dZ (· ∈r.e.del) (aS r.e.new) S.res:=by
 unfold fF.next;split<;>(try unfold St.apply)<;>cases r.o.dst<;>rfl
theorem St.ext' {S S' :St}(h1:S.slots=S'.slots)(h2:S.res=S'.res):S=S' :=by cases S;cases S';simp_all
theorem aJJ {x y:fF}{S:St}(hd: ∀t∈x.o.dst.toList,t ∉ y.o.dst.toList)(hw: ∀k∈x.W,k ∉ y.W):y.next (x.next S)=x.next (y.next S):=by
 apply St.ext'
 ·rw[oQ,oQ,oQ,oQ];cases hx:x.o.dst with
  | none=>cases hy:y.o.dst<;>rfl
  | some dx=>
    cases hy:y.o.dst with
    | none=>rfl
    | some dy=>
      have hne:dx≠dy:=fun e=>hd dx (by simp[hx]) (by simp[hy,e]);funext t;simp only[upd];by_cases h1:t=dx
      ·subst h1;simp[hne]
      by_cases h2:t=dy
      ·subst h2;simp[h1]
      simp[h1,h2]
 funext h;by_cases h1:h∈x.W
 ·have h2:=hw h h1;rw[jV h2];by_cases h3:x.skip=true
  ·unfold fF.W at h1;simp[h3] at h1
  rw[qW x,qW x,if_neg h3,if_neg h3];simp only[dZ];rw[jV h2]
 rw[jV (r:=x) h1];by_cases h2:h∈y.W
 ·by_cases h3:y.skip=true
  ·unfold fF.W at h2;simp[h3] at h2
  rw[qW y,qW y,if_neg h3,if_neg h3];simp only[dZ];rw[jV h1]
 rw[jV h2,jV h2,jV h1]
theorem xC.bubble {y:fF}{l2:List fF}{K:St->Prop}: ∀{l1:List fF} {S:St},xC P N ops (l1++y::l2) S K->(∀x∈l1,aCE ops x y=true)->Ok P N ops y S/\xC P N ops (l1++l2) (y.next S) K
 | [],S,h,_=>h
 | x::l1,S,h,ha=>by
   obtain⟨h1,h2⟩:=h;obtain⟨h3,h4⟩:=xC.bubble h2 (fun z hz=>ha z (by simp[hz]));have:=ha x (by simp);simp only[aCE,aAO] at this;obtain⟨⟨⟨q1,q2⟩,q3⟩,q4⟩:=this;have q1:=lW q1;have q2:=lW q2;have q3:=lW q3;have q4:=lW q4;refine⟨h3.swap (fun t ht hm=>q1 t ht (aFw _ hm)) (fun k hk hm=>q3 k hk (aFw _ hm)),h1.swap' q2 q4,?_⟩;rw[<-aJJ (fun t ht hm=>q1 t ht (aDU _ hm)) (fun k hk hm=>q3 k hk (aDU _ hm))];exact h4
theorem xC.bubble' {y:fF}{l2:List fF}{K:St->Prop}: ∀{l1:List fF} {S:St},xC P N ops (l1++y::l2) S K->ops[y.i]? =some y.o/\True
 | [],S,h=>⟨h.1.1,trivial⟩
 | x::l1,S,h=>xC.bubble' h.2
theorem aJK {l:List (Nat × AV)}{t:Nat}(h:bK l t≠ .no):t∈l.map (·.1):=by
 induction l with
 | nil=>simp[bK] at h
 | cons q l ih=>
   obtain⟨k,v⟩:=q;simp only[bK] at h;split at h
   ·simp_all
   simp[ih h]
theorem aFr {l:List (Nat × AV)}{t h:Nat}(hm:h∈bS (bK l t)):h∈(l.map fun q=>bS q.2).flatten:=by
 induction l with
 | nil=>simp[bK,bS] at hm
 | cons q l ih=>
   obtain⟨k,v⟩:=q;simp only[bK] at hm;simp only[aGQ,aHS,aD4];split at hm
   ·exact .inl hm
   exact .inr (ih hm)
theorem aDy {l:List (Nat × Option Rs)}{h:Nat}{r:Rs}(e:aV l h=some r):h∈l.map (·.1)/\ ∀k∈fU r,k∈(l.map fun q=>match q.2 with | some r=>fU r | none=>[]).flatten:=by
 induction l with
 | nil=>simp[aV] at e
 | cons q l ih=>
   obtain⟨k,v⟩:=q;simp only[aV] at e;split at e
   ·subst e;rename_i hk;subst hk;exact⟨by simp,fun k hk=>by simp[hk]⟩
   obtain⟨q1,q2⟩:=ih e;exact⟨by simp at q1 ⊢;exact .inr q1,fun k hk=>by simp only[aGQ,aHS,aD4];exact .inr (q2 k hk)⟩
theorem Ok.sound {r:fF}{S:St}(h:Ok P N ops r S)(hs:r.skip=false)(hf: ∀k∈r.Nw,fE S k)(hn:(r.e.new.all fun q=> !r.e.del.contains q.1 || (aV r.vr q.1).isSome)=true):aY P r.o S r.e:=by
 obtain⟨_,_,_,h4⟩:=h;obtain⟨q1,q2,q3⟩:=h4 hs;cases hfr:r.fr with
 | true=>exact q1.2 hfr S q2 q3
 | false=>
 replace q1:=q1.1 hfr
 have hT: ∀k,k∈r.vr.map (·.1)\/k∈(r.vs.map fun q=>bS q.2).flatten\/k∈(r.vr.map fun q=>match q.2 with | some r=>fU r | none=>[]).flatten\/k∈r.M->S.res k=aV r.vr k:=fun k hk=>q3 k (by
  unfold fF.T;rw[hs,hfr];simp only[Bool.false_eq_true,if_false,aD4];rcases hk with hk | hk | hk | hk<;>simp[hk])
 have hM: ∀k,k∈bS r.e.v\/k∈(r.e.new.map fun q=>fU q.2).flatten->k∈r.M:=fun k hk=>by
  unfold fF.M;rw[hs];simp only[Bool.false_eq_true,if_false,aD4];exact hk
 refine q1.lift (fun t=>?_) (fun k x hx=>?_) (fun t k hk=>?_) (fun k0 x k hx hk=>?_) (fun k hk _=>hT k (.inr (.inr (.inr (hM k (.inl hk)))))) (fun k x h' hx hk _=>?_) (fun k x hx=>?_)
 ·by_cases e:bK r.vs t= .no
  ·exact .inl e
  exact .inr (q2 t (aJK e))
 ·rw[hT k (.inl (aDy hx).1)];exact hx
 ·exact hT k (.inr (.inl (aFr hk)))
 ·exact hT k (.inr (.inr (.inl ((aDy hx).2 k hk))))
 ·exact hT h' (.inr (.inr (.inr (hM h' (.inr (List.mem_flatten.2 ⟨_,aID.2 ⟨_,bW hx,rfl⟩,hk⟩))))))
 by_cases e:k∈r.e.del
 ·refine .inl ⟨?_,e⟩;have:=aDT.1 hn _ (bW hx);simp only[List.contains_eq_mem,e,decide_true,Bool.not_true,Bool.false_or] at this;exact Option.isSome_iff_exists.1 this
 exact .inr (hf k (by
  unfold fF.Nw;rw[hs];simp only[Bool.false_eq_true,if_false,aMX,List.contains_eq_mem,e,decide_false,Bool.not_false,and_true];exact aID.2 ⟨_,bW hx,rfl⟩))
theorem fE.next {r:fF}{S:St}{k:Nat}(hf:fE S k)(h:k ∉ r.M++r.W):fE (r.next S) k:=by
 simp only[aD4,not_or] at h;refine⟨fun t ht=>?_,fun h' x hx hm=>?_,by rw[jV h.2];exact hf.2.2.1,hf.2.2.2⟩
 ·rw[oQ] at ht
  have hv:k ∉ bS r.v:=fun hm=>by
   unfold fF.v at hm;split at hm
   ·simp[bS,eH] at hm
   rename_i hs;exact h.1 (by unfold fF.M;rw[if_neg hs];exact aFw _ hm)
  cases hd:r.o.dst with
  | none=>rw[hd] at ht;exact hf.1 t ht
  | some d=>
    rw[hd] at ht;simp only[upd] at ht;by_cases e:t=d
    ·rw[if_pos e] at ht;exact hv ht
    rw[if_neg e] at ht;exact hf.1 t ht
 rw[qW] at hx;split at hx
 ·exact hf.2.1 h' x hx hm
 rename_i hs;simp only[dZ] at hx;split at hx
 ·rename_i y hy;injection hx with hx
  subst hx;exact h.1 (by unfold fF.M;rw[if_neg hs];exact aDU _ (List.mem_flatten.2 ⟨_,aID.2 ⟨_,bW hy,rfl⟩,hm⟩))
 split at hx
 ·cases hx
 exact hf.2.1 h' x hx hm
theorem yY {ops:Array Oper}{y:fF}{l2:List fF}: ∀{l1:List fF},oP ops (l1++y::l2)=true->oP ops (l1++l2)=true/\(∀x∈l1,x.i<y.i/\tN ops x y=true)/\(∀z∈l2,y.i<z.i/\tN ops y z=true)/\(y.skip || y.e.new.all fun q=> !y.e.del.contains q.1 || (aV y.vr q.1).isSome)=true
 | [],h=>by
   simp only[aMU,oP,aAO,aDT,aKQ] at h;obtain⟨⟨⟨h1,h2⟩,h3⟩,h4⟩:=h;exact⟨h4,by simp,h1,h3⟩
 | x::l1,h=>by
   simp only[List.cons_append,oP,aAO] at h;obtain⟨⟨⟨h1,h2⟩,h3⟩,h4⟩:=h;obtain⟨q1,q2,q3,q4⟩:=yY h4;rw[aDT] at h1;have hy:=h1 y (by simp);simp only[aAO,aKQ] at hy;refine⟨?_,fun z hz=>?_,q3,q4⟩
   ·simp only[List.cons_append,oP,aAO];refine⟨⟨⟨aDT.2 fun z hz=>h1 z ?_,h2⟩,h3⟩,q1⟩;simp only[aD4,aHB] at hz ⊢;rcases hz with hz | hz<;>simp[hz]
   rcases aHB.1 hz with rfl | hz
   ·exact hy
   exact q2 z hz
def aK1 (ops:Array Oper)(listed:Array Bool):Prop:= ∀(i:Nat) (o:Oper),i<ops.size->ops[i]? =some o->listed.getD i true=true-> ∀e∈o.after,Region.binds .any e=true->listed.getD e.on false=true
theorem yZ {ops:Array Oper}{listed:Array Bool}(hs:aK1 ops listed)(h2: ∀i,i<ops.size->listed.getD i false=listed.getD i true): ∀(n x:Nat) (es:Array Edge),(∀e∈es,Region.binds .any e=true->listed.getD e.on false=true)->oO ops n x es=true->listed.getD x false=true
 | 0,x,es,_,h=>by simp[oO] at h
 | n+1,x,es,he,h=>by
   unfold oO at h;rw[Array.any_eq_true] at h;obtain⟨j,hj,h⟩:=h;simp only[aAO,Bool.or_eq_true] at h;have hl:=he _ (Array.getElem_mem hj) h.1;rcases h.2 with hb | hb
   ·rw[<-aBb hb];exact hl
   split at hb
   ·rename_i o ho;have hi:=(Array.getElem?_eq_some_iff.1 ho).1;exact yZ hs h2 n x o.after (hs _ o hi ho (by rw[<-h2 _ hi];exact hl)) hb
   cases hb
theorem aJL {Qw:Exit->Act->World->Prop}{A:Nat->Prop}{w0:rV}{Kn:St->Prop}(hQ: ∀S a w,Kn S->qV A w0 N S a w->Qw .normal a w): ∀(fuel:Nat) (l:List fF) (listed:Array Bool) (S:St) (a:Act) (w:World),l.length<=fuel->xC P N ops l S Kn->oP ops l=true->
 (∀i,i<ops.size->(listed.getD i true=false↔ ∃r∈l,r.i=i))->(∀i,i<ops.size->listed.getD i false=listed.getD i true)->(∀r∈l,r.i<ops.size)->(∀r∈l,∀k∈r.Nw,fE S k)->aK1 ops listed->qV A w0 N S a w->wpAny P .any ops Qw fuel listed a w:=by
 intro fuel
 induction fuel with
 | zero=>
   intro l listed S a w hl hr hlk hli hli2 hsz hf hsh hG;have:l= []:=aE6 (by omega);subst this;refine⟨?_,hQ S a w hr hG⟩;unfold Region.ready;rw[List.filter_eq_nil_iff];intro i hi hc;simp only[aAO,Bool.not_eq_true'] at hc;obtain⟨r,hr,_⟩:=(hli i (aJy.1 hi)).1 hc.1;simp at hr
 | succ fuel ih=>
   intro l listed S a w hl hr hlk hli hli2 hsz hf hsh hG;refine⟨fun hnil=>?_,fun i hi=>?_⟩
   ·rcases l with _ | ⟨r,l⟩
    ·exact hQ S a w hr hG
    exfalso
    have hrd:r.i∈Region.ready .any ops listed:=by
     rw[mem_ready];have hsr:=hsz r (by simp);refine⟨(hli r.i hsr).2 ⟨r,by simp,rfl⟩,r.o,hr.1.1,fun e he hb=>?_⟩;simp only[oP,aAO,aDT,aKQ] at hlk;obtain⟨⟨⟨h1,h2⟩,_⟩,_⟩:=hlk;have h2' :=Array.all_eq_true_iff_forall_mem.1 h2 e he;simp only[hb,Bool.not_true,Bool.false_or,aKQ] at h2';rw[hli2 e.on (by omega)];cases hx:listed.getD e.on true with
     | true=>rfl
     | false=>
       obtain⟨z,hz,hzi⟩:=(hli e.on (by omega)).1 hx;rcases aHB.1 hz with rfl | hz
       ·omega
       have:=(h1 z hz).1;omega
    rw[hnil] at hrd;simp at hrd
   rw[mem_ready] at hi;obtain⟨hi1,o,ho,hdep⟩:=hi;have hsi:i<ops.size:=(Array.getElem?_eq_some_iff.1 ho).1;obtain⟨y,hy,rfl⟩:=(hli i hsi).1 hi1;obtain⟨l1,l2,rfl⟩:=List.append_of_mem hy;obtain⟨k1,k2,k3,k4⟩:=yY hlk;have hyo:=(xC.bubble' hr).1;have hoy:o=y.o:=by rw[hyo] at ho;injection ho with ho;exact ho.symm
   have hna: ∀x∈l1,aEs ops x y=false:=fun x hx=>by
    cases hc:aEs ops x y with
    | false=>rfl
    | true=>
      exfalso;have h1:=yZ hsh hli2 _ _ _ (fun e he hb=>hdep e (by rw[hoy];exact he) hb) hc;have hxs:=hsz x (by simp[hx]);rw[hli2 x.i hxs] at h1;have:=(hli x.i hxs).2 ⟨x,by simp[hx],rfl⟩;rw[h1] at this;cases this
   have hap: ∀x∈l1,aCE ops x y=true:=fun x hx=>by
    have:=(k2 x hx).2;simp only[tN,hna x hx,Bool.false_or,aAO] at this;exact this.1.1
   obtain⟨hok,hrest⟩:=xC.bubble hr hap
   have hfr: ∀x∈l1++l2,∀k∈x.Nw,fE (y.next S) k:=fun x hx k hk=>by
    have hfx:=hf x (by simp only[aD4,aHB] at hx ⊢;rcases hx with hx | hx<;>simp[hx]) k hk;refine hfx.next ?_;rcases aD4.1 hx with hx | hx
    ·have:=(k2 x hx).2;simp only[tN,hna x hx,Bool.false_or,aAO] at this;exact lW this.1.2 k hk
    have:=(k3 x hx).2;simp only[tN,aAO] at this;exact lW this.2 k hk
   have hgo: ∀(a' :Act) (w' :World),qV A w0 N (y.next S) a' w' ->wpAny P .any ops Qw fuel (listed.setIfInBounds y.i true) a' w' :=fun a' w' hG' =>by
    have hne: ∀x∈l1++l2,x.i≠y.i:=fun x hx=>by
     rcases aD4.1 hx with hx | hx
     ·have:=(k2 x hx).1;omega
     have:=(k3 x hx).1;omega
    have hls:y.i<listed.size:=by
     rcases Nat.lt_or_ge y.i listed.size with h | h
     ·exact h
     rw[Array.getD_eq_getD_getElem?,Array.getElem?_eq_none h] at hi1;simp at hi1
    have hsh' :aK1 ops (listed.setIfInBounds y.i true):=fun i q hi hq hl' e he hb=>by
     have key:listed.getD e.on false=true:=by
      by_cases ei:y.i=i
      ·subst ei;rw[hyo] at hq;injection hq with hq
       subst hq;exact hdep e (by rw[hoy];exact he) hb
      rw[getD_set_ne true ei] at hl';exact hsh i q hi hq hl' e he hb
     by_cases ee:y.i=e.on
     ·rw[<-ee,Array.getD_eq_getD_getElem?,Array.getElem?_setIfInBounds_self_of_lt hls];rfl
     rw[getD_set_ne false ee];exact key
    refine ih (l1++l2) _ _ a' w' (by simp at hl ⊢;omega) hrest k1 (fun i hi=>?_) (fun i hi=>?_) (fun r hr=>hsz r (by simp only[aD4,aHB] at hr ⊢;rcases hr with hr | hr<;>simp[hr])) hfr hsh' hG'
    ·by_cases e:y.i=i
     ·subst e;rw[Array.getD_eq_getD_getElem?,Array.getElem?_setIfInBounds_self_of_lt hls];simp only[Option.getD_some,Bool.true_eq_false,false_iff,not_exists,not_and];exact fun x hx=>hne x hx
     rw[getD_set_ne true e,hli i hi];constructor
     ·rintro⟨r,hr,rfl⟩;refine⟨r,?_,rfl⟩;simp only[aD4,aHB] at hr ⊢;rcases hr with hr | hr | hr
      ·exact .inl hr
      ·subst hr;exact absurd rfl e
      exact .inr hr
     rintro⟨r,hr,rfl⟩;refine⟨r,?_,rfl⟩;simp only[aD4,aHB] at hr ⊢;rcases hr with hr | hr<;>simp[hr]
    by_cases e:y.i=i
    ·subst e;rw[Array.getD_eq_getD_getElem?,Array.getD_eq_getD_getElem?,Array.getElem?_setIfInBounds_self_of_lt hls];rfl
    rw[getD_set_ne true e,getD_set_ne false e,hli2 i hi]
   obtain⟨K,φ,hG⟩:=hG;have hok' :=hok;obtain⟨o1,o2,o3,o4⟩:=hok';unfold wpOp;rw[o1];simp only
   have exec:y.skip=false->y.o.wp P a w (wpAny P .any ops Qw fuel (listed.setIfInBounds y.i true)) Qw:=fun hs=>by
    have hn:(y.e.new.all fun q=> !y.e.del.contains q.1 || (aV y.vr q.1).isSome)=true:=by simpa [hs] using k4
    have:=hok.sound hs (hf y (by simp)) hn;refine Oper.wp_mono (fun a' w' ⟨K',φ',v,_,hG',_⟩=>hgo a' w' ⟨K',φ',?_⟩) (this K φ A w0 N a w Qw o2 hG);unfold fF.next;rw[hs];exact hG'
   split at o3
   ·rename_i hg;rw[if_pos (by simp[Region.wanted,hg])];exact .inl (exec o3)
   rename_i j want hg;obtain⟨d,b,q1,q2,q3,q4⟩:=o3;rw[aDs hG hg q1 q2 q3];by_cases hb:b=some want
   ·rw[if_pos (by simp[hb])];exact .inl (exec (by rw[q4];simp[hb]))
   rw[if_neg (by simp[hb])];refine hgo _ w ⟨K,φ,?_⟩;unfold fF.next;rw[if_pos (by rw[q4];simp[hb])];exact hG.put o2 (aAl _ _ _)
end
def nO (sl:List (Nat × AV)):List Operand->List (Nat × AV)
 | .tmp t::l=>(t,bK sl t)::nO sl l
 | _::l=>nO sl l
 | []=>[]
def opL:Op->List Operand
 | .move x | .assign x | .box _ x | .load _ x | .nilCheck x | .unOp _ _ x | .convert _ _ x | .fieldAddr _ x _ | .field _ x _ | .extract x _=>[x]
 | .pick c a b=>[c,a,b]
 | .build _ ps | .buildSlice _ _ ps=>ps.toList.map (·.2)
 | .store _ a v | .binOp _ _ a v _ | .makeSlice _ a v | .indexAddr _ a v | .index _ a v=>[a,v]
 | .call c=>(match c.callee with | .value f=>f::c.args.toList | _=>c.args.toList)
 | .slice _ x l h m=>x::(l.toList++h.toList++m.toList)
 | _=>[]
def kR (o:Op)(sl:List (Nat × AV)):List (Nat × AV):=nO sl (opL o)
def aK2 (rs:List (Nat × Option Rs))(l:List Nat):List Nat:=l.flatMap fun h=>match aV rs h with | some r=>fU r | none=>[]
def sZ (o:Op)(sl:List (Nat × AV))(rs:List (Nat × Option Rs)):List (Nat × Option Rs):=
 let m0:=(kR o sl).flatMap fun q=>bS q.2
 let m1:=aK2 rs m0
 (m0++m1++aK2 rs m1).map fun h=>(h,aV rs h)
theorem kS (sl:List (Nat × AV)): ∀(l:List Operand) (t:Nat),t∈(nO sl l).map (·.1)->bK (nO sl l) t=bK sl t
 | [],t,h=>by simp[nO] at h
 | .tmp u::l,t,h=>by
   simp only[nO,aGQ,aHB,bK] at h ⊢;by_cases e:t=u
   ·simp[e]
   rw[if_neg e];exact kS sl l t (h.resolve_left e)
 | .const _::l,t,h=>kS sl l t h
 | .func _::l,t,h=>kS sl l t h
 | .global _::l,t,h=>kS sl l t h
theorem aDz (rs:List (Nat × Option Rs)): ∀(l:List Nat) (h:Nat),aV (l.map fun k=>(k,aV rs k)) h=if h∈l then aV rs h else none
 | [],h=>by simp[aV]
 | k::l,h=>by
   simp only[aGQ,aV,aDz rs l h];by_cases e:h=k<;>simp[e]
section
variable {P:Program} {N:Nat} {all:Array Oper}
def jB (i:Nat)(o:Oper)(sl:List (Nat × AV))(rs:List (Nat × Option Rs))(v:AV)(del:List Nat)(new:List (Nat × Rs)):fF:=⟨i,o,false,kR o.op sl,sZ o.op sl rs,⟨v,del,new⟩⟩
def jW (i:Nat)(o:Oper)(sl:List (Nat × AV))(v:AV)(b:List (Nat × Option Rs)):fF:=⟨i,o,false,kR o.op sl,(99,none)::b,⟨v,[],[]⟩⟩
def tOk (r:fF)(rs:List (Nat × Option Rs)):Bool:= !r.fr&&r.T.all fun h=>(r.vr.map (·.1)).contains h || (aV rs h).isNone
def mY (sl:List (Nat × AV)):Option Nat->AV->List (Nat × AV)
 | some d,v=>(d,v)::sl
 | none,_=>sl
def mZ (P:Program)(N:Nat)(all:Array Oper):Nat->List Oper->List (Nat × AV)->List (Nat × Option Rs)->List fF->(St->List fF->Prop)->Prop
 | i,[],sl,rs,acc,K=>K (mk sl rs) acc.reverse
 | i,o::rest,sl,rs,acc,K=>all[i]? =some o/\(∀d,o.dst=some d->d<N)/\match o.guard with
   | none=>(∃v del new,aY P o (mk (kR o.op sl) (sZ o.op sl rs)) ⟨v,del,new⟩/\tOk (jB i o sl rs v del new) rs=true/\mZ P N all (i+1) rest (mY sl o.dst v) (lN new++(iE del++rs)) (jB i o sl rs v del new::acc) K)\/
     (∃v b,xB P (jW i o sl v b)/\(∀k∈b.map (·.1),aV rs k=aV ((99,none)::b) k)/\mZ P N all (i+1) rest (mY sl o.dst v) rs (jW i o sl v b::acc) K)
   | some (j,want)=> ∃d b,(all[j]?).bind (·.dst)=some d/\d<N/\gvA (bK sl d)=some b/\
     (b=some want->(∃v del new,aY P o (mk (kR o.op sl) (sZ o.op sl rs)) ⟨v,del,new⟩/\tOk (jB i o sl rs v del new) rs=true/\mZ P N all (i+1) rest (mY sl o.dst v) (lN new++(iE del++rs)) (jB i o sl rs v del new::acc) K)\/
      (∃v b,xB P (jW i o sl v b)/\(∀k∈b.map (·.1),aV rs k=aV ((99,none)::b) k)/\mZ P N all (i+1) rest (mY sl o.dst v) rs (jW i o sl v b::acc) K))/\
     (b≠some want->mZ P N all (i+1) rest (mY sl o.dst (.tup [])) rs (⟨i,o,true,[],[],⟨.no,[],[]⟩⟩::acc) K)
theorem hX (sl:List (Nat × AV))(rs:List (Nat × Option Rs))(d:Option Nat)(v:AV)(del:List Nat)(new:List (Nat × Rs)):(mk sl rs).apply d ⟨v,del,new⟩=mk (mY sl d v) (lN new++(iE del++rs)):=by
 cases d with
 | none=>exact aJB sl rs v del new
 | some d=>exact aFn sl rs d v del new
theorem aIJ (sl:List (Nat × AV))(rs:List (Nat × Option Rs))(d:Option Nat)(v:AV):(mk sl rs).put d v=mk (mY sl d v) rs:=by
 cases d with
 | none=>rfl
 | some d=>exact aKU sl rs d v
theorem vY {K:St->List fF->Prop}: ∀(l:List Oper) (i:Nat) (sl:List (Nat × AV)) (rs:List (Nat × Option Rs)) (acc:List fF),mZ P N all i l sl rs acc K->
 ∃recs S',xC P N all recs (mk sl rs) (fun S=>S=S')/\K S' (acc.reverse++recs)/\recs.map (·.i)=List.range' i l.length
 | [],i,sl,rs,acc,h=>⟨[],mk sl rs,rfl,by simpa [mZ] using h,by simp⟩
 | o::rest,i,sl,rs,acc,h=>by
   unfold mZ at h;obtain⟨hi,hd,h⟩:=h
   have exec:(match o.guard with | none=>True | some (j,want)=> ∃d,(all[j]?).bind (·.dst)=some d/\d<N/\gvA (bK sl d)=some (some want))->(∃v del new,aY P o (mk (kR o.op sl) (sZ o.op sl rs)) ⟨v,del,new⟩/\tOk (jB i o sl rs v del new) rs=true/\mZ P N all (i+1) rest (mY sl o.dst v) (lN new++(iE del++rs)) (jB i o sl rs v del new::acc) K)->
    ∃recs S',xC P N all recs (mk sl rs) (fun S=>S=S')/\K S' (acc.reverse++recs)/\recs.map (·.i)=List.range' i (o::rest).length:=by
    rintro hg ⟨v,del,new,hs,ht,hrest⟩;obtain⟨recs,S',h1,h2,h3⟩:=vY rest (i+1) _ _ _ hrest;unfold tOk at ht;rw[aAO,Bool.not_eq_true'] at ht;obtain⟨hfr,ht⟩:=ht;refine⟨jB i o sl rs v del new::recs,S',⟨⟨hi,hd,?_,fun _=>⟨⟨fun _=>hs,fun e=>by rw[hfr] at e;cases e⟩,fun t ht=>?_,fun k hk=>?_⟩⟩,?_⟩,by simpa using h2,by simp[h3,jB,List.range'_succ]⟩
    ·cases hgd:o.guard with
     | none=>simp[jB,hgd]
     | some q=>
       obtain⟨j,want⟩:=q;rw[hgd] at hg;obtain⟨d,q1,q2,q3⟩:=hg;simp only[jB,hgd];exact⟨d,some want,q1,q2,q3,by simp⟩
    ·exact(kS sl _ t ht).symm
    ·have:=aDT.1 ht k hk;simp only[Bool.or_eq_true,List.contains_eq_mem,aKQ] at this;simp only[jB,sZ,List.map_map] at this ⊢;rw[aDz];split
     ·rfl
     rename_i hn;rcases this with q | q
     ·exact absurd (by simpa [Function.comp_def] using q) hn
     show aV rs k=none;simpa using q
    unfold fF.next;simp only[jB,Bool.false_eq_true,if_false];rw[hX];exact h1
   have execF:(match o.guard with | none=>True | some (j,want)=> ∃d,(all[j]?).bind (·.dst)=some d/\d<N/\gvA (bK sl d)=some (some want))->(∃v b,xB P (jW i o sl v b)/\(∀k∈b.map (·.1),aV rs k=aV ((99,none)::b) k)/\mZ P N all (i+1) rest (mY sl o.dst v) rs (jW i o sl v b::acc) K)->
    ∃recs S',xC P N all recs (mk sl rs) (fun S=>S=S')/\K S' (acc.reverse++recs)/\recs.map (·.i)=List.range' i (o::rest).length:=by
    rintro hg ⟨v,b,hs,hb,hrest⟩;obtain⟨recs,S',h1,h2,h3⟩:=vY rest (i+1) _ _ _ hrest;refine⟨jW i o sl v b::recs,S',⟨⟨hi,hd,?_,fun _=>⟨hs,fun t ht=>?_,fun k hk=>?_⟩⟩,?_⟩,by simpa using h2,by simp[h3,jW,List.range'_succ]⟩
    ·cases hgd:o.guard with
     | none=>simp[jW,hgd]
     | some q=>
       obtain⟨j,want⟩:=q;rw[hgd] at hg;obtain⟨d,q1,q2,q3⟩:=hg;simp only[jW,hgd];exact⟨d,some want,q1,q2,q3,by simp⟩
    ·exact(kS sl _ t ht).symm
    ·exact hb k (by simpa [fF.T,fF.fr,jW] using hk)
    unfold fF.next;simp only[jW,Bool.false_eq_true,if_false];rw[hX];exact h1
   split at h
   ·rename_i hg;exact h.elim (exec (by rw[hg];trivial)) (execF (by rw[hg];trivial))
   rename_i j want hg;obtain⟨d,b,q1,q2,q3,q4,q5⟩:=h;by_cases hb:b=some want
   ·exact(q4 hb).elim (exec (by rw[hg];exact⟨d,q1,q2,by rw[q3,hb]⟩)) (execF (by rw[hg];exact⟨d,q1,q2,by rw[q3,hb]⟩))
   obtain⟨recs,S',h1,h2,h3⟩:=vY rest (i+1) _ _ _ (q5 hb);refine⟨⟨i,o,true,[],[],⟨.no,[],[]⟩⟩::recs,S',⟨⟨hi,hd,?_,fun e=>by cases e⟩,?_⟩,by simpa using h2,by simp[h3,List.range'_succ]⟩
   ·simp only[hg];exact⟨d,b,q1,q2,q3,by simp[hb]⟩
   unfold fF.next;simp only[if_true];rw[aIJ];exact h1
theorem qV.drew {A:Nat->Prop}{w0:rV}{S:St}{a:Act}{w:World}(h:qV A w0 N S a w):qV A w0 N S a { w with drawn:=w.drawn+1 }:=by
 obtain⟨K,φ,hG⟩:=h;have hs: ∀(B:Nat->Prop),cX B w { w with drawn:=w.drawn+1 }:=fun _ _ _=>rfl;refine⟨K,φ,fun h r hr=>?_,hG.non,hG.disj,hG.nodup,hG.ge,hG.kin,hG.kout,hG.aK,fun t=>aF.mono (hs _) (fun _ h=>h) _ _ (fun h pl _ e=>⟨e,hs _⟩) (hG.slots t),⟨hG.bel.os,hG.bel.tape,hG.bel.output,hG.bel.size,hG.bel.block⟩,hG.nd,hG.size,hG.pin⟩;obtain⟨pl,hp,hh⟩:=hG.dom h r hr;exact⟨pl,hp,Holds.mono (hs _) (fun _ h=>h) (fun _ _=>rfl) r (fun h pl _ e=>⟨e,hs _⟩) hh⟩
end
def tO:Nat->List Ar->List (Nat × AV)
 | _,[]=>[]
 | i,x::xs=>(i,aFl x)::tO (i+1) xs
theorem zA: ∀(xs:List Ar) (i t:Nat),bK (tO i xs) t=if i<=t then (match xs[t - i]? with | some x=>aFl x | none=> .no) else .no
 | [],i,t=>by simp[tO,bK]
 | x::xs,i,t=>by
   simp only[tO,bK,zA xs (i+1) t];by_cases e:t=i
   ·subst e;simp
   by_cases h:i<=t
   ·have:t - i=(t - (i+1))+1:=by omega
    rw[if_neg e,if_pos (by omega),if_pos h,this,List.getElem?_cons_succ]
   rw[if_neg e,if_neg (by omega),if_neg h]
theorem aPW (args:List Ar):S0 args=mk (tO 0 args) []:=by
 apply St.ext'
 ·funext t;simp only[S0,mk,zA,aAd,if_true,Nat.sub_zero]
  try (cases args[t]? <;>rfl)
 funext h;simp[S0,mk,aV]
abbrev intD (n:Int):List bB:=[.int .i64 n]
theorem aAT {α β:Type}{f:α->β}{l:List α}{k:Nat}{x:α}(h:l[k]? =some x):(l.map f)[k]? =some (f x):=by simp[h]
abbrev Lv (w:World):Nat->Prop:=fun b=>b<w.heap.size
section
variable {α:Type}
theorem aCF {R:Rd α}{enc:α->List bB}{w:World}{k:Nat}{a:Option Addr}(hR: ∀cs x,R w cs x->jU (Lv w) w (enc x) cs): ∀(xs:List α) (o:Nat),
 (∀i x,xs[i]? =some x-> ∃b off cs',a=some ⟨b,off,none⟩/\cs'.length=k/\(∀j u,cs'[j]? =some u->w.cell? ⟨b,off+(o+i*k)+j,none⟩=some u)/\R w cs' x)->eT (Lv w) w k (xs.map enc) a o
 | [],o,_=>by simp only[List.map_nil];unfold eT;trivial
 | x::xs,o,h=>by
   simp only[aGQ];unfold eT;obtain⟨b,off,cs,rfl,hl,hc,hr⟩:=h 0 x rfl;have hrd:=hR cs x hr;have hlen:=hrd.len;refine⟨by omega,gR.mk (fun hne=>?_) hrd (fun j u hu=>by have:=hc j u hu;simpa using this),aCF hR xs (o+k) fun i y hy=>?_⟩
   ·have h0:0<cs.length:=by
     rcases Nat.eq_zero_or_pos cs.length with h | h
     ·exact absurd (aE6 (by omega)) hne
     exact h
    have:=hc 0 _ (aBI h0);exact World.block_lt_of_cell? w _ this
   obtain⟨b',off',cs',e,hl',hc',hr'⟩:=h (i+1) y (by simpa using hy);refine⟨b',off',cs',e,hl',fun j u hu=>?_,hr'⟩;have:=hc' j u hu;rw[show off' +(o+k+i*k)+j=off' +(o+(i+1)*k)+j by rw[Nat.add_mul];omega];exact this
theorem aK3 {R:Rd α}{enc:α->List bB}{w:World}{e k:Nat}{v:Value}{xs:List α}(hR: ∀cs x,R w cs x->jU (Lv w) w (enc x) cs)(h:qF k R w [v] xs):fR (Lv w) w (.sl e k (xs.map enc)) v:=by
 obtain⟨a,c,hv,h1,h2,h3⟩:=h;simp only[List.cons.injEq,and_true] at hv;subst hv;unfold fR;refine⟨a,c,by simp,by simpa using h1,h2,aCF hR xs 0 fun i x hx=>?_⟩;obtain⟨b,off,cs,e,hl,hc,hr⟩:=h3 i x hx;exact⟨b,off,cs,e,hl,fun j u hu=>by have:=hc j u hu;simpa using this,hr⟩
end
section
variable {P:Program}
theorem arsRd_nil {A:Nat->Prop}{w:World}:qU A w [] []:=rfl
theorem arsRd_one {A:Nat->Prop}{w:World}{x:bB}{xs:List Ar}{v:Value}{vs:List Value}(h:fR A w x v)(h' :qU A w xs vs):qU A w (.one x::xs) (v::vs):=⟨v,vs,rfl,h,h'⟩
theorem aM9 {A:Nat->Prop}{w:World}{k:IntKind}{n:Int}:fR A w (.int k n) (.int k n):=by unfold fR;rfl
theorem aFs {A:Nat->Prop}{w:World}{x:bB}{xs:List bB}{v:Value}{vs:List Value}(h:fR A w x v)(h' :jU A w xs vs):jU A w (x::xs) (v::vs):=⟨v,vs,rfl,h,h'⟩
theorem aIK {A:Nat->Prop}{w:World}:jU A w [] []:=rfl
theorem Con.calls {f:FuncId}{args:List Ar}{rv:AV}{val:Value}{w:World}{vs:Array Value}(h:Con P f args rv [])(ha:qU (Lv w) w args vs.toList)(hv: ∀K φ w v,aF K φ w rv v->v=val):Calls P f vs w fun e w' =>e= .returned val/\Below w.heap.size w w' :=
 (h.2 (Lv w) w vs (fun _ h=>h) ha).mono fun e w' ⟨v,K,φ,he,hb,_,_,_,_,_,_,_,hm⟩=>⟨by rw[he,hv _ _ _ _ hm],hb⟩
theorem match_bool {b:Bool}: ∀K φ w v,aF K φ w (.p none (.bool b)) v->v= .bool b:=fun K φ w v h=>by unfold aF fR at h;exact h
end
section
variable {α:Type}
theorem oB {w:World}{p:bB}{ps:List bB}{v:Value}{cs:List Value}{F1 F2:List Nat}(h1:oK w p v F1)(h2:cD w ps cs F2):cD w (p::ps) (v::cs) (F1++F2):=by
 unfold cD;exact⟨v,cs,F1,F2,rfl,rfl,h1,h2⟩
theorem aK4 {w:World}:cD w [] [] []:=by unfold cD;exact⟨rfl,rfl⟩
theorem aIL {w:World}{k:IntKind}{n:Int}:oK w (.int k n) (.int k n) []:=by unfold oK;exact⟨rfl,rfl⟩
theorem aFt {w:World}{b:Bool}:oK w (.bool b) (.bool b) []:=by unfold oK;exact⟨rfl,rfl⟩
end
mutual
theorem oK.lt {w:World}: ∀{x:bB} {v:Value} {F:List Nat},oK w x v F-> ∀g∈F,g<w.heap.size
 | .int _ _,_,_,h,g,hg=>by unfold oK at h;rw[h.2] at hg;simp at hg
 | .bool _,_,_,h,g,hg=>by unfold oK at h;rw[h.2] at hg;simp at hg
 | .str _,_,_,h,g,hg=>by unfold oK at h;rw[h.2] at hg;simp at hg
 | .gone,_,_,h,g,hg=>by unfold oK at h;rw[h.2] at hg;simp at hg
 | .sl e k xs,v,F,h,g,hg=>by
   unfold oK at h;obtain⟨css,Fs,h1,rfl,h2⟩:=h;rcases aD4.1 hg with hg | hg
   ·exact(yM h1 g hg).2
   exact bT.lt h2 g hg
theorem bT.lt {w:World}{k:Nat}: ∀{xs:List (List bB)} {css:List (List Value)} {Fs:List (List Nat)},bT w k xs css Fs-> ∀g∈Fs.flatten,g<w.heap.size
 | [],css,Fs,h,g,hg=>by unfold bT at h;rw[h.2] at hg;simp at hg
 | x::xs,css,Fs,h,g,hg=>by
   unfold bT at h;obtain⟨c,css',F,Fs',rfl,rfl,h1,h2,h3⟩:=h;rcases aD4.1 (by simpa using hg:g∈F++Fs'.flatten) with hg | hg
   ·exact cD.lt h2 g hg
   exact bT.lt h3 g hg
theorem cD.lt {w:World}: ∀{ds:List bB} {cs:List Value} {F:List Nat},cD w ds cs F-> ∀g∈F,g<w.heap.size
 | [],cs,F,h,g,hg=>by unfold cD at h;rw[h.2] at hg;simp at hg
 | p::ps,cs,F,h,g,hg=>by
   unfold cD at h;obtain⟨v,cs',F1,F2,rfl,rfl,h1,h2⟩:=h;rcases aD4.1 hg with hg | hg
   ·exact oK.lt h1 g hg
   exact cD.lt h2 g hg
end
abbrev Sl:=List (Nat × AV)
abbrev Rl:=List (Nat × Option Rs)
structure Qn (τ:Type) where
 all:(τ->Prop)->Prop
 ex:Nat->(τ->Prop)->Prop
 h1: ∀P,all P-> ∀x,P x
 h2: ∀n P,ex n P-> ∃x,P x
def Q1 (α:Type):Qn α:=⟨fun P=> ∀x,P x,fun _ P=> ∃x,P x,fun _ h=>h,fun _ _ h=>h⟩
def Q2 (α β:Type):Qn (α × β):=⟨fun P=> ∀x y,P (x,y),fun _ P=> ∃x y,P (x,y),fun _ h ⟨x,y⟩=>h x y,fun _ _ ⟨x,y,h⟩=>⟨(x,y),h⟩⟩
def Q3 (α β γ:Type):Qn (α × β × γ):=⟨fun P=> ∀x y z,P (x,y,z),fun _ P=> ∃x y z,P (x,y,z),fun _ h ⟨x,y,z⟩=>h x y z,fun _ _ ⟨x,y,z,h⟩=>⟨(x,y,z),h⟩⟩
inductive T:Type 1 where
 | fin (ren:List (Nat × Nat))
 | back (ren:List (Nat × Nat)) (n:Nat:=0)
 | br (a b:T)
 | lit (t:T)
 | yes (t:T)
 | no (t:T)
 | raw (t:T)
 | elem (α:Type) (enc:α->List bB) (l:List α) (t:α->T)
 | row (r:List bB) (t:T)
 | len (n:Nat) (t:T)
 | mk (n:Nat) (zr:List bB) (zs:List (List bB)) (t:T)
 | set (α:Type) (enc:α->List bB) (l:List α) (y:α->α) (t:α->T)
 | app (α:Type) (enc:α->List bB) (l l2:List α) (t:T)
 | appx (α:Type) (enc:α->List bB) (l:List α) (x:α) (t:T)
 | appr (α:Type) (enc:α->List bB) (l l2:List α) (t:T)
 | bld (α:Type) (enc:α->List bB) (x:α) (t:T)
 | apph (α:Type) (enc:α->List bB) (l:List α) (y:α) (t:T)
 | appy (α:Type) (enc:α->List bB) (l:List α) (y:α) (t:T)
 | call (rv:AV) (rr:List (Nat × Rs)) (t:T)
 | callx (fs:List AV) (ri:List (Nat × Rs)) (ren:List (Nat × Nat)) (rv:AV) (ro:List (Nat × Rs)) (t:T)
 | callxs (fs:List AV) (ri:List (Nat × Rs)) (ren:List (Nat × Nat)) (rv:AV) (ro:List (Nat × Rs)) (t:T)
 | bytes (l:List Int) (t:T)
 | split (rid h i j h' :Nat) (α:Type) (enc:α->List bB) (l:List α) (t:α->T)
 | join (rid h h' :Nat) (α:Type) (enc:α->List bB) (l:List α) (y:α->α) (t:α->T)
 | takeg (rid h n h' :Nat) (α:Type) (enc:α->List bB) (l:List α) (t:α->List α->T)
 | leave (rid h n h' :Nat) (α:Type) (enc:α->List bB) (x:α) (l:List α) (t:T)
 | setm (α:Type) (enc:α->List bB) (l:List α) (y:α->α) (t:α->T)
 | setr (α:Type) (enc:α->List bB) (l:List α) (y:α->α) (t:α->T)
 | sub (α:Type) (enc:α->List bB) (l:List α) (t:T)
 | stl (d:Nat) (t:T)
 | shal (rid h:Nat) (t:T)
 | stls (rid d:Nat) (t:T)
 | nilt (rid h off e k:Nat) (t:T)
 | stlb (rid h:Nat) (t:T)
 | loop (τ:Type) (q:Qn τ) (W V:List Nat) (osl:τ->Sl) (ors:τ->Rl) (inv:τ->Prop) (m:τ->Nat) (t:τ->T)
def aPX (P:Program)(i k:Nat)(f:Field):Bool:=
 !(f.name == "_") && Nat.beq f.offset i && (match P.underlying f.type with | some (.int _) => Nat.beq k 0 | some .bool => Nat.beq k 1 | some .string => Nat.beq k 2 | _ => false)
def aEA (P:Program):Nat->List Nat->List Field->Bool
 | _,[],[]=>true
 | i,k::ks,f::fs=>aPX P i k f&&aEA P (i+1) ks fs
 | _,_,_=>false
def seB (P:Program)(t:TypeId)(ks:List Nat):Bool:=
 (match P.underlying t with | some (.struct fs)=>aEA P 0 ks fs.toList | _=>false)&& !P.stoodInHeld t&& !P.eqGuardType P.depth t
structure Tb where
 ty:List (Nat × (Bool × Nat × Nat × Value))
 sl:List (Nat × Nat)
 fl:List (Nat × List (Nat × (Nat × Nat)))
 pl:List (Nat × (Value × List (Nat × Nat)))
 bo:List (Nat × Unit)
 st:List (Nat × Unit)
 nt:List (Nat × IntKind)
 se:List (Nat × List Nat)
def bX {α:Type}:List (Nat × α)->Nat->Option α
 | [],_=>none
 | (k,v)::l,t=>match Nat.beq t k with | true=>some v | false=>bX l t
def lX {α:Type}(p:Nat->α->Prop):List (Nat × α)->Prop
 | []=>True
 | (k,v)::l=>p k v/\lX p l
theorem cA {α:Type}{p:Nat->α->Prop}: ∀{l:List (Nat × α)} {t:Nat} {x:α},lX p l->bX l t=some x->p t x
 | [],_,_,_,h=>by simp[bX] at h
 | (k,v)::l,t,x,hf,h=>by
   unfold bX at h;split at h
   ·rename_i e;have:=aBb e;subst this;injection h with h
    subst h;exact hf.1
   exact cA hf.2 h
structure iW (P:Program) (tb:Tb):Prop where
 ty:lX (fun t x=>eM P t=some x) tb.ty
 sl:lX (fun t e=>P.underlying t=some (.slice e)) tb.sl
 fl:lX (fun t l=>lX (fun f x=>nR P t f=some x) l) tb.fl
 pl:lX (fun t x=>yR P t=some x) tb.pl
 bo:lX (fun t _=>P.underlying t=some .bool) tb.bo
 st:lX (fun t _=>P.underlying t=some .string) tb.st
 nt:lX (fun t k=>P.underlying t=some (.int k)) tb.nt
 se:lX (fun t ks=>seB P t ks=true) tb.se
def cW (n:Int):Prop:= -9223372036854775808<=n/\n<=9223372036854775807
abbrev vI (n:Int):AV:= .p none (.int .i64 n)
abbrev vB (b:Bool):AV:= .p none (.bool b)
def EqD:bB->bB->Prop
 | .int k a,.int k' b=>if k=k' then a=b else False
 | .bool a,.bool b=>a=b
 | .str a,.str b=>a=b
 | .sl e k xs,.sl e' k' ys=>match Nat.beq e e' &&Nat.beq k k' with | true=>xs=ys | false=>False
 | _,_=>False
theorem EqD.eq: ∀{x y:bB},EqD x y->x=y:=by
 intro x y h;unfold EqD at h;split at h
 ·split at h
  ·rename_i e;subst e;rw[h]
  cases h
 ·rw[h]
 ·rw[h]
 ·split at h
  ·rename_i e;rw[aAO] at e;rw[aBb e.1,aBb e.2,h]
  cases h
 cases h
def EqN (a b:Nat)(K:Prop):Prop:=match Nat.beq a b with | true=>K | false=>False
theorem EqN.eq {a b:Nat}{K:Prop}(h:EqN a b K):a=b/\K:=by
 unfold EqN at h;split at h
 ·rename_i e;exact⟨aBb e,h⟩
 cases h
def eqO:Option Nat->Option Nat->Bool
 | none,none=>true
 | some a,some b=>Nat.beq a b
 | _,_=>false
theorem aO5: ∀{a b:Option Nat},eqO a b=true->a=b
 | none,none,_=>rfl
 | some a,some b,h=>by rw[aBb h]
 | none,some _,h=>by cases h
 | some _,none,h=>by cases h
mutual
def EqA:AV->AV->Prop->Prop
 | .p o x,y,K=>(match y with | .p o' x' =>(match eqO o o' with | true=>EqD x x' /\K | false=>False) | _=>False)
 | .own h,y,K=>(match y with | .own h' =>EqN h h' K | _=>False)
 | .ptr h o,y,K=>(match y with | .ptr h' o' =>EqN h h' (EqN o o' K) | _=>False)
 | .nil,y,K=>(match y with | .nil=>K | _=>False)
 | .no,y,K=>(match y with | .no=>K | _=>False)
 | .agg cs,y,K=>(match y with | .agg cs' =>zB cs cs' K | _=>False)
 | .tup cs,y,K=>(match y with | .tup cs' =>zB cs cs' K | _=>False)
 | .fn f cs,y,K=>(match y with | .fn f' cs' =>EqN f f' (zB cs cs' K) | _=>False)
 | x,y,K=>x=y/\K
def zB:List AV->List AV->Prop->Prop
 | [],ys,K=>(match ys with | []=>K | _=>False)
 | x::xs,ys,K=>(match ys with | y::ys=>EqA x y (zB xs ys K) | []=>False)
end
mutual
theorem EqA.eq: ∀(x y:AV) (K:Prop),EqA x y K->x=y/\K
 | .p o x,y,K,h=>by
   unfold EqA at h;split at h
   ·split at h
    ·rename_i e;exact⟨by rw[aO5 e,EqD.eq h.1],h.2⟩
    cases h
   cases h
 | .own h,y,K,hh=>by
   unfold EqA at hh;split at hh
   ·exact⟨by rw[hh.eq.1],hh.eq.2⟩
   cases hh
 | .ptr h o,y,K,hh=>by
   unfold EqA at hh;split at hh
   ·exact⟨by rw[hh.eq.1,hh.eq.2.eq.1],hh.eq.2.eq.2⟩
   cases hh
 | .nil,y,K,h=>by
   unfold EqA at h;split at h
   ·exact⟨rfl,h⟩
   cases h
 | .no,y,K,h=>by
   unfold EqA at h;split at h
   ·exact⟨rfl,h⟩
   cases h
 | .agg cs,y,K,h=>by
   unfold EqA at h;split at h
   ·have:=zB.eq cs _ K h;exact⟨by rw[this.1],this.2⟩
   cases h
 | .tup cs,y,K,h=>by
   unfold EqA at h;split at h
   ·have:=zB.eq cs _ K h;exact⟨by rw[this.1],this.2⟩
   cases h
 | .fn f cs,y,K,h=>by
   unfold EqA at h;split at h
   ·have:=zB.eq cs _ K h.eq.2;exact⟨by rw[h.eq.1,this.1],this.2⟩
   cases h
 | .ep _ _ _ _,y,K,h=>by unfold EqA at h;exact h
 | .rp _ _,y,K,h=>by unfold EqA at h;exact h
 | .bsl _ _,y,K,h=>by unfold EqA at h;exact h
theorem zB.eq: ∀(xs ys:List AV) (K:Prop),zB xs ys K->xs=ys/\K
 | [],ys,K,h=>by
   unfold zB at h;split at h
   ·exact⟨rfl,h⟩
   cases h
 | x::xs,ys,K,h=>by
   unfold zB at h;split at h
   ·rename_i y ys';have h1:=EqA.eq x y _ h;have h2:=zB.eq xs _ K h1.2;exact⟨by rw[h1.1,h2.1],h2.2⟩
   cases h
end
def EqR:Rs->Rs->Prop->Prop
 | .box t cs,y,K=>(match y with | .box t' cs' =>EqN t t' (zB cs cs' K) | _=>False)
 | .arr e k d xs,y,K=>(match y with | .arr e' k' d' ys=>(match Nat.beq e e' &&Nat.beq k k' &&(d==d') with | true=>xs=ys/\K | false=>False) | _=>False)
 | .hole _ _ _ _ _ _,_,_=>False
theorem EqR.eq {x y:Rs}{K:Prop}(h:EqR x y K):x=y/\K:=by
 cases x with
 | box t cs=>
   simp only[EqR] at h;split at h
   ·have:=zB.eq cs _ K h.eq.2;exact⟨by rw[h.eq.1,this.1],this.2⟩
   cases h
 | arr e k d xs=>
   simp only[EqR] at h;split at h
   ·split at h
    ·rename_i hb;simp only[aAO,beq_iff_eq] at hb;exact⟨by rw[aBb hb.1.1,aBb hb.1.2,hb.2,h.1],h.2⟩
    cases h
   cases h
 | hole e k xs i j q=>simp only[EqR] at h
def eU (sl:Sl)(rs:Rl)(h:Nat):Bool:=
 (Nat.ble 100 h&&(match aV rs h with | none=>true | some _=>false))&&sl.all (fun q=> !(bS (bK sl q.1)).contains h)&&rs.all (fun q=>match aV rs q.1 with | some r=> !(fU r).contains h | none=>true)
theorem dV {sl:Sl}{rs:Rl}{h:Nat}(hb:eU sl rs h=true):fE (mk sl rs) h:=by
 unfold eU at hb;simp only[aAO,aDT] at hb;obtain⟨⟨⟨h0,h1⟩,h2⟩,h3⟩:=hb;refine⟨fun t ht=>?_,fun h' r hr hm=>?_,?_,aBH h0⟩
 ·simp only[mk] at ht
  have:t∈sl.map (·.1):=by
   refine Classical.byContradiction fun hn=>?_
   have e: ∀(l:Sl),t ∉ l.map (·.1)->bK l t= .no:=by
    intro l
    induction l with
    | nil=>intro _;rfl
    | cons q l ih=>
      intro hn;simp only[aGQ,aHB,not_or] at hn;simp only[bK];rw[if_neg hn.1];exact ih hn.2
   rw[e sl hn] at ht;simp[bS] at ht
  obtain⟨q,hq,rfl⟩:=aID.1 this;have:=h2 q hq;simp only[Bool.not_eq_true',List.contains_eq_mem,decide_eq_false_iff_not] at this;exact this ht
 ·simp only[mk] at hr
  have:h' ∈rs.map (·.1):=by
   refine Classical.byContradiction fun hn=>?_
   have e: ∀(l:Rl),h' ∉ l.map (·.1)->aV l h' =none:=by
    intro l
    induction l with
    | nil=>intro _;rfl
    | cons q l ih=>
      intro hn;simp only[aGQ,aHB,not_or] at hn;simp only[aV];rw[if_neg hn.1];exact ih hn.2
   rw[e rs hn] at hr;cases hr
  obtain⟨q,hq,rfl⟩:=aID.1 this;have:=h3 q hq;rw[hr] at this;simp only[Bool.not_eq_true',List.contains_eq_mem,decide_eq_false_iff_not] at this;exact this hm
 simp only[mk];cases hf:aV rs h with
 | none=>rfl
 | some r=>simp[hf] at h1
def arW (k:IntKind)(r:Int)(t:T)(K:AV->T->Prop):Prop:=match k with
 | .i64=>match t with | .raw t=>K (.p none (.int .i64 (IntKind.i64.wrap r))) t | t=>cW r/\K (.p none (.int .i64 r)) t
 | k=>K (.p none (.int k (k.wrap r))) t
def lO (op:BinOp)(k:IntKind)(m n:Int):Int:=k.wrap (match op with
 | .and=>(BitVec.ofInt k.bits m&&&BitVec.ofInt k.bits n).toNat
 | .or=>(BitVec.ofInt k.bits m ||| BitVec.ofInt k.bits n).toNat
 | .xor=>(BitVec.ofInt k.bits m^^^BitVec.ofInt k.bits n).toNat
 | _=>(BitVec.ofInt k.bits m&&& ~~~ BitVec.ofInt k.bits n).toNat:Nat)
def aO6 (op:BinOp)(k:IntKind)(m n:Int)(t:T)(K:AV->T->Prop):Prop:=match op with
 | .lss=>K (vB (decide (m<n))) t
 | .leq=>K (vB (decide (m<=n))) t
 | .gtr=>K (vB (decide (n<m))) t
 | .geq=>K (vB (decide (n<=m))) t
 | .eql=>K (vB (decide (m=n))) t
 | .neq=>K (vB (!decide (m=n))) t
 | .add=>arW k (m+n) t K
 | .sub=>arW k (m - n) t K
 | .mul=>arW k (m*n) t K
 | .quo=>n≠0/\arW k (m.tdiv n) t K
 | .rem=>n≠0/\K (.p none (.int k (m.tmod n))) t
 | .and=>K (.p none (.int k (lO .and k m n))) t
 | .or=>K (.p none (.int k (lO .or k m n))) t
 | .xor=>K (.p none (.int k (lO .xor k m n))) t
 | .andNot=>K (.p none (.int k (lO .andNot k m n))) t
 | _=>False
def shW (op:BinOp)(k:IntKind)(m n:Int)(t:T)(K:AV->T->Prop):Prop:=match k with
 | .i64=>match op with
   | .shl=>(0<=n/\n<=64)/\arW .i64 (m*2^n.toNat) t K
   | .shr=>(0<=n/\n<=64)/\K (.p none (.int .i64 (m/2^n.toNat))) t
   | _=>False
 | _=>False
def aO7 (op:BinOp)(m n:ByteArray)(t:T)(K:AV->T->Prop):Prop:=match op with
 | .eql=>K (vB (m.toList==n.toList)) t
 | .neq=>K (vB (!(m.toList==n.toList))) t
 | .add=>m.size+n.size<=9223372036854775807/\K (.p none (.str (m++n))) t
 | .lss=>K (vB (Op.bytesLess m.toList n.toList)) t
 | .geq=>K (vB (!Op.bytesLess m.toList n.toList)) t
 | _=>False
def eq1:Nat->bB->bB->Option Bool
 | 0,.int k a,.int k' b=>if k=k' then some (a==b) else none
 | 1,.bool a,.bool b=>some (a==b)
 | 2,.str a,.str b=>some (a.toList==b.toList)
 | _,_,_=>none
def aEt:List Nat->List bB->List bB->Option Bool
 | [],[],[]=>some true
 | k::ks,x::xs,y::ys=>(match eq1 k x y with | some b=>(match aEt ks xs ys with | some c=>some (b&&c) | none=>none) | none=>none)
 | _,_,_=>none
def aEB:List AV->Option (List bB)
 | []=>some []
 | .p none x::l=>(match x.val? with | some _=>(match aEB l with | some xs=>some (x::xs) | none=>none) | none=>none)
 | _::_=>none
def aO8 (tb:Tb)(op:BinOp)(ty:TypeId)(xs ys:List AV)(t:T)(K:AV->T->Prop):Prop:=match bX tb.se ty with
 | some ks=>(match aEB xs with
   | some ds=>(match aEB ys with
     | some es=>(match aEt ks ds es with
       | some b=>(match op with | .eql=>K (vB b) t | .neq=>K (vB (!b)) t | _=>False)
       | none=>False)
     | none=>False)
   | none=>False)
 | none=>False
def aO9 (tb:Tb)(op:BinOp)(ty:TypeId)(x y:AV)(t:T)(K:AV->T->Prop):Prop:=
 match x with
 | .p none (.int k m)=>(match y with
   | .p none (.int k' n)=>(match op with
     | .shl=>shW .shl k m n t K
     | .shr=>shW .shr k m n t K
     | op=>if k=k' then aO6 op k m n t K else False)
   | _=>False)
 | .p none (.bool m)=>(match y with
   | .p none (.bool n)=>(match bX tb.bo ty with
     | some _=>(match op with
       | .eql=>K (vB (m==n)) t
       | .neq=>K (vB (!(m==n))) t
       | _=>False)
     | none=>False)
   | _=>False)
 | .p none (.str m)=>(match y with
   | .p none (.str n)=>aO7 op m n t K
   | _=>False)
 | .agg xs=>(match y with
   | .agg ys=>aO8 tb op ty xs ys t K
   | _=>False)
 | _=>False
def unW (op:UnOp)(x:AV)(t:T)(K:AV->T->Prop):Prop:=match op with
 | .not=>(match x with | .p none (.bool b)=>K (vB (!b)) t | _=>False)
 | .neg=>(match x with | .p none (.int k m)=>arW k (-m) t K | _=>False)
 | _=>False
def aK5 (c x y:AV)(t:T)(K:AV->T->Prop):Prop:=match c with
 | .p none (.bool b)=>(match t with
   | .br t1 t2=>(b=true->K x t1)/\(b=false->K y t2)
   | .lit t=>(match b with | true=>K x t | false=>K y t)
   | .yes t=>b=true/\K x t
   | .no t=>b=false/\K y t
   | t=>(match b with | true=>K x t | false=>K y t))
 | _=>False
def nA (rs:Rl):Option Nat->Bool
 | none=>true
 | some h=>(aV rs h).isSome
def aIM (xs:List (List bB))(i:Nat)(t:T)(K:List bB->T->Prop):Prop:=match t with
 | .elem _ enc l t=>xs=l.map enc/\i<l.length/\ ∀x,l[i]? =some x->K (enc x) (t x)
 | .row r t=>xs[i]? =some r/\K r t
 | _=>False
def aOa (tb:Tb)(rs:Rl)(ty:TypeId)(x y:AV)(t:T)(K:AV->T->Prop):Prop:=
 match y with
 | .p none (.int _ n)=>(match bX tb.sl ty with
   | some e=>(match bX tb.ty e with
     | some q=>(match x with
       | .p o (.sl _ k xs)=>(match Nat.beq k q.2.1&&nA rs o with
         | true=>0<=n/\aIM xs n.toNat t (fun r t=>K (.rp o r) t)
         | false=>False)
       | .own h=>(match aV rs h with
         | some (.arr _ k _ xs)=>(match Nat.beq k q.2.1 with
           | true=>(match t with | .len m t=>0<=n/\xs.length=m/\n<m/\K (.ep h k n.toNat 0) t | _=>False)
           | false=>False)
         | some (.hole _ k xs _ _ _)=>(match Nat.beq k q.2.1 with
           | true=>(match t with | .len m t=>0<=n/\xs.length=m/\n<m/\K (.ep h k n.toNat 0) t | _=>False)
           | false=>False)
         | _=>False)
       | _=>False)
     | none=>False)
   | none=>False)
 | _=>False
def aOb (tb:Tb)(rs:Rl)(s:TypeId)(x:AV)(f:Nat)(K:AV->Prop):Prop:=match bX tb.fl s with
 | some l=>(match bX l f with
   | some q=>(match x with
     | .ptr h o=>K (.ptr h (o+q.1))
     | .ep h k i o=>(match nA rs (some h) with | true=>K (.ep h k i (o+q.1)) | false=>False)
     | .rp o xs=>(match nA rs o with | true=>K (.rp o (xs.drop q.1)) | false=>False)
     | _=>False)
   | none=>False)
 | none=>False
def aK6 (tb:Tb)(rs:Rl)(ty:TypeId)(x:AV)(t:T)(K:AV->T->Prop):Prop:=match bX tb.ty ty with
 | some (ag,n,_,_)=>(match x with
   | .ptr h off=>(match aV rs h with
     | some (.box _ cs)=>(match ag with
       | true=>(match Nat.ble (off+n) cs.length with | true=>K (.agg ((cs.drop off).take n)) t | false=>False)
       | false=>(match cs[off]? with | some v=>K v t | none=>False))
     | _=>False)
   | .rp o xs=>(match nA rs o with
     | true=>(match ag with
       | true=>(match Nat.ble n xs.length with | true=>K (.agg ((xs.take n).map (pOf o))) t | false=>False)
       | false=>(match xs[0]? with | some y=>K (pOf o y) t | none=>False))
     | false=>False)
   | .ep h k i off=>(match aV rs h with
     | some (.arr _ k' dp xs)=>(match Nat.beq k k' with
       | true=>aIM xs i t (fun row t=>match ag with
         | true=>(match Nat.ble (off+n) row.length with | true=>K (.agg (((row.drop off).take n).map (pOf (match dp with | true=>some h | false=>none)))) t | false=>False)
         | false=>(match row[off]? with | some y=>K (pOf (match dp with | true=>some h | false=>none) y) t | none=>False))
       | false=>False)
     | some (.hole _ k' _ i' j h')=>(match Nat.beq k k' &&Nat.beq off j&& !ag with
       | true=>i=i' /\K (.own h') t
       | false=>False)
     | _=>False)
   | _=>False)
 | none=>False
def qJ (rs:Rl):AV->Bool
 | .p o _=>nA rs o
 | .own h=>nA rs (some h)
 | .ptr h _=>nA rs (some h)
 | .ep h _ _ _=>nA rs (some h)
 | .rp o _=>nA rs o
 | .bsl h _=>nA rs (some h)
 | .fn _ _=>true
 | .nil=>true
 | .agg _=>true
 | _=>false
def aAU:List AV->Option (List bB)
 | []=>some []
 | .p none x::l=>(match x.val? with
   | some _=>(match aAU l with | some ds=>some (x::ds) | none=>none)
   | none=>none)
 | _=>none
def tP:List bB->Bool
 | []=>true
 | x::l=>x.val?.isSome&&tP l
def stW (tb:Tb)(rs:Rl)(ty:TypeId)(x y:AV)(t:T)(K:List Nat->List (Nat × Rs)->T->Prop):Prop:=match bX tb.ty ty with
 | some (_,n,_,_)=>(match x with
   | .ptr h off=>(match aV rs h with
     | some (.box tq cs)=>(match qJ rs y&&Nat.beq (dD y).length n&&Nat.ble (off+n) cs.length with
       | true=>K [h] [(h,.box tq (cs.take off++dD y++cs.drop (off+n)))] t
       | false=>False)
     | _=>False)
   | .ep h k i off=>(match aV rs h with
     | some (.arr e k' dp xs)=>(match Nat.beq k k' with
       | true=>(match aAU (dD y) with
         | some ys=>(match Nat.beq ys.length n with
           | true=>(match t with
             | .set _ enc l y t=>xs=l.map enc/\i<l.length/\ ∀x,l[i]? =some x->tP (enc x)=true/\off+n<=(enc x).length/\(enc x).take off++ys++(enc x).drop (off+n)=enc (y x)/\K [h] [(h,.arr e k dp ((l.set i (y x)).map enc))] (t x)
             | _=>False)
           | false=>False)
         | none=>False)
       | false=>False)
     | _=>False)
   | _=>False)
 | none=>False
def aHT (tb:Tb)(rs:Rl)(ty:TypeId)(parts:List (Nat × AV))(K:AV->Prop):Prop:=match bX tb.pl ty with
 | some (z,ps)=>(match parts.all (fun q=>qJ rs q.2) with
   | true=>(match oL (ps.toArray[·]?) (z.cells.toList.map avC) parts with | some cs=>K (.agg cs) | none=>False)
   | false=>False)
 | none=>False
def aAn (k:Nat):Nat->List bB->List (List bB)
 | 0,_=>[]
 | n+1,l=>l.take k::aAn k n (l.drop k)
def aOc (tb:Tb)(sl:Sl)(rs:Rl)(d:Nat)(ty:TypeId)(n:Nat)(parts:List (Nat × AV))(K:AV->List (Nat × Rs)->Prop):Prop:=match bX tb.sl ty with
 | some e=>(match bX tb.ty e with
   | some (_,k,_,_)=>(match eU sl rs (100*d) with
     | true=>(match n with
       | 0=>(match parts with | []=>K (.own (100*d)) [(100*d,.arr e k true [])] | _=>False)
       | n=>(match parts.all (fun q=>qJ rs q.2)&&Nat.ble (n*k) 16777216&&Nat.blt 0 (n*k) with
         | true=>(match oL (fun i=>some (i*k,k)) (List.replicate (n*k) AV.no) parts with
           | some cs=>(match aAU cs with
             | some ds=>(match Nat.beq ds.length (n*k) with | true=>K (.own (100*d)) [(100*d,.arr e k true (aAn k n ds))] | false=>False)
             | none=>(match (eH cs).contains (100*d) with | true=>False | false=>K (.bsl (100*d) n) [(100*d,.box e cs)]))
           | none=>False)
         | false=>False))
     | false=>False)
   | none=>False)
 | none=>False
def tQ:List Value->List bB->Bool
 | [],[]=>true
 | .int k n::vs,.int k' m::ds=>(if k=k' then true else false)&&(if n=m then true else false)&&tQ vs ds
 | .bool a::vs,.bool b::ds=>(a==b)&&tQ vs ds
 | .slice none 0 0::vs,.sl _ _ []::ds=>tQ vs ds
 | .string ⟨⟨[]⟩⟩::vs,.str ⟨⟨[]⟩⟩::ds=>tQ vs ds
 | _,_=>false
def mkW (tb:Tb)(sl:Sl)(rs:Rl)(d:Nat)(ty:TypeId)(x y:AV)(t:T)(K:AV->List (Nat × Rs)->T->Prop):Prop:=match bX tb.sl ty with
 | some e=>(match bX tb.ty e with
   | some (_,k,bt,z)=>(match eU sl rs (100*d) with
     | true=>(match x with
       | .p none (.int _ a)=>(match y with
         | .p none (.int _ b)=>(match t with
           | .mk n zr zs t=>(match tQ z.cells.toList zr with
             | true=>a=n/\b=n/\bt*n<=281474976710656/\n<=9223372036854775807/\List.replicate n zr=zs/\K (.own (100*d)) [(100*d,.arr e k true zs)] t
             | false=>False)
           | _=>False)
         | _=>False)
       | _=>False)
     | false=>False)
   | none=>False)
 | none=>False
def aOd (rs:Rl)(x:AV)(t:T)(K:AV->T->Prop):Prop:=match x with
 | .p o (.sl _ _ xs)=>(match nA rs o with
   | true=>(match t with | .len n t=>xs.length=n/\K (vI n) t | _=>False)
   | false=>False)
 | .own h=>(match aV rs h with
   | some (.arr _ _ _ xs)=>(match t with | .len n t=>xs.length=n/\K (vI n) t | _=>False)
   | _=>False)
 | .nil=>K (vI 0) t
 | _=>False
def wS (rs:Rl):List AV->List bB->Prop->Prop
 | [],row,K=>(match row with | []=>K | _=>False)
 | c::cs,row,K=>(match row with
   | []=>False
   | x::row=>(match c with
     | .p none y=>(match y.val? with | some _=>EqD y x/\wS rs cs row K | none=>False)
     | .own g=>(match x with
       | .sl e k ys=>(match aV rs g with
         | some (.arr e' k' true xs)=>(match Nat.beq e' e&&Nat.beq k' k with | true=>xs=ys/\wS rs cs row K | false=>False)
         | _=>False)
       | _=>False)
     | .nil=>(match x with | .sl _ _ ys=>ys= []/\wS rs cs row K | _=>False)
     | _=>False))
def tR:List AV->List Nat
 | []=>[]
 | .own g::cs=>g::tR cs
 | _::cs=>tR cs
def aMc (rs:Rl)(e k:Nat)(x:AV)(K:List Nat->Bool->List (List bB)->Prop):Prop:=match x with
 | .own h=>(match aV rs h with
   | some (.arr e' k' dp xs)=>(match Nat.beq e' e&&Nat.beq k' k with | true=>K [h] dp xs | false=>False)
   | _=>False)
 | .nil=>K [] true []
 | _=>False
def aMd (rs:Rl)(k:Nat)(x:AV)(K:List (List bB)->Prop):Prop:=match x with
 | .p o (.sl _ k' xs)=>(match nA rs o&&Nat.beq k' k with | true=>K xs | false=>False)
 | .own h=>(match aV rs h with
   | some (.arr _ k' _ xs)=>(match Nat.beq k' k with | true=>K xs | false=>False)
   | _=>False)
 | .nil=>K []
 | _=>False
def aFu:List AV->Option (List bB)
 | []=>some []
 | .p none x::cs=>(match aFu cs with | some r=>some (x::r) | none=>none)
 | _=>none
def sA:Nat->Nat->List bB->List (List bB)
 | 0,_,_=>[]
 | n+1,k,row=>row.take k::sA n k (row.drop k)
def roW (rs:Rl)(k:Nat)(x:AV)(K:List (List bB)->Prop):Prop:=match x with
 | .p none (.sl _ k' xs)=>(match Nat.beq k' k with | true=>K xs | false=>False)
 | .bsl h n=>(match aV rs h with
   | some (.box _ cs)=>(match aFu cs with | some row=>(match Nat.beq row.length (n*k) with | true=>K (sA n k row) | false=>False) | none=>False)
   | _=>False)
 | _=>False
def aK7 (dp:Bool)(xs:List (List bB))(K:Prop):Prop:=match dp with
 | false=>K
 | true=>(match xs with | []=>K | _=>False)
def jO:List Nat->Bool
 | []=>true
 | x::l=> !l.contains x&&jO l
def aOe (tb:Tb)(sl:Sl)(rs:Rl)(d:Nat)(ty:TypeId)(s x:AV)(t:T)(K:AV->List Nat->List (Nat × Rs)->T->Prop):Prop:=match bX tb.sl ty with
 | some e=>(match bX tb.ty e with
   | some (_,k,bt,_)=>(match eU sl rs (100*d)&&Nat.blt 0 k&&Nat.blt 0 bt with
     | true=>aMc rs e k s (fun del dp xs=>match t with
       | .app _ enc l l2 t=>xs=l.map enc/\aMd rs k x (fun ys=>ys=l2.map enc)/\(∀x,tP (enc x)=true)/\(l.length+l2.length)*bt<=140737488355328/\K (.own (100*d)) del [(100*d,.arr e k dp ((l++l2).map enc))] t
       | .appr _ enc l l2 t=>aK7 dp xs (xs=l.map enc/\roW rs k x (fun ys=>ys=l2.map enc/\(l.length+l2.length)*bt<=140737488355328/\K (.own (100*d)) del [(100*d,.arr e k false ((l++l2).map enc))] t))
       | .appx _ enc l y t=>(match dp with
         | true=>(match x with
           | .bsl h2 1=>(match aV rs h2 with
             | some (.box _ cs)=>(match jO (del++tR cs) with
               | true=>(match Nat.beq (enc y).length k with | true=>xs=l.map enc/\wS rs cs (enc y) ((l.length+1)*bt<=140737488355328/\K (.own (100*d)) (del++tR cs) [(100*d,.arr e k true ((l++[y]).map enc))] t) | false=>False)
               | false=>False)
             | _=>False)
           | _=>False)
         | false=>False)
       | _=>False)
     | false=>False)
   | none=>False)
 | none=>False
def aOf (tb:Tb)(sl:Sl)(rs:Rl)(d:Nat)(ty:TypeId)(n:Nat)(parts:List (Nat × AV)){α:Type}(enc:α->List bB)(y:α)(K:AV->List Nat->List (Nat × Rs)->Prop):Prop:=match bX tb.sl ty with
 | some e=>(match bX tb.ty e with
   | some (_,k,_,_)=>(match eU sl rs (100*d)&&Nat.beq n 1&&parts.all (fun q=>qJ rs q.2)&&Nat.ble (1*k) 16777216&&Nat.blt 0 (1*k)&&Nat.beq (enc y).length k with
     | true=>(match oL (fun i=>some (i*k,k)) (List.replicate (1*k) AV.no) parts with
       | some cs=>(match jO (tR cs) with
         | true=>wS rs cs (enc y) (K (.own (100*d)) (tR cs) [(100*d,.arr e k true ([y].map enc))])
         | false=>False)
       | none=>False)
     | false=>False)
   | none=>False)
 | none=>False
def aK8 (tb:Tb)(sl:Sl)(rs:Rl)(d:Nat)(ty:TypeId)(s x:AV){α:Type}(enc:α->List bB)(l:List α)(y:α)(K:AV->List Nat->List (Nat × Rs)->Prop):Prop:=match bX tb.sl ty with
 | some e=>(match bX tb.ty e with
   | some (_,k,bt,_)=>(match eU sl rs (100*d)&&Nat.beq k 1&&Nat.blt 0 bt with
     | true=>aMc rs e 1 s (fun del dp xs=>match dp with
       | true=>(match x with
         | .bsl h2 1=>(match aV rs h2 with
           | some (.box _ [.own hp])=>(match aV rs hp with
             | some (.arr e3 k3 true ys)=>(match jO (hp::del) with
               | true=>xs=l.map enc/\enc y= [.sl e3 k3 ys]/\(l.length+1)*bt<=140737488355328/\K (.own (100*d)) del [(100*d,.hole e 1 ((l++[y]).map enc) l.length 0 hp)]
               | false=>False)
             | _=>False)
           | _=>False)
         | _=>False)
       | false=>False)
     | false=>False)
   | _=>False)
 | _=>False
def aK9 (tb:Tb)(sl:Sl)(rs:Rl)(d:Nat)(ty:TypeId)(s x:AV){α:Type}(enc:α->List bB)(l:List α)(y:α)(K:AV->List Nat->List (Nat × Rs)->Prop):Prop:=match bX tb.sl ty with
 | some e=>(match bX tb.ty e with
   | some (_,k,bt,_)=>(match eU sl rs (100*d)&&Nat.blt 0 k&&Nat.blt 0 bt with
     | true=>(match s with
       | .own h0=>(match aV rs h0 with
         | some (.hole e' k' xs i j hp)=>(match x with
           | .bsl h2 1=>(match aV rs h2 with
             | some (.box _ cs)=>(match Nat.beq e' e&&Nat.beq k' k&&jO (hp::h0::tR cs)&& !Nat.beq hp (100*d)&&Nat.beq (enc y).length k with
               | true=>xs=l.map enc/\wS rs cs (enc y) ((l.length+1)*bt<=140737488355328/\K (.own (100*d)) (h0::tR cs) [(100*d,.hole e k ((l++[y]).map enc) i j hp)])
               | false=>False)
             | _=>False)
           | _=>False)
         | _=>False)
       | _=>False)
     | false=>False)
   | _=>False)
 | _=>False
def aOg (tb:Tb)(sl:Sl)(rs:Rl)(d:Nat)(ty:TypeId)(s x:AV)(t:T)(K:AV->List Nat->List (Nat × Rs)->T->Prop):Prop:=match t with
 | .apph _ enc l y t=>aK8 tb sl rs d ty s x enc l y (fun v del new=>K v del new t)
 | .appy _ enc l y t=>aK9 tb sl rs d ty s x enc l y (fun v del new=>K v del new t)
 | t=>aOe tb sl rs d ty s x t K
def aKa (P:Program)(sl:Sl)(rs:Rl)(d:Nat)(f:FuncId)(args:List AV)(t:T)(K:AV->List (Nat × Rs)->T->Prop):Prop:=match t with
 | .call rv rr t=>(match aAR rs args with
   | some ys=>(match ((iS rv&&rr.all fun q=>aDo q.2) || mX args)&&(rr.all fun q=>aD5 q.2&&eU sl rs (100*d+q.1))&&((bS rv).all fun h=>(aS rr h).isSome) with
     | true=>Con P f ys rv rr/\K (jA (100*d+ ·) rv) (rr.map fun q=>(100*d+q.1,q.2)) t
     | false=>False)
   | none=>False)
 | _=>False
def aZ (b:Int):List bB:=[.int .u8 b]
def aFv (l:List Int):ByteArray:=⟨(l.map fun n=>UInt8.ofNat n.toNat).toArray⟩
def sB (s:ByteArray)(i:Nat):Int:=((s.data.toList.getD i 0).toNat:Nat)
def cvW (tb:Tb)(rs:Rl)(src dst:TypeId)(x:AV)(t:T)(K:AV->T->Prop):Prop:=match bX tb.nt dst with
 | some k=>(match bX tb.nt src with
   | some _=>(match x with | .p none (.int _ n)=>arW k n t K | _=>False)
   | none=>False)
 | none=>(match bX tb.st dst with
   | some _=>(match bX tb.sl src with
     | some e=>(match bX tb.nt e with
       | some .u8=>(match t with
         | .bytes l t=>aMd rs 1 x (fun xs=>xs=l.map aZ)/\K (.p none (.str (aFv l))) t
         | _=>False)
       | _=>False)
     | none=>False)
   | none=>False)
def aOh (tb:Tb)(ty:TypeId)(x y:AV)(t:T)(K:AV->T->Prop):Prop:=match bX tb.st ty with
 | some _=>(match x with
   | .p none (.str s)=>(match y with
     | .p none (.int _ n)=>0<=n/\n<s.size/\K (.p none (.int .u8 (sB s n.toNat))) t
     | _=>False)
   | _=>False)
 | none=>False
def aOi (tb:Tb)(ty:TypeId)(x:AV)(lo hi:Option AV)(t:T)(K:AV->T->Prop):Prop:=match bX tb.st ty with
 | some _=>(match x with
   | .p none (.str s)=>(match lo with
     | none=>(match hi with
       | none=>False
       | some (.p none (.int _ b))=>0<=b/\b<=s.size/\K (.p none (.str (s.extract 0 b.toNat))) t
       | _=>False)
     | some (.p none (.int _ a))=>(match hi with
       | none=>0<=a/\a<=s.size/\K (.p none (.str (s.extract a.toNat s.size))) t
       | some (.p none (.int _ b))=>0<=a/\a<=b/\b<=s.size/\K (.p none (.str (s.extract a.toNat b.toNat))) t
       | _=>False)
     | _=>False)
   | _=>False)
 | none=>False
def aOj (tb:Tb)(rs:Rl)(ty:TypeId)(x:AV)(lo hi:Option AV)(t:T)(K:AV->T->Prop):Prop:=match bX tb.sl ty with
 | some e=>(match bX tb.ty e with
   | some (_,k,_,_)=>(match x with
     | .p o (.sl e' k' xs)=>(match nA rs o&&Nat.beq k' k with
       | true=>(match t with
         | .sub _ enc l t=>(match lo with
           | none=>(match hi with
             | some (.p none (.int _ b))=>xs=l.map enc/\0<=b/\b<=(l.length:Int)/\K (.p o (.sl e' k' ((l.take b.toNat).map enc))) t
             | _=>False)
           | some (.p none (.int _ a))=>(match hi with
             | none=>xs=l.map enc/\0<=a/\a<=(l.length:Int)/\K (.p o (.sl e' k' ((l.drop a.toNat).map enc))) t
             | some (.p none (.int _ b))=>xs=l.map enc/\0<=a/\a<=b/\b<=(l.length:Int)/\K (.p o (.sl e' k' (((l.take b.toNat).drop a.toNat).map enc))) t
             | _=>False)
           | _=>False)
         | _=>False)
       | false=>False)
     | _=>False)
   | none=>False)
 | none=>aOi tb ty x lo hi t K
def aMe (rs:Rl):AV->Option (AV × List Nat)
 | .own h=>(match aV rs h with | some (.arr e k _ xs)=>some (.p none (.sl e k xs),[h]) | _=>none)
 | .p none x=>some (.p none x,[])
 | .nil=>some (.nil,[])
 | _=>none
def aHU (rs:Rl):List AV->Option (List AV × List Nat)
 | []=>some ([],[])
 | c::cs=>(match aMe rs c with | some q=>(match aHU rs cs with | some r=>some (q.1::r.1,q.2++r.2) | none=>none) | none=>none)
def aJM (rs:Rl):AV->Option (AV × List Nat)
 | .agg cs=>(match aHU rs cs with | some q=>some (.agg q.1,q.2) | none=>none)
 | x=>aMe rs x
def aIN (rs:Rl)(d:Nat)(x:AV)(t:T)(K:AV->List Nat->T->Prop):Prop:=match t with
 | .stl d' t=>(match Nat.beq d' d with
   | true=>(match aJM rs x with | some q=>K q.1 q.2 t | none=>False)
   | false=>K x [] (.stl d' t))
 | t=>K x [] t
def aHV (tb:Tb)(s:TypeId)(x:AV)(f:Nat)(K:AV->Prop):Prop:=match bX tb.fl s with
 | some l=>(match bX l f with
   | some q=>(match bX tb.ty q.2 with
     | some (g,n,_,_)=>(match x with
       | .agg cs=>(match g with
         | true=>(match Nat.ble (q.1+n) cs.length with | true=>K (.agg ((cs.drop q.1).take n)) | false=>False)
         | false=>(match cs[q.1]? with | some y=>K y | none=>False))
       | _=>False)
     | none=>False)
   | none=>False)
 | none=>False
def aOk (P:Program)(tb:Tb)(sl:Sl)(rs:Rl)(d:Nat)(o:Op)(t:T)(K:AV->List Nat->List (Nat × Rs)->T->Prop):Prop:=match o with
 | .move x=>aIN rs d (cH sl x) t (fun v del t=>K v del [] t)
 | .assign x=>aIN rs d (cH sl x) t (fun v del t=>K v del [] t)
 | .pick c x y=>aK5 (cH sl c) (cH sl x) (cH sl y) t (fun v t=>K v [] [] t)
 | .extract x i=>(match cH sl x with | .tup vs=>(match vs[i]? with | some v=>K v [] [] t | none=>False) | _=>False)
 | .binOp op ty x y _=>aO9 tb op ty (cH sl x) (cH sl y) t (fun v t=>K v [] [] t)
 | .unOp op _ x=>unW op (cH sl x) t (fun v t=>K v [] [] t)
 | .fieldAddr s x f=>aOb tb rs s (cH sl x) f (fun v=>K v [] [] t)
 | .field s x f=>aHV tb s (cH sl x) f (fun v=>K v [] [] t)
 | .nilCheck x=>(match cH sl x with | .ptr h o=>K (.ptr h o) [] [] t | _=>False)
 | .indexAddr ty x y=>aOa tb rs ty (cH sl x) (cH sl y) t (fun v t=>K v [] [] t)
 | .load ty x=>aK6 tb rs ty (cH sl x) t (fun v t=>K v [] [] t)
 | .alloc ty=>(match bX tb.ty ty with | some (_,_,_,z)=>(match eU sl rs (100*d) with | true=>K (.ptr (100*d) 0) [] [(100*d,.box ty (z.cells.toList.map avC))] t | false=>False) | none=>False)
 | .box ty x=>(match qJ rs (cH sl x)&&eU sl rs (100*d) with | true=>K (.ptr (100*d) 0) [] [(100*d,.box ty (dD (cH sl x)))] t | false=>False)
 | .build ty parts=>aHT tb rs ty (parts.toList.map fun q=>(q.1,cH sl q.2)) (fun v=>K v [] [] t)
 | .buildSlice ty n parts=>(match t with | .bld _ enc y t=>aOf tb sl rs d ty n (parts.toList.map fun q=>(q.1,cH sl q.2)) enc y (fun v del new=>K v del new t) | t=>aOc tb sl rs d ty n (parts.toList.map fun q=>(q.1,cH sl q.2)) (fun v new=>K v [] new t))
 | .makeSlice ty x y=>mkW tb sl rs d ty (cH sl x) (cH sl y) t (fun v new t=>K v [] new t)
 | .call c=>(match c with
   | ⟨.builtin b,⟨args⟩,⟨ts⟩⟩=>(match b with
     | .len=>(match args,ts with
       | [x],[ty]=>(match bX tb.sl ty with
         | some _=>aOd rs (cH sl x) t (fun v t=>K v [] [] t)
         | none=>(match bX tb.st ty with
           | some _=>(match cH sl x with | .p none (.str s)=>K (vI s.size) [] [] t | _=>False)
           | none=>False))
       | _,_=>False)
     | .min=>(match args with
       | [x,y]=>(match cH sl x with | .p none (.int k m)=>(match cH sl y with | .p none (.int _ n)=>K (.p none (.int k (if n<m then n else m))) [] [] t | _=>False) | _=>False)
       | _=>False)
     | .max=>(match args with
       | [x,y]=>(match cH sl x with | .p none (.int k m)=>(match cH sl y with | .p none (.int _ n)=>K (.p none (.int k (if m<n then n else m))) [] [] t | _=>False) | _=>False)
       | _=>False)
     | .append=>(match args,ts with
       | [s,x],[ty,ty']=>EqN ty' ty (aOg tb sl rs d ty (cH sl s) (cH sl x) t K)
       | _,_=>False)
     | _=>False)
   | ⟨.value x,⟨args⟩,_⟩=>(match cH sl x with
     | .fn f caps=>aKa P sl rs d f (args.map (cH sl)++caps) t (fun v new t=>K v [] new t)
     | _=>False)
   | _=>False)
 | .convert src dst x=>cvW tb rs src dst (cH sl x) t (fun v t=>K v [] [] t)
 | .index ty x y=>aOh tb ty (cH sl x) (cH sl y) t (fun v t=>K v [] [] t)
 | .slice ty x lo hi none=>aOj tb rs ty (cH sl x) (lo.map (cH sl)) (hi.map (cH sl)) t (fun v t=>K v [] [] t)
 | .makeFunc (.func f) ⟨[]⟩ captured=>K (.fn f (captured.toList.map (cH sl))) [] [] t
 | _=>False
def opW (P:Program)(tb:Tb)(sl:Sl)(rs:Rl)(dst:Option Nat)(o:Op)(t:T)(K:AV->List Nat->List (Nat × Rs)->T->Prop):Prop:=match dst with
 | some d=>aOk P tb sl rs d o t K
 | none=>(match o with
   | .store ty x y=>stW tb rs ty (cH sl x) (cH sl y) t (fun del new t=>K .no del new t)
   | _=>False)
theorem sC {sl:Sl}{rs:Rl}: ∀{o:Option Nat},nA rs o=true->lR (mk sl rs) o
 | none,_=>trivial
 | some h,e=>Option.isSome_iff_exists.1 e
theorem vZ {rs:Rl}{h:Nat}(e:nA rs (some h)=true): ∃r,aV rs h=some r:=Option.isSome_iff_exists.1 e
theorem xD {k:IntKind}{r:Int}{t:T}{K:AV->T->Prop}(h:arW k r t K): ∃t',K (.p none (.int k (k.wrap r))) t' :=by
 unfold arW at h;split at h
 ·split at h
  ·exact⟨_,h⟩
  have e:IntKind.i64.wrap r=r:=IntWalk.i64_in _ h.1;rw[e];exact⟨_,h.2⟩
 exact⟨_,h⟩
section
variable {K:Nat->Prop} {φ:fK} {A:Nat->Prop} {w0:rV} {N:Nat} {S:St} {a:Act} {w:World} {P:Program}
theorem G.holed (hG:G K φ A w0 N S a w){h e k i j h' :Nat}{xs:List (List bB)}(hr:S.res h=some (.hole e k xs i j h')):
 ∃(pl:Pl) (v:Value) (zs:List Value),φ h=some pl/\w.ownsRow 0 e k pl.val xs.length zs/\pl.top=pl.val.ownBlock.toList/\i<xs.length/\(∀pl',φ h' =some pl' ->v=pl'.val)/\ ∃g,pl.top= [g]/\w.cell? ⟨g,i*k+j,none⟩=some v:=by
 obtain⟨pl,hp,xs1,x1,d,x2,xs2,css1,c1,v,c2,css2,Fs1,F1,F2,Fs2,e0,e1,e2,e3,h1,h2,h3,h4,h5,h6,h7,h8⟩:=hG.dom h _ hr;have hi:i<xs.length:=by rw[e0];simp;omega
 have hl1:=h4.len;have hl2:=h7.len;have hc1:=h5.len;have hc2:=h6.len;have hlen:(css1++(c1++v::c2)::css2).length=xs.length:=by rw[e0];simp;omega
 have hk: ∀c∈css1++(c1++v::c2)::css2,c.length=k:=fun c hc=>by
  rcases aD4.1 hc with hc | hc
  ·exact hl1.2 c hc
  rcases aHB.1 hc with rfl | hc
  ·rw[<-e3];simp;omega
  exact hl2.2 c hc
 obtain⟨b,c,hv,_,_,hb,hcell⟩:=kG h1 hk hlen;obtain⟨g,rfl,hg,hcs⟩:=hcell i (c1++v::c2) (by rw[aHA (by omega)];simp[hl1.1,e1]);refine⟨pl,v,_,hp,h1,h2,hi,h8.2,g,by rw[h2,hg];rfl,hcs j v ?_⟩;rw[aHA (by omega)];simp[hc1,e2]
theorem aAV {o:Oper}{x y:Operand}{t e:TypeId}{k bt:Nat}{ag:Bool}{z:Value}{h i j h' :Nat}{e' :Nat}{xs:List (List bB)}{ik:IntKind}{n:Int}(ho:o.op= .indexAddr t x y)(ht:P.underlying t=some (.slice e))(hk:eM P e=some (ag,k,bt,z))
 (hx:S.ev x= .own h) (hh:S.res h=some (.hole e' k xs i j h')) (hy:S.ev y= .p none (.int ik n)) (h0:0<=n) (hn:n<xs.length):aY P o S ⟨.ep h k n.toNat 0,[],[]⟩:=
 cK fun K φ A w0 N a w hG=>by
  obtain⟨pl,v,zs,hp,hown,htop,_⟩:=hG.holed hh;have h1:=hG.ev x;rw[hx] at h1;unfold aF at h1;have he:=h1 pl hp;have h2:a.eval y= .int ik n:=gS (x:=S.ev y) (by rw[hy];rfl) (hG.ev y);obtain⟨b,c,hv,_,_,hb⟩:=fS hown;obtain⟨g,rfl,_,_⟩:=hb (by omega);rw[hv] at he htop;refine⟨.pointer (some ⟨g,0+n.toNat*k,none⟩),by simp[execOp,ho,he,h2,tH ht hk w ik n xs.length c g 0 h0 hn],?_⟩;unfold aF;exact fun pl' hp' =>by rw[hp] at hp';injection hp' with e;subst e;exact⟨g,by rw[htop];rfl,by simp⟩
theorem aBX {o:Oper}{x:Operand}{t:TypeId}{n bt:Nat}{z:Value}{h e k i j h' :Nat}{xs:List (List bB)}(ho:o.op= .load t x)(ht:eM P t=some (false,n,bt,z))(hx:S.ev x= .ep h k i j)(hh:S.res h=some (.hole e k xs i j h')):
 aY P o S ⟨.own h',[],[]⟩:=
 cK fun K φ A w0 N a w hG=>by
  obtain⟨pl,v,zs,hp,_,_,_,h8,g,hg,hc⟩:=hG.holed hh;have h1:=hG.ev x;rw[hx] at h1;unfold aF at h1;obtain⟨g',hg',he⟩:=h1 pl hp;rw[hg] at hg';simp only[List.cons.injEq,and_true] at hg';subst hg';refine⟨v,?_,by unfold aF;exact h8⟩;simp only[execOp,ho,he,Sem.run_bind];rw[mV ht w g (i*k+j) v hc];rfl
end
section
variable {P:Program} {tb:Tb} {sl:Sl} {rs:Rl} {ty:TypeId} {pos:String} {aft:Array Edge} {d:Nat} {gd:Option (Nat × Bool)}
section
variable {x y:Operand} {s s' :TypeId}
theorem aFx {op:BinOp}{k k' :IntKind}{m n:Int}{r:bB}{v:Value}(hx:cH sl x= .p none (.int k m))(hy:cH sl y= .p none (.int k' n))(hv:r.val? =some v)(hr: ∀w,(binOp op s (.int k m) (.int k' n)).run P w= .ok v w):aY P ⟨some d,.binOp op s x y s',ty,pos,aft,gd⟩ (mk sl rs) ⟨.p none r,[],[]⟩:=
 iT hv (fun e w he=>by
  have h1:=he x _ (qI hx rfl);have h2:=he y _ (qI hy rfl)
  have hg:(eqGuard op s x y (.int k m) (.int k' n)).run P w= .ok () w:=by
   unfold eqGuard;cases op<;>rfl
  simp only[execOp,h1,h2,Sem.run_bind,hg,Result.andThen_ok,hr];rfl)
theorem aMf {op:BinOp}{k:IntKind}{m n:Int}{t:T}{K:AV->T->Prop}(hx:cH sl x= .p none (.int k m))(hy:cH sl y= .p none (.int k n))(h:aO6 op k m n t K): ∃v t',aY P ⟨some d,.binOp op s x y s',ty,pos,aft,gd⟩ (mk sl rs) ⟨v,[],[]⟩/\K v t' :=by
 unfold aO6 at h;split at h
 ·exact⟨_,_,aOP hx hy,h⟩
 ·exact⟨_,_,aOQ hx hy,h⟩
 ·exact⟨_,_,aOR hx hy,h⟩
 ·exact⟨_,_,aOS hx hy,h⟩
 ·exact⟨_,_,aOT hx hy,h⟩
 ·exact⟨_,_,aOU hx hy,h⟩
 ·obtain⟨t',h⟩:=xD h;exact⟨_,_,aOV hx hy,h⟩
 ·obtain⟨t',h⟩:=xD h;exact⟨_,_,aOW hx hy,h⟩
 ·obtain⟨t',h⟩:=xD h;exact⟨_,_,aOX hx hy,h⟩
 ·obtain⟨t',h'⟩:=xD h.2;exact⟨_,_,aOY hx hy h.1,h'⟩
 ·exact⟨_,_,aOZ hx hy h.1,h.2⟩
 ·exact⟨_,_,dU hx hy rfl (fun w=>by simp[binOp,Op.intBits,lO]),h⟩
 ·exact⟨_,_,dU hx hy rfl (fun w=>by simp[binOp,Op.intBits,lO]),h⟩
 ·exact⟨_,_,dU hx hy rfl (fun w=>by simp[binOp,Op.intBits,lO]),h⟩
 ·exact⟨_,_,dU hx hy rfl (fun w=>by simp[binOp,Op.intBits,lO]),h⟩
 cases h
theorem aKb {op:BinOp}{k k' :IntKind}{m n:Int}{t:T}{K:AV->T->Prop}(hx:cH sl x= .p none (.int k m))(hy:cH sl y= .p none (.int k' n))(h:shW op k m n t K): ∃v t',aY P ⟨some d,.binOp op s x y s',ty,pos,aft,gd⟩ (mk sl rs) ⟨v,[],[]⟩/\K v t' :=by
 unfold shW at h;split at h
 ·split at h
  ·obtain⟨⟨h0,h1⟩,h⟩:=h;obtain⟨t',h⟩:=xD h;have hm:min n.toNat 64=n.toNat:=by omega
   refine⟨_,_,aFx hx hy rfl (fun w=>?_),h⟩;simp only[binOp,Op.shift];rw[if_neg (by omega)];simp[IntKind.bits,hm]
  ·obtain⟨⟨h0,h1⟩,h⟩:=h;have hm:min n.toNat 64=n.toNat:=by omega
   refine⟨_,_,aFx hx hy rfl (fun w=>?_),h⟩;simp only[binOp,Op.shift];rw[if_neg (by omega)];have:(0:Int)<=2^n.toNat:=by exact_mod_cast aAd (2^n.toNat)
   simp[IntKind.bits,hm,Int.fdiv_eq_ediv_of_nonneg _ this]
  cases h
 cases h
theorem aMg {op:BinOp}{m n:ByteArray}{t:T}{K:AV->T->Prop}(hx:cH sl x= .p none (.str m))(hy:cH sl y= .p none (.str n))(h:aO7 op m n t K): ∃v t',aY P ⟨some d,.binOp op s x y s',ty,pos,aft,gd⟩ (mk sl rs) ⟨v,[],[]⟩/\K v t' :=by
 unfold aO7 at h;split at h
 ·exact⟨_,_,aD9 hx hy,h⟩
 ·exact⟨_,_,aD8 hx hy,h⟩
 ·refine⟨_,_,oN hx hy rfl (fun w=>?_),h.2⟩;simp only[binOp,Op.stringOp]
  rw [if_neg (by have:=h.1;have e:IntKind.i64.max=9223372036854775807:=by decide
                 rw[e];omega)]
  simp
 ·exact⟨_,_,oN hx hy rfl (fun w=>by simp[binOp,Op.stringOp]),h⟩
 ·exact⟨_,_,oN hx hy rfl (fun w=>by simp[binOp,Op.stringOp]),h⟩
 cases h
theorem aCG {K:Nat->Prop}{φ:fK}{w:World}: ∀{xs:List AV} {ds:List bB} {vs:List Value},aEB xs=some ds->aL K φ w xs vs->ds.map bB.val? =vs.map some
 | [],ds,vs,h,hm=>by
   unfold aEB at h;injection h with h
   subst h;unfold aL at hm;subst hm;rfl
 | x::xs,ds,vs,h,hm=>by
   unfold aEB at h;split at h
   ·rename_i heq;cases heq
   ·rename_i y l heq;injection heq with e1 e2
    subst e1;subst e2;split at h
    ·rename_i u hu;split at h
     ·rename_i ds' hd;injection h with h
      subst h;unfold aL at hm;obtain⟨v,vs',rfl,h1,h2⟩:=hm;unfold aF at h1;rw[(fR.scalar hu).1 h1];simp[hu,aCG hd h2]
     cases h
    cases h
   cases h
theorem aFy {P:Program}{w:World}(dp:Nat): ∀(ks:List Nat) (xs ys:List bB) (us vs:List Value) (fs:List Field) (i:Nat) (U V:Array Value) (b:Bool),aEt ks xs ys=some b->xs.map bB.val? =us.map some->ys.map bB.val? =vs.map some->aEA P i ks fs=true->(∀j u,us[j]? =some u->U[i+j]? =some u)->(∀j u,vs[j]? =some u->V[i+j]? =some u)->
 (Op.eqFields (dp+1) U V fs).run P w= .ok b w
 | [],[],[],us,vs,fs,i,U,V,b,h,_,_,hf,_,_=>by
   unfold aEt at h;injection h with h
   subst h;cases fs with
   | nil=>simp[Op.eqFields]
   | cons f fs=>simp[aEA] at hf
 | k::ks,x::xs,y::ys,us,vs,fs,i,U,V,b,h,hu,hv,hf,hU,hV=>by
   cases us with
   | nil=>simp at hu
   | cons u us=>
   cases vs with
   | nil=>simp at hv
   | cons v vs=>
   cases fs with
   | nil=>simp[aEA] at hf
   | cons f fs=>
   simp only[aGQ,List.cons.injEq] at hu hv;unfold aEA at hf;rw[aAO] at hf;obtain⟨hf1,hf2⟩:=hf;unfold aPX at hf1;simp only[aAO,Bool.not_eq_true',beq_eq_false_iff_ne] at hf1;obtain⟨⟨n1,n2⟩,n3⟩:=hf1;have n2:=aBb n2;unfold aEt at h;split at h
   ·rename_i b1 hb1;split at h
    ·rename_i c hc;injection h with h
     subst h;have ih:=aFy (P:=P) (w:=w) dp ks xs ys us vs fs (i+1) U V c hc hu.2 hv.2 hf2 (fun j q hq=>by have:=hU (j+1) q (by simpa using hq);rw[show i+1+j=i+(j+1) by omega];exact this) (fun j q hq=>by have:=hV (j+1) q (by simpa using hq);rw[show i+1+j=i+(j+1) by omega];exact this);have hU0:=hU 0 u rfl;have hV0:=hV 0 v rfl;rw[Nat.add_zero] at hU0 hV0
     have key:(Op.equalIn (dp+1) f.type u v).run P w= .ok b1 w/\(isAgg f.type).run P w= .ok false w:=by
      split at n3
      ·rename_i kk hk;have:=aBb n3;subst this;unfold eq1 at hb1;split at hb1
       ·rename_i k1 a1 k2 a2;split at hb1
        ·rename_i e;subst e;injection hb1 with hb1
         simp only[bB.val?,Option.some.injEq] at hu hv;rw[<-hu.1,<-hv.1,<-hb1];exact⟨run_equalIn_int w dp f.type _ _ _ _ hk,by simp[isAgg,run_underlying hk]⟩
        cases hb1
       ·rename_i e;cases e
       ·rename_i e;cases e
       cases hb1
      ·rename_i hk;have:=aBb n3;subst this;unfold eq1 at hb1;split at hb1
       ·rename_i e;cases e
       ·injection hb1 with hb1
        simp only[bB.val?,Option.some.injEq] at hu hv;rw[<-hu.1,<-hv.1,<-hb1];exact⟨run_equalIn_bool' w dp f.type _ _ hk,by simp[isAgg,run_underlying hk]⟩
       ·rename_i e;cases e
       cases hb1
      ·rename_i hk;have:=aBb n3;subst this;unfold eq1 at hb1;split at hb1
       ·rename_i e;cases e
       ·rename_i e;cases e
       ·injection hb1 with hb1
        simp only[bB.val?,Option.some.injEq] at hu hv;rw[<-hu.1,<-hv.1,<-hb1];exact⟨run_equalIn_string w dp f.type _ _ hk,by simp[isAgg,run_underlying hk]⟩
       cases hb1
      cases n3
     unfold Op.eqFields;rw[if_pos n1];simp only[part,Sem.run_bind,key.2,Result.andThen_ok,Bool.false_eq_true,if_false,n2,hU0,hV0,Sem.run_pure,key.1,Sem.run_ite];cases b1 with
     | true=>simpa using ih
     | false=>simp
    cases h
   cases h
 | [],[],_::_,_,_,_,_,_,_,_,h,_,_,_,_,_=>by simp[aEt] at h
 | [],_::_,_,_,_,_,_,_,_,_,h,_,_,_,_,_=>by simp[aEt] at h
 | _::_,[],_,_,_,_,_,_,_,_,h,_,_,_,_,_=>by simp[aEt] at h
 | _::_,_::_,[],_,_,_,_,_,_,_,h,_,_,_,_,_=>by simp[aEt] at h
theorem aMh {op:BinOp}{xs ys:List AV}{t:T}{K:AV->T->Prop}(hT:iW P tb)(hx:cH sl x= .agg xs)(hy:cH sl y= .agg ys)(h:aO8 tb op s xs ys t K): ∃v t',aY P ⟨some d,.binOp op s x y s',ty,pos,aft,gd⟩ (mk sl rs) ⟨v,[],[]⟩/\K v t' :=by
 unfold aO8 at h;split at h
 ·rename_i ks hk;have hk:=cA hT.se hk;unfold seB at hk;simp only[aAO,Bool.not_eq_true'] at hk;obtain⟨⟨k1,k2⟩,k3⟩:=hk;split at k1
  ·rename_i fs hfs;have hfo:P.fieldsOf s=fs:=by simp[Program.fieldsOf,hfs]
   split at h
   ·rename_i ds hds;split at h
    ·rename_i es hes;split at h
     ·rename_i b hb
      have run: ∀K φ A w0 N a w,G K φ A w0 N (mk sl rs) a w-> ∃U V:Array Value,a.eval x= .agg U/\a.eval y= .agg V/\(Op.equalIn 10000 s (.agg U) (.agg V)).run P w= .ok b w:=fun K φ A w0 N a w hG=>by
       have h1:=hG.ev x;have h2:=hG.ev y;rw[bN,hx] at h1;rw[bN,hy] at h2;unfold aF at h1 h2;obtain⟨U,e1,_,m1⟩:=h1;obtain⟨V,e2,_,m2⟩:=h2;refine⟨U,V,e1,e2,?_⟩;rw[show (10000:Nat)=9999+1 from rfl,run_equalIn_agg w 9999 s _ _ (by rw[hfo];exact hfs) k2,hfo];exact aFy 9998 ks ds es U.toList V.toList fs.toList 0 U V b hb (aCG hds m1) (aCG hes m2) k1 (fun j u hu=>by simpa using hu) (fun j u hu=>by simpa using hu)
      split at h
      ·refine⟨_,_,cK fun K φ A w0 N a w hG=>?_,h⟩;obtain⟨U,V,e1,e2,hr⟩:=run K φ A w0 N a w hG;refine⟨.bool b,?_,by unfold aF fR;rfl⟩;have hg:(eqGuard .eql s x y (.agg U) (.agg V)).run P w= .ok () w:=run_eqGuard_agg w .eql s x y _ _ k3;simp only[execOp,e1,e2,Sem.run_bind,hg,Result.andThen_ok,run_eql_struct,hr];rfl
      ·refine⟨_,_,cK fun K φ A w0 N a w hG=>?_,h⟩;obtain⟨U,V,e1,e2,hr⟩:=run K φ A w0 N a w hG;refine⟨.bool (!b),?_,by unfold aF fR;rfl⟩;have hg:(eqGuard .neq s x y (.agg U) (.agg V)).run P w= .ok () w:=run_eqGuard_agg w .neq s x y _ _ k3;simp only[execOp,e1,e2,Sem.run_bind,hg,Result.andThen_ok,run_neq_struct,hr];rfl
      cases h
     cases h
    cases h
   cases h
  cases k1
 cases h
theorem aMi {op:BinOp}{t:T}{K:AV->T->Prop}(hT:iW P tb)(h:aO9 tb op s (cH sl x) (cH sl y) t K): ∃v t',aY P ⟨some d,.binOp op s x y s',ty,pos,aft,gd⟩ (mk sl rs) ⟨v,[],[]⟩/\K v t' :=by
 unfold aO9 at h;split at h
 ·rename_i k m hx;split at h
  ·rename_i k' n hy;split at h
   ·exact aKb hx hy h
   ·exact aKb hx hy h
   split at h
   ·rename_i e;subst e;exact aMf hx hy h
   cases h
  cases h
 ·rename_i m hx;split at h
  ·rename_i n hy;split at h
   ·rename_i u hu;have hu:=cA hT.bo hu;split at h
    ·exact⟨_,_,aFp hu hx hy,h⟩
    ·exact⟨_,_,aFo hu hx hy,h⟩
    cases h
   cases h
  cases h
 ·rename_i m hx;split at h
  ·rename_i n hy;exact aMg hx hy h
  cases h
 ·rename_i xs hx;split at h
  ·rename_i ys hy;exact aMh hT hx hy h
  cases h
 cases h
theorem aOl {op:UnOp}{t:T}{K:AV->T->Prop}(h:unW op (cH sl x) t K): ∃v t',aY P ⟨some d,.unOp op s x,ty,pos,aft,gd⟩ (mk sl rs) ⟨v,[],[]⟩/\K v t' :=by
 unfold unW at h;split at h
 ·split at h
  ·rename_i b hx;exact⟨_,_,aO0 hx,h⟩
  cases h
 ·split at h
  ·rename_i k m hx;obtain⟨t',h⟩:=xD h;exact⟨_,t',aO1 hx,by rw[Int.zero_sub];exact h⟩
  cases h
 cases h
theorem aKc {c:Operand}{t:T}{K:AV->T->Prop}(h:aK5 (cH sl c) (cH sl x) (cH sl y) t K): ∃v t',aY P ⟨some d,.pick c x y,ty,pos,aft,gd⟩ (mk sl rs) ⟨v,[],[]⟩/\K v t' :=by
 unfold aK5 at h;split at h
 ·rename_i b hc;split at h
  ·cases b with
   | true=>exact⟨_,_,pO hc rfl,h.1 rfl⟩
   | false=>exact⟨_,_,pO hc rfl,h.2 rfl⟩
  ·cases b with
   | true=>exact⟨_,_,pO hc rfl,h⟩
   | false=>exact⟨_,_,pO hc rfl,h⟩
  ·obtain⟨e,h⟩:=h;subst e;exact⟨_,_,pO hc rfl,h⟩
  ·obtain⟨e,h⟩:=h;subst e;exact⟨_,_,pO hc rfl,h⟩
  cases b with
  | true=>exact⟨_,_,pO hc rfl,h⟩
  | false=>exact⟨_,_,pO hc rfl,h⟩
 cases h
theorem aFz {xs:List (List bB)}{i:Nat}{t:T}{K:List bB->T->Prop}(h:aIM xs i t K): ∃r t',xs[i]? =some r/\K r t' :=by
 unfold aIM at h;split at h
 ·obtain⟨rfl,h1,h2⟩:=h;rename_i l t' ;exact⟨_,_,aAT (aBI h1),h2 _ (aBI h1)⟩
 ·exact⟨_,_,h.1,h.2⟩
 cases h
theorem aMj {t:T}{K:AV->T->Prop}(hT:iW P tb)(h:aOa tb rs s (cH sl x) (cH sl y) t K): ∃v t',aY P ⟨some d,.indexAddr s x y,ty,pos,aft,gd⟩ (mk sl rs) ⟨v,[],[]⟩/\K v t' :=by
 unfold aOa at h;split at h
 ·rename_i ik n hy;split at h
  ·rename_i e he;split at h
   ·rename_i q hq;obtain⟨ag,k0,bt,z⟩:=q;have he:=cA hT.sl he;have hq:=cA hT.ty hq;split at h
    ·rename_i o te k xs hx;split at h
     ·rename_i hb;rw[aAO] at hb;have hk:=aBb hb.1
      dsimp only at hk
      subst hk;obtain⟨r,t',h1,h2⟩:=aFz h.2;exact⟨_,_,aD0 (o' :=o) rfl he hq (by rw[bN];exact hx) (sC hb.2) (by rw[bN];exact hy) h.1 h1,h2⟩
     cases h
    ·rename_i hh hx;split at h
     ·rename_i e' k dp xs hr;split at h
      ·rename_i hb;have hk:=aBb hb
       dsimp only at hk
       subst hk;split at h
       ·obtain⟨h0,h1,h2,h3⟩:=h;exact⟨_,_,aJD he hq hx hr hy h0 (by omega),h3⟩
       cases h
      cases h
     ·rename_i e' k xs _ _ _ hr;split at h
      ·rename_i hb;have hk:=aBb hb
       dsimp only at hk
       subst hk;split at h
       ·obtain⟨h0,h1,h2,h3⟩:=h;exact⟨_,_,aAV rfl he hq (by rw[bN];exact hx) hr (by rw[bN];exact hy) h0 (by omega),h3⟩
       cases h
      cases h
     cases h
    cases h
   cases h
  cases h
 cases h
theorem aMk {f:Nat}{K:AV->Prop}(hT:iW P tb)(h:aOb tb rs s (cH sl x) f K): ∃v,aY P ⟨some d,.fieldAddr s x f,ty,pos,aft,gd⟩ (mk sl rs) ⟨v,[],[]⟩/\K v:=by
 unfold aOb at h;split at h
 ·rename_i l hl;split at h
  ·rename_i q hq;have hf:=cA (cA hT.fl hl) hq;obtain⟨off,ft⟩:=q;split at h
   ·rename_i hh o hx;exact⟨_,qS rfl hf (by rw[bN];exact hx),h⟩
   ·rename_i hh k i o hx;split at h
    ·rename_i hb;obtain⟨r,hr⟩:=vZ hb;exact⟨_,aJC hf hx hr,h⟩
    cases h
   ·rename_i o xs hx;split at h
    ·rename_i hb;exact⟨_,aBg (o' :=o) rfl hf (by rw[bN];exact hx) (sC hb),h⟩
    cases h
   cases h
  cases h
 cases h
theorem aCH {P:Program}{s:TypeId}{f off:Nat}{ft:TypeId}{g:Bool}{n b:Nat}{z:Value}(h:nR P s f=some (off,ft))(ht:eM P ft=some (g,n,b,z))(w:World)(cs:Array Value):
 (g=true->(Instr.field s (.agg cs) f).run P w= .ok (.agg (cs.extract off (off+n))) w)/\(g=false-> ∀v,cs[off]? =some v->(Instr.field s (.agg cs) f).run P w= .ok v w):=by
 obtain⟨h1,h2,_⟩:=eK ht w;unfold nR at h;split at h
 ·rename_i fields hu;split at h
  ·rename_i fd hf;split at h
   ·rename_i i hi;split at h
    ·cases h
    simp only[Option.some.injEq,Prod.mk.injEq] at h;obtain⟨rfl,rfl⟩:=h;exact⟨fun e=>by subst e;simp[Instr.field,run_underlying hu,hf,asAgg,part,h1,h2],fun e v hv=>by subst e;simp[Instr.field,run_underlying hu,hf,asAgg,part,h1,hv]⟩
   cases h
  cases h
 cases h
theorem aJN {f:Nat}{K:AV->Prop}(hT:iW P tb)(h:aHV tb s (cH sl x) f K): ∃v,aY P ⟨some d,.field s x f,ty,pos,aft,gd⟩ (mk sl rs) ⟨v,[],[]⟩/\K v:=by
 unfold aHV at h;split at h
 ·rename_i l hl;split at h
  ·rename_i q hq;have hf:=cA (cA hT.fl hl) hq;obtain⟨off,ft⟩:=q;split at h
   ·rename_i g n b z hz;have hz:=cA hT.ty hz;split at h
    ·rename_i cs hx;split at h
     ·split at h
      ·rename_i hb;have hb:=aBH hb;refine⟨_,cK fun K φ A w0 N a w hG=>?_,h⟩;have h1:=hG.ev x;rw[bN,hx] at h1;unfold aF at h1;obtain⟨vs,he,hone,hm⟩:=h1;refine⟨.agg (vs.extract off (off+n)),?_,?_⟩
       ·simp only[execOp,he,Sem.run_bind];rw[(aCH hf hz w vs).1 rfl];rfl
       unfold aF;refine⟨_,rfl,fun u hu=>hone u ?_,?_⟩
       ·rw[Array.toList_extract,List.extract_eq_take_drop] at hu;exact List.mem_of_mem_drop (List.mem_of_mem_take hu)
       rw[Array.toList_extract,List.extract_eq_take_drop,show off+n - off=n by omega];exact mU n (mT off hm)
      cases h
     split at h
     ·rename_i y hy;refine⟨_,cK fun K φ A w0 N a w hG=>?_,h⟩;have h1:=hG.ev x;rw[bN,hx] at h1;unfold aF at h1;obtain⟨vs,he,hone,hm⟩:=h1;obtain⟨v,hv,hmv⟩:=lV hm hy;refine⟨v,?_,hmv⟩;simp only[execOp,he,Sem.run_bind];rw[(aCH hf hz w vs).2 rfl v (by rw[<-Array.getElem?_toList];exact hv)];rfl
     cases h
    cases h
   cases h
  cases h
 cases h
theorem aKd {t:T}{K:AV->T->Prop}(hT:iW P tb)(h:aK6 tb rs s (cH sl x) t K): ∃v t',aY P ⟨some d,.load s x,ty,pos,aft,gd⟩ (mk sl rs) ⟨v,[],[]⟩/\K v t' :=by
 unfold aK6 at h;split at h
 ·rename_i ag n bt z hq;have hq:=cA hT.ty hq;split at h
  ·rename_i hh off hx;split at h
   ·rename_i tq cs hr;split at h
    ·split at h
     ·rename_i hb;exact⟨_,_,aKV hq hx hr (aBH hb) rfl,h⟩
     cases h
    split at h
    ·rename_i v hv;exact⟨_,_,aJE hq hx hr hv,h⟩
    cases h
   cases h
  ·rename_i o xs hx;split at h
   ·rename_i hl;split at h
    ·split at h
     ·rename_i hb;exact⟨_,_,aD2 (o' :=o) rfl hq (by rw[bN];exact hx) (sC hl) (aBH hb),h⟩
     cases h
    split at h
    ·rename_i y hy;exact⟨_,_,aBi (o' :=o) rfl hq (by rw[bN];exact hx) (sC hl) hy,h⟩
    cases h
   cases h
  ·rename_i hh k i off hx;split at h
   ·rename_i e k' dp xs hr;split at h
    ·rename_i hb;have:=aBb hb;subst this;obtain⟨row,t',h1,h2⟩:=aFz h;cases ag with
     | true=>
       dsimp only at h2
       split at h2
       ·rename_i hb2;cases dp with
        | true=>exact⟨_,_,aFq hq hx hr h1 (aBH hb2) rfl,h2⟩
        | false=>exact⟨_,_,aFq hq hx hr h1 (aBH hb2) rfl,h2⟩
       cases h2
     | false=>
       dsimp only at h2
       split at h2
       ·rename_i y hy;cases dp with
        | true=>exact⟨_,_,aDu hq hx hr h1 hy rfl,h2⟩
        | false=>exact⟨_,_,aDu hq hx hr h1 hy rfl,h2⟩
       cases h2
    cases h
   ·rename_i e k' xs i' j h' hr;split at h
    ·rename_i hb;simp only[aAO,Bool.not_eq_true'] at hb;obtain⟨⟨b1,b2⟩,b3⟩:=hb;have b1:=aBb b1;have b2:=aBb b2;obtain⟨b4,h⟩:=h;subst b1 b2 b3 b4;exact⟨_,_,aBX rfl hq (by rw[bN];exact hx) hr,h⟩
    cases h
   cases h
  cases h
 cases h
theorem aOm {c:Operand}{t:TypeId}(hc:kZ (mk sl rs) (cH sl c))(hf:eU sl rs (100*d)=true):aY P ⟨some d,.box t c,ty,pos,aft,gd⟩ (mk sl rs) ⟨.ptr (100*d) 0,[],[(100*d,.box t (dD (cH sl c)))]⟩:=
 by rw[<-bN sl rs];exact aIx rfl (by rw[bN];exact hc) (dV hf)
theorem aKe {t:TypeId}{ag:Bool}{n bt:Nat}{z:Value}(ht:eM P t=some (ag,n,bt,z))(hf:eU sl rs (100*d)=true):aY P ⟨some d,.alloc t,ty,pos,aft,gd⟩ (mk sl rs) ⟨.ptr (100*d) 0,[],[(100*d,.box t (z.cells.toList.map avC))]⟩:=
 aFc rfl ht (dV hf)
theorem aJO {t e:TypeId}{k bt:Nat}{ag:Bool}{z:Value}(ht:P.underlying t=some (.slice e))(hk:eM P e=some (ag,k,bt,z))(hf:eU sl rs (100*d)=true):aY P ⟨some d,.buildSlice t 0 #[],ty,pos,aft,gd⟩ (mk sl rs) ⟨.own (100*d),[],[(100*d,.arr e k true [])]⟩:=
 aEm rfl ht hk (dV hf)
theorem aJP {t e:TypeId}{len k bt:Nat}{ag:Bool}{z:Value}{parts:Array (Nat × Operand)}{rows:List (List bB)}{css:List (List Value)}(ht:P.underlying t=some (.slice e))(hk:eM P e=some (ag,k,bt,z))(hs:len*k<=16777216)(hp:0<len*k)(hc: ∀q∈parts.toList,kZ (mk sl rs) (cH sl q.2))
 (hf:oL (fun i=>some (i*k,k)) (List.replicate (len*k) AV.no) (parts.toList.map fun q=>(q.1,cH sl q.2))=some (rows.flatten.map (AV.p none))) (hfl:kQ rows css) (hrk: ∀x∈rows,x.length=k) (hrl:rows.length=len) (hfr:eU sl rs (100*d)=true):aY P ⟨some d,.buildSlice t len parts,ty,pos,aft,gd⟩ (mk sl rs) ⟨.own (100*d),[],[(100*d,.arr e k true rows)]⟩:=
 aEn rfl ht hk hs hp (fun q hq=>by rw[bN];exact hc q hq) (by rw[<-hf];congr 1) (dV hfr) hfl hrk hrl
theorem aOn {t e:TypeId}{len k bt:Nat}{ag:Bool}{z:Value}{parts:Array (Nat × Operand)}{cs:List AV}(ht:P.underlying t=some (.slice e))(hk:eM P e=some (ag,k,bt,z))(hs:len*k<=16777216)(hp:0<len*k)(hc: ∀q∈parts.toList,kZ (mk sl rs) (cH sl q.2))
 (hf:oL (fun i=>some (i*k,k)) (List.replicate (len*k) AV.no) (parts.toList.map fun q=>(q.1,cH sl q.2))=some cs) (hfr:eU sl rs (100*d)=true) (hm:(eH cs).contains (100*d)=false):aY P ⟨some d,.buildSlice t len parts,ty,pos,aft,gd⟩ (mk sl rs) ⟨.bsl (100*d) len,[],[(100*d,.box e cs)]⟩:=
 aIy rfl ht hk hs hp (fun q hq=>by rw[bN];exact hc q hq) (by rw[<-hf];congr 1) (dV hfr) (by simpa using hm)
theorem aMl {u v:Operand}{t e:TypeId}{k bt n:Nat}{ag:Bool}{z:Value}{kl kc:IntKind}{zr:List bB}(ht:P.underlying t=some (.slice e))(hk:eM P e=some (ag,k,bt,z))(hx:cH sl u= .p none (.int kl n))(hy:cH sl v= .p none (.int kc n))(hz: ∀w,cD w zr z.cells.toList [])(hn:bt*n<=281474976710656)(hm:n<=maxLen)(hf:eU sl rs (100*d)=true):aY P ⟨some d,.makeSlice t u v,ty,pos,aft,gd⟩ (mk sl rs) ⟨.own (100*d),[],[(100*d,.arr e k true (List.replicate n zr))]⟩:=
 aBW rfl ht hk (by rw[bN];exact hx) (by rw[bN];exact hy) hz hn hm (dV hf)
section
variable {u v:Operand} {t e:TypeId} {k bt:Nat} {ag:Bool} {z:Value} {del:List Nat} {dp:Bool} {xs ys:List (List bB)}
theorem aMm {dss:List (List Value)}{zs:List (List bB)}(ht:P.underlying t=some (.slice e))(hk:eM P e=some (ag,k,bt,z))(hpos:0<k)(htgt:tL (mk sl rs) (cH sl u) del e k dp xs)(hsrc:vW (mk sl rs) (cH sl v) k ys)(hf:kQ ys dss)(hb:(xs.length+ys.length)*bt<=140737488355328)(h63:xs.length+ys.length<=maxLen)(hzs:xs++ys=zs)(hfr:eU sl rs (100*d)=true):aY P ⟨some d,.call { callee:= .builtin .append,args:= #[u,v],argTypes:= #[t,t] },ty,pos,aft,gd⟩ (mk sl rs) ⟨.own (100*d),del,[(100*d,.arr e k dp zs)]⟩:=
 by rw[<-hzs];exact aBp rfl ht hk hpos (by rw[bN];exact htgt) (by rw[bN];exact hsrc) hf h63 hb (dV hfr)
theorem aMn {zs:List (List bB)}(ht:P.underlying t=some (.slice e))(hk:eM P e=some (ag,k,bt,z))(hpos:0<k)(htgt:tL (mk sl rs) (cH sl u) del e k dp xs)(hdx:dp=false\/xs= [])(hsrc:aFf (mk sl rs) (cH sl v) k ys)(hb:(xs.length+ys.length)*bt<=140737488355328)(h63:xs.length+ys.length<=maxLen)(hzs:xs++ys=zs)(hfr:eU sl rs (100*d)=true):aY P ⟨some d,.call { callee:= .builtin .append,args:= #[u,v],argTypes:= #[t,t] },ty,pos,aft,gd⟩ (mk sl rs) ⟨.own (100*d),del,[(100*d,.arr e k false zs)]⟩:=
 by rw[<-hzs];exact aEo rfl ht hk hpos (by rw[bN];exact htgt) hdx (by rw[bN];exact hsrc) h63 hb (dV hfr)
theorem aMo {h2:Nat}{e2:TypeId}{cs:List AV}{row:List bB}{hs:List Nat}{zs:List (List bB)}(ht:P.underlying t=some (.slice e))(hk:eM P e=some (ag,k,bt,z))(hpos:0<k)(htgt:tL (mk sl rs) (cH sl u) del e k dp xs)(hdx:dp=true\/xs= [])(hx:cH sl v= .bsl h2 1)(hr:aV rs h2=some (.box e2 cs))(hm:pL (mk sl rs) cs row hs)(hrow:row.length=k)(hnd:(del++hs).Nodup)(hb:(xs.length+1)*bt<=140737488355328)(h63:xs.length+1<=maxLen)(hzs:xs++[row]=zs)(hfr:eU sl rs (100*d)=true):aY P ⟨some d,.call { callee:= .builtin .append,args:= #[u,v],argTypes:= #[t,t] },ty,pos,aft,gd⟩ (mk sl rs) ⟨.own (100*d),(del++hs),[(100*d,.arr e k true zs)]⟩:=
 by rw[<-hzs];exact aBq rfl ht hk hpos (by rw[bN];exact htgt) hdx (by rw[bN];exact hx) hr hm hrow hnd h63 hb (dV hfr)
theorem aMp {h2 hp:Nat}{e2 e3:TypeId}{k3:Nat}{ys zs:List (List bB)}(ht:P.underlying t=some (.slice e))(hk:eM P e=some (ag,1,bt,z))(htgt:tL (mk sl rs) (cH sl u) del e 1 true xs)(hx:cH sl v= .bsl h2 1)(hr:aV rs h2=some (.box e2 [.own hp]))(hhp:aV rs hp=some (.arr e3 k3 true ys))(hnd:hp ∉ del)(hb:(xs.length+1)*bt<=140737488355328)(h63:xs.length+1<=maxLen)(hzs:xs++[[.sl e3 k3 ys]]=zs)(hfr:eU sl rs (100*d)=true):aY P ⟨some d,.call { callee:= .builtin .append,args:= #[u,v],argTypes:= #[t,t] },ty,pos,aft,gd⟩ (mk sl rs) ⟨.own (100*d),del,[(100*d,.hole e 1 zs xs.length 0 hp)]⟩:=
 by rw[<-hzs];exact aBs rfl ht hk (by rw[bN];exact htgt) (by rw[bN];exact hx) hr hhp hnd h63 hb (dV hfr)
theorem aMq {h0 h2 hp i j:Nat}{e2:TypeId}{cs:List AV}{row:List bB}{hs:List Nat}{zs:List (List bB)}(ht:P.underlying t=some (.slice e))(hk:eM P e=some (ag,k,bt,z))(hpos:0<k)(hs0:cH sl u= .own h0)(hr0:aV rs h0=some (.hole e k xs i j hp))(hx:cH sl v= .bsl h2 1)(hr:aV rs h2=some (.box e2 cs))(hm:pL (mk sl rs) cs row hs)(hrow:row.length=k)(hnd:(h0::hs).Nodup)(hnp:hp ∉ h0::hs)(hne:hp≠100*d)(hb:(xs.length+1)*bt<=140737488355328)(h63:xs.length+1<=maxLen)(hzs:xs++[row]=zs)(hfr:eU sl rs (100*d)=true):aY P ⟨some d,.call { callee:= .builtin .append,args:= #[u,v],argTypes:= #[t,t] },ty,pos,aft,gd⟩ (mk sl rs) ⟨.own (100*d),h0::hs,[(100*d,.hole e k zs i j hp)]⟩:=
 by rw[<-hzs];exact aBt rfl ht hk hpos (by rw[bN];exact hs0) hr0 (by rw[bN];exact hx) hr hm hrow hnd hnp hne h63 hb (dV hfr)
end
theorem tS {x:AV}(h:qJ rs x=true):kZ (mk sl rs) x:=by
 cases x<;>simp only[qJ] at h<;>first|exact sC h|trivial
theorem aAW: ∀{cs:List AV} {ds:List bB},aAU cs=some ds->cs=ds.map (AV.p none)/\ ∃us,iD ds us
 | [],ds,h=>by simp only[aAU,Option.some.injEq] at h;subst h;exact⟨rfl,[],rfl⟩
 | c::cs,ds,h=>by
   unfold aAU at h;split at h
   ·rename_i e;cases e
   ·rename_i x l e;injection e with e1 e2
    subst e1;subst e2;split at h
    ·rename_i v hv;split at h
     ·rename_i ds' hd;injection h with h
      subst h;obtain⟨h1,us,h2⟩:=aAW hd;exact⟨by rw[h1];rfl,v::us,by simp only[iD,aGQ,hv] at h2 ⊢;rw[h2]⟩
     cases h
    cases h
   cases h
theorem zC: ∀{ds:List bB},tP ds=true-> ∃us,iD ds us
 | [],_=>⟨[],rfl⟩
 | x::l,h=>by
   simp only[tP,aAO] at h;obtain⟨us,h2⟩:=zC h.2;obtain⟨v,hv⟩:=Option.isSome_iff_exists.1 h.1;exact⟨v::us,by simp only[iD,aGQ,hv] at h2 ⊢;rw[h2]⟩
theorem aEC {α:Type}{enc:α->List bB}(h: ∀x,tP (enc x)=true): ∀(l:List α),∃css,kQ (l.map enc) css
 | []=>⟨[],rfl⟩
 | x::l=>by
   obtain⟨us,h1⟩:=zC (h x);obtain⟨css,h2⟩:=aEC h l;exact⟨us::css,us,css,rfl,h1,h2⟩
theorem aOo {t:T}{K:List Nat->List (Nat × Rs)->T->Prop}(hT:iW P tb)(h:stW tb rs s (cH sl x) (cH sl y) t K): ∃del new t',aY P ⟨none,.store s x y,ty,pos,aft,gd⟩ (mk sl rs) ⟨.no,del,new⟩/\K del new t' :=by
 unfold stW at h;split at h
 ·rename_i ag n bt z hq;have hq:=cA hT.ty hq;split at h
  ·rename_i hh off hx;split at h
   ·rename_i tq cs hr;split at h
    ·rename_i hb;simp only[aAO] at hb;exact⟨_,_,_,aJF hq hx hr (tS hb.1.1) (aBb hb.1.2) (aBH hb.2) rfl,h⟩
    cases h
   cases h
  ·rename_i hh k i off hx;split at h
   ·rename_i e k' dp xs hr;split at h
    ·rename_i hb;have:=aBb hb;subst this;split at h
     ·rename_i ys hys;split at h
      ·rename_i hn;split at h
       ·obtain⟨h1,h2,h3⟩:=h;obtain⟨h4,h5,h6,h7⟩:=h3 _ (aBI h2);obtain⟨hy1,us,hy2⟩:=aAW hys;obtain⟨vs,hv⟩:=zC h4;subst h1;exact⟨_,_,_,aJG hq hx hr (aAT (aBI h2)) hv hy1 hy2 (aBb hn) h5 (by rw[h6,List.map_set]),h7⟩
       cases h
      cases h
     cases h
    cases h
   cases h
  cases h
 cases h
theorem wA {parts:List (Nat × Operand)}(h:(parts.map fun q=>(q.1,cH sl q.2)).all (fun q=>qJ rs q.2)=true): ∀q∈parts,kZ (mk sl rs) (cH sl q.2):=fun q hq=>by
 have:=aDT.1 h (q.1,cH sl q.2) (List.mem_map_of_mem (f:=fun q:Nat × Operand=>(q.1,cH sl q.2)) hq);exact tS this
theorem aJQ {parts:Array (Nat × Operand)}{K:AV->Prop}(hT:iW P tb)(h:aHT tb rs s (parts.toList.map fun q=>(q.1,cH sl q.2)) K): ∃v,aY P ⟨some d,.build s parts,ty,pos,aft,gd⟩ (mk sl rs) ⟨v,[],[]⟩/\K v:=by
 unfold aHT at h;split at h
 ·rename_i z ps hp;have hp:=cA hT.pl hp;split at h
  ·rename_i hc;split at h
   ·rename_i cs hf;exact⟨_,aKW hp (wA hc) hf,h⟩
   cases h
  cases h
 cases h
theorem aGA (k:Nat): ∀(n:Nat) (l:List bB),l.length=n*k->(aAn k n l).flatten=l/\(∀x∈aAn k n l,x.length=k)/\(aAn k n l).length=n
 | 0,l,h=>by
   have:l= []:=aE6 (by simpa using h);subst this;simp[aAn]
 | n+1,l,h=>by
   have hk:k<=l.length:=by rw[h,Nat.succ_mul];omega
   obtain⟨h1,h2,h3⟩:=aGA k n (l.drop k) (by rw[aMO,h,Nat.succ_mul];omega);simp only[aAn];refine⟨by rw[aHS,h1,List.take_append_drop],fun x hx=>?_,by simp[h3]⟩;rcases aHB.1 hx with rfl | hx
   ·simp;omega
   exact h2 x hx
theorem aAo (k:Nat): ∀(n:Nat) (l:List bB),(∀x∈l,x.val?.isSome=true)-> ∃css,kQ (aAn k n l) css
 | 0,l,h=>⟨[],rfl⟩
 | n+1,l,h=>by
   obtain⟨css,h1⟩:=aAo k n (l.drop k) (fun x hx=>h x (List.mem_of_mem_drop hx))
   have hf: ∀(m:List bB),(∀x∈m,x.val?.isSome=true)->tP m=true:=by
    intro m
    induction m with
    | nil=>intro _;rfl
    | cons a m ih=>intro hm;simp only[tP,aAO];exact⟨hm a (by simp),ih fun x hx=>hm x (by simp[hx])⟩
   obtain⟨us,h2⟩:=zC (hf (l.take k) (fun x hx=>h x (List.mem_of_mem_take hx)));exact⟨us::css,us,css,rfl,h2,h1⟩
theorem aED: ∀{ds:List bB} {us:List Value},iD ds us-> ∀x∈ds,x.val?.isSome=true
 | [],_,_,x,hx=>by simp at hx
 | y::ds,[],h,x,hx=>by simp[iD] at h
 | y::ds,u::us,h,x,hx=>by
   simp only[iD,aGQ,List.cons.injEq] at h;rcases aHB.1 hx with rfl | hx
   ·rw[h.1];rfl
   exact aED (us:=us) h.2 x hx
theorem aMr {n:Nat}{parts:Array (Nat × Operand)}{K:AV->List (Nat × Rs)->Prop}(hT:iW P tb)(h:aOc tb sl rs d s n (parts.toList.map fun q=>(q.1,cH sl q.2)) K): ∃v new,aY P ⟨some d,.buildSlice s n parts,ty,pos,aft,gd⟩ (mk sl rs) ⟨v,[],new⟩/\K v new:=by
 unfold aOc at h;split at h
 ·rename_i e he;have he:=cA hT.sl he;split at h
  ·rename_i ag k bt z hq;have hq:=cA hT.ty hq;split at h
   ·rename_i hf;split at h
    ·split at h
     ·rename_i hp
      have:parts= #[]:=by
       apply Array.ext';simpa using hp
      subst this;exact⟨_,_,aJO he hq hf,h⟩
     cases h
    split at h
    ·rename_i hb;simp only[aAO] at hb;have hb1:=aBH hb.1.2;have hb2:0<n*k:=by have:=hb.2;simpa [Nat.blt_eq] using this
     split at h
     ·rename_i cs hcs;split at h
      ·rename_i ds hds;split at h
       ·rename_i hl;obtain⟨h1,us,h2⟩:=aAW hds;obtain⟨q1,q2,q3⟩:=aGA k n ds (aBb hl);obtain⟨css,q4⟩:=aAo k n ds (aED h2);exact⟨_,_,aJP he hq hb1 hb2 (wA hb.1.1) (by rw[hcs,h1,q1]) q4 q2 q3 hf,h⟩
       cases h
      split at h
      ·cases h
      rename_i hm;exact⟨_,_,aOn he hq hb1 hb2 (wA hb.1.1) hcs hf hm,h⟩
     cases h
    cases h
   cases h
  cases h
 cases h
theorem oR {w:World}: ∀{vs:List Value} {ds:List bB},tQ vs ds=true->cD w ds vs []
 | [],[],_=>aK4
 | .int k n::vs,.int k' m::ds,h=>by
   simp only[tQ,aAO] at h;obtain⟨⟨h1,h2⟩,h3⟩:=h;have e1:k=k' :=by by_cases e:k=k' <;>simp[e] at h1 ⊢
   have e2:n=m:=by by_cases e:n=m<;>simp[e] at h2 ⊢
   subst e1;subst e2;exact oB (F1:=[]) aIL (oR h3)
 | .bool a::vs,.bool b::ds,h=>by
   simp only[tQ,aAO,beq_iff_eq] at h;obtain⟨h1,h3⟩:=h;subst h1;exact oB (F1:=[]) aFt (oR h3)
 | v::vs,d::ds,h=>by
   unfold tQ at h;split at h
   ·rename_i e;cases e
   ·rename_i k n vs' k' m ds' e1 e2;simp only[aAO] at h;injection e1 with e1 e3
    injection e2 with e2 e4
    subst e1;subst e2;subst e3;subst e4;obtain⟨⟨h1,h2⟩,h3⟩:=h;have e1:k=k' :=by by_cases e:k=k' <;>simp[e] at h1 ⊢
    have e2:n=m:=by by_cases e:n=m<;>simp[e] at h2 ⊢
    subst e1;subst e2;exact oB (F1:=[]) aIL (oR h3)
   ·rename_i a vs' b ds' e1 e2;simp only[aAO,beq_iff_eq] at h;injection e1 with e1 e3
    injection e2 with e2 e4
    subst e1;subst e2;subst e3;subst e4;obtain⟨h1,h3⟩:=h;subst h1;exact oB (F1:=[]) aFt (oR h3)
   ·rename_i vs' e k ds' e1 e2;injection e1 with e1 e3
    injection e2 with e2 e4
    subst e1;subst e2;subst e3;subst e4;refine oB (F1:=[]) ?_ (oR h);unfold oK;refine⟨[],[],?_,rfl,by unfold bT;exact⟨rfl,rfl⟩⟩;exact World.ownsRow_nil w 0 e k
   ·rename_i vs' ds' e1 e2;injection e1 with e1 e3
    injection e2 with e2 e4
    subst e1;subst e2;subst e3;subst e4;refine oB (F1:=[]) ?_ (oR h);unfold oK;exact⟨rfl,rfl⟩
   cases h
 | [],_::_,h=>by simp[tQ] at h
 | _::_,[],h=>by simp[tQ] at h
theorem aOp {t:T}{K:AV->List (Nat × Rs)->T->Prop}(hT:iW P tb)(h:mkW tb sl rs d s (cH sl x) (cH sl y) t K): ∃v new t',aY P ⟨some d,.makeSlice s x y,ty,pos,aft,gd⟩ (mk sl rs) ⟨v,[],new⟩/\K v new t' :=by
 unfold mkW at h;split at h
 ·rename_i e he;have he:=cA hT.sl he;split at h
  ·rename_i ag k bt z hq;have hq:=cA hT.ty hq;split at h
   ·rename_i hf;split at h
    ·rename_i ka a hx;split at h
     ·rename_i kb b hy;split at h
      ·split at h
       ·rename_i n zr zs t' hz;obtain⟨h1,h2,h3,h4,h5,h6⟩:=h;subst h5;subst h1;subst h2;exact⟨_,_,_,aMl he hq hx hy (fun w=>oR hz) h3 (by unfold maxLen;omega) hf,h6⟩
       cases h
      cases h
     cases h
    cases h
   cases h
  cases h
 cases h
theorem aMs {t:T}{K:AV->T->Prop}{e:Nat}(he:P.underlying s=some (.slice e))(h:aOd rs (cH sl x) t K): ∃v t',aY P ⟨some d,.call { callee:= .builtin .len,args:= #[x],argTypes:= #[s] },ty,pos,aft,gd⟩ (mk sl rs) ⟨v,[],[]⟩/\K v t' :=by
 unfold aOd at h;split at h
 ·rename_i o e' k xs hx;split at h
  ·rename_i hl;split at h
   ·obtain⟨h1,h2⟩:=h;refine⟨_,_,aHQ he ?_,h2⟩;rw[hx];cases o with
    | none=>exact h1.symm
    | some hh=>exact⟨vZ hl,h1.symm⟩
   cases h
  cases h
 ·rename_i hh hx;split at h
  ·rename_i e' k dp xs hr;split at h
   ·obtain⟨h1,h2⟩:=h;refine⟨_,_,aHQ he ?_,h2⟩;rw[hx];exact⟨_,_,_,_,hr,h1.symm⟩
   cases h
  cases h
 ·rename_i hx;exact⟨_,_,aHQ (n:=0) he (by rw[hx];rfl),h⟩
 cases h
theorem jX {K:Prop}: ∀{cs:List AV} {row:List bB},wS rs cs row K->pL (mk sl rs) cs row (tR cs)/\K
 | [],row,h=>by
   unfold wS at h;split at h
   ·exact⟨⟨rfl,rfl⟩,h⟩
   cases h
 | c::cs,row,h=>by
   unfold wS at h;split at h
   ·cases h
   rename_i y row';split at h
   ·rename_i x;split at h
    ·rename_i v hv;exact⟨⟨_,_,[],_,rfl,rfl,⟨h.1.eq.symm,by rw[hv];rfl,rfl⟩,(jX h.2).1⟩,(jX h.2).2⟩
    cases h
   ·rename_i g;split at h
    ·rename_i e k ys;split at h
     ·rename_i e' k' xs hr;split at h
      ·rename_i hb;rw[aAO] at hb;have e1:=aBb hb.1;have e2:=aBb hb.2;subst e1;subst e2;obtain⟨rfl,h2⟩:=h;exact⟨⟨_,_,[g],_,rfl,rfl,⟨_,_,_,hr,rfl,rfl⟩,(jX h2).1⟩,(jX h2).2⟩
      cases h
     cases h
    cases h
   ·split at h
    ·rename_i e k ys;obtain⟨rfl,h2⟩:=h;exact⟨⟨_,_,[],_,rfl,rfl,⟨_,_,rfl,rfl⟩,(jX h2).1⟩,(jX h2).2⟩
    cases h
   cases h
theorem aIO {e k:Nat}{a:AV}{K:List Nat->Bool->List (List bB)->Prop}(h:aMc rs e k a K): ∃del dp xs,tL (mk sl rs) a del e k dp xs/\K del dp xs:=by
 unfold aMc at h;split at h
 ·rename_i hh;split at h
  ·rename_i e' k' dp xs hr;split at h
   ·rename_i hb;rw[aAO] at hb;have e1:=aBb hb.1;have e2:=aBb hb.2;subst e1;subst e2;exact⟨_,_,_,⟨hr,rfl⟩,h⟩
   cases h
  cases h
 ·exact⟨_,_,_,⟨rfl,rfl⟩,h⟩
 cases h
theorem aIP {k:Nat}{a:AV}{K:List (List bB)->Prop}(h:aMd rs k a K): ∃ys,vW (mk sl rs) a k ys/\K ys:=by
 unfold aMd at h;split at h
 ·rename_i o e k' xs;split at h
  ·rename_i hb;rw[aAO] at hb;exact⟨_,⟨sC hb.1,aBb hb.2,rfl⟩,h⟩
  cases h
 ·rename_i hh;split at h
  ·rename_i e k' dp xs hr;split at h
   ·rename_i hb;have e1:=aBb hb;subst e1;exact⟨_,⟨_,_,hr⟩,h⟩
   cases h
  cases h
 ·exact⟨_,rfl,h⟩
 cases h
theorem aGB: ∀{cs:List AV} {row:List bB},aFu cs=some row->cs=row.map (AV.p none)
 | [],row,h=>by
   simp only[aFu,Option.some.injEq] at h;rw[<-h];rfl
 | c::cs,row,h=>by
   unfold aFu at h;split at h
   ·rename_i e;cases e
   ·rename_i x cs' e;simp only[List.cons.injEq] at e;obtain⟨rfl,rfl⟩:=e;split at h
    ·rename_i r hr;injection h with h
     rw[<-h,aGB hr];rfl
    cases h
   cases h
theorem aEE {k:Nat}: ∀{n:Nat} {row:List bB},row.length=n*k->(sA n k row).flatten=row/\(sA n k row).length=n/\ ∀r∈sA n k row,r.length=k
 | 0,row,h=>by
   obtain rfl:row= []:=aE6 (by simpa using h);exact⟨rfl,rfl,by simp[sA]⟩
 | n+1,row,h=>by
   rw[Nat.add_mul,Nat.one_mul] at h;obtain⟨h1,h2,h3⟩:=aEE (n:=n) (k:=k) (row:=row.drop k) (by rw[aMO];omega);refine⟨?_,by rw[sA,aIl,h2],?_⟩
   ·rw[sA,aHS,h1,List.take_append_drop]
   intro r hr;rw[sA] at hr;rcases aHB.1 hr with rfl | hr
   ·rw[aLz];omega
   exact h3 r hr
theorem aOq {k:Nat}{a:AV}{K:List (List bB)->Prop}(h:roW rs k a K): ∃ys,aFf (mk sl rs) a k ys/\K ys:=by
 unfold roW at h;split at h
 ·split at h
  ·rename_i hb;exact⟨_,⟨aBb hb,rfl⟩,h⟩
  cases h
 ·split at h
  ·rename_i e cs hr;split at h
   ·rename_i row hrow;split at h
    ·rename_i hb;rw[aGB hrow] at hr;obtain⟨q1,q2,q3⟩:=aEE (aBb hb);exact⟨_,⟨e,q2.symm,by rw[q1];exact hr,q3⟩,h⟩
    cases h
   cases h
  cases h
 cases h
theorem aKf {dp:Bool}{xs:List (List bB)}{K:Prop}(h:aK7 dp xs K):(dp=false\/xs= [])/\K:=by
 unfold aK7 at h;split at h
 ·exact⟨.inl rfl,h⟩
 split at h
 ·exact⟨.inr rfl,h⟩
 cases h
theorem lY: ∀{l:List Nat},jO l=true->l.Nodup
 | [],_=>List.nodup_nil
 | x::l,h=>by
   simp only[jO,aAO,Bool.not_eq_true',List.contains_eq_mem,decide_eq_false_iff_not] at h;exact List.nodup_cons.2 ⟨h.1,lY h.2⟩
theorem aMt {α:Type}{enc:α->List bB}{y:α}{n:Nat}{parts:Array (Nat × Operand)}{K:AV->List Nat->List (Nat × Rs)->Prop}(hT:iW P tb)(h:aOf tb sl rs d s n (parts.toList.map fun q=>(q.1,cH sl q.2)) enc y K): ∃v del new,aY P ⟨some d,.buildSlice s n parts,ty,pos,aft,gd⟩ (mk sl rs) ⟨v,del,new⟩/\K v del new:=by
 unfold aOf at h;split at h
 ·rename_i e he;have he:=cA hT.sl he;split at h
  ·rename_i ag k bt z hq;have hq:=cA hT.ty hq;split at h
   ·rename_i hb;simp only[aAO] at hb;obtain⟨⟨⟨⟨⟨b1,b2⟩,b3⟩,b4⟩,b5⟩,b6⟩:=hb;obtain rfl:n=1:=aBb b2;have hb4:=aBH b4;have hb5:0<1*k:=by simpa [Nat.blt_eq] using b5
    split at h
    ·rename_i cs hcs;split at h
     ·rename_i hn;obtain⟨q1,q2⟩:=jX h;exact⟨_,_,_,aAN rfl he hq hb4 hb5 (fun q hq=>by rw[bN];exact wA b3 q hq) (by rw[<-hcs];congr 1) q1 (aBb b6) (lY hn) (dV b1),q2⟩
     cases h
    cases h
   cases h
  cases h
 cases h
theorem aMu {t:T}{K:AV->List Nat->List (Nat × Rs)->T->Prop}(hT:iW P tb)(h:aOe tb sl rs d s (cH sl x) (cH sl y) t K): ∃v del new t',aY P ⟨some d,.call { callee:= .builtin .append,args:= #[x,y],argTypes:= #[s,s] },ty,pos,aft,gd⟩ (mk sl rs) ⟨v,del,new⟩/\K v del new t' :=by
 unfold aOe at h;split at h
 ·rename_i e he;have he:=cA hT.sl he;split at h
  ·rename_i ag k bt z hq;have hq:=cA hT.ty hq;split at h
   ·rename_i hb;simp only[aAO] at hb;have hk:0<k:=by have:=hb.1.2;simpa [Nat.blt_eq] using this
    have hbt:0<bt:=by have:=hb.2;simpa [Nat.blt_eq] using this
    obtain⟨del,dp,xs,ht,h⟩:=aIO (sl:=sl) h
    have small: ∀n,n*bt<=140737488355328->n<=maxLen:=fun n hn=>by
     have:n*1<=n*bt:=Nat.mul_le_mul_left n hbt;unfold maxLen;omega
    split at h
    ·obtain⟨rfl,h2,h3,h4,h5⟩:=h;obtain⟨ys,q1,rfl⟩:=aIP (sl:=sl) h2;rename_i enc l l2 t';obtain⟨css,hc⟩:=aEC h3 l2;exact⟨_,_,_,_,aMm he hq hk ht q1 hc (by simpa using h4) (by simpa using small _ h4) (by rw[aG0]) hb.1.1,h5⟩
    ·obtain⟨hdx,rfl,h2⟩:=aKf h;obtain⟨ys,q1,rfl,h4,h5⟩:=aOq (sl:=sl) h2;exact⟨_,_,_,_,aMn he hq hk ht hdx q1 (by simpa using h4) (by simpa using small _ h4) (by rw[aG0]) hb.1.1,h5⟩
    ·split at h
     ·split at h
      ·rename_i h2 hx;split at h
       ·rename_i e2 cs hr;split at h
        ·rename_i hn;split at h
         rotate_left
         ·cases h
         rename_i q3;have q3:=aBb q3;obtain⟨rfl,h⟩:=h;obtain⟨q2,q4,q5⟩:=jX (sl:=sl) h;exact⟨_,_,_,_,aMo he hq hk ht (.inl rfl) hx hr q2 q3 (lY hn) (by simpa using q4) (by simpa using small _ q4) (by rw[aG0];rfl) hb.1.1,q5⟩
        cases h
       cases h
      cases h
     cases h
    cases h
   cases h
  cases h
 cases h
theorem aKg {α:Type}{enc:α->List bB}{l:List α}{y' :α}{K:AV->List Nat->List (Nat × Rs)->Prop}(hT:iW P tb)(h:aK8 tb sl rs d s (cH sl x) (cH sl y) enc l y' K): ∃v del new,aY P ⟨some d,.call { callee:= .builtin .append,args:= #[x,y],argTypes:= #[s,s] },ty,pos,aft,gd⟩ (mk sl rs) ⟨v,del,new⟩/\K v del new:=by
 unfold aK8 at h;split at h
 ·rename_i e he;have he:=cA hT.sl he;split at h
  ·rename_i ag k bt z hq;have hq:=cA hT.ty hq;split at h
   ·rename_i hb;simp only[aAO] at hb;obtain rfl:=aBb hb.1.2;have hbt:0<bt:=by have:=hb.2;simpa [Nat.blt_eq] using this
    obtain⟨del,dp,xs,ht,h⟩:=aIO (sl:=sl) h;split at h
    ·split at h
     ·rename_i h2 hx;split at h
      ·rename_i e2 hp hr;split at h
       ·rename_i e3 k3 ys hh;split at h
        ·rename_i hn;obtain⟨rfl,h3,h4,h5⟩:=h;have hn:=List.nodup_cons.1 (lY hn);have h63:(l.length+1)*1<=(l.length+1)*bt:=Nat.mul_le_mul_left _ hbt;have:=aMp (d:=d) (ty:=ty) (pos:=pos) (aft:=aft) (gd:=gd) (v:=y) he hq ht hx hr hh hn.1 (by simpa using h4) (by simp only[aAK];unfold maxLen;omega) (zs:=(l++[y']).map enc) (by rw[aG0,<-h3];rfl) hb.1.1;rw[aAK] at this;exact⟨_,_,_,this,h5⟩
        cases h
       cases h
      cases h
     cases h
    cases h
   cases h
  cases h
 cases h
theorem aKh {α:Type}{enc:α->List bB}{l:List α}{y' :α}{K:AV->List Nat->List (Nat × Rs)->Prop}(hT:iW P tb)(h:aK9 tb sl rs d s (cH sl x) (cH sl y) enc l y' K): ∃v del new,aY P ⟨some d,.call { callee:= .builtin .append,args:= #[x,y],argTypes:= #[s,s] },ty,pos,aft,gd⟩ (mk sl rs) ⟨v,del,new⟩/\K v del new:=by
 unfold aK9 at h;split at h
 ·rename_i e he;have he:=cA hT.sl he;split at h
  ·rename_i ag k bt z hq;have hq:=cA hT.ty hq;split at h
   ·rename_i hb;simp only[aAO] at hb;have hk:0<k:=by have:=hb.1.2;simpa [Nat.blt_eq] using this
    have hbt:0<bt:=by have:=hb.2;simpa [Nat.blt_eq] using this
    split at h
    ·rename_i h0 hs0;split at h
     ·rename_i e' k' xs i j hp hr0;split at h
      ·rename_i h2 hx;split at h
       ·rename_i e2 cs hr;split at h
        ·rename_i hc;simp only[aAO,Bool.not_eq_true'] at hc;obtain⟨⟨⟨⟨c1,c2⟩,c3⟩,c4⟩,c5⟩:=hc;obtain rfl:=aBb c1;obtain rfl:=aBb c2;have hn:=List.nodup_cons.1 (lY c3);have hne:hp≠100*d:=fun q=>by rw[q,Nat.beq_refl] at c4;cases c4
         obtain⟨rfl,h⟩:=h;obtain⟨q2,q4,q5⟩:=jX (sl:=sl) h;have h63:(l.length+1)*1<=(l.length+1)*bt:=Nat.mul_le_mul_left _ hbt;exact⟨_,_,_,aMq he hq hk hs0 hr0 hx hr q2 (aBb c5) hn.2 hn.1 hne (by simpa using q4) (by simp only[aAK];unfold maxLen;omega) (by rw[aG0];rfl) hb.1.1,q5⟩
        cases h
       cases h
      cases h
     cases h
    cases h
   cases h
  cases h
 cases h
theorem aMv {t:T}{K:AV->List Nat->List (Nat × Rs)->T->Prop}(hT:iW P tb)(h:aOg tb sl rs d s (cH sl x) (cH sl y) t K): ∃v del new t',aY P ⟨some d,.call { callee:= .builtin .append,args:= #[x,y],argTypes:= #[s,s] },ty,pos,aft,gd⟩ (mk sl rs) ⟨v,del,new⟩/\K v del new t' :=by
 unfold aOg at h;split at h
 ·obtain⟨v,del,new,h1,h2⟩:=aKg (ty:=ty) (pos:=pos) (aft:=aft) (gd:=gd) hT h;exact⟨v,del,new,_,h1,h2⟩
 ·obtain⟨v,del,new,h1,h2⟩:=aKh (ty:=ty) (pos:=pos) (aft:=aft) (gd:=gd) hT h;exact⟨v,del,new,_,h1,h2⟩
 exact aMu hT h
theorem aEF {K:Nat->Prop}{φ:fK}{A:Nat->Prop}{w0:rV}{N:Nat}{S:St}{a:Act}{w:World}(hG:G K φ A w0 N S a w): ∀{xs:List AV} {ys:List Ar} {vs:List Value},aBv S xs ys->aL K φ w xs vs->qU (fun b=>b<w.heap.size) w ys vs
 | [],ys,vs,h,hm=>by unfold aL at hm;rw[hm,show ys= [] from h];exact rfl
 | x::xs,ys,vs,⟨y,ys',e,h1,h2⟩,hm=>by
   subst e;unfold aL at hm;obtain⟨v,vs',rfl,h3,h4⟩:=hm;exact⟨v,vs',rfl,aM1 hG h1 h3,aEF hG h2 h4⟩
theorem aCI {K:Nat->Prop}{φ:fK}{A:Nat->Prop}{w0:rV}{N:Nat}{S:St}{a:Act}{w:World}(hG:G K φ A w0 N S a w): ∀{xs:List AV} {ys:List Ar} {vs:List Value},mX xs=true->aBv S xs ys->aL K φ w xs vs->qU K w ys vs
 | [],ys,vs,_,h,hm=>by unfold aL at hm;rw[hm,show ys= [] from h];exact rfl
 | x::xs,ys,vs,hs,⟨y,ys',e,h1,h2⟩,hm=>by
   subst e;simp only[mX,aAO] at hs;unfold aL at hm;obtain⟨v,vs',rfl,h3,h4⟩:=hm;exact⟨v,vs',rfl,aKO hs.1 h1 h3,aCI hG hs.2 h2 h4⟩
theorem aAX {K:Nat->Prop}{φ:fK}{A:Nat->Prop}{w0:rV}{N:Nat}{a:Act}{w:World}(hG:G K φ A w0 N (mk sl rs) a w): ∀(xs:List Operand),aL K φ w (xs.map (cH sl)) (xs.map a.eval)
 | []=>by simp only[List.map_nil];unfold aL;rfl
 | x::xs=>by
   simp only[aGQ];unfold aL;exact⟨_,_,rfl,by have:=hG.ev x;rw[bN] at this;exact this,aAX hG xs⟩
theorem qX {o:Oper}{c:Operand}{f:FuncId}{caps:List AV}{xs:List Operand}{ts:Array TypeId}(ho:o.op= .call { callee:= .value c,args:=⟨xs⟩,argTypes:=ts })(hc:hJ P f=true)(hx:cH sl c= .fn f caps)(K:Nat->Prop)(φ:fK)(A:Nat->Prop)(w0:rV)(N:Nat)(a:Act)(w:World)(hG:G K φ A w0 N (mk sl rs) a w):
 ∃vs:Array Value,(execOp a.eval o).run P w= .ok (.enter f vs) w/\aL K φ w (xs.map (cH sl)++caps) vs.toList:=by
 have hev:=hG.ev c;rw[bN,hx] at hev;unfold aF at hev;obtain⟨cs,he,hm⟩:=hev;refine⟨(xs.map a.eval).toArray++cs,?_,?_⟩
 ·unfold hJ at hc;split at hc
  ·rename_i fn hf;simp only[aAO,Bool.not_eq_true',beq_eq_false_iff_ne,ne_eq] at hc;obtain⟨cd,hb⟩:=Option.isSome_iff_exists.1 hc.2;simp[execOp,ho,resolve,he,Deferred.ofValue,invoke,callFunc,hf,hc.1,hb]
  cases hc
 have:=iO (aAX hG xs) hm;simpa using this
theorem aKi {o:Oper}{f:FuncId}{avs:List AV}{ys:List Ar}{rv:AV}{rr:List (Nat × Rs)}{hb:Nat}(hrun: ∀K φ A w0 N a w,G K φ A w0 N (mk sl rs) a w-> ∃vs:Array Value,(execOp a.eval o).run P w= .ok (.enter f vs) w/\aL K φ w avs vs.toList)(hx:aAR rs avs=some ys)(hC:Con P f ys rv rr)
 (hcl:(iS rv&&rr.all fun q=>aDo q.2)=true\/mX avs=true) (ha:(rr.all fun q=>aD5 q.2&&eU sl rs (hb+q.1))=true) (hmt:((bS rv).all fun h=>(aS rr h).isSome)=true):aY P o (mk sl rs) ⟨jA (hb+ ·) rv,[],rr.map fun q=>(hb+q.1,q.2)⟩:=by
 intro K φ A w0 N a w Q hd hG;have hx:=aDw (sl:=sl) hx;simp only[aDT,aAO] at ha hmt hcl;have hfr: ∀q∈rr,fE (mk sl rs) (hb+q.1):=fun q hq=>dV (ha q hq).2;have har: ∀q∈rr,aD5 q.2=true:=fun q hq=>(ha q hq).1;have hmt: ∀h∈bS rv,∃r,aS rr h=some r:=fun k hk=>Option.isSome_iff_exists.1 (hmt k hk);obtain⟨vs,hrn,hmv⟩:=hrun K φ A w0 N a w hG;unfold Oper.wp;rw[hrn,Oper.upon_enter];rcases hcl with ⟨hc1,hc2⟩ | hset
 ·refine(hC.2 (fun b=>b<w.heap.size) w _ (fun _ h=>h) (aEF hG hx hmv)).mono ?_;rintro e w' ⟨v,Kr,φr,rfl,h1,h2,h3,h4,h5,h6,h7,h8,h9⟩;obtain⟨φ',g1,g2⟩:=aDr (dst:=o.dst) (A' :=A) (K' :=K) (hb:=hb) hG hd h1 h3 h4 h5 h6 h7 h8 (yV rv v hc1 h9) (fun h r pl hr hh=>Holds.deepK (hc2 _ (bW hr)) hh) (fun _ h=>h) (fun _ h=> .inl h) har hfr hmt;exact⟨K,φ',v,rfl,g1,g2⟩
 refine(hC.2 K w _ (fun b hb=>(hG.kin b hb).1) (aCI hG hset hx hmv)).mono ?_;rintro e w' ⟨v,Kr,φr,rfl,h1,h2,h3,h4,h5,h6,h7,h8,h9⟩
 have hKr: ∀b,Kr b->K b\/(Kr b/\w.heap.size<=b/\b<w'.heap.size):=fun b hb=>by
  rcases(h2 b hb).2 with h | h
  ·exact .inl h
  exact .inr ⟨hb,h,(h2 b hb).1⟩
 obtain⟨φ',g1,g2⟩:=aDr (dst:=o.dst) (A' :=A) (K' :=fun b=>K b\/(Kr b/\w.heap.size<=b/\b<w'.heap.size)) (hb:=hb) hG hd h1 h3 h4 h5 h6 h7 h8
  (aF.mono (K:=Kr) (φ:=φr) (fun _ _=>rfl) hKr rv v (fun h pl _ e=>⟨e,fun _ _=>rfl⟩) h9)
  (fun h r pl hr hh=>Holds.mono (K:=Kr) (φ:=φr) (fun _ _=>rfl) hKr (fun _ _=>rfl) r (fun h pl _ e=>⟨e,fun _ _=>rfl⟩) hh) (fun _ h=> .inl h) (fun _ h=>h) har hfr hmt
 exact⟨_,φ',v,rfl,g1,g2⟩
theorem aKj {f:FuncId}{avs:List AV}{o:Oper}{t:T}{K:AV->List (Nat × Rs)->T->Prop}(hrun:hJ P f=true-> ∀K φ A w0 N a w,G K φ A w0 N (mk sl rs) a w-> ∃vs:Array Value,(execOp a.eval o).run P w= .ok (.enter f vs) w/\aL K φ w avs vs.toList)(h:aKa P sl rs d f avs t K): ∃v new t',aY P o (mk sl rs) ⟨v,[],new⟩/\K v new t' :=by
 unfold aKa at h;split at h
 ·split at h
  ·rename_i ys hys;split at h
   ·rename_i hb;simp only[aAO,Bool.or_eq_true] at hb;obtain⟨hC,h⟩:=h;refine⟨_,_,_,aKi (hrun hC.1) hys hC ?_ hb.1.2 hb.2,h⟩;simpa using hb.1.1
   cases h
  cases h
 cases h
theorem aGC {f:FuncId}{captured:Array Operand}:aY P ⟨some d,.makeFunc (.func f) ⟨[]⟩ captured,ty,pos,aft,gd⟩ (mk sl rs) ⟨.fn f (captured.toList.map (cH sl)),[],[]⟩:=
 cK fun K φ A w0 N a w hG=>by
  refine⟨.func (.func f) #[] (captured.map a.eval),by simp[execOp,Instr.makeFunc],?_⟩;unfold aF;exact⟨_,rfl,by simpa using aAX hG captured.toList⟩
theorem aMw {x:Operand}{s s' :TypeId}{ks k k' :IntKind}{n:Int}(hs:P.underlying s=some (.int ks))(ht:P.underlying s' =some (.int k))(hx:cH sl x= .p none (.int k' n)):aY P ⟨some d,.convert s s' x,ty,pos,aft,gd⟩ (mk sl rs) ⟨.p none (.int k (k.wrap n)),[],[]⟩:=
 iT rfl (fun e w he=>by
  have h1:=he x (.int k' n) (by rw[hx];rfl);simp[execOp,convert,h1,run_underlying hs,run_underlying ht,Conv.intToInt])
theorem aGD (l:List Int):kQ (l.map aZ) (l.map fun n=>[Value.int .u8 n]):=by
 induction l with
 | nil=>exact rfl
 | cons n l ih=>exact⟨_,_,rfl,rfl,ih⟩
theorem aHW (l:List Int):(l.map fun n=>[Value.int .u8 n]).flatten=l.map (Value.int .u8):=by
 induction l with
 | nil=>rfl
 | cons n l ih=>simp[ih]
theorem aKk {x:Operand}{s s' e:TypeId}{l:List Int}(hs:P.underlying s=some (.slice e))(he:P.underlying e=some (.int .u8))(ht:P.underlying s' =some .string)(hx:vW (mk sl rs) (cH sl x) 1 (l.map aZ)):aY P ⟨some d,.convert s s' x,ty,pos,aft,gd⟩ (mk sl rs) ⟨.p none (.str (aFv l)),[],[]⟩:=
 cK fun K φ A w0 N a w hG=>by
  have hev:=hG.ev x;rw[bN] at hev;obtain⟨hS,_⟩:=wQ hG (by omega) hx (aGD l) hev;rw[aHW,aAK] at hS;obtain⟨b,c,hv,h1,h2,h3⟩:=hS;refine⟨.string (aFv l),?_,by unfold aF fR;rfl⟩;cases b with
  | none=>
    have h0:=h2 rfl;have:l= []:=aE6 h0;subst this;simp only[execOp,hv,Sem.run_bind,run_convert_bytes_string w s s' e _ _ c hs he ht];simp[Conv.bytesToString,aFv,ByteArray.empty,ByteArray.emptyWithCapacity];rfl
  | some ad=>
    have hl:(loadCells ad l.length).run P w= .ok (l.map (Value.int .u8)).toArray w:=by
     have:=run_loadCells_list (P:=P) w ad (l.map (Value.int .u8)) (fun j v hj=>h3 ad rfl j v hj);simpa using this
    simp only[execOp,hv,Sem.run_bind,run_convert_bytes_string w s s' e _ _ c hs he ht,run_bytesToString w ad l.length c l hl];rw[foldl_push_bytes];simp[aFv,ByteArray.empty,ByteArray.emptyWithCapacity];rfl
theorem aOr {x:Operand}{s s' :TypeId}{t:T}{K:AV->T->Prop}(hT:iW P tb)(h:cvW tb rs s s' (cH sl x) t K): ∃v t',aY P ⟨some d,.convert s s' x,ty,pos,aft,gd⟩ (mk sl rs) ⟨v,[],[]⟩/\K v t' :=by
 unfold cvW at h;split at h
 ·rename_i k hk;split at h
  ·rename_i ks hks;split at h
   ·rename_i k' n hx;obtain⟨t',h⟩:=xD h;exact⟨_,_,aMw (cA hT.nt hks) (cA hT.nt hk) hx,h⟩
   cases h
  cases h
 split at h
 ·rename_i hd;split at h
  ·rename_i e he;split at h
   ·rename_i hu;split at h
    ·rename_i l t';obtain⟨h1,h2⟩:=h;obtain⟨ys,q1,rfl⟩:=aIP (sl:=sl) h1;exact⟨_,_,aKk (cA hT.sl he) (cA hT.nt hu) (cA hT.st hd) q1,h2⟩
    cases h
   cases h
  cases h
 cases h
theorem aHX {m:ByteArray}{i:Nat}(h:i<m.size): ∃b:UInt8,m[i]? =some b/\sB m i=(b.toNat:Int):=by
 refine⟨m[i],by simp[h],?_⟩;unfold sB
 congr 2
 rw[aEP,aBI (by simpa using h)];simp[ByteArray.getElem_eq_getElem_data]
theorem aMx {x y:Operand}{s:TypeId}{t:T}{K:AV->T->Prop}(hT:iW P tb)(h:aOh tb s (cH sl x) (cH sl y) t K): ∃v t',aY P ⟨some d,.index s x y,ty,pos,aft,gd⟩ (mk sl rs) ⟨v,[],[]⟩/\K v t' :=by
 unfold aOh at h;split at h
 ·rename_i hs;have hs:=cA hT.st hs;split at h
  ·rename_i m hx;split at h
   ·rename_i k n hy;obtain⟨h0,h1,h2⟩:=h;refine⟨_,_,iT rfl (fun e w he=>?_),h2⟩;have e1:=he x (.string m) (by rw[hx];rfl);have e2:=he y (.int k n) (by rw[hy];rfl);obtain⟨b,hb,hbb⟩:=aHX (m:=m) (i:=n.toNat) (by omega);simp[execOp,Instr.index,e1,e2,asIntOf,run_underlying hs,h0,hb,hbb]
   cases h
  cases h
 cases h
theorem aMy {x:Operand}{s:TypeId}{lo hi:Option Operand}{t:T}{K:AV->T->Prop}(hT:iW P tb)(h:aOi tb s (cH sl x) (lo.map (cH sl)) (hi.map (cH sl)) t K): ∃v t',aY P ⟨some d,.slice s x lo hi none,ty,pos,aft,gd⟩ (mk sl rs) ⟨v,[],[]⟩/\K v t' :=by
 unfold aOi at h;split at h
 ·rename_i hs;have hs:=cA hT.st hs;split at h
  ·rename_i m hx;cases lo with
   | none=>
     cases hi with
     | none=>simp at h
     | some hi=>
       simp only[Option.map_none,Option.map_some] at h;split at h
       ·cases h
       ·rename_i k b hb;injection hb with hb
        obtain⟨h0,h1,h2⟩:=h;refine⟨_,_,iT rfl (fun e w he=>?_),h2⟩;have e1:=he x (.string m) (by rw[hx];rfl);have e2:=he hi (.int k b) (by rw[hb];rfl);simp[execOp,Instr.sliceAt,Instr.slice,Instr.sliceBounds,Instr.sliceBound,e1,e2,asIntOf,run_underlying hs,h0,h1]
       cases h
   | some lo=>
     simp only[Option.map_some] at h;split at h
     ·rename_i hq;cases hq
     ·rename_i k a ha;injection ha with ha
      cases hi with
      | none=>
        simp only[Option.map_none] at h;obtain⟨h0,h1,h2⟩:=h;refine⟨_,_,iT rfl (fun e w he=>?_),h2⟩;have e1:=he x (.string m) (by rw[hx];rfl);have e2:=he lo (.int k a) (by rw[ha];rfl);simp[execOp,Instr.sliceAt,Instr.slice,Instr.sliceBounds,Instr.sliceBound,e1,e2,asIntOf,run_underlying hs,h0,h1]
      | some hi=>
        simp only[Option.map_some] at h;split at h
        ·rename_i hq;cases hq
        ·rename_i k' b hb;injection hb with hb
         obtain⟨h0,h1,h2,h3⟩:=h;refine⟨_,_,iT rfl (fun e w he=>?_),h3⟩;have e1:=he x (.string m) (by rw[hx];rfl);have e2:=he lo (.int k a) (by rw[ha];rfl);have e3:=he hi (.int k' b) (by rw[hb];rfl);have q1:0<=b:=by omega
         have q2:a<=(b.toNat:Int):=by omega
         simp[execOp,Instr.sliceAt,Instr.slice,Instr.sliceBounds,Instr.sliceBound,e1,e2,e3,asIntOf,run_underlying hs,h0,q1,h2];intro hq;exfalso;omega
        cases h
     cases h
  cases h
 cases h
theorem eT.take' {B:Nat->Prop}{w:World}{k:Nat}{a:Option Addr}: ∀(n:Nat) {xs:List (List bB)} {o:Nat},eT B w k xs a o->eT B w k (xs.take n) a o
 | 0,xs,o,_=>by rw[List.take_zero];unfold eT;trivial
 | n+1,[],o,_=>by rw[List.take_nil];unfold eT;trivial
 | n+1,x::xs,o,h=>by
   rw[List.take_succ_cons];unfold eT at*;exact⟨h.1,h.2.1,eT.take' n h.2.2⟩
theorem eT.drop' {B:Nat->Prop}{w:World}{k:Nat}{a:Option Addr}: ∀(n:Nat) {xs:List (List bB)} {o:Nat},eT B w k xs a o->eT B w k (xs.drop n) a (o+n*k)
 | 0,xs,o,h=>by simpa using h
 | n+1,[],o,_=>by rw[List.drop_nil];unfold eT;trivial
 | n+1,x::xs,o,h=>by
   rw[List.drop_succ_cons];unfold eT at h;have:=eT.drop' n h.2.2;rw[show o+(n+1)*k=o+k+n*k by rw[Nat.add_mul];omega];exact this
theorem gR.shift {B:Nat->Prop}{w:World}{b off s o:Nat}{x:List bB}(h:gR B w x (some ⟨b,off,none⟩) (o+s)):gR B w x (some ⟨b,off+s,none⟩) o:=by
 obtain⟨b',off',vs,e,hb,hl,hc⟩:=h.vals;simp only[Option.some.injEq,Addr.mk.injEq,and_true] at e;obtain⟨rfl,rfl⟩:=e;refine gR.mk hb hl fun j v hv=>?_;have:=hc j v hv;rw[show off+s+o+j=off+(o+s)+j by omega];exact this
theorem eT.shift {B:Nat->Prop}{w:World}{k b off s:Nat}: ∀{xs:List (List bB)} {o:Nat},eT B w k xs (some ⟨b,off,none⟩) (o+s)->eT B w k xs (some ⟨b,off+s,none⟩) o
 | [],o,_=>by unfold eT;trivial
 | x::xs,o,h=>by
   unfold eT at*;refine⟨h.1,h.2.1.shift,eT.shift ?_⟩;rw[show o+k+s=o+s+k by omega];exact h.2.2
theorem aOs {B:Nat->Prop}{w:World}{e k len c l h:Nat}{xs:List (List bB)}{a:Option Addr}(hr:fR B w (.sl e k xs) (.slice a len c))(hlh:l<=h)(hh:h<=xs.length):
 len=xs.length/\len<=c/\fR B w (.sl e k ((xs.take h).drop l)) (.slice (if c=l then a else a.map (·.add (l*k))) (h - l) (c - l)):=by
 unfold fR at*;obtain⟨a',c',e1,h1,h2,h3⟩:=hr;simp only[Value.slice.injEq] at e1;obtain⟨rfl,rfl,rfl⟩:=e1;have hlen:((xs.take h).drop l).length=h - l:=by simp;omega
 refine⟨rfl,h1,_,_,by rw[hlen],by omega,by omega,?_⟩;cases hys:(xs.take h).drop l with
 | nil=>unfold eT;trivial
 | cons y ys=>
   have hlt:l<h:=by
    have:=congrArg List.length hys;simp only[aIl] at this;omega
   rw[if_neg (by omega)];cases xs with
   | nil=>simp at hys
   | cons x xs' =>
     have h4:=h3;unfold eT at h4;obtain⟨b,off,vs,rfl,_⟩:=h4.2.1.vals;have h5:=eT.drop' l (eT.take' h h3);rw[hys] at h5;simp only[Option.map_some,jT];exact h5.shift
theorem aMz {P:Program}{t e:TypeId}{k bt:Nat}{ag:Bool}{z:Value}(ht:P.underlying t=some (.slice e))(hk:eM P e=some (ag,k,bt,z))(w:World)(a:Option Addr)(len c:Nat)(lo hi:Option Value)(l h:Nat)
 (hlo:(lo=none/\l=0)\/ ∃ik,lo=some (.int ik l)) (hhi:(hi=none/\h=len)\/ ∃ik,hi=some (.int ik h)) (hlh:l<=h) (hh:h<=len) (hc:len<=c):
 (Instr.sliceAt t (.slice a len c) lo hi none).run P w= .ok (.slice (if c=l then a else a.map (·.add (l*k))) (h - l) (c - l)) w:=by
 have hs:=(eK hk w).2.1;have q1:h<=c:=by omega
 rcases hlo with ⟨rfl,rfl⟩ | ⟨i1,rfl⟩<;>rcases hhi with ⟨rfl,rfl⟩ | ⟨i2,rfl⟩<;>
  simp[Instr.sliceAt,Instr.slice,Instr.sliceBounds,Instr.sliceBound,asIntOf,run_underlying ht,hs,hlh,q1]
theorem aEu {x:Operand}{s e e' k bt:Nat}{ag:Bool}{z:Value}{lo hi:Option Operand}{ob:Option Nat}{xs:List (List bB)}{l h:Nat}(ht:P.underlying s=some (.slice e))(hk:eM P e=some (ag,k,bt,z))(hx:cH sl x= .p ob (.sl e' k xs))(hl:lR (mk sl rs) ob)
 (hlo:(lo=none/\l=0)\/ ∃y ik,lo=some y/\cH sl y= .p none (.int ik l)) (hhi:(hi=none/\h=xs.length)\/ ∃y ik,hi=some y/\cH sl y= .p none (.int ik h)) (hlh:l<=h) (hh:h<=xs.length):
 aY P ⟨some d,.slice s x lo hi none,ty,pos,aft,gd⟩ (mk sl rs) ⟨.p ob (.sl e' k ((xs.take h).drop l)),[],[]⟩:=
 cK fun K φ A w0 N a w hG=>by
  obtain⟨B,hB,_⟩:=hG.inO hl;have h1:=hG.ev x;rw[bN,hx,hB] at h1;have h1' :=h1;unfold fR at h1';obtain⟨b,c,he,_,_,_⟩:=h1';rw[he] at h1;obtain⟨_,hc,h2⟩:=aOs h1 hlh hh;refine⟨_,?_,(hB _ _).2 h2⟩
  have hr:=aMz ht hk w b xs.length c (lo.map a.eval) (hi.map a.eval) l h
   (by rcases hlo with ⟨rfl,rfl⟩ | ⟨y,ik,rfl,hy⟩
       ·exact .inl ⟨rfl,rfl⟩
       exact .inr ⟨ik,by rw[Option.map_some,gS (x:=(mk sl rs).ev y) (by rw[bN,hy];rfl) (hG.ev y)]⟩)
   (by rcases hhi with ⟨rfl,rfl⟩ | ⟨y,ik,rfl,hy⟩
       ·exact .inl ⟨rfl,rfl⟩
       exact .inr ⟨ik,by rw[Option.map_some,gS (x:=(mk sl rs).ev y) (by rw[bN,hy];rfl) (hG.ev y)]⟩) hlh hh hc
  simp only[execOp,he,Option.map_none];simp[hr]
theorem aNA {x:Operand}{s:TypeId}{lo hi:Option Operand}{t:T}{K:AV->T->Prop}(hT:iW P tb)(h:aOj tb rs s (cH sl x) (lo.map (cH sl)) (hi.map (cH sl)) t K): ∃v t',aY P ⟨some d,.slice s x lo hi none,ty,pos,aft,gd⟩ (mk sl rs) ⟨v,[],[]⟩/\K v t' :=by
 unfold aOj at h;split at h
 ·rename_i e hs;have hs:=cA hT.sl hs;split at h
  ·rename_i ag k bt z hk;have hk:=cA hT.ty hk;split at h
   ·rename_i o e' k' xs hx;split at h
    ·rename_i hb;rw[aAO] at hb;have:=aBb hb.2;subst this;have hl:=sC (sl:=sl) hb.1;split at h
     ·rename_i α enc l t';cases lo with
      | none=>
        cases hi with
        | none=>simp at h
        | some hi=>
          simp only[Option.map_none,Option.map_some] at h;split at h
          ·rename_i k2 b hb2;injection hb2 with hb2
           obtain⟨rfl,h0,h1,h2⟩:=h;refine⟨_,_,?_,h2⟩;have:=aEu (d:=d) (ty:=ty) (pos:=pos) (aft:=aft) (gd:=gd) (lo:=none) (hi:=some hi) (l:=0) (h:=b.toNat) hs hk hx hl (.inl ⟨rfl,rfl⟩) (.inr ⟨hi,k2,rfl,by rw[hb2,Int.toNat_of_nonneg h0]⟩) (aAd _) (by rw[aAK];omega);rw[List.drop_zero,<-List.map_take] at this;exact this
          cases h
      | some lo=>
        simp only[Option.map_some] at h;split at h
        ·rename_i hq;cases hq
        ·rename_i k1 a ha;injection ha with ha
         cases hi with
         | none=>
           simp only[Option.map_none] at h;obtain⟨rfl,h0,h1,h2⟩:=h;refine⟨_,_,?_,h2⟩;have:=aEu (d:=d) (ty:=ty) (pos:=pos) (aft:=aft) (gd:=gd) (lo:=some lo) (hi:=none) (l:=a.toNat) (h:=(l.map enc).length) hs hk hx hl (.inr ⟨lo,k1,rfl,by rw[ha,Int.toNat_of_nonneg h0]⟩) (.inl ⟨rfl,rfl⟩) (by rw[aAK];omega) (aKC _);rw[aKE,<-List.map_drop] at this;exact this
         | some hi=>
           simp only[Option.map_some] at h;split at h
           ·rename_i hq;cases hq
           ·rename_i k2 b hb2;injection hb2 with hb2
            obtain⟨rfl,h0,h1,h2,h3⟩:=h;refine⟨_,_,?_,h3⟩;have:=aEu (d:=d) (ty:=ty) (pos:=pos) (aft:=aft) (gd:=gd) (lo:=some lo) (hi:=some hi) (l:=a.toNat) (h:=b.toNat) hs hk hx hl (.inr ⟨lo,k1,rfl,by rw[ha,Int.toNat_of_nonneg h0]⟩) (.inr ⟨hi,k2,rfl,by rw[hb2,Int.toNat_of_nonneg (by omega)]⟩) (by omega) (by rw[aAK];omega);rw[<-List.map_take,<-List.map_drop] at this;exact this
           cases h
        cases h
     cases h
    cases h
   cases h
  cases h
 obtain⟨v,t',h1,h2⟩:=aMy (d:=d) (ty:=ty) (pos:=pos) (aft:=aft) (gd:=gd) (sl:=sl) (rs:=rs) hT h;exact⟨v,t',h1,h2⟩
section
variable {K:Nat->Prop} {φ:fK} {A:Nat->Prop} {w0:rV} {N:Nat} {S:St} {a:Act} {w:World}
theorem G.rdOwnF (hG:G K φ A w0 N S a w){h:Nat}{e k:Nat}{dp:Bool}{xs:List (List bB)}{v:Value}(hr:S.res h=some (.arr e k dp xs))(hm:aF K φ w (.own h) v){B:Nat->Prop}(hB: ∀b,K b->B b)(hB' : ∀pl,φ h=some pl-> ∀b∈pl.F,B b):fR B w (.sl e k xs) v:=by
 obtain⟨pl,css,hp,ho,hcl,hck,htop,hrow⟩:=hG.owned hr;unfold aF at hm;rw[hm pl hp];obtain⟨b,c,e1,h1,h2,h3,h4⟩:=kG ho hck hcl;unfold fR;refine⟨b,c,e1,h1,h2,?_⟩;by_cases hn:0<xs.length
 ·obtain⟨g,rfl,hg⟩:=h3 hn;have hlt:B g:=hB' pl hp g (aFw _ (by rw[htop,hg];simp));refine vT hlt hcl (fun i x c hx hc=>⟨(hrow i x c hx hc).1,jU.mono (fun _ _=>rfl) (fun b hb=>?_) x c (hrow i x c hx hc).2.1⟩) fun i c hc j u hu=>?_
  ·rcases hb with hb | hb
   ·exact hB b hb
   exact hB' pl hp b (aDU _ hb)
  obtain⟨g',e2,_,hcell⟩:=h4 i c hc;simp only[Option.some.injEq,Addr.mk.injEq,and_true] at e2;subst e2;rw[Nat.zero_add];exact hcell j u hu
 have:xs= []:=aE6 (by omega);subst this;unfold eT;trivial
theorem aIQ (hG:G K φ A w0 N (mk sl rs) a w){x y:AV}{hs:List Nat}{v:Value}{K' :Nat->Prop}{φ' :fK}(h:aMe rs x=some (y,hs))(hK: ∀b,K b->K' b)(hF: ∀b,eL φ (· ∈hs) b->K' b)(hm:aF K φ w x v):aF K' φ' w y v:=by
 unfold aMe at h;split at h
 ·rename_i h0;split at h
  ·rename_i e k dp xs hr;simp only[Option.some.injEq,Prod.mk.injEq] at h;obtain⟨rfl,rfl⟩:=h;have:=hG.rdOwnF (B:=K') (h:=h0) hr hm hK (fun pl hp b hb=>hF b ⟨h0,pl,by simp,hp,hb⟩);unfold aF;exact this
  cases h
 ·simp only[Option.some.injEq,Prod.mk.injEq] at h;obtain⟨rfl,rfl⟩:=h;unfold aF at*;exact fR.mono (fun _ _=>rfl) hK _ _ hm
 ·simp only[Option.some.injEq,Prod.mk.injEq] at h;obtain⟨rfl,rfl⟩:=h;unfold aF at*;exact hm
 cases h
theorem aEv (hG:G K φ A w0 N (mk sl rs) a w){K' :Nat->Prop}{φ' :fK}(hK: ∀b,K b->K' b): ∀{xs ys:List AV} {hs:List Nat} {vs:List Value},aHU rs xs=some (ys,hs)->(∀b,eL φ (· ∈hs) b->K' b)->aL K φ w xs vs->aL K' φ' w ys vs
 | [],ys,hs,vs,h,_,hm=>by
   simp only[aHU,Option.some.injEq,Prod.mk.injEq] at h;obtain⟨rfl,rfl⟩:=h;unfold aL at*;exact hm
 | c::cs,ys,hs,vs,h,hF,hm=>by
   unfold aHU at h;split at h
   ·rename_i q hq;split at h
    ·rename_i r hr;simp only[Option.some.injEq,Prod.mk.injEq] at h;obtain⟨rfl,rfl⟩:=h;unfold aL at hm;obtain⟨v,vs',rfl,h1,h2⟩:=hm;unfold aL;exact⟨v,vs',rfl,aIQ hG hq hK (fun b ⟨h,pl,q1,q2,q3⟩=>hF b ⟨h,pl,aFw _ q1,q2,q3⟩) h1,aEv hG hK hr (fun b ⟨h,pl,q1,q2,q3⟩=>hF b ⟨h,pl,aDU _ q1,q2,q3⟩) h2⟩
    cases h
   cases h
theorem aIR (hG:G K φ A w0 N (mk sl rs) a w){x y:AV}{hs:List Nat}{v:Value}{K' :Nat->Prop}{φ' :fK}(h:aJM rs x=some (y,hs))(hK: ∀b,K b->K' b)(hF: ∀b,eL φ (· ∈hs) b->K' b)(hm:aF K φ w x v):aF K' φ' w y v:=by
 unfold aJM at h;split at h
 ·split at h
  ·rename_i q hq;simp only[Option.some.injEq,Prod.mk.injEq] at h;obtain⟨rfl,rfl⟩:=h;unfold aF at*;obtain⟨vs,e,h1,h2⟩:=hm;exact⟨vs,e,h1,aEv hG hK hq hF h2⟩
  cases h
 exact aIQ hG h hK hF hm
end
theorem aJR {o:Oper}{x:Operand}{v:AV}{hs:List Nat}(ho:o.op= .move x\/o.op= .assign x)(h:aJM rs (cH sl x)=some (v,hs)):aY P o (mk sl rs) ⟨v,hs,[]⟩:=by
 intro K φ A w0 N a w Q hd hG;have hr:(execOp a.eval o).run P w= .ok (.value (a.eval x)) w:=by rcases ho with ho | ho<;>simp[execOp,ho]
 have hm:=hG.ev x;rw[bN] at hm
 have hst:=hG.step (C:=(· ∈hs)) (φr:=fun _=>none) (ρ:=aS []) (K' :=fun b=>K b\/eL φ (· ∈hs) b) (w' :=w)
  ⟨rfl,rfl,rfl,aKC _,fun _ _ _=>rfl⟩
  (fun _ _ hp=>by cases hp) (fun _ _ _ _ _ hp=>by cases hp) (fun _ _ hp=>by simp[aS] at hp) (fun _ _=>rfl) (fun _ hb=> .inl hb)
  (fun b hb=>by
   rcases hb with hb | hb
   ·exact .inl hb
   refine .inr ⟨?_,.inr hb,fun _ _ hp=>by cases hp⟩;obtain⟨h0,pl,_,hp,hb'⟩:=hb;exact(hG.ge h0 pl hp b hb').2)
  (fun _ _ _ _ hp=>by cases hp) (fun _ _ _ _ _ _ _ hp=>by cases hp) (fun _ _ hp=>by cases hp)
 have hmv:aF (fun b=>K b\/eL φ (· ∈hs) b) (bZ (· ∈hs) (fun _=>none) φ) w v (a.eval x):=aIR hG h (fun _ hb=> .inl hb) (fun _ hb=> .inr hb) hm;unfold Oper.wp;rw[hr,Oper.upon_value];refine⟨_,_,a.eval x,rfl,hst.put hd hmv,⟨⟨rfl,rfl,rfl,aKC _,fun _ _ _=>rfl⟩,fun _ hb=> .inl hb,fun b hb=>?_,fun h1 pl hp=>?_,fun _ _ _ _ _ _=>rfl⟩⟩
 ·rcases hb with hb | hb
  ·exact .inl hb
  exact .inr (.inr hb)
 simp only[bZ] at hp;split at hp
 ·cases hp
 exact .inl hp
theorem aKl {K:Nat->Prop}{φ:fK}{w:World}{pl:Pl}{e k:Nat}{dp:Bool}{xs:List (List bB)}(hh:Holds K φ w pl (.arr e k dp xs)){B:Nat->Prop}(hB: ∀b,K b->B b)(hB' : ∀b∈pl.F,B b):fR B w (.sl e k xs) pl.val:=by
 have hx: ∃css:List (List Value),w.ownsRow 0 e k pl.val xs.length css.flatten/\css.length=xs.length/\(∀c∈css,c.length=k)/\pl.top=pl.val.ownBlock.toList/\ ∀(i:Nat) x c,xs[i]? =some x->css[i]? =some c->x.length=k/\jU B w x c:=by
  cases dp with
  | true=>
    obtain⟨css,Fs,h1,h2,h3,h4⟩:=hh;have hl:=h4.len;exact⟨css,h1,hl.1,hl.2,h2,fun i x c hx hc=>bT.rd (A:=B) k xs css Fs i x c (fun g hg=>hB' g (aDU _ (by rw[h3];exact hg))) h4 hx hc⟩
  | false=>
    obtain⟨css,h1,h2,h3,h4⟩:=hh;have hl:=h4.len;exact⟨css,h1,hl.1,hl.2,h2,fun i x c hx hc=>⟨(h4.at_ hx hc).1,jU.mono (fun _ _=>rfl) hB x c (h4.at_ hx hc).2⟩⟩
 obtain⟨css,ho,hcl,hck,htop,hrow⟩:=hx;obtain⟨b,c,e1,h1,h2,h3,h4⟩:=kG ho hck hcl;unfold fR;refine⟨b,c,e1,h1,h2,?_⟩;by_cases hn:0<xs.length
 ·obtain⟨g,rfl,hg⟩:=h3 hn;have hlt:B g:=hB' g (aFw _ (by rw[htop,hg];simp));refine vT hlt hcl (fun i x c hx hc=>hrow i x c hx hc) fun i c hc j u hu=>?_;obtain⟨g',e2,_,hcell⟩:=h4 i c hc;simp only[Option.some.injEq,Addr.mk.injEq,and_true] at e2;subst e2;rw[Nat.zero_add];exact hcell j u hu
 have:xs= []:=aE6 (by omega);subst this;unfold eT;trivial
mutual
def xE (rr:List (Nat × Rs)):AV->Option AV
 | .own h=>(match aS rr h with | some (.arr e k _ xs)=>some (.p none (.sl e k xs)) | _=>none)
 | .p none x=>some (.p none x)
 | .nil=>some .nil
 | .no=>some .no
 | .agg cs=>(match aEG rr cs with | some xs=>some (.agg xs) | none=>none)
 | .tup cs=>(match aEG rr cs with | some xs=>some (.tup xs) | none=>none)
 | _=>none
def aEG (rr:List (Nat × Rs)):List AV->Option (List AV)
 | []=>some []
 | c::cs=>(match xE rr c with | some x=>(match aEG rr cs with | some xs=>some (x::xs) | none=>none) | none=>none)
end
section
variable {K K' :Nat->Prop} {φ φ' :fK} {w:World} {rr:List (Nat × Rs)}
mutual
theorem aIS (hd: ∀h r,aS rr h=some r-> ∃pl,φ h=some pl/\Holds K φ w pl r)(hK: ∀b,K b->K' b)(hF: ∀h pl,φ h=some pl-> ∀b∈pl.F,K' b): ∀(x:AV) {y:AV} {v:Value},xE rr x=some y->aF K φ w x v->aF K' φ' w y v
 | .own h,y,v,h1,hm=>by
   unfold xE at h1;split at h1
   ·rename_i e k dp xs hr;injection h1 with h1
    subst h1;obtain⟨pl,hp,hh⟩:=hd h _ hr;unfold aF at*;rw[hm pl hp];exact aKl hh hK (hF h pl hp)
   cases h1
 | .p none x,y,v,h1,hm=>by
   unfold xE at h1;injection h1 with h1
   subst h1;unfold aF at*;exact fR.mono (fun _ _=>rfl) hK _ _ hm
 | .p (some _) x,y,v,h1,hm=>by unfold xE at h1;cases h1
 | .nil,y,v,h1,hm=>by
   unfold xE at h1;injection h1 with h1
   subst h1;unfold aF at*;exact hm
 | .no,y,v,h1,hm=>by
   unfold xE at h1;injection h1 with h1
   subst h1;unfold aF;trivial
 | .agg cs,y,v,h1,hm=>by
   unfold xE at h1;split at h1
   ·rename_i xs hx;injection h1 with h1
    subst h1;unfold aF at*;obtain⟨vs,e,q1,q2⟩:=hm;exact⟨vs,e,q1,aCJ hd hK hF cs hx q2⟩
   cases h1
 | .tup cs,y,v,h1,hm=>by
   unfold xE at h1;split at h1
   ·rename_i xs hx;injection h1 with h1
    subst h1;unfold aF at*;obtain⟨vs,e,q2⟩:=hm;exact⟨vs,e,aCJ hd hK hF cs hx q2⟩
   cases h1
 | .ptr _ _,y,v,h1,hm=>by unfold xE at h1;cases h1
 | .ep _ _ _ _,y,v,h1,hm=>by unfold xE at h1;cases h1
 | .rp _ _,y,v,h1,hm=>by unfold xE at h1;cases h1
 | .fn _ _,y,v,h1,hm=>by unfold xE at h1;cases h1
 | .bsl _ _,y,v,h1,hm=>by unfold xE at h1;cases h1
theorem aCJ (hd: ∀h r,aS rr h=some r-> ∃pl,φ h=some pl/\Holds K φ w pl r)(hK: ∀b,K b->K' b)(hF: ∀h pl,φ h=some pl-> ∀b∈pl.F,K' b): ∀(xs:List AV) {ys:List AV} {vs:List Value},aEG rr xs=some ys->aL K φ w xs vs->aL K' φ' w ys vs
 | [],ys,vs,h1,hm=>by
   unfold aEG at h1;injection h1 with h1
   subst h1;unfold aL at*;exact hm
 | c::cs,ys,vs,h1,hm=>by
   unfold aEG at h1;split at h1
   ·rename_i x hx;split at h1
    ·rename_i xs hxs;injection h1 with h1
     subst h1;unfold aL at*;obtain⟨v,vs',rfl,q1,q2⟩:=hm;exact⟨v,vs',rfl,aIS hd hK hF c hx q1,aCJ hd hK hF cs hxs q2⟩
    cases h1
   cases h1
end
end
theorem kD {f:FuncId}{ys:List Ar}{rv v:AV}{rr:List (Nat × Rs)}(hC:Con P f ys rv rr)(h:xE rr rv=some v):Con P f ys v []:=
 ⟨hC.1,fun A w vs hA hv=>(hC.2 A w vs hA hv).mono fun e w' ⟨u,K,φ,he,hb,h1,h2,h3,h4,h5,h6,h7,h8⟩=>
  ⟨u,fun b=>K b\/ ∃h pl,φ h=some pl/\b∈pl.F,fun _=>none,he,hb,fun b hb' =>by
   rcases hb' with q | ⟨h0,pl,hp,hm⟩
   ·exact h1 b q
   ·exact⟨(h7 h0 pl hp b hm).2,.inr (h7 h0 pl hp b hm).1⟩,fun _ _ _ _ hp=>(by cases hp),fun h0 r hr=>(by simp[aS] at hr),fun _ _=>rfl,fun _ _ _ _ _ hp=>(by cases hp),fun _ _ hp=>(by cases hp),fun _ _ hp=>(by cases hp),
   aIS h3 (fun _ hb=> .inl hb) (fun h0 pl hp b hm=> .inr ⟨h0,pl,hp,hm⟩) rv h h8⟩⟩
theorem aGE {x:Operand}{d:Nat}{t:T}{K:AV->List Nat->T->Prop}(h:aIN rs d (cH sl x) t K): ∃v del t',(∀o:Oper,o.op= .move x\/o.op= .assign x->aY P o (mk sl rs) ⟨v,del,[]⟩)/\K v del t' :=by
 unfold aIN at h;split at h
 ·split at h
  ·split at h
   ·rename_i q hq;exact⟨_,_,_,fun o ho=>aJR ho hq,h⟩
   cases h
  exact⟨_,_,_,fun o ho=>by rw[<-bN sl rs];exact wY ho,h⟩
 exact⟨_,_,_,fun o ho=>by rw[<-bN sl rs];exact wY ho,h⟩
theorem aCK {S:St}{o:Oper}{x:Operand}{h off:Nat}(ho:o.op= .nilCheck x)(hx:S.ev x= .ptr h off):aY P o S ⟨.ptr h off,[],[]⟩:=
 cK fun K φ A w0 N a w hG=>by
  have h1:=hG.ev x;rw[hx] at h1;have h2:=h1;unfold aF at h2;obtain⟨g,e,_⟩:=h2;exact⟨a.eval x,by simp[execOp,ho,e],h1⟩
theorem aNB {o:Op}{t:T}{K:AV->List Nat->List (Nat × Rs)->T->Prop}(hT:iW P tb)(h:aOk P tb sl rs d o t K): ∃v del new t',aY P ⟨some d,o,ty,pos,aft,gd⟩ (mk sl rs) ⟨v,del,new⟩/\K v del new t' :=by
 unfold aOk at h;split at h
 ·obtain⟨v,del,t',h1,h2⟩:=aGE (P:=P) h;exact⟨v,del,[],t',h1 _ (.inl rfl),h2⟩
 ·obtain⟨v,del,t',h1,h2⟩:=aGE (P:=P) h;exact⟨v,del,[],t',h1 _ (.inr rfl),h2⟩
 ·obtain⟨v,t',h1,h2⟩:=aKc h;exact⟨_,_,_,_,h1,h2⟩
 ·split at h
  ·rename_i vs hx;split at h
   ·rename_i v hv;exact⟨_,_,_,_,aHP hx hv,h⟩
   cases h
  cases h
 ·obtain⟨v,t',h1,h2⟩:=aMi hT h;exact⟨_,_,_,_,h1,h2⟩
 ·obtain⟨v,t',h1,h2⟩:=aOl h;exact⟨_,_,_,_,h1,h2⟩
 ·obtain⟨v,h1,h2⟩:=aMk hT h;exact⟨_,_,_,_,h1,h2⟩
 ·obtain⟨v,h1,h2⟩:=aJN hT h;exact⟨_,_,_,_,h1,h2⟩
 ·split at h
  ·rename_i hx;exact⟨_,_,_,_,aCK rfl (by rw[bN];exact hx),h⟩
  cases h
 ·obtain⟨v,t',h1,h2⟩:=aMj hT h;exact⟨_,_,_,_,h1,h2⟩
 ·obtain⟨v,t',h1,h2⟩:=aKd hT h;exact⟨_,_,_,_,h1,h2⟩
 ·split at h
  ·rename_i hq;have hq:=cA hT.ty hq;split at h
   ·rename_i hf;exact⟨_,_,_,_,aKe hq hf,h⟩
   cases h
  cases h
 ·split at h
  ·rename_i hb;rw[aAO] at hb;exact⟨_,_,_,_,aOm (tS hb.1) hb.2,h⟩
  cases h
 ·obtain⟨v,h1,h2⟩:=aJQ hT h;exact⟨_,_,_,_,h1,h2⟩
 ·split at h
  ·obtain⟨v,del,new,h1,h2⟩:=aMt hT h;exact⟨_,_,_,_,h1,h2⟩
  obtain⟨v,new,h1,h2⟩:=aMr hT h;exact⟨_,_,_,_,h1,h2⟩
 ·obtain⟨v,new,t',h1,h2⟩:=aOp hT h;exact⟨_,_,_,_,h1,h2⟩
 ·split at h
  ·split at h
   ·split at h
    ·split at h
     ·rename_i he;obtain⟨v,t',h1,h2⟩:=aMs (cA hT.sl he) h;exact⟨_,_,_,_,h1,h2⟩
     split at h
     ·rename_i x s _ _ _ _ he;have he:=cA hT.st he;split at h
      ·rename_i m hx;refine⟨_,_,_,_,iT (x:= .int .i64 m.size) rfl (fun e w hee=>?_),h⟩;have e1:=hee x (.string m) (by rw[hx];rfl);simp[execOp,resolve,invoke,builtin,Builtin.len_,run_underlying he,e1,goInt]
      cases h
     cases h
    cases h
   ·split at h
    ·rename_i x y;split at h
     ·rename_i k m hx;split at h
      ·rename_i k' n hy;refine⟨_,_,_,_,iT (x:= .int k (if n<m then n else m)) rfl (fun e w hee=>?_),h⟩;have e1:=hee x (.int k m) (by rw[hx];rfl);have e2:=hee y (.int k' n) (by rw[hy];rfl);simp[execOp,resolve,invoke,builtin,Builtin.min_,Builtin.min2,e1,e2]
      cases h
     cases h
    cases h
   ·split at h
    ·rename_i x y;split at h
     ·rename_i k m hx;split at h
      ·rename_i k' n hy;refine⟨_,_,_,_,iT (x:= .int k (if m<n then n else m)) rfl (fun e w hee=>?_),h⟩;have e1:=hee x (.int k m) (by rw[hx];rfl);have e2:=hee y (.int k' n) (by rw[hy];rfl);simp[execOp,resolve,invoke,builtin,Builtin.max_,Builtin.max2,e1,e2]
      cases h
     cases h
    cases h
   ·split at h
    ·obtain⟨e,h⟩:=h.eq;subst e;exact aMv hT h
    cases h
   cases h
  ·split at h
   ·rename_i hx;obtain⟨v,new,t',h1,h2⟩:=aKj (o:=⟨some d,.call ⟨.value _,⟨_⟩,_⟩,ty,pos,aft,gd⟩) (fun hc=>qX rfl hc hx) h;exact⟨_,_,_,_,h1,h2⟩
   cases h
  cases h
 ·obtain⟨v,t',h1,h2⟩:=aOr hT h;exact⟨_,_,_,_,h1,h2⟩
 ·obtain⟨v,t',h1,h2⟩:=aMx hT h;exact⟨_,_,_,_,h1,h2⟩
 ·obtain⟨v,t',h1,h2⟩:=aNA hT h;exact⟨_,_,_,_,h1,h2⟩
 ·exact⟨_,_,_,_,aGC,h⟩
 cases h
end
theorem aKm {o:Oper}{t:T}{K:AV->List Nat->List (Nat × Rs)->T->Prop}(hT:iW P tb)(h:opW P tb sl rs o.dst o.op t K): ∃v del new t',aY P o (mk sl rs) ⟨v,del,new⟩/\K v del new t' :=by
 obtain⟨dst,op,ty,pos,aft,gd⟩:=o;unfold opW at h
 dsimp only at h
 split at h
 ·exact aNB hT h
 split at h
 ·obtain⟨del,new,t',h1,h2⟩:=aOo hT h;exact⟨_,_,_,_,h1,h2⟩
 cases h
end
end Go.Proofs.YtafmaholhcgakaaGreat
