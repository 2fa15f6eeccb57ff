/-
  Contracts and plain laws, joined: part 2.
-/
import Derived.Test.YtgamjlgfnmpcjaaGreatep0
import Derived.IntWalk
import Derived.Laws.StructEq
import Derived.Orders
import Derived.Laws.BytesArg
namespace Go.Proofs.YtgamjlgfnmpcjaaGreat
open Go.ChangeShapes Go.WideShapes Go.ChangeAt Go.RowKit
set_option linter.all false
set_option maxRecDepth 100000
set_option maxHeartbeats 4000000
mutual
def nI (g:Nat->Nat):AV->AV
 | .p (some h) x=> .p (some (g h)) x
 | .p none x=> .p none x
 | .own h=> .own (g h)
 | .ptr h o=> .ptr (g h) o
 | .ep h k i o=> .ep (g h) k i o
 | .rp (some h) x=> .rp (some (g h)) x
 | .rp none x=> .rp none x
 | .agg cs=> .agg (Ao g cs)
 | .tup cs=> .tup (Ao g cs)
 | .fn f cs=> .fn f (Ao g cs)
 | .nil=> .nil
 | .bsl h n=> .bsl (g h) n
 | .no=> .no
def Ao (g:Nat->Nat):List AV->List AV
 | []=>[]
 | x::xs=>nI g x::Ao g xs
end
mutual
theorem aH.map {K:Nat->Prop}{φ φ' :jS}{w:World}{g:Nat->Nat}: ∀(x:AV) (v:Value),(∀h pl,h∈cZ x->φ' (g h)=some pl->φ h=some pl)->aH K φ w x v->aH K φ' w (nI g x) v
 | .p none x,v,_,h=>by unfold nI;unfold aH at*;exact h
 | .p (some k) x,v,hm,h=>by unfold nI;unfold aH at*;exact fun pl hp=>h pl (hm k pl (by simp[cZ]) hp)
 | .own k,v,hm,h=>by unfold nI;unfold aH at*;exact fun pl hp=>h pl (hm k pl (by simp[cZ]) hp)
 | .ptr k o,v,hm,h=>by unfold nI;unfold aH at*;obtain⟨g',e,q⟩:=h;exact⟨g',e,fun pl hp=>q pl (hm k pl (by simp[cZ]) hp)⟩
 | .ep k _ _ _,v,hm,h=>by unfold nI;unfold aH at*;exact fun pl hp=>h pl (hm k pl (by simp[cZ]) hp)
 | .rp none x,v,_,h=>by unfold nI;unfold aH at*;exact h
 | .rp (some k) x,v,hm,h=>by unfold nI;unfold aH at*;exact fun pl hp=>h pl (hm k pl (by simp[cZ]) hp)
 | .agg cs,v,hm,h=>by
   unfold nI;unfold aH at*;obtain⟨vs,e,h1,h2⟩:=h;exact⟨vs,e,h1,aS.map cs _ (fun k pl hk=>hm k pl (by simpa [cZ] using hk)) h2⟩
 | .tup cs,v,hm,h=>by
   unfold nI;unfold aH at*;obtain⟨vs,e,h2⟩:=h;exact⟨vs,e,aS.map cs _ (fun k pl hk=>hm k pl (by simpa [cZ] using hk)) h2⟩
 | .fn f cs,v,hm,h=>by
   unfold nI;unfold aH at*;obtain⟨vs,e,h2⟩:=h;exact⟨vs,e,aS.map cs _ (fun k pl hk=>hm k pl (by simpa [cZ] using hk)) h2⟩
 | .nil,v,_,h=>by unfold nI;unfold aH at*;exact h
 | .bsl k n,v,hm,h=>by unfold nI;unfold aH at*;exact fun pl hp=>h pl (hm k pl (by simp[cZ]) hp)
 | .no,v,_,_=>by unfold nI;unfold aH;trivial
theorem aS.map {K:Nat->Prop}{φ φ' :jS}{w:World}{g:Nat->Nat}: ∀(xs:List AV) (vs:List Value),(∀h pl,h∈gY xs->φ' (g h)=some pl->φ h=some pl)->aS K φ w xs vs->aS K φ' w (Ao g xs) vs
 | [],vs,_,h=>by unfold Ao;unfold aS at*;exact h
 | x::xs,vs,hm,h=>by
   unfold Ao;unfold aS at*;obtain⟨v,vs',e,h1,h2⟩:=h;exact⟨v,vs',e,aH.map x v (fun k pl hk=>hm k pl (by simp[gY,hk])) h1,aS.map xs vs' (fun k pl hk=>hm k pl (by simp[gY,hk])) h2⟩
end
mutual
def nE:AV->Bool
 | .p none x=>x.val?.isSome
 | .own _=>true
 | .nil=>true
 | .agg cs=>Ec cs
 | .tup cs=>Ec cs
 | .no=>true
 | _=>false
def Ec:List AV->Bool
 | []=>true
 | x::xs=>nE x&&Ec xs
end
mutual
theorem Ed {K K' :Nat->Prop}{φ:jS}{w:World}: ∀(x:AV) (v:Value),nE x=true->aH K φ w x v->aH K' φ w x v
 | .p none x,v,hc,h=>by
   unfold nE at hc;unfold aH at*;cases hx:x.val? with
   | none=>simp[hx] at hc
   | some u=>exact(jX.scalar hx).2 ((jX.scalar hx).1 h)
 | .p (some k) x,v,hc,h=>by simp[nE] at hc
 | .own k,v,_,h=>by unfold aH at*;exact h
 | .ptr k o,v,hc,_=>by simp[nE] at hc
 | .ep k _ _ _,v,hc,_=>by simp[nE] at hc
 | .rp none x,v,hc,h=>by simp[nE] at hc
 | .rp (some k) x,v,hc,h=>by simp[nE] at hc
 | .agg cs,v,hc,h=>by
   unfold nE at hc;unfold aH at*;obtain⟨vs,e,h1,h2⟩:=h;exact⟨vs,e,h1,wZ cs _ hc h2⟩
 | .tup cs,v,hc,h=>by
   unfold nE at hc;unfold aH at*;obtain⟨vs,e,h2⟩:=h;exact⟨vs,e,wZ cs _ hc h2⟩
 | .fn f cs,v,hc,h=>by simp[nE] at hc
 | .nil,v,_,h=>by unfold aH at*;exact h
 | .bsl k n,v,hc,h=>by simp[nE] at hc
 | .no,v,_,_=>by unfold aH;trivial
theorem wZ {K K' :Nat->Prop}{φ:jS}{w:World}: ∀(xs:List AV) (vs:List Value),Ec xs=true->aS K φ w xs vs->aS K' φ w xs vs
 | [],vs,_,h=>by unfold aS at*;exact h
 | x::xs,vs,hc,h=>by
   unfold Ec at hc;simp only[aBB] at hc;unfold aS at*;obtain⟨v,vs',e,h1,h2⟩:=h;exact⟨v,vs',e,Ed x v hc.1 h1,wZ xs vs' hc.2 h2⟩
end
def MU:Rs->Bool
 | .arr _ _ true _=>true
 | _=>false
def Iv:Rs->Bool
 | .arr _ _ _ _=>true
 | _=>false
inductive Ar where
 | one (x:bX)
 | agg (xs:List bX)
 | ref (xs:List bX)
 | fn (f:FuncId) (caps:List (List bX))
def UN (A:Nat->Prop)(w:World)(xs:List bX)(v:Value):Prop:= ∃a,v= .pointer a/\lN A w xs a 0
def Iw (A:Nat->Prop)(w:World):List (List bX)->List Value->Prop
 | [],vs=>vs= []
 | x::xs,vs=> ∃v vs',vs=v::vs' /\UN A w x v/\Iw A w xs vs'
def Pv (A:Nat->Prop)(w:World):Ar->Value->Prop
 | .one x,v=>jX A w x v
 | .agg xs,v=> ∃vs:Array Value,v= .agg vs/\oL A w xs vs.toList
 | .ref xs,v=>UN A w xs v
 | .fn f caps,v=> ∃vs:Array Value,v= .func (.func f) #[] vs/\Iw A w caps vs.toList
def tL (A:Nat->Prop)(w:World):List Ar->List Value->Prop
 | [],vs=>vs= []
 | x::xs,vs=> ∃v vs',vs=v::vs' /\Pv A w x v/\tL A w xs vs'
def aCw (A:Nat->Prop)(w:World)(rv:AV)(rs:aGJ)(e:Ending)(w' :World):Prop:=
 ∃v K φ,e= .returned v/\Below w.heap.size w w' /\(∀b,K b->b<w'.heap.size/\(A b\/w.heap.size<=b))/\(∀b,K b-> ∀h pl,φ h=some pl->b ∉ pl.F)/\
  (∀h r,bF rs h=some r-> ∃pl,φ h=some pl/\Holds K φ w' pl r)/\(∀h,bF rs h=none->φ h=none)/\
  (∀h h' pl pl',h≠h' ->φ h=some pl->φ h' =some pl' -> ∀g∈pl.F,g ∉ pl'.F)/\(∀h pl,φ h=some pl->pl.F.Nodup)/\(∀h pl,φ h=some pl-> ∀g∈pl.F,w.heap.size<=g/\g<w'.heap.size)/\
  aH K φ w' rv v
def lB (P : Program) (f : FuncId) : Bool := match P.funcs[f]? with | some fn => !(fn.name == "runtime.NumGoroutine") && fn.body.isSome | none => false
def xK (P:Program)(f:FuncId)(args:List Ar)(rv:AV)(rs:aGJ):Prop:=
 lB P f=true/\ ∀(A:Nat->Prop) (w:World) (vs:Array Value),(∀b,A b->b<w.heap.size)->tL A w args vs.toList->Calls P f vs w (aCw A w rv rs)
def Xp (S:St):AV->bX->Prop
 | .p o x,y=>qZ S o/\y=x
 | .own h,y=> ∃e k d xs,S.res h=some (.arr e k d xs)/\y= .sl e k xs
 | .nil,y=> ∃e k,y= .sl e k []
 | _,_=>False
def MA (S:St):List AV->List bX->Prop
 | [],ys=>ys= []
 | x::xs,ys=> ∃y ys',ys=y::ys' /\Xp S x y/\MA S xs ys'
def MV (S:St):AV->List bX->Prop
 | .rp o xs,ys=>qZ S o/\ys=xs
 | .ptr h off,ys=> ∃t cs,S.res h=some (.box t cs)/\MA S (cs.drop off) ys/\ys≠[]
 | _,_=>False
def OV (S:St):List AV->List (List bX)->Prop
 | [],ys=>ys= []
 | x::xs,ys=> ∃y ys',ys=y::ys' /\MV S x y/\OV S xs ys'
def Pw (S:St):AV->Ar->Prop
 | .agg cs,y=> ∃ys,y= .agg ys/\MA S cs ys
 | .fn f cs,y=> ∃caps,y= .fn f caps/\OV S cs caps
 | .rp o xs,y=> ∃ys,y= .ref ys/\MV S (.rp o xs) ys
 | .ptr h off,y=> ∃ys,y= .ref ys/\MV S (.ptr h off) ys
 | x,y=> ∃d,y= .one d/\Xp S x d
def Ix (S:St):List AV->List Ar->Prop
 | [],ys=>ys= []
 | x::xs,ys=> ∃y ys',ys=y::ys' /\Pw S x y/\Ix S xs ys'
mutual
def tO:AV->Bool
 | .p none _=>true
 | .nil=>true
 | .agg cs=>sQ cs
 | _=>false
def sQ:List AV->Bool
 | []=>true
 | x::xs=>tO x&&sQ xs
end
section
variable {K:Nat->Prop} {φ:jS} {A:Nat->Prop} {w0:Aa} {N:Nat} {S:St} {a:Act} {w:World} {P:Program}
theorem yR {B:Nat->Prop}{e k:Nat}:jX B w (.sl e k []) (.slice none 0 0):=by
 unfold jX;exact⟨none,0,rfl,aFC _,by unfold maxLen;omega,by unfold iH;trivial⟩
theorem G.rdOwn (hG:G K φ A w0 N S a w){h:Nat}{e k:Nat}{d:Bool}{xs:List (List bX)}{v:Value}(hr:S.res h=some (.arr e k d xs))(hm:aH K φ w (.own h) v):jX (fun b=>b<w.heap.size) w (.sl e k xs) v:=by
 obtain⟨pl,css,hp,ho,hcl,hck,htop,hrow⟩:=hG.owned hr;unfold aH at hm;rw[hm pl hp];obtain⟨b,c,e1,h1,h2,h3,h4⟩:=pD ho hck hcl;unfold jX;refine⟨b,c,e1,h1,h2,?_⟩;by_cases hn:0<xs.length
 ·obtain⟨g,rfl,hg⟩:=h3 hn;have hlt:g<w.heap.size:=(hG.ge h pl hp g (aDG _ (by rw[htop,hg];simp))).2;refine CI hlt hcl (fun i x c hx hc=>⟨(hrow i x c hx hc).1,oL.mono (fun _ _=>rfl) (fun b hb=>?_) x c (hrow i x c hx hc).2.1⟩) fun i c hc j u hu=>?_
  ·rcases hb with hb | hb
   ·exact(hG.kin b hb).1
   exact(hG.ge h pl hp b (aCX _ hb)).2
  obtain⟨g',e2,_,hcell⟩:=h4 i c hc;simp only[Option.some.injEq,Addr.mk.injEq,and_true] at e2;subst e2;rw[Nat.zero_add];exact hcell j u hu
 have:xs= []:=aDE aGR;subst this;unfold iH;trivial
theorem Xq (hG:G K φ A w0 N S a w){x:AV}{y:bX}{v:Value}(h:Xp S x y)(hm:aH K φ w x v):jX (fun b=>b<w.heap.size) w y v:=by
 unfold Xp at h;split at h
 ·rename_i o x';obtain⟨hl,rfl⟩:=h;cases o with
  | none=>unfold aH at hm;exact jX.mono (fun _ _=>rfl) (fun b hb=>(hG.kin b hb).1) _ _ hm
  | some g=>
    obtain⟨r,hr⟩:=hl;obtain⟨pl,hp,_⟩:=hG.dom g r hr;unfold aH at hm;exact jX.mono (fun _ _=>rfl) (fun b hb=>by rcases hb with hb | hb;exact(hG.kin b hb).1;exact(hG.ge g pl hp b (aCX _ hb)).2) _ _ (hm pl hp)
 ·obtain⟨e,k,d,xs,hr,rfl⟩:=h;exact hG.rdOwn hr hm
 ·obtain⟨e,k,rfl⟩:=h;unfold aH at hm;rw[hm];exact yR
 exact h.elim
theorem OW (hG:G K φ A w0 N S a w): ∀{xs:List AV} {ys:List bX} {vs:List Value},MA S xs ys->aS K φ w xs vs->oL (fun b=>b<w.heap.size) w ys vs
 | [],ys,vs,h,hm=>by unfold aS at hm;rw[hm,show ys= [] from h];exact rfl
 | x::xs,ys,vs,⟨y,ys',e,h1,h2⟩,hm=>by
   subst e;unfold aS at hm;obtain⟨v,vs',rfl,h3,h4⟩:=hm;exact⟨v,vs',rfl,Xq hG h1 h3,OW hG h2 h4⟩
theorem yS {K:Nat->Prop}{φ:jS}{w:World}: ∀(n:Nat) {xs:List AV} {vs:List Value},aS K φ w xs vs->aS K φ w (xs.drop n) (vs.drop n)
 | 0,_,_,h=>by simpa using h
 | n+1,[],vs,h=>by unfold aS at h;subst h;simp only[List.drop_nil];unfold aS;rfl
 | n+1,x::xs,vs,h=>by
   unfold aS at h;obtain⟨v,vs',rfl,_,h2⟩:=h;simpa using yS n h2
theorem Iy (hG:G K φ A w0 N S a w){x:AV}{y:List bX}{v:Value}(h:MV S x y)(hm:aH K φ w x v):UN (fun b=>b<w.heap.size) w y v:=by
 unfold MV at h;split at h
 ·rename_i o xs;obtain⟨hl,rfl⟩:=h;cases o with
  | none=>
    unfold aH at hm;obtain⟨a,e,hr⟩:=hm;exact⟨a,e,lN.mono (fun _ _=>rfl) (fun b hb=>(hG.kin b hb).1) _ _ _ hr⟩
  | some g=>
    obtain⟨r,hr⟩:=hl;obtain⟨pl,hp,_⟩:=hG.dom g r hr;unfold aH at hm;obtain⟨a,e,hr⟩:=hm pl hp;exact⟨a,e,lN.mono (fun _ _=>rfl) (fun b hb=>by rcases hb with hb | hb;exact(hG.kin b hb).1;exact(hG.ge g pl hp b (aCX _ hb)).2) _ _ _ hr⟩
 ·rename_i h0 off;obtain⟨t,cs,hr,hd,hne⟩:=h;obtain⟨g,vs,hp,hB,h1,hl⟩:=hG.boxed hr;unfold aH at hm;obtain⟨g',rfl,hg⟩:=hm;have hgg:=hg _ hp;simp only[List.cons.injEq,and_true] at hgg;subst hgg;have hlt:=(hG.ge h0 _ hp g (by simp[Pl.F])).2;refine⟨_,rfl,lN.mk (fun _=>hlt) (OW hG hd (yS off hl)) fun j u hu=>?_⟩;rw[List.getElem?_drop] at hu;rw[Nat.add_zero,hB.cell (off+j)];simpa using hu
 exact h.elim
theorem MW (hG:G K φ A w0 N S a w): ∀{xs:List AV} {ys:List (List bX)} {vs:List Value},OV S xs ys->aS K φ w xs vs->Iw (fun b=>b<w.heap.size) w ys vs
 | [],ys,vs,h,hm=>by unfold aS at hm;rw[hm,show ys= [] from h];exact rfl
 | x::xs,ys,vs,⟨y,ys',e,h1,h2⟩,hm=>by
   subst e;unfold aS at hm;obtain⟨v,vs',rfl,h3,h4⟩:=hm;exact⟨v,vs',rfl,Iy hG h1 h3,MW hG h2 h4⟩
theorem aBH (hG:G K φ A w0 N S a w){x:AV}{y:Ar}{v:Value}(h:Pw S x y)(hm:aH K φ w x v):Pv (fun b=>b<w.heap.size) w y v:=by
 unfold Pw at h;split at h
 ·obtain⟨ys,rfl,h⟩:=h;unfold aH at hm;obtain⟨vs,e,_,hl⟩:=hm;exact⟨vs,e,OW hG h hl⟩
 ·obtain⟨caps,rfl,h⟩:=h;unfold aH at hm;obtain⟨vs,e,hl⟩:=hm;exact⟨vs,e,MW hG h hl⟩
 ·obtain⟨ys,rfl,h⟩:=h;exact Iy hG h hm
 ·obtain⟨ys,rfl,h⟩:=h;exact Iy hG h hm
 obtain⟨d,rfl,h⟩:=h;exact Xq hG h hm
theorem UO {x:AV}{y:bX}{v:Value}(hs:tO x=true)(h:Xp S x y)(hm:aH K φ w x v):jX K w y v:=by
 unfold Xp at h;split at h
 ·rename_i o x';cases o with
  | none=>obtain⟨_,rfl⟩:=h;unfold aH at hm;exact hm
  | some g=>simp[tO] at hs
 ·simp[tO] at hs
 ·obtain⟨e,k,rfl⟩:=h;unfold aH at hm;rw[hm];exact yR
 exact h.elim
theorem Px: ∀{xs:List AV} {ys:List bX} {vs:List Value},sQ xs=true->MA S xs ys->aS K φ w xs vs->oL K w ys vs
 | [],ys,vs,_,h,hm=>by unfold aS at hm;rw[hm,show ys= [] from h];exact rfl
 | x::xs,ys,vs,hs,⟨y,ys',e,h1,h2⟩,hm=>by
   subst e;unfold sQ at hs;simp only[aBB] at hs;unfold aS at hm;obtain⟨v,vs',rfl,h3,h4⟩:=hm;exact⟨v,vs',rfl,UO hs.1 h1 h3,Px hs.2 h2 h4⟩
theorem Xr {x:AV}{y:Ar}{v:Value}(hs:tO x=true)(h:Pw S x y)(hm:aH K φ w x v):Pv K w y v:=by
 unfold Pw at h;split at h
 ·obtain⟨ys,rfl,h⟩:=h;unfold aH at hm;unfold tO at hs;obtain⟨vs,e,_,hl⟩:=hm;exact⟨vs,e,Px hs h hl⟩
 ·simp[tO] at hs
 ·simp[tO] at hs
 ·simp[tO] at hs
 obtain⟨d,rfl,h⟩:=h;exact UO hs h hm
theorem vW (hb:Nat): ∀(rs:aGJ) (h:Nat),bF (rs.map fun q=>(hb+q.1,q.2)) h=if hb<=h then bF rs (h - hb) else none
 | [],h=>by simp[bF]
 | (k,r)::rs,h=>by
   simp only[aDH,bF,vW hb rs h];by_cases h1:hb<=h
   ·by_cases h2:h - hb=k
    ·have:h=hb+k:=aGR
     simp[h1,h2,this]
    have:h≠hb+k:=aGR
    simp[h1,h2,this]
   have:h≠hb+k:=aGR
   simp[h1,this]
theorem Holds.arrPhi {φ' :jS}{pl:Pl}{r:Rs}(ha:Iv r=true)(h:Holds K φ w pl r):Holds K φ' w pl r:=by
 cases r with
 | box t cs=>simp[Iv] at ha
 | hole e k xs i j h=>simp[Iv] at ha
 | arr e k d xs=>cases d<;>exact h
theorem Holds.deepK {K' :Nat->Prop}{pl:Pl}{r:Rs}(ha:MU r=true)(h:Holds K φ w pl r):Holds K' φ w pl r:=by
 cases r with
 | box t cs=>simp[MU] at ha
 | hole e k xs i j h=>simp[MU] at ha
 | arr e k d xs=>
   cases d with
   | true=>exact h
   | false=>simp[MU] at ha
theorem dF: ∀{rs:aGJ} {h:Nat} {r:Rs},bF rs h=some r->(h,r)∈rs
 | [],_,_,e=>by simp[bF] at e
 | (k,r')::rs,h,r,e=>by
   simp only[bF] at e;split at e
   ·injection e with e;subst_vars;simp
   exact aFR _ (dF e)
theorem MX (hG:G K φ A w0 N S a w){dst:Option Nat}{A' K' :Nat->Prop}{rv:AV}{rs:aGJ}{hb:Nat}{w' :World}{v:Value}{Kr:Nat->Prop}{φr:jS}(hd: ∀d,dst=some d->d<N)
 (hbel:Below w.heap.size w w') (hkout: ∀b,Kr b-> ∀h pl,φr h=some pl->b ∉ pl.F)
 (hdom: ∀h r,bF rs h=some r-> ∃pl,φr h=some pl/\Holds Kr φr w' pl r) (hnon: ∀h,bF rs h=none->φr h=none)
 (hdisj: ∀h h' pl pl',h≠h' ->φr h=some pl->φr h' =some pl' -> ∀g∈pl.F,g ∉ pl'.F) (hnd: ∀h pl,φr h=some pl->pl.F.Nodup) (hge: ∀h pl,φr h=some pl-> ∀g∈pl.F,w.heap.size<=g/\g<w'.heap.size)
 (hm:aH K' φr w' rv v) (hH: ∀h r pl,bF rs h=some r->Holds Kr φr w' pl r->Holds K' φr w' pl r)
 (hK: ∀b,K b->K' b) (hK' : ∀b,K' b->K b\/(Kr b/\w.heap.size<=b/\b<w'.heap.size)) (ha: ∀q∈rs,Iv q.2=true) (hf: ∀q∈rs,jP S (hb+q.1)) (hmt: ∀h∈cZ rv,∃r,bF rs h=some r):
 ∃φ',G K' φ' A w0 N (S.apply dst ⟨nI (hb+ ·) rv,[],rs.map fun q=>(hb+q.1,q.2)⟩) (a.put dst v) w' /\Tr K φ w (· ∈([]:List Nat)) (bF (rs.map fun q=>(hb+q.1,q.2))) K' φ' w' :=by
 have hfs: ∀h r,bF (rs.map fun q=>(hb+q.1,q.2)) h=some r->hb<=h/\bF rs (h - hb)=some r:=fun h r e=>by
  rw[vW] at e;split at e
  ·exact⟨by assumption,e⟩
  cases e
 have hφs: ∀h pl,(if hb<=h then φr (h - hb) else none)=some pl->hb<=h/\φr (h - hb)=some pl:=fun h pl e=>by
  split at e
  ·exact⟨by assumption,e⟩
  cases e
 have hfresh: ∀h pl,(if hb<=h then φr (h - hb) else none)=some pl->jP S h:=fun h pl e=>by
  obtain⟨h1,h2⟩:=hφs h pl e;cases hc:bF rs (h - hb) with
  | none=>rw[hnon _ hc] at h2;cases h2
  | some r=>
    have:=hf _ (dF hc);simp only at this
    rwa [show hb+(h - hb)=h by omega] at this
 have hstep:=hG.step (C:=(· ∈([]:List Nat))) (φr:=fun h=>if hb<=h then φr (h - hb) else none) (ρ:=bF (rs.map fun q=>(hb+q.1,q.2))) (K' :=K') (w' :=w')
  (Ag.of_below hbel _)
  (fun h pl e=>⟨hnd _ pl (hφs h pl e).2,fun g hg=>⟨(hge _ pl (hφs h pl e).2 g hg).2,.inl (hge _ pl (hφs h pl e).2 g hg).1⟩⟩)
  (fun h h' pl pl' hne e e' =>hdisj _ _ pl pl' (fun e2=>hne (by have:=(hφs h pl e).1;have:=(hφs h' pl' e').1;omega)) (hφs h pl e).2 (hφs h' pl' e').2)
  (fun h r e=>by
   obtain⟨h1,h2⟩:=hfs h r e;obtain⟨pl,hp,hh⟩:=hdom _ r h2;exact⟨pl,by simp[h1,hp],Holds.arrPhi (ha _ (dF h2)) (hH _ r pl h2 hh)⟩)
  (fun h e=>by
   rw[vW] at e;split at e
   ·rename_i h1;simp[h1,hnon _ e]
   rename_i h1;simp[h1])
  hK
  (fun b hb' =>by
   rcases hK' b hb' with h1 | ⟨h1,h2,h3⟩
   ·exact .inl h1
   exact .inr ⟨h3,.inl h2,fun h pl e=>hkout b h1 _ pl (hφs h pl e).2⟩)
  (fun t h pl hmm e=>absurd hmm ((hfresh h pl e).1 t))
  (fun h' r h pl _ hr hmm e=>absurd hmm ((hfresh h pl e).2.1 h' r hr))
 have hstep:=hstep (fun h pl e=> .inr (hfresh h pl e).2.2.2);refine⟨_,hstep.put hd (aH.map (φ:=φr) rv v (fun h pl hh e=>?_) hm),Ag.of_below hbel _,hK,fun b hb' =>?_,fun h pl e=>?_,fun h pl _ e g hg=>hbel.block g (hG.ge h pl e g (aCX _ hg)).2⟩
 ·rcases cF e with e | ⟨e1,_,e⟩
  ·have:=(hφs _ pl e).2
   rwa [show hb+h - hb=h by omega] at this
  obtain⟨r,hr⟩:=hmt h hh;obtain⟨pl',hp',_⟩:=hdom h r hr;rw[if_pos aGR,show hb+h - hb=h by omega,hp'] at e1;cases e1
 ·rcases hK' b hb' with h1 | ⟨h1,h2,h3⟩
  ·exact .inl h1
  exact .inr (.inl h2)
 rcases cF e with e | ⟨_,_,e⟩
 ·refine .inr ⟨hG.non h (hfresh h pl e).2.2.1,?_,fun g hg=> .inl (hge _ pl (hφs h pl e).2 g hg).1⟩;obtain⟨h1,h2⟩:=hφs h pl e;rw[vW,if_pos h1];cases hc:bF rs (h - hb) with
  | none=>rw[hnon _ hc] at h2;cases h2
  | some r=>exact⟨r,rfl⟩
 exact .inl e
end
mutual
theorem aH.unmap {K:Nat->Prop}{φ φ' :jS}{w:World}{g:Nat->Nat}: ∀(x:AV) (v:Value),(∀h pl,h∈cZ x->φ' h=some pl->φ (g h)=some pl)->aH K φ w (nI g x) v->aH K φ' w x v
 | .p none x,v,_,h=>by unfold nI at h;unfold aH at*;exact h
 | .p (some k) x,v,hm,h=>by unfold nI at h;unfold aH at*;exact fun pl hp=>h pl (hm k pl (by simp[cZ]) hp)
 | .own k,v,hm,h=>by unfold nI at h;unfold aH at*;exact fun pl hp=>h pl (hm k pl (by simp[cZ]) hp)
 | .ptr k o,v,hm,h=>by unfold nI at h;unfold aH at*;obtain⟨g',e,q⟩:=h;exact⟨g',e,fun pl hp=>q pl (hm k pl (by simp[cZ]) hp)⟩
 | .ep k _ _ _,v,hm,h=>by unfold nI at h;unfold aH at*;exact fun pl hp=>h pl (hm k pl (by simp[cZ]) hp)
 | .rp none x,v,_,h=>by unfold nI at h;unfold aH at*;exact h
 | .rp (some k) x,v,hm,h=>by unfold nI at h;unfold aH at*;exact fun pl hp=>h pl (hm k pl (by simp[cZ]) hp)
 | .agg cs,v,hm,h=>by
   unfold nI at h;unfold aH at*;obtain⟨vs,e,h1,h2⟩:=h;exact⟨vs,e,h1,aS.unmap cs _ (fun k pl hk=>hm k pl (by simpa [cZ] using hk)) h2⟩
 | .tup cs,v,hm,h=>by
   unfold nI at h;unfold aH at*;obtain⟨vs,e,h2⟩:=h;exact⟨vs,e,aS.unmap cs _ (fun k pl hk=>hm k pl (by simpa [cZ] using hk)) h2⟩
 | .fn f cs,v,hm,h=>by
   unfold nI at h;unfold aH at*;obtain⟨vs,e,h2⟩:=h;exact⟨vs,e,aS.unmap cs _ (fun k pl hk=>hm k pl (by simpa [cZ] using hk)) h2⟩
 | .nil,v,_,h=>by unfold nI at h;unfold aH at*;exact h
 | .bsl k n,v,hm,h=>by unfold nI at h;unfold aH at*;exact fun pl hp=>h pl (hm k pl (by simp[cZ]) hp)
 | .no,v,_,_=>by unfold aH;trivial
theorem aS.unmap {K:Nat->Prop}{φ φ' :jS}{w:World}{g:Nat->Nat}: ∀(xs:List AV) (vs:List Value),(∀h pl,h∈gY xs->φ' h=some pl->φ (g h)=some pl)->aS K φ w (Ao g xs) vs->aS K φ' w xs vs
 | [],vs,_,h=>by unfold Ao at h;unfold aS at*;exact h
 | x::xs,vs,hm,h=>by
   unfold Ao at h;unfold aS at*;obtain⟨v,vs',e,h1,h2⟩:=h;exact⟨v,vs',e,aH.unmap x v (fun k pl hk=>hm k pl (by simp[gY,hk])) h1,aS.unmap xs vs' (fun k pl hk=>hm k pl (by simp[gY,hk])) h2⟩
end
def MB (g:Nat->Nat):Rs->Rs
 | .box t cs=> .box t (Ao g cs)
 | .arr e k d xs=> .arr e k d xs
 | .hole e k xs i j h=> .hole e k xs i j (g h)
def Aq (A:Nat->Prop)(w0:Aa)(N:Nat)(S:St)(a:Act)(w:World):Prop:= ∃K φ,G K φ A w0 N S a w
def VC (P:Program)(N:Nat)(c:Code)(S:St)(Q:Exit->St->Prop):Prop:=
 ∀A w0 a w,Aq A w0 N S a w->c.wp P (fun e a' w' => ∃S',Aq A w0 N S' a' w' /\Q e S') a w
def aCx (Kn:St->Prop)(Q:Exit->St->Prop):Exit->St->Prop
 | .normal,S=>Kn S
 | e,S=>Q e S
def Sp (id:Nat)(Q:Exit->St->Prop):Exit->St->Prop
 | .exit id',S=>if id' =id then Q .normal S else Q (.exit id') S
 | e,S=>Q e S
section
variable {P:Program} {N:Nat} {S:St} {Q:Exit->St->Prop}
theorem aBI (h:Q .normal S):VC P N .skip S Q:=fun A w0 a w hG=>wp_skip ⟨S,hG,h⟩
theorem aDa (h:Q .ret S):VC P N .ret S Q:=fun A w0 a w hG=>wp_ret ⟨S,hG,h⟩
theorem aBJ {id:Nat}(h:Q (.exit id) S):VC P N (.exit id) S Q:=fun A w0 a w hG=>wp_exit ⟨S,hG,h⟩
theorem OX {c:Code}{Q' :Exit->St->Prop}(h:VC P N c S Q)(hq: ∀e S,Q e S->Q' e S):VC P N c S Q' :=fun A w0 a w hG=>Code.wp_mono (fun e a w ⟨S',h1,h2⟩=>⟨S',h1,hq e S' h2⟩) (h A w0 a w hG)
theorem aDb {x y:Code}(h: ∀Kn:St->Prop,(∀S,VC P N y S Q->Kn S)->VC P N x S (aCx Kn Q)):VC P N (.seq x y) S Q:=fun A w0 a w hG=>by
 refine wp_seq (Code.wp_mono (fun e a w ⟨S',h1,h2⟩=>?_) (h (fun S=>VC P N y S Q) (fun _ h=>h) A w0 a w hG));cases e with
 | normal=>exact h2 A w0 a w h1
 | _=>exact⟨S',h1,h2⟩
theorem aBK {c:Operand}{x y:Code}{t:Bool}(hc:S.ev c= .p none (.bool t))(hx:t=true->VC P N x S Q)(hy:t=false->VC P N y S Q):VC P N (.cond c x y) S Q:=fun A w0 a w hG=>by
 obtain⟨K,φ,hG'⟩:=hG;have e:a.eval c= .bool t:=lO (x:=S.ev c) (by rw[hc];rfl) (hG'.ev c);exact wp_cond_split e (fun ht=>hx ht A w0 a w ⟨K,φ,hG'⟩) (fun ht=>hy ht A w0 a w ⟨K,φ,hG'⟩)
theorem Xs {id:Nat}{c:Code}(h:VC P N c S (Sp id Q)):VC P N (.block id c) S Q:=fun A w0 a w hG=>by
 refine wp_block (Code.wp_mono (fun e a w ⟨S',h1,h2⟩=>?_) (h A w0 a w hG));cases e with
 | exit id' =>
   simp only[Sp,Exit.inBlock] at*;split at h2
   ·rename_i hid;rw[if_pos hid];exact⟨S',h1,h2⟩
   rename_i hid;rw[if_neg hid];exact⟨S',h1,h2⟩
 | _=>exact⟨S',h1,h2⟩
theorem DM (p:Nat->Prop)(h: ∃n,p n): ∃n,p n/\ ∀m,p m->n<=m:=by
 obtain⟨n,hn⟩:=h
 induction n using Nat.strongRecOn with
 | _ n ih=>
   by_cases hm: ∃m,m<n/\p m
   ·obtain⟨m,h1,h2⟩:=hm;exact ih m h1 h2
   exact⟨n,hn,fun m h=>Nat.le_of_not_lt fun h' =>hm ⟨m,h',h⟩⟩
def Xt:AV->Option (Option Bool)
 | .p none (.bool b)=>some (some b)
 | .tup []=>some none
 | _=>none
theorem Xu {x:AV}{b:Bool}(h:x= .p none (.bool b)):Xt x=some (some b):=by rw[h];rfl
theorem Gp (K:Nat->Prop)(φ:jS)(w:World):aH K φ w (.tup []) undef:=by
 unfold aH;exact⟨#[],rfl,by unfold aS;rfl⟩
def Xv (P:Program)(N:Nat)(all:Array Oper):List Oper->St->(St->Prop)->Prop
 | [],S,K=>K S
 | o::rest,S,K=>(∀d,o.dst=some d->d<N)/\match o.guard with
   | none=> ∃e,Ah P o S e/\Xv P N all rest (S.apply o.dst e) K
   | some (j,want)=> ∃d b,(all[j]?).bind (·.dst)=some d/\d<N/\Xt (S.slots d)=some b/\(b=some want-> ∃e,Ah P o S e/\Xv P N all rest (S.apply o.dst e) K)/\(b≠some want->Xv P N all rest (S.put o.dst (.tup [])) K)
theorem MY {A:Nat->Prop}{w0:Aa}{S:St}{a:Act}{w:World}{K:Nat->Prop}{φ:jS}{all:Array Oper}{o:Oper}{j d:Nat}{want:Bool}{b:Option Bool}(hG:G K φ A w0 N S a w)(hg:o.guard=some (j,want))(hj:(all[j]?).bind (·.dst)=some d)(hd:d<N)(hs:Xt (S.slots d)=some b):
 Region.wanted o (yielded all a.tmps)=(b==some want):=by
 have h1:=hG.slots d;have hlt:d<a.tmps.size:=by rw[hG.size];exact hd
 rw[Array.getD_eq_getD_getElem?,Array.getElem?_eq_getElem hlt] at h1;unfold Xt at hs;split at hs
 ·rename_i b' hx;rw[hx] at h1;unfold aH jX at h1;have h2:a.tmps[d]? =some (.bool b'):=by rw[Array.getElem?_eq_getElem hlt];simpa using h1
  injection hs with hs
  subst hs;unfold Region.wanted;simp only[hg,yielded,hj,Option.bind_some,h2]
 ·rename_i hx;rw[hx] at h1;unfold aH at h1;obtain⟨vs,hv,_⟩:=h1;have h2:a.tmps[d]? =some (.tuple vs):=by rw[Array.getElem?_eq_getElem hlt];simpa using hv
  injection hs with hs
  subst hs;unfold Region.wanted;simp only[hg,yielded,hj,Option.bind_some,h2]
 cases hs
theorem Fm {all:Array Oper}{Qw:Exit->Act->World->Prop}{A:Nat->Prop}{w0:Aa}{Kn:St->Prop}(hQ: ∀S a w,Kn S->Aq A w0 N S a w->Qw .normal a w): ∀(l:List Oper) (S:St) (a:Act) (w:World),Xv P N all l S Kn->Aq A w0 N S a w->wpList P all Qw l a w
 | [],S,a,w,h,hG=>hQ S a w h hG
 | o::rest,S,a,w,h,⟨K,φ,hG⟩=>by
   unfold Xv at h;obtain⟨hd,h⟩:=h
   have step: ∀e,Ah P o S e->Xv P N all rest (S.apply o.dst e) Kn->o.wp P a w (wpList P all Qw rest) Qw:=fun e hs ho=>
    Oper.wp_mono (fun a' w' ⟨K',φ',v,_,hG'⟩=>Fm hQ rest _ a' w' ho ⟨K',φ',hG'⟩) (hs K φ A w0 N a w Qw hd hG)
   unfold wpList;split at h
   ·rename_i hg;obtain⟨e,hs,ho⟩:=h;rw[if_pos (by simp[Region.wanted,hg])];exact .inl (step e hs ho)
   rename_i j want hg;obtain⟨d,b,hj,hdN,hsl,h1,h2⟩:=h;rw[MY hG hg hj hdN hsl];by_cases hb:b=some want
   ·obtain⟨e,hs,ho⟩:=h1 hb;rw[if_pos (by simp[hb])];exact .inl (step e hs ho)
   rw[if_neg (by simp[hb])];exact Fm hQ rest _ _ w (h2 hb) ⟨K,φ,hG.put hd (Gp _ _ _)⟩
theorem Vt {id:Nat}{ops:Array Oper}(h:Xv P N ops ops.toList S (Q .normal)):VC P N (.region id ops false) S Q:=fun A w0 a w hG=>
 wp_region_list (Fm (fun S a w hq hG=>⟨S,hG,hq⟩) ops.toList S a w h hG)
def aBL (P:Program)(S:St):ResultVar->AV->Prop
 | .tmp t,x=>x=S.slots t
 | .cell t ty,x=> ∃h tb cs ag n bt z,S.slots t= .ptr h 0/\S.res h=some (.box tb cs)/\iJ P ty=some (ag,n,bt,z)/\((ag=true/\n=cs.length/\x= .agg cs)\/(ag=false/\cs[0]? =some x))
def Xw (P:Program)(S:St):List ResultVar->List AV->Prop
 | [],xs=>xs= []
 | r::rs,xs=> ∃x xs',xs=x::xs' /\aBL P S r x/\Xw P S rs xs'
def MZ:List AV->AV
 | [x]=>x
 | xs=> .tup xs
def Iz (tmps:Array Value)(r:ResultVar):Sem Value:=match r with | .tmp t=>pure (tmps.getD t undef) | .cell t ty=>do loadVar ty (<-asAddr (tmps.getD t undef))
theorem Sq {A:Nat->Prop}{w0:Aa}{a:Act}{w:World}{K:Nat->Prop}{φ:jS}(hG:G K φ A w0 N S a w){r:ResultVar}{x:AV}(h:aBL P S r x):
 ∃v,(Iz a.tmps r).run P w= .ok v w/\aH K φ w x v:=by
 cases r with
 | tmp t=>
   simp only[aBL] at h;subst h;exact⟨_,rfl,hG.slots t⟩
 | cell t ty=>
   simp only[aBL] at h;obtain⟨k,tb,cs,ag,n,bt,z,h1,h2,h3,h4⟩:=h;obtain⟨g,vs,hp,hB,hone,hl⟩:=hG.boxed h2;have h5:=hG.slots t;rw[h1] at h5;unfold aH at h5;obtain⟨g',he,hq'⟩:=h5;have hg' :=hq' _ hp;simp only[List.cons.injEq,and_true] at hg';subst hg';have hlen:=mN hl;simp only[aGG] at hlen;rcases h4 with ⟨rfl,rfl,rfl⟩ | ⟨rfl,hx⟩
   ·have:=vV h3 w g 0 vs.toList (by simpa using hlen) (fun j v hv=>by rw[hB.cell,<-Array.getElem?_toList,Nat.zero_add];exact hv);refine⟨.agg vs,?_,by unfold aH;exact⟨vs,rfl,hone,hl⟩⟩;simp only[Iz,he,asAddr,Sem.run_bind,Sem.run_pure,Result.andThen_ok];simpa [Instr.loadAt,Instr.sureAddr] using this
   obtain⟨v,hv,hm⟩:=rC hl hx;have:=sN h3 w g 0 v (by rw[hB.cell,<-Array.getElem?_toList];exact hv);refine⟨v,?_,hm⟩;simp only[Iz,he,asAddr,Sem.run_bind,Sem.run_pure,Result.andThen_ok];simpa [Instr.loadAt,Instr.sureAddr] using this
theorem I0 {A:Nat->Prop}{w0:Aa}{a:Act}{w:World}{K:Nat->Prop}{φ:jS}(hG:G K φ A w0 N S a w): ∀{rs:List ResultVar} {xs:List AV},Xw P S rs xs->
 ∃vs:List Value,(rs.mapM (Iz a.tmps)).run P w= .ok vs w/\aS K φ w xs vs
 | [],xs,h=>⟨[],by simp,by rw[show xs= [] from h];unfold aS;rfl⟩
 | r::rs,xs,⟨x,xs',e,h1,h2⟩=>by
   subst e;obtain⟨v,q1,q2⟩:=Sq hG h1;obtain⟨vs,q3,q4⟩:=I0 hG h2;refine⟨v::vs,?_,by unfold aS;exact⟨v,vs,rfl,q2,q4⟩⟩;simp only[List.mapM_cons,Sem.run_bind];rw[q1];simp only[Result.andThen_ok,Sem.run_bind];rw[q3];rfl
theorem C8 {A:Nat->Prop}{w0:Aa}{a:Act}{w:World}{K:Nat->Prop}{φ:jS}{fn:Func}{xs:List AV}(hG:G K φ A w0 N S a w)(h:Xw P S fn.results.toList xs): ∃v,(results fn a.tmps).run P w= .ok v w/\aH K φ w (MZ xs) v:=by
 obtain⟨vs,h1,h2⟩:=I0 hG h;have hl:=mN h2
 have hrun:(results fn a.tmps).run P w= .ok (if h:vs.toArray.size=1 then vs.toArray[0] else .tuple vs.toArray) w:=by
  have e:results fn a.tmps=(do let vs <-fn.results.mapM (Iz a.tmps);pure (if h:vs.size=1 then vs[0] else .tuple vs)):=by
   unfold results
   congr 1
  rw[e,Array.mapM_eq_mapM_toList];simp only[Sem.run_bind,Sem.run_map,h1];rfl
 refine⟨_,hrun,?_⟩;rcases xs with _ | ⟨x,_ | ⟨y,xs⟩⟩
 ·have:vs= []:=aDE hl;subst this;simp only[MZ];unfold aH;exact⟨#[],rfl,h2⟩
 ·unfold aS at h2;obtain⟨v,vs',rfl,h3,h4⟩:=h2;unfold aS at h4;subst h4;exact h3
 rw[dif_neg (by simp at hl ⊢;omega)];simp only[MZ];unfold aH;exact⟨_,rfl,h2⟩
def Py:Ar->AV
 | .one x=> .p none x
 | .agg xs=> .agg (xs.map (AV.p none))
 | .ref xs=> .rp none xs
 | .fn f caps=> .fn f (caps.map (AV.rp none))
def S0 (args:List Ar):St:=⟨fun t=>match args[t]? with | some x=>Py x | none=> .no,fun _=>none⟩
theorem Pz {A:Nat->Prop}{w:World}: ∀{xs:List Ar} {vs:List Value} {i:Nat} {x:Ar},tL A w xs vs->xs[i]? =some x-> ∃v,vs[i]? =some v/\Pv A w x v
 | [],_,_,_,_,h=>by simp at h
 | y::xs,_,0,x,⟨v,vs',e,h1,_⟩,h=>by subst e;simp at h;subst h;exact⟨v,rfl,h1⟩
 | y::xs,_,i+1,x,⟨v,vs',e,_,h2⟩,h=>by
   subst e;simp at h;obtain⟨u,hu,hr⟩:=Pz h2 h;exact⟨u,by simpa using hu,hr⟩
theorem Ma {A:Nat->Prop}{w:World}: ∀{xs:List Ar} {vs:List Value},tL A w xs vs->vs.length=xs.length
 | [],_,h=>by rw[show _= [] from h];rfl
 | y::xs,_,⟨v,vs',e,_,h2⟩=>by subst e;simp[Ma h2]
theorem I1 {A:Nat->Prop}{w:World}{φ:jS}: ∀{xs:List (List bX)} {vs:List Value},Iw A w xs vs->aS A φ w (xs.map (AV.rp none)) vs
 | [],vs,h=>by unfold Iw at h;subst h;unfold List.map aS;rfl
 | x::xs,_,⟨v,vs',e,h1,h2⟩=>by
   subst e;rw[aDH];unfold aS;refine⟨v,vs',rfl,?_,I1 h2⟩;unfold aH;exact h1
theorem Sr {A:Nat->Prop}{w:World}{φ:jS}{x:Ar}{v:Value}(h:Pv A w x v):aH A φ w (Py x) v:=by
 cases x with
 | one x=>simp only[Py];unfold aH;exact h
 | ref xs=>simp only[Py];unfold aH;exact h
 | fn f caps=>
   obtain⟨vs,rfl,hl⟩:=h;simp only[Py];unfold aH;exact⟨vs,rfl,I1 hl⟩
 | agg xs=>
   obtain⟨vs,rfl,hl⟩:=h;simp only[Py];obtain⟨h1,h2⟩:=oB (K:=A) (φ:=φ) (w:=w) (o:=none) (fun x v=>by unfold aH;exact Iff.rfl) hl
   have e2:xs.map (OP none)=xs.map (AV.p none):=by
    apply List.map_congr_left;intro y _;unfold OP;split<;>rfl
   rw[e2] at h1;unfold aH;exact⟨vs,rfl,h2,h1⟩
def Fin (P:Program)(fn:Func)(rv:AV)(rs:aGJ)(e:Exit)(S:St):Prop:=
 (e= .normal\/e= .ret)/\ ∃xs g,Xw P S fn.results.toList xs/\MZ xs=nI g rv/\(∀h r,bF rs h=some r->S.res (g h)=some r/\Iv r=true)/\(∀h h' r r',bF rs h=some r->bF rs h' =some r' ->g h=g h' ->h=h')
theorem Xx {w w' :World}(h:Ag (fun _=>False) w w'):Below w.heap.size w w' :=⟨h.os,h.tape,h.output,h.size,fun k hk=>h.block k hk id⟩
theorem UP {w:World}{φ0:jS}{hd: ∀h pl,φ0 h=some pl->h<100}{b:Nat}(h:Aa.mine ⟨w,fun _=>False,φ0,hd⟩ b):w.heap.size<=b:=h.elim id False.elim
end
def cM:aGK->Nat->AV
 | [],_=> .no
 | (k,v)::l,t=>if t=k then v else cM l t
def bL:List (Nat × Option Rs)->Nat->Option Rs
 | [],_=>none
 | (k,r)::l,h=>if h=k then r else bL l h
def mk (sl:aGK)(rs:List (Nat × Option Rs)):St:=⟨cM sl,bL rs⟩
def Xy (sl:aGK)(rs:List (Nat × Option Rs))(d:Nat)(v:AV):(mk sl rs).put (some d) v=mk ((d,v)::sl) rs:=by
 simp only[St.put,mk]
 congr 1
def nL (del:List Nat):List (Nat × Option Rs):=del.map fun h=>(h,none)
def rE (new:aGJ):List (Nat × Option Rs):=new.map fun q=>(q.1,some q.2)
def I3 (del:List Nat)(rs:List (Nat × Option Rs))(h:Nat):bL (nL del++rs) h=if h∈del then none else bL rs h:=by
 induction del with
 | nil=>simp[nL]
 | cons k del ih=>
   simp only[nL,aDH,List.cons_append,bL] at*;rw[ih];by_cases e:h=k<;>simp[e]
def Fn (new:aGJ)(rs:List (Nat × Option Rs))(h:Nat):bL (rE new++rs) h=match bF new h with | some r=>some r | none=>bL rs h:=by
 induction new with
 | nil=>simp[rE,bF]
 | cons q new ih=>
   obtain⟨k,r⟩:=q;simp only[rE,aDH,List.cons_append,bL,bF] at*;rw[ih];by_cases e:h=k<;>simp[e]
def Xz (sl:aGK)(rs:List (Nat × Option Rs))(d:Nat)(v:AV)(del:List Nat)(new:aGJ):(mk sl rs).apply (some d) ⟨v,del,new⟩=mk ((d,v)::sl) (rE new++(nL del++rs)):=by
 unfold St.apply;rw[<-Xy]
 congr 1
 simp only[mk]
 congr 1
 funext h;rw[Fn,I3];simp only[iI];cases bF new h<;>rfl
def Vu (sl:aGK)(rs:List (Nat × Option Rs))(v:AV)(del:List Nat)(new:aGJ):(mk sl rs).apply none ⟨v,del,new⟩=mk sl (rE new++(nL del++rs)):=by
 unfold St.apply;simp only[St.put,mk]
 congr 1
 funext h;rw[Fn,I3];simp only[iI];cases bF new h<;>rfl
section
variable {P:Program} {N:Nat} {all:Array Oper} {rest:List Oper} {sl:aGK} {rs:List (Nat × Option Rs)} {K:St->Prop} {ty:TypeId} {pos:String} {aft:Array Edge} {d:Nat} {gd:Option (Nat × Bool)}
def eA (sl:aGK):Operand->AV
 | .tmp t=>cM sl t
 | .const v=>UL v
 | .func f=> .fn f []
 | .global _=> .no
theorem cU (sl:aGK)(rs:List (Nat × Option Rs))(x:Operand):(mk sl rs).ev x=eA sl x:=by cases x<;>rfl
theorem vX {c x y:Operand}{t:Bool}{v:AV}(hc:eA sl c= .p none (.bool t))(hv:(if t then eA sl x else eA sl y)=v):bP P ⟨some d,.pick c x y,ty,pos,aft,gd⟩ (mk sl rs) ⟨v,[],[]⟩:=
 by rw[<-hv,<-cU sl rs,<-cU sl rs];exact Si rfl (by rw[cU];exact hc)
theorem Ss {x:Operand}{i:Nat}{vs:List AV}{v:AV}(hx:eA sl x= .tup vs)(hv:vs[i]? =some v):bP P ⟨some d,.extract x i,ty,pos,aft,gd⟩ (mk sl rs) ⟨v,[],[]⟩:=
 L3 rfl (by rw[cU];exact hx) hv
theorem Su {x:Operand}{t e:TypeId}{n:Nat}(ht:P.underlying t=some (.slice e))(hn:UM (mk sl rs) (eA sl x) n):bP P ⟨some d,.call { callee:= .builtin .len,args:= #[x],argTypes:= #[t] },ty,pos,aft,gd⟩ (mk sl rs) ⟨.p none (.int .i64 n),[],[]⟩:=
 Vn rfl ht (by rw[cU];exact hn)
theorem nF {o:Op}{x:bX}{v:Value}(hx:x.val? =some v)(hr: ∀(e:Operand->Value) (w:World),(∀y u,Xn (eA sl y)=some u->e y=u)->(execOp e ⟨some d,o,ty,pos,aft,gd⟩).run P w= .ok (.value v) w):bP P ⟨some d,o,ty,pos,aft,gd⟩ (mk sl rs) ⟨.p none x,[],[]⟩:=
 Sh hx fun e w he=>hr e w fun y u hu=>he y u (by rw[cU];exact hu)
theorem xA {x:AV}{y:bX}{v:Value}(h:x= .p none y)(hv:y.val? =some v):Xn x=some v:=by rw[h];exact hv
section
variable {x y:Operand} {t t' :TypeId} {k:IntKind} {m n:Int}
theorem gO {op:BinOp}{r:bX}{v:Value}(hx:eA sl x= .p none (.int k m))(hy:eA sl y= .p none (.int k n))(hv:r.val? =some v)(hr: ∀w,(binOp op t (.int k m) (.int k n)).run P w= .ok v w):bP P ⟨some d,.binOp op t x y t',ty,pos,aft,gd⟩ (mk sl rs) ⟨.p none r,[],[]⟩:=
 nF hv (fun e w he=>by
  have h1:=he x _ (xA hx rfl);have h2:=he y _ (xA hy rfl)
  have hg:(eqGuard op t x y (.int k m) (.int k n)).run P w= .ok () w:=by
   unfold eqGuard;cases op<;>rfl
  simp only[execOp,h1,h2,Sem.run_bind,hg,Result.andThen_ok,hr];rfl)
theorem aDc (hx:eA sl x= .p none (.int k m))(hy:eA sl y= .p none (.int k n)):bP P ⟨some d,.binOp .lss t x y t',ty,pos,aft,gd⟩ (mk sl rs) ⟨.p none (.bool (decide (m<n))),[],[]⟩:=
 gO hx hy rfl (fun w=>by simp[binOp,Op.intCmp])
theorem aDd (hx:eA sl x= .p none (.int k m))(hy:eA sl y= .p none (.int k n)):bP P ⟨some d,.binOp .leq t x y t',ty,pos,aft,gd⟩ (mk sl rs) ⟨.p none (.bool (decide (m<=n))),[],[]⟩:=
 gO hx hy rfl (fun w=>by simp[binOp,Op.intCmp])
theorem aDe (hx:eA sl x= .p none (.int k m))(hy:eA sl y= .p none (.int k n)):bP P ⟨some d,.binOp .gtr t x y t',ty,pos,aft,gd⟩ (mk sl rs) ⟨.p none (.bool (decide (n<m))),[],[]⟩:=
 gO hx hy rfl (fun w=>by simp[binOp,Op.intCmp])
theorem aDf (hx:eA sl x= .p none (.int k m))(hy:eA sl y= .p none (.int k n)):bP P ⟨some d,.binOp .geq t x y t',ty,pos,aft,gd⟩ (mk sl rs) ⟨.p none (.bool (decide (n<=m))),[],[]⟩:=
 gO hx hy rfl (fun w=>by simp[binOp,Op.intCmp])
theorem aDg (hx:eA sl x= .p none (.int k m))(hy:eA sl y= .p none (.int k n)):bP P ⟨some d,.binOp .eql t x y t',ty,pos,aft,gd⟩ (mk sl rs) ⟨.p none (.bool (decide (m=n))),[],[]⟩:=
 gO hx hy rfl (fun w=>by simp[binOp,Op.intCmp];rfl)
theorem aDh (hx:eA sl x= .p none (.int k m))(hy:eA sl y= .p none (.int k n)):bP P ⟨some d,.binOp .neq t x y t',ty,pos,aft,gd⟩ (mk sl rs) ⟨.p none (.bool (!decide (m=n))),[],[]⟩:=
 gO hx hy rfl (fun w=>by simp[binOp,Op.intCmp];rfl)
theorem aDi (hx:eA sl x= .p none (.int k m))(hy:eA sl y= .p none (.int k n)):bP P ⟨some d,.binOp .add t x y t',ty,pos,aft,gd⟩ (mk sl rs) ⟨.p none (.int k (k.wrap (m+n))),[],[]⟩:=
 gO hx hy rfl (fun w=>by simp[binOp,Op.intArith])
theorem aDj (hx:eA sl x= .p none (.int k m))(hy:eA sl y= .p none (.int k n)):bP P ⟨some d,.binOp .sub t x y t',ty,pos,aft,gd⟩ (mk sl rs) ⟨.p none (.int k (k.wrap (m - n))),[],[]⟩:=
 gO hx hy rfl (fun w=>by simp[binOp,Op.intArith])
theorem aDk (hx:eA sl x= .p none (.int k m))(hy:eA sl y= .p none (.int k n)):bP P ⟨some d,.binOp .mul t x y t',ty,pos,aft,gd⟩ (mk sl rs) ⟨.p none (.int k (k.wrap (m*n))),[],[]⟩:=
 gO hx hy rfl (fun w=>by simp[binOp,Op.intArith])
theorem aDl (hx:eA sl x= .p none (.int k m))(hy:eA sl y= .p none (.int k n))(h0:n≠0):bP P ⟨some d,.binOp .quo t x y t',ty,pos,aft,gd⟩ (mk sl rs) ⟨.p none (.int k (k.wrap (m.tdiv n))),[],[]⟩:=
 gO hx hy rfl (fun w=>by simp[binOp,Op.intDiv,h0])
theorem aDm (hx:eA sl x= .p none (.int k m))(hy:eA sl y= .p none (.int k n))(h0:n≠0):bP P ⟨some d,.binOp .rem t x y t',ty,pos,aft,gd⟩ (mk sl rs) ⟨.p none (.int k (m.tmod n)),[],[]⟩:=
 gO hx hy rfl (fun w=>by simp[binOp,Op.intDiv,h0])
theorem aDn {b:Bool}(hx:eA sl x= .p none (.bool b)):bP P ⟨some d,.unOp .not t x,ty,pos,aft,gd⟩ (mk sl rs) ⟨.p none (.bool (!b)),[],[]⟩:=
 nF (x:= .bool (!b)) rfl (fun e w he=>by have h1:=he x _ (xA hx rfl);simp[execOp,h1,Op.unary])
theorem aDo (hx:eA sl x= .p none (.int k m)):bP P ⟨some d,.unOp .neg t x,ty,pos,aft,gd⟩ (mk sl rs) ⟨.p none (.int k (k.wrap (0 - m))),[],[]⟩:=
 nF (x:= .int k (k.wrap (0 - m))) rfl (fun e w he=>by have h1:=he x _ (xA hx rfl);simp[execOp,h1,Op.unary,Op.intArith])
end
theorem Gq {op:BinOp}{x y:Operand}{t t' :TypeId}{m n:Bool}{r:bX}{v:Value}(hx:eA sl x= .p none (.bool m))(hy:eA sl y= .p none (.bool n))(hv:r.val? =some v)(hr: ∀w,(binOp op t (.bool m) (.bool n)).run P w= .ok v w):bP P ⟨some d,.binOp op t x y t',ty,pos,aft,gd⟩ (mk sl rs) ⟨.p none r,[],[]⟩:=
 nF hv (fun e w he=>by
  have h1:=he x _ (xA hx rfl);have h2:=he y _ (xA hy rfl)
  have hg:(eqGuard op t x y (.bool m) (.bool n)).run P w= .ok () w:=by
   unfold eqGuard;cases op<;>rfl
  simp only[execOp,h1,h2,Sem.run_bind,hg,Result.andThen_ok,hr];rfl)
theorem P0 {x y:Operand}{t t' :TypeId}{m n:Bool}(hu:P.underlying t=some .bool)(hx:eA sl x= .p none (.bool m))(hy:eA sl y= .p none (.bool n)):bP P ⟨some d,.binOp .neq t x y t',ty,pos,aft,gd⟩ (mk sl rs) ⟨.p none (.bool (!(m==n))),[],[]⟩:=
 Gq hx hy rfl (fun w=>by
  have h:=run_equalIn_bool' (P:=P) w 9999 t m n hu;have h' :(Op.equal t (.bool m) (.bool n)).run P w= .ok (m==n) w:=h;simp only[binOp,Sem.run_bind,h',Result.andThen_ok,Sem.run_pure])
theorem P1 {x y:Operand}{t t' :TypeId}{m n:Bool}(hu:P.underlying t=some .bool)(hx:eA sl x= .p none (.bool m))(hy:eA sl y= .p none (.bool n)):bP P ⟨some d,.binOp .eql t x y t',ty,pos,aft,gd⟩ (mk sl rs) ⟨.p none (.bool (m==n)),[],[]⟩:=
 Gq hx hy rfl (fun w=>by
  have h:=run_equalIn_bool' (P:=P) w 9999 t m n hu;have h' :(Op.equal t (.bool m) (.bool n)).run P w= .ok (m==n) w:=h;simp only[binOp,Sem.run_bind,h',Result.andThen_ok,Sem.run_pure])
theorem uG {op:BinOp}{x y:Operand}{t t' :TypeId}{m n:E}{r:bX}{v:Value}(hx:eA sl x= .p none (.str m))(hy:eA sl y= .p none (.str n))(hv:r.val? =some v)(hr: ∀w,(binOp op t (.string m) (.string n)).run P w= .ok v w):bP P ⟨some d,.binOp op t x y t',ty,pos,aft,gd⟩ (mk sl rs) ⟨.p none r,[],[]⟩:=
 nF hv (fun e w he=>by
  have h1:=he x _ (xA hx rfl);have h2:=he y _ (xA hy rfl)
  have hg:(eqGuard op t x y (.string m) (.string n)).run P w= .ok () w:=by
   unfold eqGuard;cases op<;>rfl
  simp only[execOp,h1,h2,Sem.run_bind,hg,Result.andThen_ok,hr];rfl)
theorem MC {x y:Operand}{t t' :TypeId}{m n:E}(hx:eA sl x= .p none (.str m))(hy:eA sl y= .p none (.str n)):bP P ⟨some d,.binOp .neq t x y t',ty,pos,aft,gd⟩ (mk sl rs) ⟨.p none (.bool (!(m.toList==n.toList))),[],[]⟩:=
 uG hx hy rfl (fun w=>by simp[binOp,Op.stringOp])
theorem MD {x y:Operand}{t t' :TypeId}{m n:E}(hx:eA sl x= .p none (.str m))(hy:eA sl y= .p none (.str n)):bP P ⟨some d,.binOp .eql t x y t',ty,pos,aft,gd⟩ (mk sl rs) ⟨.p none (.bool (m.toList==n.toList)),[],[]⟩:=
 uG hx hy rfl (fun w=>by simp[binOp,Op.stringOp])
theorem Vv {x:Operand}{s:TypeId}{f off o' hh k i:Nat}{ft:TypeId}{r:Rs}(hf:tN P s f=some (off,ft))(hx:eA sl x= .ep hh k i o')(hr:bL rs hh=some r):bP P ⟨some d,.fieldAddr s x f,ty,pos,aft,gd⟩ (mk sl rs) ⟨.ep hh k i (o' +off),[],[]⟩:=
 Ie rfl hf (by rw[cU];exact hx) ⟨r,hr⟩
theorem Vw {x y:Operand}{t e:TypeId}{k bt hh e' :Nat}{ag dp:Bool}{z:Value}{xs:List (List bX)}{ik:IntKind}{n:Int}(ht:P.underlying t=some (.slice e))(hk:iJ P e=some (ag,k,bt,z))(hx:eA sl x= .own hh)(hr:bL rs hh=some (.arr e' k dp xs))(hy:eA sl y= .p none (.int ik n))(h0:0<=n)(hn:n<xs.length):bP P ⟨some d,.indexAddr t x y,ty,pos,aft,gd⟩ (mk sl rs) ⟨.ep hh k n.toNat 0,[],[]⟩:=
 Hv rfl ht hk (by rw[cU];exact hx) hr (by rw[cU];exact hy) h0 hn
theorem X0 {x:Operand}{t tb:TypeId}{n bt off hh:Nat}{z:Value}{cs vs:List AV}(ht:iJ P t=some (true,n,bt,z))(hx:eA sl x= .ptr hh off)(hr:bL rs hh=some (.box tb cs))(hn:off+n<=cs.length)(hv:(cs.drop off).take n=vs):bP P ⟨some d,.load t x,ty,pos,aft,gd⟩ (mk sl rs) ⟨.agg vs,[],[]⟩:=
 by rw[<-hv];exact Ak rfl ht (by rw[cU];exact hx) hr hn
theorem Vx {x:Operand}{t tb:TypeId}{n bt off hh:Nat}{z:Value}{cs:List AV}{v:AV}(ht:iJ P t=some (false,n,bt,z))(hx:eA sl x= .ptr hh off)(hr:bL rs hh=some (.box tb cs))(hv:cs[off]? =some v):bP P ⟨some d,.load t x,ty,pos,aft,gd⟩ (mk sl rs) ⟨v,[],[]⟩:=
 AN rfl ht (by rw[cU];exact hx) hr hv
theorem P2 {x:Operand}{t:TypeId}{n bt hh e k i off:Nat}{dp:Bool}{z:Value}{xs:List (List bX)}{row:List bX}{vs:List AV}(ht:iJ P t=some (true,n,bt,z))(hx:eA sl x= .ep hh k i off)(hr:bL rs hh=some (.arr e k dp xs))(hi:xs[i]? =some row)(hn:off+n<=row.length)(hv:((row.drop off).take n).map (OP (if dp then some hh else none))=vs):bP P ⟨some d,.load t x,ty,pos,aft,gd⟩ (mk sl rs) ⟨.agg vs,[],[]⟩:=
 by rw[<-hv];exact L7 rfl ht (by rw[cU];exact hx) hr hi hn
theorem Mb {x:Operand}{t:TypeId}{n bt hh e k i off:Nat}{dp:Bool}{z:Value}{xs:List (List bX)}{row:List bX}{y:bX}{v:AV}(ht:iJ P t=some (false,n,bt,z))(hx:eA sl x= .ep hh k i off)(hr:bL rs hh=some (.arr e k dp xs))(hi:xs[i]? =some row)(hy:row[off]? =some y)(hv:OP (if dp then some hh else none) y=v):bP P ⟨some d,.load t x,ty,pos,aft,gd⟩ (mk sl rs) ⟨v,[],[]⟩:=
 by rw[<-hv];exact Ij rfl ht (by rw[cU];exact hx) hr hi hy
theorem Vy {x y:Operand}{t tb:TypeId}{ag:Bool}{n bt off hh:Nat}{z:Value}{cs cs' :List AV}(ht:iJ P t=some (ag,n,bt,z))(hx:eA sl x= .ptr hh off)(hr:bL rs hh=some (.box tb cs))(hc:sO (mk sl rs) (eA sl y))(hn:(gJ (eA sl y)).length=n)(hl:off+n<=cs.length)(hv:cs.take off++gJ (eA sl y)++cs.drop (off+n)=cs'):bP P ⟨none,.store t x y,ty,pos,aft,gd⟩ (mk sl rs) ⟨.no,[hh],[(hh,.box tb cs')]⟩:=
 by rw[<-hv,<-cU sl rs];exact Hw rfl ht (by rw[cU];exact hx) hr (by rw[cU];exact hc) (by rw[cU];exact hn) hl
theorem Vz {x y:Operand}{t:TypeId}{ag dp:Bool}{n bt off hh e k i:Nat}{z:Value}{xs xs' :List (List bX)}{row ys:List bX}{vs us:List Value}(ht:iJ P t=some (ag,n,bt,z))(hx:eA sl x= .ep hh k i off)(hr:bL rs hh=some (.arr e k dp xs))(hi:xs[i]? =some row)(hrow:mH row vs)(hy:gJ (eA sl y)=ys.map (AV.p none))(hys:mH ys us)(hn:ys.length=n)(hl:off+n<=row.length)
 (hv:xs.set i (row.take off++ys++row.drop (off+n))=xs'):bP P ⟨none,.store t x y,ty,pos,aft,gd⟩ (mk sl rs) ⟨.no,[hh],[(hh,.arr e k dp xs')]⟩:=
 by rw[<-hv];exact Im rfl ht (by rw[cU];exact hx) hr hi hrow (by rw[cU];exact hy) hys hn hl
theorem X1 {t:TypeId}{parts:Array (Nat × Operand)}{z:Value}{ps:aGM}{cs:List AV}(ht:EX P t=some (z,ps))(hc: ∀q∈parts.toList,sO (mk sl rs) (eA sl q.2))(hf:xJ (ps.toArray[·]?) (z.cells.toList.map UL) (parts.toList.map fun q=>(q.1,eA sl q.2))=some cs):bP P ⟨some d,.build t parts,ty,pos,aft,gd⟩ (mk sl rs) ⟨.agg cs,[],[]⟩:=
 Pq rfl ht (fun q hq=>by rw[cU];exact hc q hq) (by rw[<-hf];congr 1)
theorem V0 {S:St}:Ix S [] []:=rfl
theorem Sv {S:St}{x:AV}{y:Ar}{xs:List AV}{ys:List Ar}(h:Pw S x y)(h' :Ix S xs ys):Ix S (x::xs) (y::ys):=⟨y,ys,rfl,h,h'⟩
theorem X2 {S:St}{cs:List AV}{ys:List bX}(h:MA S cs ys):Pw S (.agg cs) (.agg ys):=⟨ys,rfl,h⟩
theorem X3 {S:St}:MA S [] []:=rfl
theorem V1 {S:St}{x:AV}{y:bX}{xs:List AV}{ys:List bX}(h:Xp S x y)(h' :MA S xs ys):MA S (x::xs) (y::ys):=⟨y,ys,rfl,h,h'⟩
theorem aFL {S:St}{x:bX}:Xp S (.p none x) x:=⟨trivial,rfl⟩
theorem aDp {h:Nat}{x:bX}{r:Rs}(hr:bL rs h=some r):Xp (mk sl rs) (.p (some h) x) x:=⟨⟨r,hr⟩,rfl⟩
theorem aBM {h e k:Nat}{dp:Bool}{xs:List (List bX)}(hr:bL rs h=some (.arr e k dp xs)):Xp (mk sl rs) (.own h) (.sl e k xs):=⟨e,k,dp,xs,hr,rfl⟩
def aBN (rs:List (Nat × Option Rs)):AV->Option bX
 | .p none x=>some x
 | .p (some h) x=>match bL rs h with | some _=>some x | none=>none
 | .own h=>match bL rs h with | some (.arr e k _ xs)=>some (.sl e k xs) | _=>none
 | .nil=>some (.sl 0 1 [])
 | _=>none
def Mc (rs:List (Nat × Option Rs)):List AV->Option (List bX)
 | []=>some []
 | x::xs=>match aBN rs x with | some y=>(match Mc rs xs with | some ys=>some (y::ys) | none=>none) | none=>none
def I4 (rs:List (Nat × Option Rs)):AV->Option (List bX)
 | .rp none xs=>some xs
 | .rp (some h) xs=>match bL rs h with | some _=>some xs | none=>none
 | .ptr h off=>match bL rs h with | some (.box _ cs)=>(match Mc rs (cs.drop off) with | some (y::ys)=>some (y::ys) | _=>none) | _=>none
 | _=>none
def Ee (rs:List (Nat × Option Rs)):List AV->Option (List (List bX))
 | []=>some []
 | x::xs=>match I4 rs x with | some y=>(match Ee rs xs with | some ys=>some (y::ys) | none=>none) | none=>none
def X4 (rs:List (Nat × Option Rs)):AV->Option Ar
 | .agg cs=>match Mc rs cs with | some ys=>some (.agg ys) | none=>none
 | .fn f cs=>match Ee rs cs with | some ys=>some (.fn f ys) | none=>none
 | .rp o xs=>match I4 rs (.rp o xs) with | some ys=>some (.ref ys) | none=>none
 | .ptr h off=>match I4 rs (.ptr h off) with | some ys=>some (.ref ys) | none=>none
 | x=>match aBN rs x with | some y=>some (.one y) | none=>none
def Fo (rs:List (Nat × Option Rs)):List AV->Option (List Ar)
 | []=>some []
 | x::xs=>match X4 rs x with | some y=>(match Fo rs xs with | some ys=>some (y::ys) | none=>none) | none=>none
theorem UQ {x:AV}{y:bX}(h:aBN rs x=some y):Xp (mk sl rs) x y:=by
 unfold aBN at h;split at h
 ·injection h with h;subst h;exact aFL
 ·split at h
  ·rename_i hr;injection h with h;subst h;exact aDp hr
  cases h
 ·split at h
  ·rename_i hr;injection h with h;subst h;exact aBM hr
  cases h
 ·injection h with h;subst h;exact⟨0,1,rfl⟩
 cases h
theorem P3 {A:Nat->Prop}{w:World}{e k:Nat}{v:Value}:jX A w (.sl e k []) v↔ ∃a c,v= .slice a 0 c/\c<=maxLen:=by
 unfold jX iH;constructor
 ·rintro⟨a,c,e,_,h,_⟩;exact⟨a,c,e,h⟩
 rintro⟨a,c,e,h⟩;exact⟨a,c,e,aBC _,h,trivial⟩
theorem xK.imp {P:Program}{f:FuncId}{ys ys' :List Ar}{rv:AV}{rr:aGJ}(h: ∀A w vs,tL A w ys vs->tL A w ys' vs)(hC:xK P f ys' rv rr):xK P f ys rv rr:=⟨hC.1,fun A w vs hA hv=>hC.2 A w vs hA (h A w vs.toList hv)⟩
theorem I5: ∀{xs:List AV} {ys:List bX},Mc rs xs=some ys->MA (mk sl rs) xs ys
 | [],ys,h=>by unfold Mc at h;injection h with h;subst h;exact X3
 | x::xs,ys,h=>by
   unfold Mc at h;split at h
   ·rename_i y hy;split at h
    ·rename_i zs hz;injection h with h
     subst h;exact V1 (UQ hy) (I5 hz)
    cases h
   cases h
theorem Fp {x:AV}{y:List bX}(h:I4 rs x=some y):MV (mk sl rs) x y:=by
 unfold I4 at h;split at h
 ·injection h with h;subst h;exact⟨trivial,rfl⟩
 ·split at h
  ·rename_i hr;injection h with h;subst h;exact⟨⟨_,hr⟩,rfl⟩
  cases h
 ·split at h
  ·rename_i hr;split at h
   ·rename_i hd;injection h with h;subst h;exact⟨_,_,hr,I5 hd,by simp⟩
   cases h
  cases h
 cases h
theorem I6: ∀{xs:List AV} {ys:List (List bX)},Ee rs xs=some ys->OV (mk sl rs) xs ys
 | [],ys,h=>by unfold Ee at h;injection h with h;subst h;exact rfl
 | x::xs,ys,h=>by
   unfold Ee at h;split at h
   ·rename_i y hy;split at h
    ·rename_i zs hz;injection h with h
     subst h;exact⟨y,zs,rfl,Fp hy,I6 hz⟩
    cases h
   cases h
theorem X5 {x:AV}{y:Ar}(h:X4 rs x=some y):Pw (mk sl rs) x y:=by
 unfold X4 at h;split at h
 ·split at h
  ·rename_i hy;injection h with h;subst h;exact X2 (I5 hy)
  cases h
 ·split at h
  ·rename_i hy;injection h with h;subst h;exact⟨_,rfl,I6 hy⟩
  cases h
 ·split at h
  ·rename_i hy;injection h with h;subst h;exact⟨_,rfl,Fp hy⟩
  cases h
 ·split at h
  ·rename_i hy;injection h with h;subst h;exact⟨_,rfl,Fp hy⟩
  cases h
 rename_i hna hnf hnr hnp;split at h
 ·rename_i z hz;injection h with h
  subst h;have hd:=UQ (sl:=sl) hz;cases x with
  | agg cs=>exact absurd rfl (hna cs)
  | fn f cs=>exact absurd rfl (hnf f cs)
  | rp o xs=>exact absurd rfl (hnr o xs)
  | ptr h off=>exact absurd rfl (hnp h off)
  | _=>exact⟨z,rfl,hd⟩
 cases h
theorem Md: ∀{xs:List AV} {ys:List Ar},Fo rs xs=some ys->Ix (mk sl rs) xs ys
 | [],ys,h=>by unfold Fo at h;injection h with h;subst h;exact V0
 | x::xs,ys,h=>by
   unfold Fo at h;split at h
   ·rename_i y hy;split at h
    ·rename_i zs hz;injection h with h
     subst h;exact Sv (X5 hy) (Md hz)
    cases h
   cases h
theorem aDq {id:Nat}{l:List Oper}{S:St}{Q:Exit->St->Prop}(h:Xv P N l.toArray l S (Q .normal)):VC P N (.region id l.toArray false) S Q:=Vt (by simpa using h)
end
section
variable {P:Program} {N:Nat}
theorem Ag.mono {U U' :Nat->Prop}{w w' :World}(h:Ag U w w')(hU: ∀b,U b->U' b):Ag U' w w' :=⟨h.os,h.tape,h.output,h.size,fun k hk hn=>h.block k hk (fun hu=>hn (hU k hu))⟩
theorem bP.lift {o:Oper}{V S:St}{e:Eff}(hs:bP P o V e)(h1: ∀t,V.slots t= .no\/S.slots t=V.slots t)(hV: ∀h r,V.res h=some r->S.res h=some r)
 (hm1: ∀t h,h∈cZ (V.slots t)->S.res h=V.res h) (hm2: ∀h0 r h,V.res h0=some r->h∈kG r->S.res h=V.res h) (hm3: ∀h,h∈cZ e.v->bF e.new h=none->S.res h=V.res h)
 (hm4: ∀k r h,bF e.new k=some r->h∈kG r->bF e.new h=none->S.res h=V.res h) (hnew: ∀h r,bF e.new h=some r->((∃r',V.res h=some r')/\h∈e.del)\/jP S h):bP P o S e:=by
 intro K φ A w0 N a w Q hd hG
 have hφ1: ∀h pl,(match V.res h with | some _=>φ h | none=>none)=some pl->(∃r,V.res h=some r)/\φ h=some pl:=fun h pl e=>by
  split at e
  ·rename_i r hr;exact⟨⟨r,hr⟩,e⟩
  cases e
 have hφ1' : ∀h r,V.res h=some r->(match V.res h with | some _=>φ h | none=>none)=φ h:=fun h r hr=>by rw[hr]
 generalize hφ:(fun h=>match V.res h with | some _=>φ h | none=>none:jS)=φ1;have p1: ∀h pl,φ1 h=some pl->(∃r,V.res h=some r)/\φ h=some pl:=fun h pl e=>hφ1 h pl (by rw[<-hφ] at e;exact e);have p2: ∀h r,V.res h=some r->φ1 h=φ h:=fun h r hr=>by rw[<-hφ];exact hφ1' h r hr
 have p3: ∀h,V.res h=none->φ1 h=none:=fun h hr=>by rw[<-hφ];simp[hr]
 clear hφ1 hφ1' hφ
 have G1:G K φ1 A w0 N V a w:=by
  refine⟨fun h r hr=>?_,p3,fun h h' pl pl' hne e e' =>hG.disj h h' pl pl' hne (p1 h pl e).2 (p1 h' pl' e').2,fun h pl e=>hG.nodup h pl (p1 h pl e).2,fun h pl e=>hG.ge h pl (p1 h pl e).2,hG.kin,fun b hb h pl e=>hG.kout b hb h pl (p1 h pl e).2,hG.aK,fun t=>?_,hG.bel,hG.nd,hG.size,fun h pl pl0 e=>hG.pin h pl pl0 (p1 h pl e).2⟩
  ·obtain⟨pl,hp,hh⟩:=hG.dom h r (hV h r hr);exact⟨pl,by rw[p2 h r hr];exact hp,Holds.mono (fun _ _=>rfl) (fun _ h=>h) (fun _ _=>rfl) r (fun h' pl' _ e=>⟨(p1 h' pl' e).2,fun _ _=>rfl⟩) hh⟩
  rcases h1 t with e | e
  ·rw[e];unfold aH;trivial
  rw[<-e];exact aH.mono (fun _ _=>rfl) (fun _ h=>h) _ _ (fun h' pl' _ e=>⟨(p1 h' pl' e).2,fun _ _=>rfl⟩) (hG.slots t)
 refine Oper.wp_mono (fun a' w' ⟨K',φ',v,ha,G',tr⟩=>?_) (hs K φ1 A w0 N a w Q hd G1);have hfoot: ∀b,jD φ1 (· ∈e.del) b->jD φ (· ∈e.del) b:=fun b ⟨h,pl,hc,hp,hb⟩=>⟨h,pl,hc,(p1 h pl hp).2,hb⟩;have hres: ∀h,(V.apply o.dst e).res h=iI (· ∈e.del) (bF e.new) V.res h:=fun h=>by unfold St.apply St.put;cases o.dst<;>rfl
 have hnewdom: ∀h r,bF e.new h=some r-> ∃pl,φ' h=some pl/\Holds K' φ' w' pl r:=fun h r hr=>G'.dom h r (by rw[hres];simp[iI,hr])
 have hφr: ∀h pl,(if (bF e.new h).isSome then φ' h else none)=some pl->(∃r,bF e.new h=some r)/\φ' h=some pl:=fun h pl e' =>by
  split at e'
  ·rename_i hx;exact⟨Option.isSome_iff_exists.1 hx,e'⟩
  cases e'
 have hsame: ∀h pl,(bF e.new h=none->S.res h=V.res h)->dM (· ∈e.del) (fun h=>if (bF e.new h).isSome then φ' h else none) φ h=some pl->φ' h=some pl:=fun h pl hh e' =>by
  rcases cF e' with e' | ⟨e0,hc,e'⟩
  ·exact(hφr h pl e').2
  cases hx:bF e.new h with
  | some r=>
    obtain⟨pl',hp',_⟩:=hnewdom h r hx;simp[hx,hp'] at e0
  | none=>
    have hs' :=hh hx;cases hv:V.res h with
    | none=>rw[hv] at hs';rw[hG.non h hs'] at e';cases e'
    | some r=>
      obtain⟨pl',hp',_⟩:=G'.dom h r (by rw[hres];simp[iI,hx,hc,hv]);rcases tr.ph h pl' hp' with q | ⟨q,_⟩
      ·rw[p2 h r hv,e'] at q;injection q with q
       subst q;exact hp'
      rw[p2 h r hv,e'] at q;cases q
 have hold: ∀h pl,¬jP S h->(if (bF e.new h).isSome then φ' h else none)=some pl->φ h=some pl/\fC (· ∈pl.sub) w w' :=fun h pl hnf e' =>by
  obtain⟨⟨r,hr⟩,e'⟩:=hφr h pl e';rcases hnew h r hr with ⟨⟨r',hr'⟩,_⟩ | hf
  ·rcases tr.ph h pl e' with q | ⟨q,_⟩
   ·exact⟨(p1 h pl q).2,tr.sub h pl e' q⟩
   obtain⟨pl0,hp0,_⟩:=G1.dom h r' hr';rw[q] at hp0;cases hp0
  exact absurd hf hnf
 have hstep:=hG.step (C:=(· ∈e.del)) (φr:=fun h=>if (bF e.new h).isSome then φ' h else none) (ρ:=bF e.new) (K' :=K') (w' :=w')
  (tr.chg.mono hfoot)
  (fun h pl e' =>by
   obtain⟨⟨r,hr⟩,e'⟩:=hφr h pl e';refine⟨G'.nodup h pl e',fun g hg=>⟨(G'.ge h pl e' g hg).2,?_⟩⟩;rcases tr.ph h pl e' with q | ⟨_,_,q⟩
   ·rcases hnew h r hr with ⟨_,hdl⟩ | hf
    ·exact .inr ⟨h,pl,hdl,(p1 h pl q).2,hg⟩
    have:=(p1 h pl q).2;rw[hG.non h hf.2.2.1] at this;cases this
   rcases q g hg with q | q
   ·exact .inl q
   exact .inr (hfoot g q))
  (fun h h' pl pl' hne e1 e2=>G'.disj h h' pl pl' hne (hφr h pl e1).2 (hφr h' pl' e2).2)
  (fun h r hr=>by
   obtain⟨pl,hp,hh⟩:=hnewdom h r hr;exact⟨pl,by simp[hr,hp],Holds.mono (fun _ _=>rfl) (fun _ h=>h) (fun _ _=>rfl) r (fun h' pl' hm' e' =>⟨hsame h' pl' (hm4 h r h' hr hm') e',fun _ _=>rfl⟩) hh⟩)
  (fun h hr=>by simp[hr])
  tr.kk
  (fun b hb=>by
   rcases tr.kk' b hb with q | q
   ·exact .inl q
   refine .inr ⟨(G'.kin b hb).1,?_,fun h pl e' =>G'.kout b hb h pl (hφr h pl e').2⟩;rcases q with q | q
   ·exact .inl q
   exact .inr (hfoot b q))
  (fun t h pl hm' e' =>hold h pl (fun hf=>hf.1 t hm') e')
  (fun h' r h pl _ hr hm' e' =>hold h pl (fun hf=>hf.2.1 h' r hr hm') e')
  (fun h pl e' =>by
   obtain⟨⟨r,hr⟩,e'⟩:=hφr h pl e';rcases hnew h r hr with ⟨⟨r',hr'⟩,_⟩ | hf
   ·rcases tr.ph h pl e' with q | ⟨q,_⟩
    ·exact .inl (p1 h pl q).2
    obtain⟨pl0,hp0,_⟩:=G1.dom h r' hr';rw[q] at hp0;cases hp0
   exact .inr hf.2.2.2)
 refine⟨K',dM (· ∈e.del) (fun h=>if (bF e.new h).isSome then φ' h else none) φ,v,ha,?_,⟨tr.chg.mono hfoot,tr.kk,fun b hb=>?_,fun h pl e' =>?_,fun h pl e' e2=>?_⟩⟩
 ·have hsl: ∀d,o.dst=some d->aH K' (dM (· ∈e.del) (fun h=>if (bF e.new h).isSome then φ' h else none) φ) w' e.v v:=fun d hdst=>by
   have hsl:=G'.slots d;have h2:(V.apply o.dst e).slots d=e.v:=by rw[hdst];simp[St.apply,St.put,upd]
   rw[h2,ha,hdst] at hsl;simp only[Act.put] at hsl;rw[Array.getD_eq_getD_getElem?,Array.getElem?_setIfInBounds_self_of_lt (by rw[hG.size];exact hd d hdst)] at hsl;exact aH.mono (K:=K') (φ:=φ') (w:=w') (fun _ _=>rfl) (fun _ h=>h) e.v v (fun h' pl' hm' e' =>⟨hsame h' pl' (hm3 h' hm') e',fun _ _=>rfl⟩) hsl
  rw[ha];cases hdst:o.dst with
  | none=>exact hstep
  | some d=>exact hstep.put (d:=some d) (fun d' e' =>by injection e' with e';subst e';exact hd d hdst) (hsl d hdst)
 ·rcases tr.kk' b hb with q | q | q
  ·exact .inl q
  ·exact .inr (.inl q)
  exact .inr (.inr (hfoot b q))
 ·rcases cF e' with e' | ⟨_,_,e'⟩
  ·obtain⟨⟨r,hr⟩,e'⟩:=hφr h pl e';rcases tr.ph h pl e' with q | ⟨q1,q2,q3⟩
   ·exact .inl (p1 h pl q).2
   rcases hnew h r hr with ⟨⟨r',hr'⟩,_⟩ | hf
   ·obtain⟨pl0,hp0,_⟩:=G1.dom h r' hr';rw[q1] at hp0;cases hp0
   exact .inr ⟨hG.non h hf.2.2.1,q2,fun g hg=>by rcases q3 g hg with q | q;exact .inl q;exact .inr (hfoot g q)⟩
  exact .inl e'
 rcases cF e' with e' | ⟨_,hc,e'⟩
 ·obtain⟨⟨r,hr⟩,e3⟩:=hφr h pl e';exact(hold h pl (fun hf=>by rw[hG.non h hf.2.2.1] at e2;cases e2) e').2
 intro g hg
 exact(tr.chg.mono hfoot).block g (hG.ge h pl e' g (aCX _ hg)).2 (fun ⟨h3,pl3,hc3,q3,hm3'⟩=>by
  by_cases ex:h=h3
  ·subst ex;exact hc hc3
  exact hG.disj h h3 pl pl3 ex e' q3 g (aCX _ hg) hm3')
end
structure jF where
 i:Nat
 o:Oper
 skip:Bool
 vs:aGK
 vr:List (Nat × Option Rs)
 e:Eff
def jF.fr (r:jF):Bool:=match r.vr with | (99,none)::_=>true | _=>false
def jF.W (r:jF):List Nat:=if r.skip then [] else r.e.del++r.e.new.map (·.1)
def jF.Nw (r:jF):List Nat:=if r.skip then [] else (r.e.new.map (·.1)).filter fun h=> !r.e.del.contains h
def jF.M (r:jF):List Nat:=if r.skip then [] else cZ r.e.v++(r.e.new.map fun q=>kG q.2).flatten
def jF.T (r:jF):List Nat:=if r.skip then [] else if r.fr then (r.vr.drop 1).map (·.1) else r.vr.map (·.1)++(r.vs.map fun q=>cZ q.2).flatten++(r.vr.map fun q=>match q.2 with | some r=>kG r | none=>[]).flatten++r.M
def jF.gs (ops:Array Oper)(r:jF):List Nat:=match r.o.guard with | some (j,_)=>((ops[j]?).bind (·.dst)).toList | none=>[]
def jF.looks (ops:Array Oper)(r:jF):List Nat:=r.vs.map (·.1)++r.gs ops
def jF.next (r:jF)(S:St):St:=if r.skip then S.put r.o.dst (.tup []) else S.apply r.o.dst r.e
def Ef (a b:List Nat):Bool:=a.all fun h=> !b.contains h
def rF {a b:List Nat}(h:Ef a b=true): ∀x∈a,x ∉ b:=by
 unfold Ef at h;simp only[aCS,Bool.not_eq_true',List.contains_eq_mem,decide_eq_false_iff_not] at h;exact h
def I7 (ops:Array Oper)(x y:jF):Bool:=
 Ef x.o.dst.toList (y.looks ops++y.o.dst.toList)&&Ef y.o.dst.toList (x.looks ops)&&Ef x.W (y.T++y.W)&&Ef y.W x.T
def aFM (x y:jF):Bool:=Ef x.Nw (y.M++y.W)
def uH (ops:Array Oper):Nat->Nat->Array Edge->Bool
 | 0,_,_=>false
 | n+1,x,es=>es.any fun e=>Region.binds .any e&&(Nat.beq e.on x || (match ops[e.on]? with | some o=>uH ops n x o.after | none=>false))
def OY (ops:Array Oper)(x y:jF):Bool:=uH ops ops.size x.i y.o.after
def As (ops:Array Oper)(x y:jF):Bool:=(OY ops x y || (I7 ops x y&&aFM x y))&&aFM y x
def uI (ops:Array Oper):List jF->Bool
 | []=>true
 | x::l=>l.all (fun y=>decide (x.i<y.i)&&As ops x y)&&x.o.after.all (fun e=> !Region.binds .any e || decide (e.on<x.i))&&(x.skip || x.e.new.all fun q=> !x.e.del.contains q.1 || (bL x.vr q.1).isSome)&&uI ops l
section
variable {P:Program} {N:Nat} {ops:Array Oper}
def DN (P:Program)(r:jF):Prop:=(r.fr=false->bP P r.o (mk r.vs r.vr) r.e)/\(r.fr=true-> ∀S:St,(∀t∈r.vs.map (·.1),S.slots t=cM r.vs t)->(∀h∈r.T,S.res h=bL r.vr h)->bP P r.o S r.e)
def Ok (P:Program)(N:Nat)(ops:Array Oper)(r:jF)(S:St):Prop:=
 ops[r.i]? =some r.o/\(∀d,r.o.dst=some d->d<N)/\
 (match r.o.guard with
  | none=>r.skip=false
  | some (j,want)=> ∃d b,(ops[j]?).bind (·.dst)=some d/\d<N/\Xt (S.slots d)=some b/\r.skip=(b !=some want))/\
 (r.skip=false->DN P r/\(∀t∈r.vs.map (·.1),S.slots t=cM r.vs t)/\ ∀h∈r.T,S.res h=bL r.vr h)
def DO (P:Program)(N:Nat)(ops:Array Oper):List jF->St->(St->Prop)->Prop
 | [],S,K=>K S
 | r::l,S,K=>Ok P N ops r S/\DO P N ops l (r.next S) K
theorem Me {r:jF}{S:St}{t:Nat}(h:r.o.dst≠some t):(r.next S).slots t=S.slots t:=by
 unfold jF.next
 have put: ∀(S:St) v,(S.put r.o.dst v).slots t=S.slots t:=fun S v=>by
  cases hd:r.o.dst with
  | none=>rfl
  | some d=>simp only[St.put,upd];rw[if_neg (fun e=>h (by rw[hd,e]))]
 split
 ·exact put S _
 unfold St.apply;exact put _ _
theorem oQ {r:jF}{S:St}{h:Nat}(hw:h ∉ r.W):(r.next S).res h=S.res h:=by
 unfold jF.next;have put: ∀(S:St) v,(S.put r.o.dst v).res=S.res:=fun S v=>by cases r.o.dst<;>rfl
 split
 ·rw[put]
 rename_i hs;unfold jF.W at hw;rw[if_neg hs] at hw;simp only[aCy,not_or] at hw;unfold St.apply;rw[put];simp only[iI]
 have:bF r.e.new h=none:=by
  cases hf:bF r.e.new h with
  | none=>rfl
  | some x=>exact absurd (aE9.2 ⟨_,dF hf,rfl⟩) hw.2
 rw[this];simp[hw.1]
theorem Ok.swap {x y:jF}{S:St}(h:Ok P N ops y (x.next S))(hd: ∀t∈x.o.dst.toList,t ∉ y.looks ops)(hw: ∀k∈x.W,k ∉ y.T):Ok P N ops y S:=by
 have hsl: ∀t∈y.looks ops,(x.next S).slots t=S.slots t:=fun t ht=>Me (fun e=>hd t (by simp[e]) ht);obtain⟨h1,h2,h3,h4⟩:=h;refine⟨h1,h2,?_,fun hs=>?_⟩
 ·split at h3
  ·exact h3
  rename_i j want hg;obtain⟨d,b,q1,q2,q3,q4⟩:=h3;exact⟨d,b,q1,q2,by rw[<-q3];exact congrArg Xt (hsl d (by simp[jF.looks,jF.gs,hg,q1])).symm,q4⟩
 obtain⟨q1,q2,q3⟩:=h4 hs;exact⟨q1,fun t ht=>by rw[<-q2 t ht];exact(hsl t (by simp only[jF.looks,aCy];exact .inl ht)).symm,fun k hk=>by rw[<-q3 k hk];exact(oQ (fun e=>hw k e hk)).symm⟩
theorem Ok.swap' {x y:jF}{S:St}(h:Ok P N ops x S)(hd: ∀t∈y.o.dst.toList,t ∉ x.looks ops)(hw: ∀k∈y.W,k ∉ x.T):Ok P N ops x (y.next S):=by
 have hsl: ∀t∈x.looks ops,(y.next S).slots t=S.slots t:=fun t ht=>Me (fun e=>hd t (by simp[e]) ht);obtain⟨h1,h2,h3,h4⟩:=h;refine⟨h1,h2,?_,fun hs=>?_⟩
 ·split at h3
  ·exact h3
  rename_i j want hg;obtain⟨d,b,q1,q2,q3,q4⟩:=h3;exact⟨d,b,q1,q2,by rw[<-q3];exact congrArg Xt (hsl d (by simp[jF.looks,jF.gs,hg,q1])),q4⟩
 obtain⟨q1,q2,q3⟩:=h4 hs;exact⟨q1,fun t ht=>by rw[<-q2 t ht];exact hsl t (by simp only[jF.looks,aCy];exact .inl ht),fun k hk=>by rw[<-q3 k hk];exact oQ (fun e=>hw k e hk)⟩
def jF.v (r:jF):AV:=if r.skip then .tup [] else r.e.v
theorem uJ (r:jF)(S:St):(r.next S).slots=match r.o.dst with | some d=>upd S.slots d r.v | none=>S.slots:=by
 unfold jF.next jF.v;split<;>cases r.o.dst<;>rfl
theorem xL (r:jF)(S:St):(r.next S).res=if r.skip then S.res else iI (· ∈r.e.del) (bF r.e.new) S.res:=by
 unfold jF.next;split<;>(try unfold St.apply)<;>cases r.o.dst<;>rfl
theorem St.ext' {S S' :St}(h1:S.slots=S'.slots)(h2:S.res=S'.res):S=S' :=by cases S;cases S';simp_all
theorem V2 {x y:jF}{S:St}(hd: ∀t∈x.o.dst.toList,t ∉ y.o.dst.toList)(hw: ∀k∈x.W,k ∉ y.W):y.next (x.next S)=x.next (y.next S):=by
 apply St.ext'
 ·rw[uJ,uJ,uJ,uJ];cases hx:x.o.dst with
  | none=>cases hy:y.o.dst<;>rfl
  | some dx=>
    cases hy:y.o.dst with
    | none=>rfl
    | some dy=>
      have hne:dx≠dy:=fun e=>hd dx (by simp[hx]) (by simp[hy,e]);funext t;simp only[upd];by_cases h1:t=dx
      ·subst h1;simp[hne]
      by_cases h2:t=dy
      ·subst h2;simp[h1]
      simp[h1,h2]
 funext h;by_cases h1:h∈x.W
 ·have h2:=hw h h1;rw[oQ h2];by_cases h3:x.skip=true
  ·unfold jF.W at h1;simp[h3] at h1
  rw[xL x,xL x,if_neg h3,if_neg h3];simp only[iI];rw[oQ h2]
 rw[oQ (r:=x) h1];by_cases h2:h∈y.W
 ·by_cases h3:y.skip=true
  ·unfold jF.W at h2;simp[h3] at h2
  rw[xL y,xL y,if_neg h3,if_neg h3];simp only[iI];rw[oQ h1]
 rw[oQ h2,oQ h2,oQ h1]
theorem DO.bubble {y:jF}{l2:List jF}{K:St->Prop}: ∀{l1:List jF} {S:St},DO P N ops (l1++y::l2) S K->(∀x∈l1,I7 ops x y=true)->Ok P N ops y S/\DO P N ops (l1++l2) (y.next S) K
 | [],S,h,_=>h
 | x::l1,S,h,ha=>by
   obtain⟨h1,h2⟩:=h;obtain⟨h3,h4⟩:=DO.bubble h2 (fun z hz=>ha z (by simp[hz]));have:=ha x (by simp);simp only[I7,aBB] at this;obtain⟨⟨⟨q1,q2⟩,q3⟩,q4⟩:=this;have q1:=rF q1;have q2:=rF q2;have q3:=rF q3;have q4:=rF q4;refine⟨h3.swap (fun t ht hm=>q1 t ht (aDG _ hm)) (fun k hk hm=>q3 k hk (aDG _ hm)),h1.swap' q2 q4,?_⟩;rw[<-V2 (fun t ht hm=>q1 t ht (aCX _ hm)) (fun k hk hm=>q3 k hk (aCX _ hm))];exact h4
theorem DO.bubble' {y:jF}{l2:List jF}{K:St->Prop}: ∀{l1:List jF} {S:St},DO P N ops (l1++y::l2) S K->ops[y.i]? =some y.o/\True
 | [],S,h=>⟨h.1.1,trivial⟩
 | x::l1,S,h=>DO.bubble' h.2
theorem V3 {l:aGK}{t:Nat}(h:cM l t≠ .no):t∈l.map (·.1):=by
 induction l with
 | nil=>simp[cM] at h
 | cons q l ih=>
   obtain⟨k,v⟩:=q;simp only[cM] at h;split at h
   ·simp_all
   simp[ih h]
theorem P4 {l:aGK}{t h:Nat}(hm:h∈cZ (cM l t)):h∈(l.map fun q=>cZ q.2).flatten:=by
 induction l with
 | nil=>simp[cM,cZ] at hm
 | cons q l ih=>
   obtain⟨k,v⟩:=q;simp only[cM] at hm;simp only[aDH,aE8,aCy];split at hm
   ·exact .inl hm
   exact .inr (ih hm)
theorem Mf {l:List (Nat × Option Rs)}{h:Nat}{r:Rs}(e:bL l h=some r):h∈l.map (·.1)/\ ∀k∈kG r,k∈(l.map fun q=>match q.2 with | some r=>kG r | none=>[]).flatten:=by
 induction l with
 | nil=>simp[bL] at e
 | cons q l ih=>
   obtain⟨k,v⟩:=q;simp only[bL] at e;split at e
   ·subst e;rename_i hk;subst hk;exact⟨by simp,fun k hk=>by simp[hk]⟩
   obtain⟨q1,q2⟩:=ih e;exact⟨by simp at q1 ⊢;exact .inr q1,fun k hk=>by simp only[aDH,aE8,aCy];exact .inr (q2 k hk)⟩
theorem Ok.sound {r:jF}{S:St}(h:Ok P N ops r S)(hs:r.skip=false)(hf: ∀k∈r.Nw,jP S k)(hn:(r.e.new.all fun q=> !r.e.del.contains q.1 || (bL r.vr q.1).isSome)=true):bP P r.o S r.e:=by
 obtain⟨_,_,_,h4⟩:=h;obtain⟨q1,q2,q3⟩:=h4 hs;cases hfr:r.fr with
 | true=>exact q1.2 hfr S q2 q3
 | false=>
 replace q1:=q1.1 hfr
 have hT: ∀k,k∈r.vr.map (·.1)\/k∈(r.vs.map fun q=>cZ q.2).flatten\/k∈(r.vr.map fun q=>match q.2 with | some r=>kG r | none=>[]).flatten\/k∈r.M->S.res k=bL r.vr k:=fun k hk=>q3 k (by
  unfold jF.T;rw[hs,hfr];simp only[Bool.false_eq_true,if_false,aCy];rcases hk with hk | hk | hk | hk<;>simp[hk])
 have hM: ∀k,k∈cZ r.e.v\/k∈(r.e.new.map fun q=>kG q.2).flatten->k∈r.M:=fun k hk=>by
  unfold jF.M;rw[hs];simp only[Bool.false_eq_true,if_false,aCy];exact hk
 refine q1.lift (fun t=>?_) (fun k x hx=>?_) (fun t k hk=>?_) (fun k0 x k hx hk=>?_) (fun k hk _=>hT k (.inr (.inr (.inr (hM k (.inl hk)))))) (fun k x h' hx hk _=>?_) (fun k x hx=>?_)
 ·by_cases e:cM r.vs t= .no
  ·exact .inl e
  exact .inr (q2 t (V3 e))
 ·rw[hT k (.inl (Mf hx).1)];exact hx
 ·exact hT k (.inr (.inl (P4 hk)))
 ·exact hT k (.inr (.inr (.inl ((Mf hx).2 k hk))))
 ·exact hT h' (.inr (.inr (.inr (hM h' (.inr (List.mem_flatten.2 ⟨_,aE9.2 ⟨_,dF hx,rfl⟩,hk⟩))))))
 by_cases e:k∈r.e.del
 ·refine .inl ⟨?_,e⟩;have:=aCS.1 hn _ (dF hx);simp only[List.contains_eq_mem,e,decide_true,Bool.not_true,Bool.false_or] at this;exact Option.isSome_iff_exists.1 this
 exact .inr (hf k (by
  unfold jF.Nw;rw[hs];simp only[Bool.false_eq_true,if_false,aGE,List.contains_eq_mem,e,decide_false,Bool.not_false,and_true];exact aE9.2 ⟨_,dF hx,rfl⟩))
theorem jP.next {r:jF}{S:St}{k:Nat}(hf:jP S k)(h:k ∉ r.M++r.W):jP (r.next S) k:=by
 simp only[aCy,not_or] at h;refine⟨fun t ht=>?_,fun h' x hx hm=>?_,by rw[oQ h.2];exact hf.2.2.1,hf.2.2.2⟩
 ·rw[uJ] at ht
  have hv:k ∉ cZ r.v:=fun hm=>by
   unfold jF.v at hm;split at hm
   ·simp[cZ,gY] at hm
   rename_i hs;exact h.1 (by unfold jF.M;rw[if_neg hs];exact aDG _ hm)
  cases hd:r.o.dst with
  | none=>rw[hd] at ht;exact hf.1 t ht
  | some d=>
    rw[hd] at ht;simp only[upd] at ht;by_cases e:t=d
    ·rw[if_pos e] at ht;exact hv ht
    rw[if_neg e] at ht;exact hf.1 t ht
 rw[xL] at hx;split at hx
 ·exact hf.2.1 h' x hx hm
 rename_i hs;simp only[iI] at hx;split at hx
 ·rename_i y hy;injection hx with hx
  subst hx;exact h.1 (by unfold jF.M;rw[if_neg hs];exact aCX _ (List.mem_flatten.2 ⟨_,aE9.2 ⟨_,dF hy,rfl⟩,hm⟩))
 split at hx
 ·cases hx
 exact hf.2.1 h' x hx hm
theorem Eg {ops:Array Oper}{y:jF}{l2:List jF}: ∀{l1:List jF},uI ops (l1++y::l2)=true->uI ops (l1++l2)=true/\(∀x∈l1,x.i<y.i/\As ops x y=true)/\(∀z∈l2,y.i<z.i/\As ops y z=true)/\(y.skip || y.e.new.all fun q=> !y.e.del.contains q.1 || (bL y.vr q.1).isSome)=true
 | [],h=>by
   simp only[aFy,uI,aBB,aCS,aFI] at h;obtain⟨⟨⟨h1,h2⟩,h3⟩,h4⟩:=h;exact⟨h4,by simp,h1,h3⟩
 | x::l1,h=>by
   simp only[List.cons_append,uI,aBB] at h;obtain⟨⟨⟨h1,h2⟩,h3⟩,h4⟩:=h;obtain⟨q1,q2,q3,q4⟩:=Eg h4;rw[aCS] at h1;have hy:=h1 y (by simp);simp only[aBB,aFI] at hy;refine⟨?_,fun z hz=>?_,q3,q4⟩
   ·simp only[List.cons_append,uI,aBB];refine⟨⟨⟨aCS.2 fun z hz=>h1 z ?_,h2⟩,h3⟩,q1⟩;simp only[aCy,aDr] at hz ⊢;rcases hz with hz | hz<;>simp[hz]
   rcases aDr.1 hz with rfl | hz
   ·exact hy
   exact q2 z hz
def X6 (ops:Array Oper)(listed:Array Bool):Prop:= ∀(i:Nat) (o:Oper),i<ops.size->ops[i]? =some o->listed.getD i true=true-> ∀e∈o.after,Region.binds .any e=true->listed.getD e.on false=true
theorem Eh {ops:Array Oper}{listed:Array Bool}(hs:X6 ops listed)(h2: ∀i,i<ops.size->listed.getD i false=listed.getD i true): ∀(n x:Nat) (es:Array Edge),(∀e∈es,Region.binds .any e=true->listed.getD e.on false=true)->uH ops n x es=true->listed.getD x false=true
 | 0,x,es,_,h=>by simp[uH] at h
 | n+1,x,es,he,h=>by
   unfold uH at h;rw[Array.any_eq_true] at h;obtain⟨j,hj,h⟩:=h;simp only[aBB,Bool.or_eq_true] at h;have hl:=he _ (Array.getElem_mem hj) h.1;rcases h.2 with hb | hb
   ·rw[<-aBQ hb];exact hl
   split at hb
   ·rename_i o ho;have hi:=(Array.getElem?_eq_some_iff.1 ho).1;exact Eh hs h2 n x o.after (hs _ o hi ho (by rw[<-h2 _ hi];exact hl)) hb
   cases hb
theorem V4 {Qw:Exit->Act->World->Prop}{A:Nat->Prop}{w0:Aa}{Kn:St->Prop}(hQ: ∀S a w,Kn S->Aq A w0 N S a w->Qw .normal a w): ∀(fuel:Nat) (l:List jF) (listed:Array Bool) (S:St) (a:Act) (w:World),l.length<=fuel->DO P N ops l S Kn->uI ops l=true->
 (∀i,i<ops.size->(listed.getD i true=false↔ ∃r∈l,r.i=i))->(∀i,i<ops.size->listed.getD i false=listed.getD i true)->(∀r∈l,r.i<ops.size)->(∀r∈l,∀k∈r.Nw,jP S k)->X6 ops listed->Aq A w0 N S a w->wpAny P .any ops Qw fuel listed a w:=by
 intro fuel
 induction fuel with
 | zero=>
   intro l listed S a w hl hr hlk hli hli2 hsz hf hsh hG;have:l= []:=aDE aGR;subst this;refine⟨?_,hQ S a w hr hG⟩;unfold Region.ready;rw[List.filter_eq_nil_iff];intro i hi hc;simp only[aBB,Bool.not_eq_true'] at hc;obtain⟨r,hr,_⟩:=(hli i (aEt.1 hi)).1 hc.1;simp at hr
 | succ fuel ih=>
   intro l listed S a w hl hr hlk hli hli2 hsz hf hsh hG;refine⟨fun hnil=>?_,fun i hi=>?_⟩
   ·rcases l with _ | ⟨r,l⟩
    ·exact hQ S a w hr hG
    exfalso
    have hrd:r.i∈Region.ready .any ops listed:=by
     rw[mem_ready];have hsr:=hsz r (by simp);refine⟨(hli r.i hsr).2 ⟨r,by simp,rfl⟩,r.o,hr.1.1,fun e he hb=>?_⟩;simp only[uI,aBB,aCS,aFI] at hlk;obtain⟨⟨⟨h1,h2⟩,_⟩,_⟩:=hlk;have h2' :=Array.all_eq_true_iff_forall_mem.1 h2 e he;simp only[hb,Bool.not_true,Bool.false_or,aFI] at h2';rw[hli2 e.on aGR];cases hx:listed.getD e.on true with
     | true=>rfl
     | false=>
       obtain⟨z,hz,hzi⟩:=(hli e.on aGR).1 hx;rcases aDr.1 hz with rfl | hz
       ·omega
       have:=(h1 z hz).1;omega
    rw[hnil] at hrd;simp at hrd
   rw[mem_ready] at hi;obtain⟨hi1,o,ho,hdep⟩:=hi;have hsi:i<ops.size:=(Array.getElem?_eq_some_iff.1 ho).1;obtain⟨y,hy,rfl⟩:=(hli i hsi).1 hi1;obtain⟨l1,l2,rfl⟩:=List.append_of_mem hy;obtain⟨k1,k2,k3,k4⟩:=Eg hlk;have hyo:=(DO.bubble' hr).1;have hoy:o=y.o:=by rw[hyo] at ho;injection ho with ho;exact ho.symm
   have hna: ∀x∈l1,OY ops x y=false:=fun x hx=>by
    cases hc:OY ops x y with
    | false=>rfl
    | true=>
      exfalso;have h1:=Eh hsh hli2 _ _ _ (fun e he hb=>hdep e (by rw[hoy];exact he) hb) hc;have hxs:=hsz x (by simp[hx]);rw[hli2 x.i hxs] at h1;have:=(hli x.i hxs).2 ⟨x,by simp[hx],rfl⟩;rw[h1] at this;cases this
   have hap: ∀x∈l1,I7 ops x y=true:=fun x hx=>by
    have:=(k2 x hx).2;simp only[As,hna x hx,Bool.false_or,aBB] at this;exact this.1.1
   obtain⟨hok,hrest⟩:=DO.bubble hr hap
   have hfr: ∀x∈l1++l2,∀k∈x.Nw,jP (y.next S) k:=fun x hx k hk=>by
    have hfx:=hf x (by simp only[aCy,aDr] at hx ⊢;rcases hx with hx | hx<;>simp[hx]) k hk;refine hfx.next ?_;rcases aCy.1 hx with hx | hx
    ·have:=(k2 x hx).2;simp only[As,hna x hx,Bool.false_or,aBB] at this;exact rF this.1.2 k hk
    have:=(k3 x hx).2;simp only[As,aBB] at this;exact rF this.2 k hk
   have hgo: ∀(a' :Act) (w' :World),Aq A w0 N (y.next S) a' w' ->wpAny P .any ops Qw fuel (listed.setIfInBounds y.i true) a' w' :=fun a' w' hG' =>by
    have hne: ∀x∈l1++l2,x.i≠y.i:=fun x hx=>by
     rcases aCy.1 hx with hx | hx
     ·have:=(k2 x hx).1;omega
     have:=(k3 x hx).1;omega
    have hls:y.i<listed.size:=by
     rcases Nat.lt_or_ge y.i listed.size with h | h
     ·exact h
     rw[Array.getD_eq_getD_getElem?,Array.getElem?_eq_none h] at hi1;simp at hi1
    have hsh' :X6 ops (listed.setIfInBounds y.i true):=fun i q hi hq hl' e he hb=>by
     have key:listed.getD e.on false=true:=by
      by_cases ei:y.i=i
      ·subst ei;rw[hyo] at hq;injection hq with hq
       subst hq;exact hdep e (by rw[hoy];exact he) hb
      rw[getD_set_ne true ei] at hl';exact hsh i q hi hq hl' e he hb
     by_cases ee:y.i=e.on
     ·rw[<-ee,Array.getD_eq_getD_getElem?,Array.getElem?_setIfInBounds_self_of_lt hls];rfl
     rw[getD_set_ne false ee];exact key
    refine ih (l1++l2) _ _ a' w' (by simp at hl ⊢;omega) hrest k1 (fun i hi=>?_) (fun i hi=>?_) (fun r hr=>hsz r (by simp only[aCy,aDr] at hr ⊢;rcases hr with hr | hr<;>simp[hr])) hfr hsh' hG'
    ·by_cases e:y.i=i
     ·subst e;rw[Array.getD_eq_getD_getElem?,Array.getElem?_setIfInBounds_self_of_lt hls];simp only[Option.getD_some,Bool.true_eq_false,false_iff,not_exists,not_and];exact fun x hx=>hne x hx
     rw[getD_set_ne true e,hli i hi];constructor
     ·rintro⟨r,hr,rfl⟩;refine⟨r,?_,rfl⟩;simp only[aCy,aDr] at hr ⊢;rcases hr with hr | hr | hr
      ·exact .inl hr
      ·subst hr;exact absurd rfl e
      exact .inr hr
     rintro⟨r,hr,rfl⟩;refine⟨r,?_,rfl⟩;simp only[aCy,aDr] at hr ⊢;rcases hr with hr | hr<;>simp[hr]
    by_cases e:y.i=i
    ·subst e;rw[Array.getD_eq_getD_getElem?,Array.getD_eq_getD_getElem?,Array.getElem?_setIfInBounds_self_of_lt hls];rfl
    rw[getD_set_ne true e,getD_set_ne false e,hli2 i hi]
   obtain⟨K,φ,hG⟩:=hG;have hok' :=hok;obtain⟨o1,o2,o3,o4⟩:=hok';unfold wpOp;rw[o1];simp only
   have exec:y.skip=false->y.o.wp P a w (wpAny P .any ops Qw fuel (listed.setIfInBounds y.i true)) Qw:=fun hs=>by
    have hn:(y.e.new.all fun q=> !y.e.del.contains q.1 || (bL y.vr q.1).isSome)=true:=by simpa [hs] using k4
    have:=hok.sound hs (hf y (by simp)) hn;refine Oper.wp_mono (fun a' w' ⟨K',φ',v,_,hG',_⟩=>hgo a' w' ⟨K',φ',?_⟩) (this K φ A w0 N a w Qw o2 hG);unfold jF.next;rw[hs];exact hG'
   split at o3
   ·rename_i hg;rw[if_pos (by simp[Region.wanted,hg])];exact .inl (exec o3)
   rename_i j want hg;obtain⟨d,b,q1,q2,q3,q4⟩:=o3;rw[MY hG hg q1 q2 q3];by_cases hb:b=some want
   ·rw[if_pos (by simp[hb])];exact .inl (exec (by rw[q4];simp[hb]))
   rw[if_neg (by simp[hb])];refine hgo _ w ⟨K,φ,?_⟩;unfold jF.next;rw[if_pos (by rw[q4];simp[hb])];exact hG.put o2 (Gp _ _ _)
end
def tM (sl:aGK):List Operand->aGK
 | .tmp t::l=>(t,cM sl t)::tM sl l
 | _::l=>tM sl l
 | []=>[]
def opL:Op->List Operand
 | .move x | .assign x | .box _ x | .load _ x | .nilCheck x | .unOp _ _ x | .convert _ _ x | .fieldAddr _ x _ | .field _ x _ | .extract x _=>[x]
 | .pick c a b=>[c,a,b]
 | .build _ ps | .buildSlice _ _ ps=>ps.toList.map (·.2)
 | .store _ a v | .binOp _ _ a v _ | .makeSlice _ a v | .indexAddr _ a v | .index _ a v=>[a,v]
 | .call c=>(match c.callee with | .value f=>f::c.args.toList | _=>c.args.toList)
 | .slice _ x l h m=>x::(l.toList++h.toList++m.toList)
 | _=>[]
def pP (o:Op)(sl:aGK):aGK:=tM sl (opL o)
def X7 (rs:List (Nat × Option Rs))(l:List Nat):List Nat:=l.flatMap fun h=>match bL rs h with | some r=>kG r | none=>[]
def AO (o:Op)(sl:aGK)(rs:List (Nat × Option Rs)):List (Nat × Option Rs):=
 let m0:=(pP o sl).flatMap fun q=>cZ q.2
 let m1:=X7 rs m0
 (m0++m1++X7 rs m1).map fun h=>(h,bL rs h)
theorem pQ (sl:aGK): ∀(l:List Operand) (t:Nat),t∈(tM sl l).map (·.1)->cM (tM sl l) t=cM sl t
 | [],t,h=>by simp[tM] at h
 | .tmp u::l,t,h=>by
   simp only[tM,aDH,aDr,cM] at h ⊢;by_cases e:t=u
   ·simp[e]
   rw[if_neg e];exact pQ sl l t (h.resolve_left e)
 | .const _::l,t,h=>pQ sl l t h
 | .func _::l,t,h=>pQ sl l t h
 | .global _::l,t,h=>pQ sl l t h
theorem Mg (rs:List (Nat × Option Rs)): ∀(l:List Nat) (h:Nat),bL (l.map fun k=>(k,bL rs k)) h=if h∈l then bL rs h else none
 | [],h=>by simp[bL]
 | k::l,h=>by
   simp only[aDH,bL,Mg rs l h];by_cases e:h=k<;>simp[e]
section
variable {P:Program} {N:Nat} {all:Array Oper}
def nM (i:Nat)(o:Oper)(sl:aGK)(rs:List (Nat × Option Rs))(v:AV)(del:List Nat)(new:aGJ):jF:=⟨i,o,false,pP o.op sl,AO o.op sl rs,⟨v,del,new⟩⟩
def oR (i:Nat)(o:Oper)(sl:aGK)(v:AV)(b:List (Nat × Option Rs)):jF:=⟨i,o,false,pP o.op sl,(99,none)::b,⟨v,[],[]⟩⟩
def tOk (r:jF)(rs:List (Nat × Option Rs)):Bool:= !r.fr&&r.T.all fun h=>(r.vr.map (·.1)).contains h || (bL rs h).isNone
def sR (sl:aGK):Option Nat->AV->aGK
 | some d,v=>(d,v)::sl
 | none,_=>sl
def sS (P:Program)(N:Nat)(all:Array Oper):Nat->List Oper->aGK->List (Nat × Option Rs)->List jF->(St->List jF->Prop)->Prop
 | i,[],sl,rs,acc,K=>K (mk sl rs) acc.reverse
 | i,o::rest,sl,rs,acc,K=>all[i]? =some o/\(∀d,o.dst=some d->d<N)/\match o.guard with
   | none=>(∃v del new,bP P o (mk (pP o.op sl) (AO o.op sl rs)) ⟨v,del,new⟩/\tOk (nM i o sl rs v del new) rs=true/\sS P N all (i+1) rest (sR sl o.dst v) (rE new++(nL del++rs)) (nM i o sl rs v del new::acc) K)\/
     (∃v b,DN P (oR i o sl v b)/\(∀k∈b.map (·.1),bL rs k=bL ((99,none)::b) k)/\sS P N all (i+1) rest (sR sl o.dst v) rs (oR i o sl v b::acc) K)
   | some (j,want)=> ∃d b,(all[j]?).bind (·.dst)=some d/\d<N/\Xt (cM sl d)=some b/\
     (b=some want->(∃v del new,bP P o (mk (pP o.op sl) (AO o.op sl rs)) ⟨v,del,new⟩/\tOk (nM i o sl rs v del new) rs=true/\sS P N all (i+1) rest (sR sl o.dst v) (rE new++(nL del++rs)) (nM i o sl rs v del new::acc) K)\/
      (∃v b,DN P (oR i o sl v b)/\(∀k∈b.map (·.1),bL rs k=bL ((99,none)::b) k)/\sS P N all (i+1) rest (sR sl o.dst v) rs (oR i o sl v b::acc) K))/\
     (b≠some want->sS P N all (i+1) rest (sR sl o.dst (.tup [])) rs (⟨i,o,true,[],[],⟨.no,[],[]⟩⟩::acc) K)
theorem nB (sl:aGK)(rs:List (Nat × Option Rs))(d:Option Nat)(v:AV)(del:List Nat)(new:aGJ):(mk sl rs).apply d ⟨v,del,new⟩=mk (sR sl d v) (rE new++(nL del++rs)):=by
 cases d with
 | none=>exact Vu sl rs v del new
 | some d=>exact Xz sl rs d v del new
theorem UR (sl:aGK)(rs:List (Nat × Option Rs))(d:Option Nat)(v:AV):(mk sl rs).put d v=mk (sR sl d v) rs:=by
 cases d with
 | none=>rfl
 | some d=>exact Xy sl rs d v
theorem CO {K:St->List jF->Prop}: ∀(l:List Oper) (i:Nat) (sl:aGK) (rs:List (Nat × Option Rs)) (acc:List jF),sS P N all i l sl rs acc K->
 ∃recs S',DO P N all recs (mk sl rs) (fun S=>S=S')/\K S' (acc.reverse++recs)/\recs.map (·.i)=List.range' i l.length
 | [],i,sl,rs,acc,h=>⟨[],mk sl rs,rfl,by simpa [sS] using h,by simp⟩
 | o::rest,i,sl,rs,acc,h=>by
   unfold sS at h;obtain⟨hi,hd,h⟩:=h
   have exec:(match o.guard with | none=>True | some (j,want)=> ∃d,(all[j]?).bind (·.dst)=some d/\d<N/\Xt (cM sl d)=some (some want))->(∃v del new,bP P o (mk (pP o.op sl) (AO o.op sl rs)) ⟨v,del,new⟩/\tOk (nM i o sl rs v del new) rs=true/\sS P N all (i+1) rest (sR sl o.dst v) (rE new++(nL del++rs)) (nM i o sl rs v del new::acc) K)->
    ∃recs S',DO P N all recs (mk sl rs) (fun S=>S=S')/\K S' (acc.reverse++recs)/\recs.map (·.i)=List.range' i (o::rest).length:=by
    rintro hg ⟨v,del,new,hs,ht,hrest⟩;obtain⟨recs,S',h1,h2,h3⟩:=CO rest (i+1) _ _ _ hrest;unfold tOk at ht;rw[aBB,Bool.not_eq_true'] at ht;obtain⟨hfr,ht⟩:=ht;refine⟨nM i o sl rs v del new::recs,S',⟨⟨hi,hd,?_,fun _=>⟨⟨fun _=>hs,fun e=>by rw[hfr] at e;cases e⟩,fun t ht=>?_,fun k hk=>?_⟩⟩,?_⟩,by simpa using h2,by simp[h3,nM,List.range'_succ]⟩
    ·cases hgd:o.guard with
     | none=>simp[nM,hgd]
     | some q=>
       obtain⟨j,want⟩:=q;rw[hgd] at hg;obtain⟨d,q1,q2,q3⟩:=hg;simp only[nM,hgd];exact⟨d,some want,q1,q2,q3,by simp⟩
    ·exact(pQ sl _ t ht).symm
    ·have:=aCS.1 ht k hk;simp only[Bool.or_eq_true,List.contains_eq_mem,aFI] at this;simp only[nM,AO,List.map_map] at this ⊢;rw[Mg];split
     ·rfl
     rename_i hn;rcases this with q | q
     ·exact absurd (by simpa [Function.comp_def] using q) hn
     show bL rs k=none;simpa using q
    unfold jF.next;simp only[nM,Bool.false_eq_true,if_false];rw[nB];exact h1
   have execF:(match o.guard with | none=>True | some (j,want)=> ∃d,(all[j]?).bind (·.dst)=some d/\d<N/\Xt (cM sl d)=some (some want))->(∃v b,DN P (oR i o sl v b)/\(∀k∈b.map (·.1),bL rs k=bL ((99,none)::b) k)/\sS P N all (i+1) rest (sR sl o.dst v) rs (oR i o sl v b::acc) K)->
    ∃recs S',DO P N all recs (mk sl rs) (fun S=>S=S')/\K S' (acc.reverse++recs)/\recs.map (·.i)=List.range' i (o::rest).length:=by
    rintro hg ⟨v,b,hs,hb,hrest⟩;obtain⟨recs,S',h1,h2,h3⟩:=CO rest (i+1) _ _ _ hrest;refine⟨oR i o sl v b::recs,S',⟨⟨hi,hd,?_,fun _=>⟨hs,fun t ht=>?_,fun k hk=>?_⟩⟩,?_⟩,by simpa using h2,by simp[h3,oR,List.range'_succ]⟩
    ·cases hgd:o.guard with
     | none=>simp[oR,hgd]
     | some q=>
       obtain⟨j,want⟩:=q;rw[hgd] at hg;obtain⟨d,q1,q2,q3⟩:=hg;simp only[oR,hgd];exact⟨d,some want,q1,q2,q3,by simp⟩
    ·exact(pQ sl _ t ht).symm
    ·exact hb k (by simpa [jF.T,jF.fr,oR] using hk)
    unfold jF.next;simp only[oR,Bool.false_eq_true,if_false];rw[nB];exact h1
   split at h
   ·rename_i hg;exact h.elim (exec (by rw[hg];trivial)) (execF (by rw[hg];trivial))
   rename_i j want hg;obtain⟨d,b,q1,q2,q3,q4,q5⟩:=h;by_cases hb:b=some want
   ·exact(q4 hb).elim (exec (by rw[hg];exact⟨d,q1,q2,by rw[q3,hb]⟩)) (execF (by rw[hg];exact⟨d,q1,q2,by rw[q3,hb]⟩))
   obtain⟨recs,S',h1,h2,h3⟩:=CO rest (i+1) _ _ _ (q5 hb);refine⟨⟨i,o,true,[],[],⟨.no,[],[]⟩⟩::recs,S',⟨⟨hi,hd,?_,fun e=>by cases e⟩,?_⟩,by simpa using h2,by simp[h3,List.range'_succ]⟩
   ·simp only[hg];exact⟨d,b,q1,q2,q3,by simp[hb]⟩
   unfold jF.next;simp only[if_true];rw[UR];exact h1
theorem Aq.drew {A:Nat->Prop}{w0:Aa}{S:St}{a:Act}{w:World}(h:Aq A w0 N S a w):Aq A w0 N S a { w with drawn:=w.drawn+1 }:=by
 obtain⟨K,φ,hG⟩:=h;have hs: ∀(B:Nat->Prop),fC B w { w with drawn:=w.drawn+1 }:=fun _ _ _=>rfl;refine⟨K,φ,fun h r hr=>?_,hG.non,hG.disj,hG.nodup,hG.ge,hG.kin,hG.kout,hG.aK,fun t=>aH.mono (hs _) (fun _ h=>h) _ _ (fun h pl _ e=>⟨e,hs _⟩) (hG.slots t),⟨hG.bel.os,hG.bel.tape,hG.bel.output,hG.bel.size,hG.bel.block⟩,hG.nd,hG.size,hG.pin⟩;obtain⟨pl,hp,hh⟩:=hG.dom h r hr;exact⟨pl,hp,Holds.mono (hs _) (fun _ h=>h) (fun _ _=>rfl) r (fun h pl _ e=>⟨e,hs _⟩) hh⟩
end
def At:Nat->List Ar->aGK
 | _,[]=>[]
 | i,x::xs=>(i,Py x)::At (i+1) xs
theorem Ei: ∀(xs:List Ar) (i t:Nat),cM (At i xs) t=if i<=t then (match xs[t - i]? with | some x=>Py x | none=> .no) else .no
 | [],i,t=>by simp[At,cM]
 | x::xs,i,t=>by
   simp only[At,cM,Ei xs (i+1) t];by_cases e:t=i
   ·subst e;simp
   by_cases h:i<=t
   ·have:t - i=(t - (i+1))+1:=aGR
    rw[if_neg e,if_pos aGR,if_pos h,this,List.getElem?_cons_succ]
   rw[if_neg e,if_neg aGR,if_neg h]
def aFN (args:List Ar):S0 args=mk (At 0 args) []:=by
 apply St.ext'
 ·funext t;simp only[S0,mk,Ei,aBC,if_true,Nat.sub_zero]
  try (cases args[t]? <;>rfl)
 funext h;simp[S0,mk,bL]
abbrev intD (n:Int):List bX:=[.int .i64 n]
def I8 {α β:Type}{f:α->β}{l:List α}{k:Nat}{x:α}(h:l[k]? =some x):(l.map f)[k]? =some (f x):=by simp[h]
abbrev Lv (w:World):Nat->Prop:=fun b=>b<w.heap.size
section
variable {α:Type}
theorem I9 {R:Rd α}{enc:α->List bX}{w:World}{k:Nat}{a:Option Addr}(hR: ∀cs x,R w cs x->oL (Lv w) w (enc x) cs): ∀(xs:List α) (o:Nat),
 (∀i x,xs[i]? =some x-> ∃b off cs',a=some ⟨b,off,none⟩/\cs'.length=k/\(∀j u,cs'[j]? =some u->w.cell? ⟨b,off+(o+i*k)+j,none⟩=some u)/\R w cs' x)->iH (Lv w) w k (xs.map enc) a o
 | [],o,_=>by simp only[List.map_nil];unfold iH;trivial
 | x::xs,o,h=>by
   simp only[aDH];unfold iH;obtain⟨b,off,cs,rfl,hl,hc,hr⟩:=h 0 x rfl;have hrd:=hR cs x hr;have hlen:=hrd.len;refine⟨aGR,lN.mk (fun hne=>?_) hrd (fun j u hu=>by have:=hc j u hu;simpa using this),I9 hR xs (o+k) fun i y hy=>?_⟩
   ·have h0:0<cs.length:=by
     rcases Nat.eq_zero_or_pos cs.length with h | h
     ·exact absurd (aDE aGR) hne
     exact h
    have:=hc 0 _ (aBP h0);exact World.block_lt_of_cell? w _ this
   obtain⟨b',off',cs',e,hl',hc',hr'⟩:=h (i+1) y (by simpa using hy);refine⟨b',off',cs',e,hl',fun j u hu=>?_,hr'⟩;have:=hc' j u hu;rw[show off' +(o+k+i*k)+j=off' +(o+(i+1)*k)+j by rw[Nat.add_mul];omega];exact this
theorem X8 {R:Rd α}{enc:α->List bX}{w:World}{e k:Nat}{v:Value}{xs:List α}(hR: ∀cs x,R w cs x->oL (Lv w) w (enc x) cs)(h:wY k R w [v] xs):jX (Lv w) w (.sl e k (xs.map enc)) v:=by
 obtain⟨a,c,hv,h1,h2,h3⟩:=h;simp only[List.cons.injEq,and_true] at hv;subst hv;unfold jX;refine⟨a,c,by simp,by simpa using h1,h2,I9 hR xs 0 fun i x hx=>?_⟩;obtain⟨b,off,cs,e,hl,hc,hr⟩:=h3 i x hx;exact⟨b,off,cs,e,hl,fun j u hu=>by have:=hc j u hu;simpa using this,hr⟩
end
section
variable {P:Program}
theorem arsRd_nil {A:Nat->Prop}{w:World}:tL A w [] []:=rfl
theorem arsRd_one {A:Nat->Prop}{w:World}{x:bX}{xs:List Ar}{v:Value}{vs:List Value}(h:jX A w x v)(h' :tL A w xs vs):tL A w (.one x::xs) (v::vs):=⟨v,vs,rfl,h,h'⟩
theorem aBO {A:Nat->Prop}{w:World}{k:IntKind}{n:Int}:jX A w (.int k n) (.int k n):=by unfold jX;rfl
theorem P5 {A:Nat->Prop}{w:World}{x:bX}{xs:List bX}{v:Value}{vs:List Value}(h:jX A w x v)(h' :oL A w xs vs):oL A w (x::xs) (v::vs):=⟨v,vs,rfl,h,h'⟩
theorem US {A:Nat->Prop}{w:World}:oL A w [] []:=rfl
theorem xK.calls {f:FuncId}{args:List Ar}{rv:AV}{val:Value}{w:World}{vs:Array Value}(h:xK P f args rv [])(ha:tL (Lv w) w args vs.toList)(hv: ∀K φ w v,aH K φ w rv v->v=val):Calls P f vs w fun e w' =>e= .returned val/\Below w.heap.size w w' :=
 (h.2 (Lv w) w vs (fun _ h=>h) ha).mono fun e w' ⟨v,K,φ,he,hb,_,_,_,_,_,_,_,hm⟩=>⟨by rw[he,hv _ _ _ _ hm],hb⟩
theorem match_bool {b:Bool}: ∀K φ w v,aH K φ w (.p none (.bool b)) v->v= .bool b:=fun K φ w v h=>by unfold aH jX at h;exact h
end
section
variable {α:Type}
theorem pR {w:World}{p:bX}{ps:List bX}{v:Value}{cs:List Value}{F1 F2:List Nat}(h1:sG w p v F1)(h2:dW w ps cs F2):dW w (p::ps) (v::cs) (F1++F2):=by
 unfold dW;exact⟨v,cs,F1,F2,rfl,rfl,h1,h2⟩
theorem P6 {w:World}:dW w [] [] []:=by unfold dW;exact⟨rfl,rfl⟩
theorem UT {w:World}{k:IntKind}{n:Int}:sG w (.int k n) (.int k n) []:=by unfold sG;exact⟨rfl,rfl⟩
theorem P7 {w:World}{b:Bool}:sG w (.bool b) (.bool b) []:=by unfold sG;exact⟨rfl,rfl⟩
end
mutual
theorem sG.lt {w:World}: ∀{x:bX} {v:Value} {F:List Nat},sG w x v F-> ∀g∈F,g<w.heap.size
 | .int _ _,_,_,h,g,hg=>by unfold sG at h;rw[h.2] at hg;simp at hg
 | .bool _,_,_,h,g,hg=>by unfold sG at h;rw[h.2] at hg;simp at hg
 | .str _,_,_,h,g,hg=>by unfold sG at h;rw[h.2] at hg;simp at hg
 | .gone,_,_,h,g,hg=>by unfold sG at h;rw[h.2] at hg;simp at hg
 | .sl e k xs,v,F,h,g,hg=>by
   unfold sG at h;obtain⟨css,Fs,h1,rfl,h2⟩:=h;rcases aCy.1 hg with hg | hg
   ·exact(yO h1 g hg).2
   exact dB.lt h2 g hg
theorem dB.lt {w:World}{k:Nat}: ∀{xs:List (List bX)} {css:List (List Value)} {Fs:List (List Nat)},dB w k xs css Fs-> ∀g∈Fs.flatten,g<w.heap.size
 | [],css,Fs,h,g,hg=>by unfold dB at h;rw[h.2] at hg;simp at hg
 | x::xs,css,Fs,h,g,hg=>by
   unfold dB at h;obtain⟨c,css',F,Fs',rfl,rfl,h1,h2,h3⟩:=h;rcases aCy.1 (by simpa using hg:g∈F++Fs'.flatten) with hg | hg
   ·exact dW.lt h2 g hg
   exact dB.lt h3 g hg
theorem dW.lt {w:World}: ∀{ds:List bX} {cs:List Value} {F:List Nat},dW w ds cs F-> ∀g∈F,g<w.heap.size
 | [],cs,F,h,g,hg=>by unfold dW at h;rw[h.2] at hg;simp at hg
 | p::ps,cs,F,h,g,hg=>by
   unfold dW at h;obtain⟨v,cs',F1,F2,rfl,rfl,h1,h2⟩:=h;rcases aCy.1 hg with hg | hg
   ·exact sG.lt h1 g hg
   exact dW.lt h2 g hg
end
abbrev Sl:=aGK
abbrev Rl:=List (Nat × Option Rs)
structure Qn (τ:Type) where
 all:(τ->Prop)->Prop
 ex:Nat->(τ->Prop)->Prop
 h1: ∀P,all P-> ∀x,P x
 h2: ∀n P,ex n P-> ∃x,P x
def Q1 (α:Type):Qn α:=⟨fun P=> ∀x,P x,fun _ P=> ∃x,P x,fun _ h=>h,fun _ _ h=>h⟩
def Q2 (α β:Type):Qn (α × β):=⟨fun P=> ∀x y,P (x,y),fun _ P=> ∃x y,P (x,y),fun _ h ⟨x,y⟩=>h x y,fun _ _ ⟨x,y,h⟩=>⟨(x,y),h⟩⟩
def Q3 (α β γ:Type):Qn (α × β × γ):=⟨fun P=> ∀x y z,P (x,y,z),fun _ P=> ∃x y z,P (x,y,z),fun _ h ⟨x,y,z⟩=>h x y z,fun _ _ ⟨x,y,z,h⟩=>⟨(x,y,z),h⟩⟩
def Q4 (α β γ δ:Type):Qn (α × β × γ × δ):=⟨fun P=> ∀x y z u,P (x,y,z,u),fun _ P=> ∃x y z u,P (x,y,z,u),fun _ h ⟨x,y,z,u⟩=>h x y z u,fun _ _ ⟨x,y,z,u,h⟩=>⟨(x,y,z,u),h⟩⟩
def Qs {α β:Type}(p:Qn α)(q:Qn β):Qn (α ⊕ β):=
 ⟨fun P=>p.all (fun x=>P (.inl x))/\q.all (fun x=>P (.inr x)),fun n P=>(match n with | 0=>p.ex 0 fun x=>P (.inl x) | n+1=>q.ex n fun x=>P (.inr x)),
  fun P h x=>(match x with | .inl y=>p.h1 _ h.1 y | .inr y=>q.h1 _ h.2 y),
  fun n P h=>(match n,h with | 0,h=>(p.h2 0 _ h).elim fun x hx=>⟨.inl x,hx⟩ | n+1,h=>(q.h2 n _ h).elim fun x hx=>⟨.inr x,hx⟩)⟩
inductive T:Type 1 where
 | fin (ren:aGM)
 | back (ren:aGM) (n:Nat:=0)
 | br (a b:T)
 | lit (t:T)
 | yes (t:T)
 | no (t:T)
 | raw (t:T)
 | elem (α:Type) (enc:α->List bX) (l:List α) (t:α->T)
 | row (r:List bX) (t:T)
 | len (n:Nat) (t:T)
 | mk (n:Nat) (zr:List bX) (zs:List (List bX)) (t:T)
 | set (α:Type) (enc:α->List bX) (l:List α) (y:α->α) (t:α->T)
 | app (α:Type) (enc:α->List bX) (l l2:List α) (t:T)
 | appx (α:Type) (enc:α->List bX) (l:List α) (x:α) (t:T)
 | appr (α:Type) (enc:α->List bX) (l l2:List α) (t:T)
 | bld (α:Type) (enc:α->List bX) (x:α) (t:T)
 | apph (α:Type) (enc:α->List bX) (l:List α) (y:α) (t:T)
 | appy (α:Type) (enc:α->List bX) (l:List α) (y:α) (t:T)
 | call (rv:AV) (rr:aGJ) (t:T)
 | callx (fs:List AV) (ri:aGJ) (ren:aGM) (rv:AV) (ro:aGJ) (t:T)
 | callxs (fs:List AV) (ri:aGJ) (ren:aGM) (rv:AV) (ro:aGJ) (t:T)
 | bytes (l:Z) (t:T)
 | split (rid h i j h' :Nat) (α:Type) (enc:α->List bX) (l:List α) (t:α->T)
 | join (rid h h' :Nat) (α:Type) (enc:α->List bX) (l:List α) (y:α->α) (t:α->T)
 | takeg (rid h n h' :Nat) (α:Type) (enc:α->List bX) (l:List α) (t:α->List α->T)
 | leave (rid h n h' :Nat) (α:Type) (enc:α->List bX) (x:α) (l:List α) (t:T)
 | setm (α:Type) (enc:α->List bX) (l:List α) (y:α->α) (t:α->T)
 | setr (α:Type) (enc:α->List bX) (l:List α) (y:α->α) (t:α->T)
 | sub (α:Type) (enc:α->List bX) (l:List α) (t:T)
 | stl (d:Nat) (t:T)
 | shal (rid h:Nat) (t:T)
 | stls (rid d:Nat) (t:T)
 | nilt (rid h off e k:Nat) (t:T)
 | stlb (rid h:Nat) (t:T)
 | loop (τ:Type) (q:Qn τ) (W V:List Nat) (osl:τ->Sl) (ors:τ->Rl) (inv:τ->Prop) (m:τ->Nat) (t:τ->T)
def aFO (P:Program)(i k:Nat)(f:Field):Bool:=
 !(f.name == "_") && Nat.beq f.offset i && (match P.underlying f.type with | some (.int _) => Nat.beq k 0 | some .bool => Nat.beq k 1 | some .string => Nat.beq k 2 | _ => false)
def Mh (P:Program):Nat->List Nat->List Field->Bool
 | _,[],[]=>true
 | i,k::ks,f::fs=>aFO P i k f&&Mh P (i+1) ks fs
 | _,_,_=>false
def seB (P:Program)(t:TypeId)(ks:List Nat):Bool:=
 (match P.underlying t with | some (.struct fs)=>Mh P 0 ks fs.toList | _=>false)&& !P.stoodInHeld t&& !P.eqGuardType P.depth t
structure Tb where
 ty:List (Nat × (Bool × Nat × Nat × Value))
 sl:aGM
 fl:List (Nat × List (Nat × (Nat × Nat)))
 pl:List (Nat × (Value × aGM))
 bo:List (Nat × Unit)
 st:List (Nat × Unit)
 nt:List (Nat × IntKind)
 se:List (Nat × List Nat)
def dK {α:Type}:List (Nat × α)->Nat->Option α
 | [],_=>none
 | (k,v)::l,t=>match Nat.beq t k with | true=>some v | false=>dK l t
def rG {α:Type}(p:Nat->α->Prop):List (Nat × α)->Prop
 | []=>True
 | (k,v)::l=>p k v/\rG p l
theorem dY {α:Type}{p:Nat->α->Prop}: ∀{l:List (Nat × α)} {t:Nat} {x:α},rG p l->dK l t=some x->p t x
 | [],_,_,_,h=>by simp[dK] at h
 | (k,v)::l,t,x,hf,h=>by
   unfold dK at h;split at h
   ·rename_i e;have:=aBQ e;subst this;injection h with h
    subst h;exact hf.1
   exact dY hf.2 h
structure oC (P:Program) (tb:Tb):Prop where
 ty:rG (fun t x=>iJ P t=some x) tb.ty
 sl:rG (fun t e=>P.underlying t=some (.slice e)) tb.sl
 fl:rG (fun t l=>rG (fun f x=>tN P t f=some x) l) tb.fl
 pl:rG (fun t x=>EX P t=some x) tb.pl
 bo:rG (fun t _=>P.underlying t=some .bool) tb.bo
 st:rG (fun t _=>P.underlying t=some .string) tb.st
 nt:rG (fun t k=>P.underlying t=some (.int k)) tb.nt
 se:rG (fun t ks=>seB P t ks=true) tb.se
def bO (n:Int):Prop:= -9223372036854775808<=n/\n<=9223372036854775807
abbrev vI (n:Int):AV:= .p none (.int .i64 n)
abbrev vB (b:Bool):AV:= .p none (.bool b)
def SZ:bX->bX->Prop
 | .int k a,.int k' b=>if k=k' then a=b else False
 | .bool a,.bool b=>a=b
 | .str a,.str b=>a=b
 | .sl e k xs,.sl e' k' ys=>match Nat.beq e e' &&Nat.beq k k' with | true=>xs=ys | false=>False
 | _,_=>False
def SZ.eq: ∀{x y:bX},SZ x y->x=y:=by
 intro x y h;unfold SZ at h;split at h
 ·split at h
  ·rename_i e;subst e;rw[h]
  cases h
 ·rw[h]
 ·rw[h]
 ·split at h
  ·rename_i e;rw[aBB] at e;rw[aBQ e.1,aBQ e.2,h]
  cases h
 cases h
def Lr (a b:Nat)(K:Prop):Prop:=match Nat.beq a b with | true=>K | false=>False
def Lr.eq {a b:Nat}{K:Prop}(h:Lr a b K):a=b/\K:=by
 unfold Lr at h;split at h
 ·rename_i e;exact⟨aBQ e,h⟩
 cases h
def eqO:Option Nat->Option Nat->Bool
 | none,none=>true
 | some a,some b=>Nat.beq a b
 | _,_=>false
theorem aDs: ∀{a b:Option Nat},eqO a b=true->a=b
 | none,none,_=>rfl
 | some a,some b,h=>by rw[aBQ h]
 | none,some _,h=>by cases h
 | some _,none,h=>by cases h
mutual
def Sw:AV->AV->Prop->Prop
 | .p o x,y,K=>(match y with | .p o' x' =>(match eqO o o' with | true=>SZ x x' /\K | false=>False) | _=>False)
 | .own h,y,K=>(match y with | .own h' =>Lr h h' K | _=>False)
 | .ptr h o,y,K=>(match y with | .ptr h' o' =>Lr h h' (Lr o o' K) | _=>False)
 | .nil,y,K=>(match y with | .nil=>K | _=>False)
 | .no,y,K=>(match y with | .no=>K | _=>False)
 | .agg cs,y,K=>(match y with | .agg cs' =>Ej cs cs' K | _=>False)
 | .tup cs,y,K=>(match y with | .tup cs' =>Ej cs cs' K | _=>False)
 | .fn f cs,y,K=>(match y with | .fn f' cs' =>Lr f f' (Ej cs cs' K) | _=>False)
 | x,y,K=>x=y/\K
def Ej:List AV->List AV->Prop->Prop
 | [],ys,K=>(match ys with | []=>K | _=>False)
 | x::xs,ys,K=>(match ys with | y::ys=>Sw x y (Ej xs ys K) | []=>False)
end
mutual
theorem Sw.eq: ∀(x y:AV) (K:Prop),Sw x y K->x=y/\K
 | .p o x,y,K,h=>by
   unfold Sw at h;split at h
   ·split at h
    ·rename_i e;exact⟨by rw[aDs e,SZ.eq h.1],h.2⟩
    cases h
   cases h
 | .own h,y,K,hh=>by
   unfold Sw at hh;split at hh
   ·exact⟨by rw[hh.eq.1],hh.eq.2⟩
   cases hh
 | .ptr h o,y,K,hh=>by
   unfold Sw at hh;split at hh
   ·exact⟨by rw[hh.eq.1,hh.eq.2.eq.1],hh.eq.2.eq.2⟩
   cases hh
 | .nil,y,K,h=>by
   unfold Sw at h;split at h
   ·exact⟨rfl,h⟩
   cases h
 | .no,y,K,h=>by
   unfold Sw at h;split at h
   ·exact⟨rfl,h⟩
   cases h
 | .agg cs,y,K,h=>by
   unfold Sw at h;split at h
   ·have:=Ej.eq cs _ K h;exact⟨by rw[this.1],this.2⟩
   cases h
 | .tup cs,y,K,h=>by
   unfold Sw at h;split at h
   ·have:=Ej.eq cs _ K h;exact⟨by rw[this.1],this.2⟩
   cases h
 | .fn f cs,y,K,h=>by
   unfold Sw at h;split at h
   ·have:=Ej.eq cs _ K h.eq.2;exact⟨by rw[h.eq.1,this.1],this.2⟩
   cases h
 | .ep _ _ _ _,y,K,h=>by unfold Sw at h;exact h
 | .rp _ _,y,K,h=>by unfold Sw at h;exact h
 | .bsl _ _,y,K,h=>by unfold Sw at h;exact h
theorem Ej.eq: ∀(xs ys:List AV) (K:Prop),Ej xs ys K->xs=ys/\K
 | [],ys,K,h=>by
   unfold Ej at h;split at h
   ·exact⟨rfl,h⟩
   cases h
 | x::xs,ys,K,h=>by
   unfold Ej at h;split at h
   ·rename_i y ys';have h1:=Sw.eq x y _ h;have h2:=Ej.eq xs _ K h1.2;exact⟨by rw[h1.1,h2.1],h2.2⟩
   cases h
end
def EqR:Rs->Rs->Prop->Prop
 | .box t cs,y,K=>(match y with | .box t' cs' =>Lr t t' (Ej cs cs' K) | _=>False)
 | .arr e k d xs,y,K=>(match y with | .arr e' k' d' ys=>(match Nat.beq e e' &&Nat.beq k k' &&(d==d') with | true=>xs=ys/\K | false=>False) | _=>False)
 | .hole _ _ _ _ _ _,_,_=>False
def EqR.eq {x y:Rs}{K:Prop}(h:EqR x y K):x=y/\K:=by
 cases x with
 | box t cs=>
   simp only[EqR] at h;split at h
   ·have:=Ej.eq cs _ K h.eq.2;exact⟨by rw[h.eq.1,this.1],this.2⟩
   cases h
 | arr e k d xs=>
   simp only[EqR] at h;split at h
   ·split at h
    ·rename_i hb;simp only[aBB,beq_iff_eq] at hb;exact⟨by rw[aBQ hb.1.1,aBQ hb.1.2,hb.2,h.1],h.2⟩
    cases h
   cases h
 | hole e k xs i j q=>simp only[EqR] at h
def iT (sl:Sl)(rs:Rl)(h:Nat):Bool:=
 (Nat.ble 100 h&&(match bL rs h with | none=>true | some _=>false))&&sl.all (fun q=> !(cZ (cM sl q.1)).contains h)&&rs.all (fun q=>match bL rs q.1 with | some r=> !(kG r).contains h | none=>true)
def iF {sl:Sl}{rs:Rl}{h:Nat}(hb:iT sl rs h=true):jP (mk sl rs) h:=by
 unfold iT at hb;simp only[aBB,aCS] at hb;obtain⟨⟨⟨h0,h1⟩,h2⟩,h3⟩:=hb;refine⟨fun t ht=>?_,fun h' r hr hm=>?_,?_,aBF h0⟩
 ·simp only[mk] at ht
  have:t∈sl.map (·.1):=by
   refine Classical.byContradiction fun hn=>?_
   have e: ∀(l:Sl),t ∉ l.map (·.1)->cM l t= .no:=by
    intro l
    induction l with
    | nil=>intro _;rfl
    | cons q l ih=>
      intro hn;simp only[aDH,aDr,not_or] at hn;simp only[cM];rw[if_neg hn.1];exact ih hn.2
   rw[e sl hn] at ht;simp[cZ] at ht
  obtain⟨q,hq,rfl⟩:=aE9.1 this;have:=h2 q hq;simp only[Bool.not_eq_true',List.contains_eq_mem,decide_eq_false_iff_not] at this;exact this ht
 ·simp only[mk] at hr
  have:h' ∈rs.map (·.1):=by
   refine Classical.byContradiction fun hn=>?_
   have e: ∀(l:Rl),h' ∉ l.map (·.1)->bL l h' =none:=by
    intro l
    induction l with
    | nil=>intro _;rfl
    | cons q l ih=>
      intro hn;simp only[aDH,aDr,not_or] at hn;simp only[bL];rw[if_neg hn.1];exact ih hn.2
   rw[e rs hn] at hr;cases hr
  obtain⟨q,hq,rfl⟩:=aE9.1 this;have:=h3 q hq;rw[hr] at this;simp only[Bool.not_eq_true',List.contains_eq_mem,decide_eq_false_iff_not] at this;exact this hm
 simp only[mk];cases hf:bL rs h with
 | none=>rfl
 | some r=>simp[hf] at h1
def arW (k:IntKind)(r:Int)(t:T)(K:AV->T->Prop):Prop:=match k with
 | .i64=>match t with | .raw t=>K (.p none (.int .i64 (IntKind.i64.wrap r))) t | t=>bO r/\K (.p none (.int .i64 r)) t
 | k=>K (.p none (.int k (k.wrap r))) t
def cH (op:BinOp)(k:IntKind)(m n:Int):Int:=k.wrap (match op with
 | .and=>(BitVec.ofInt k.bits m&&&BitVec.ofInt k.bits n).toNat
 | .or=>(BitVec.ofInt k.bits m ||| BitVec.ofInt k.bits n).toNat
 | .xor=>(BitVec.ofInt k.bits m^^^BitVec.ofInt k.bits n).toNat
 | _=>(BitVec.ofInt k.bits m&&& ~~~ BitVec.ofInt k.bits n).toNat:Nat)
def aDt (op:BinOp)(k:IntKind)(m n:Int)(t:T)(K:AV->T->Prop):Prop:=match op with
 | .lss=>K (vB (decide (m<n))) t
 | .leq=>K (vB (decide (m<=n))) t
 | .gtr=>K (vB (decide (n<m))) t
 | .geq=>K (vB (decide (n<=m))) t
 | .eql=>K (vB (decide (m=n))) t
 | .neq=>K (vB (!decide (m=n))) t
 | .add=>arW k (m+n) t K
 | .sub=>arW k (m - n) t K
 | .mul=>arW k (m*n) t K
 | .quo=>n≠0/\arW k (m.tdiv n) t K
 | .rem=>n≠0/\K (.p none (.int k (m.tmod n))) t
 | .and=>K (.p none (.int k (cH .and k m n))) t
 | .or=>K (.p none (.int k (cH .or k m n))) t
 | .xor=>K (.p none (.int k (cH .xor k m n))) t
 | .andNot=>K (.p none (.int k (cH .andNot k m n))) t
 | _=>False
def shW (op:BinOp)(k:IntKind)(m n:Int)(t:T)(K:AV->T->Prop):Prop:=match k with
 | .i64=>match op with
   | .shl=>(0<=n/\n<=64)/\arW .i64 (m*2^n.toNat) t K
   | .shr=>(0<=n/\n<=64)/\K (.p none (.int .i64 (m/2^n.toNat))) t
   | _=>False
 | _=>False
def aDu (op:BinOp)(m n:E)(t:T)(K:AV->T->Prop):Prop:=match op with
 | .eql=>K (vB (m.toList==n.toList)) t
 | .neq=>K (vB (!(m.toList==n.toList))) t
 | .add=>m.size+n.size<=9223372036854775807/\K (.p none (.str (m++n))) t
 | .lss=>K (vB (Op.bytesLess m.toList n.toList)) t
 | .geq=>K (vB (!Op.bytesLess m.toList n.toList)) t
 | _=>False
def eq1:Nat->bX->bX->Option Bool
 | 0,.int k a,.int k' b=>if k=k' then some (a==b) else none
 | 1,.bool a,.bool b=>some (a==b)
 | 2,.str a,.str b=>some (a.toList==b.toList)
 | _,_,_=>none
def OZ:List Nat->List bX->List bX->Option Bool
 | [],[],[]=>some true
 | k::ks,x::xs,y::ys=>(match eq1 k x y with | some b=>(match OZ ks xs ys with | some c=>some (b&&c) | none=>none) | none=>none)
 | _,_,_=>none
def Mi:List AV->Option (List bX)
 | []=>some []
 | .p none x::l=>(match x.val? with | some _=>(match Mi l with | some xs=>some (x::xs) | none=>none) | none=>none)
 | _::_=>none
def aDv (tb:Tb)(op:BinOp)(ty:TypeId)(xs ys:List AV)(t:T)(K:AV->T->Prop):Prop:=match dK tb.se ty with
 | some ks=>(match Mi xs with
   | some ds=>(match Mi ys with
     | some es=>(match OZ ks ds es with
       | some b=>(match op with | .eql=>K (vB b) t | .neq=>K (vB (!b)) t | _=>False)
       | none=>False)
     | none=>False)
   | none=>False)
 | none=>False
def aDw (tb:Tb)(op:BinOp)(ty:TypeId)(x y:AV)(t:T)(K:AV->T->Prop):Prop:=
 match x with
 | .p none (.int k m)=>(match y with
   | .p none (.int k' n)=>(match op with
     | .shl=>shW .shl k m n t K
     | .shr=>shW .shr k m n t K
     | op=>if k=k' then aDt op k m n t K else False)
   | _=>False)
 | .p none (.bool m)=>(match y with
   | .p none (.bool n)=>(match dK tb.bo ty with
     | some _=>(match op with
       | .eql=>K (vB (m==n)) t
       | .neq=>K (vB (!(m==n))) t
       | _=>False)
     | none=>False)
   | _=>False)
 | .p none (.str m)=>(match y with
   | .p none (.str n)=>aDu op m n t K
   | _=>False)
 | .agg xs=>(match y with
   | .agg ys=>aDv tb op ty xs ys t K
   | _=>False)
 | _=>False
def unW (op:UnOp)(x:AV)(t:T)(K:AV->T->Prop):Prop:=match op with
 | .not=>(match x with | .p none (.bool b)=>K (vB (!b)) t | _=>False)
 | .neg=>(match x with | .p none (.int k m)=>arW k (-m) t K | _=>False)
 | _=>False
def X9 (c x y:AV)(t:T)(K:AV->T->Prop):Prop:=match c with
 | .p none (.bool b)=>(match t with
   | .br t1 t2=>(b=true->K x t1)/\(b=false->K y t2)
   | .lit t=>(match b with | true=>K x t | false=>K y t)
   | .yes t=>b=true/\K x t
   | .no t=>b=false/\K y t
   | t=>(match b with | true=>K x t | false=>K y t))
 | _=>False
def sT (rs:Rl):Option Nat->Bool
 | none=>true
 | some h=>(bL rs h).isSome
def UU (xs:List (List bX))(i:Nat)(t:T)(K:List bX->T->Prop):Prop:=match t with
 | .elem _ enc l t=>xs=l.map enc/\i<l.length/\ ∀x,l[i]? =some x->K (enc x) (t x)
 | .row r t=>xs[i]? =some r/\K r t
 | _=>False
def aDx (tb:Tb)(rs:Rl)(ty:TypeId)(x y:AV)(t:T)(K:AV->T->Prop):Prop:=
 match y with
 | .p none (.int _ n)=>(match dK tb.sl ty with
   | some e=>(match dK tb.ty e with
     | some q=>(match x with
       | .p o (.sl _ k xs)=>(match Nat.beq k q.2.1&&sT rs o with
         | true=>0<=n/\UU xs n.toNat t (fun r t=>K (.rp o r) t)
         | false=>False)
       | .own h=>(match bL rs h with
         | some (.arr _ k _ xs)=>(match Nat.beq k q.2.1 with
           | true=>(match t with | .len m t=>0<=n/\xs.length=m/\n<m/\K (.ep h k n.toNat 0) t | _=>False)
           | false=>False)
         | some (.hole _ k xs _ _ _)=>(match Nat.beq k q.2.1 with
           | true=>(match t with | .len m t=>0<=n/\xs.length=m/\n<m/\K (.ep h k n.toNat 0) t | _=>False)
           | false=>False)
         | _=>False)
       | _=>False)
     | none=>False)
   | none=>False)
 | _=>False
def aDy (tb:Tb)(rs:Rl)(s:TypeId)(x:AV)(f:Nat)(K:AV->Prop):Prop:=match dK tb.fl s with
 | some l=>(match dK l f with
   | some q=>(match x with
     | .ptr h o=>K (.ptr h (o+q.1))
     | .ep h k i o=>(match sT rs (some h) with | true=>K (.ep h k i (o+q.1)) | false=>False)
     | .rp o xs=>(match sT rs o with | true=>K (.rp o (xs.drop q.1)) | false=>False)
     | _=>False)
   | none=>False)
 | none=>False
def YA (tb:Tb)(rs:Rl)(ty:TypeId)(x:AV)(t:T)(K:AV->T->Prop):Prop:=match dK tb.ty ty with
 | some (ag,n,_,_)=>(match x with
   | .ptr h off=>(match bL rs h with
     | some (.box _ cs)=>(match ag with
       | true=>(match Nat.ble (off+n) cs.length with | true=>K (.agg ((cs.drop off).take n)) t | false=>False)
       | false=>(match cs[off]? with | some v=>K v t | none=>False))
     | _=>False)
   | .rp o xs=>(match sT rs o with
     | true=>(match ag with
       | true=>(match Nat.ble n xs.length with | true=>K (.agg ((xs.take n).map (OP o))) t | false=>False)
       | false=>(match xs[0]? with | some y=>K (OP o y) t | none=>False))
     | false=>False)
   | .ep h k i off=>(match bL rs h with
     | some (.arr _ k' dp xs)=>(match Nat.beq k k' with
       | true=>UU xs i t (fun row t=>match ag with
         | true=>(match Nat.ble (off+n) row.length with | true=>K (.agg (((row.drop off).take n).map (OP (match dp with | true=>some h | false=>none)))) t | false=>False)
         | false=>(match row[off]? with | some y=>K (OP (match dp with | true=>some h | false=>none) y) t | none=>False))
       | false=>False)
     | some (.hole _ k' _ i' j h')=>(match Nat.beq k k' &&Nat.beq off j&& !ag with
       | true=>i=i' /\K (.own h') t
       | false=>False)
     | _=>False)
   | _=>False)
 | none=>False
def Au (rs:Rl):AV->Bool
 | .p o _=>sT rs o
 | .own h=>sT rs (some h)
 | .ptr h _=>sT rs (some h)
 | .ep h _ _ _=>sT rs (some h)
 | .rp o _=>sT rs o
 | .bsl h _=>sT rs (some h)
 | .fn _ _=>true
 | .nil=>true
 | .agg _=>true
 | _=>false
def Fq:List AV->Option (List bX)
 | []=>some []
 | .p none x::l=>(match x.val? with
   | some _=>(match Fq l with | some ds=>some (x::ds) | none=>none)
   | none=>none)
 | _=>none
def iU:List bX->Bool
 | []=>true
 | x::l=>x.val?.isSome&&iU l
def stW (tb:Tb)(rs:Rl)(ty:TypeId)(x y:AV)(t:T)(K:List Nat->aGJ->T->Prop):Prop:=match dK tb.ty ty with
 | some (_,n,_,_)=>(match x with
   | .ptr h off=>(match bL rs h with
     | some (.box tq cs)=>(match Au rs y&&Nat.beq (gJ y).length n&&Nat.ble (off+n) cs.length with
       | true=>K [h] [(h,.box tq (cs.take off++gJ y++cs.drop (off+n)))] t
       | false=>False)
     | _=>False)
   | .ep h k i off=>(match bL rs h with
     | some (.arr e k' dp xs)=>(match Nat.beq k k' with
       | true=>(match Fq (gJ y) with
         | some ys=>(match Nat.beq ys.length n with
           | true=>(match t with
             | .set _ enc l y t=>xs=l.map enc/\i<l.length/\ ∀x,l[i]? =some x->iU (enc x)=true/\off+n<=(enc x).length/\(enc x).take off++ys++(enc x).drop (off+n)=enc (y x)/\K [h] [(h,.arr e k dp ((l.set i (y x)).map enc))] (t x)
             | _=>False)
           | false=>False)
         | none=>False)
       | false=>False)
     | _=>False)
   | _=>False)
 | none=>False
def Sx (tb:Tb)(rs:Rl)(ty:TypeId)(parts:aGK)(K:AV->Prop):Prop:=match dK tb.pl ty with
 | some (z,ps)=>(match parts.all (fun q=>Au rs q.2) with
   | true=>(match xJ (ps.toArray[·]?) (z.cells.toList.map UL) parts with | some cs=>K (.agg cs) | none=>False)
   | false=>False)
 | none=>False
def Gr (k:Nat):Nat->List bX->List (List bX)
 | 0,_=>[]
 | n+1,l=>l.take k::Gr k n (l.drop k)
def aDz (tb:Tb)(sl:Sl)(rs:Rl)(d:Nat)(ty:TypeId)(n:Nat)(parts:aGK)(K:AV->aGJ->Prop):Prop:=match dK tb.sl ty with
 | some e=>(match dK tb.ty e with
   | some (_,k,_,_)=>(match iT sl rs (100*d) with
     | true=>(match n with
       | 0=>(match parts with | []=>K (.own (100*d)) [(100*d,.arr e k true [])] | _=>False)
       | n=>(match parts.all (fun q=>Au rs q.2)&&Nat.ble (n*k) 16777216&&Nat.blt 0 (n*k) with
         | true=>(match xJ (fun i=>some (i*k,k)) (List.replicate (n*k) AV.no) parts with
           | some cs=>(match Fq cs with
             | some ds=>(match Nat.beq ds.length (n*k) with | true=>K (.own (100*d)) [(100*d,.arr e k true (Gr k n ds))] | false=>False)
             | none=>(match (gY cs).contains (100*d) with | true=>False | false=>K (.bsl (100*d) n) [(100*d,.box e cs)]))
           | none=>False)
         | false=>False))
     | false=>False)
   | none=>False)
 | none=>False
def Av:List Value->List bX->Bool
 | [],[]=>true
 | .int k n::vs,.int k' m::ds=>(if k=k' then true else false)&&(if n=m then true else false)&&Av vs ds
 | .bool a::vs,.bool b::ds=>(a==b)&&Av vs ds
 | .slice none 0 0::vs,.sl _ _ []::ds=>Av vs ds
 | .string ⟨⟨[]⟩⟩::vs,.str ⟨⟨[]⟩⟩::ds=>Av vs ds
 | _,_=>false
def mkW (tb:Tb)(sl:Sl)(rs:Rl)(d:Nat)(ty:TypeId)(x y:AV)(t:T)(K:AV->aGJ->T->Prop):Prop:=match dK tb.sl ty with
 | some e=>(match dK tb.ty e with
   | some (_,k,bt,z)=>(match iT sl rs (100*d) with
     | true=>(match x with
       | .p none (.int _ a)=>(match y with
         | .p none (.int _ b)=>(match t with
           | .mk n zr zs t=>(match Av z.cells.toList zr with
             | true=>a=n/\b=n/\bt*n<=281474976710656/\n<=9223372036854775807/\List.replicate n zr=zs/\K (.own (100*d)) [(100*d,.arr e k true zs)] t
             | false=>False)
           | _=>False)
         | _=>False)
       | _=>False)
     | false=>False)
   | none=>False)
 | none=>False
def aEA (rs:Rl)(x:AV)(t:T)(K:AV->T->Prop):Prop:=match x with
 | .p o (.sl _ _ xs)=>(match sT rs o with
   | true=>(match t with | .len n t=>xs.length=n/\K (vI n) t | _=>False)
   | false=>False)
 | .own h=>(match bL rs h with
   | some (.arr _ _ _ xs)=>(match t with | .len n t=>xs.length=n/\K (vI n) t | _=>False)
   | _=>False)
 | .nil=>K (vI 0) t
 | _=>False
def Gt (rs:Rl):List AV->List bX->Prop->Prop
 | [],row,K=>(match row with | []=>K | _=>False)
 | c::cs,row,K=>(match row with
   | []=>False
   | x::row=>(match c with
     | .p none y=>(match y.val? with | some _=>SZ y x/\Gt rs cs row K | none=>False)
     | .own g=>(match x with
       | .sl e k ys=>(match bL rs g with
         | some (.arr e' k' true xs)=>(match Nat.beq e' e&&Nat.beq k' k with | true=>xs=ys/\Gt rs cs row K | false=>False)
         | _=>False)
       | _=>False)
     | .nil=>(match x with | .sl _ _ ys=>ys= []/\Gt rs cs row K | _=>False)
     | _=>False))
def JA:List AV->List Nat
 | []=>[]
 | .own g::cs=>g::JA cs
 | _::cs=>JA cs
def aBR (rs:Rl)(e k:Nat)(x:AV)(K:List Nat->Bool->List (List bX)->Prop):Prop:=match x with
 | .own h=>(match bL rs h with
   | some (.arr e' k' dp xs)=>(match Nat.beq e' e&&Nat.beq k' k with | true=>K [h] dp xs | false=>False)
   | _=>False)
 | .nil=>K [] true []
 | _=>False
def aEB (rs:Rl)(k:Nat)(x:AV)(K:List (List bX)->Prop):Prop:=match x with
 | .p o (.sl _ k' xs)=>(match sT rs o&&Nat.beq k' k with | true=>K xs | false=>False)
 | .own h=>(match bL rs h with
   | some (.arr _ k' _ xs)=>(match Nat.beq k' k with | true=>K xs | false=>False)
   | _=>False)
 | .nil=>K []
 | _=>False
def P8:List AV->Option (List bX)
 | []=>some []
 | .p none x::cs=>(match P8 cs with | some r=>some (x::r) | none=>none)
 | _=>none
def yT:Nat->Nat->List bX->List (List bX)
 | 0,_,_=>[]
 | n+1,k,row=>row.take k::yT n k (row.drop k)
def roW (rs:Rl)(k:Nat)(x:AV)(K:List (List bX)->Prop):Prop:=match x with
 | .p none (.sl _ k' xs)=>(match Nat.beq k' k with | true=>K xs | false=>False)
 | .bsl h n=>(match bL rs h with
   | some (.box _ cs)=>(match P8 cs with | some row=>(match Nat.beq row.length (n*k) with | true=>K (yT n k row) | false=>False) | none=>False)
   | _=>False)
 | _=>False
def YB (dp:Bool)(xs:List (List bX))(K:Prop):Prop:=match dp with
 | false=>K
 | true=>(match xs with | []=>K | _=>False)
def qI:List Nat->Bool
 | []=>true
 | x::l=> !l.contains x&&qI l
def aEC (tb:Tb)(sl:Sl)(rs:Rl)(d:Nat)(ty:TypeId)(s x:AV)(t:T)(K:AV->List Nat->aGJ->T->Prop):Prop:=match dK tb.sl ty with
 | some e=>(match dK tb.ty e with
   | some (_,k,bt,_)=>(match iT sl rs (100*d)&&Nat.blt 0 k&&Nat.blt 0 bt with
     | true=>aBR rs e k s (fun del dp xs=>match t with
       | .app _ enc l l2 t=>xs=l.map enc/\aEB rs k x (fun ys=>ys=l2.map enc)/\(∀x,iU (enc x)=true)/\(l.length+l2.length)*bt<=140737488355328/\K (.own (100*d)) del [(100*d,.arr e k dp ((l++l2).map enc))] t
       | .appr _ enc l l2 t=>YB dp xs (xs=l.map enc/\roW rs k x (fun ys=>ys=l2.map enc/\(l.length+l2.length)*bt<=140737488355328/\K (.own (100*d)) del [(100*d,.arr e k false ((l++l2).map enc))] t))
       | .appx _ enc l y t=>(match dp with
         | true=>(match x with
           | .bsl h2 1=>(match bL rs h2 with
             | some (.box _ cs)=>(match qI (del++JA cs) with
               | true=>(match Nat.beq (enc y).length k with | true=>xs=l.map enc/\Gt rs cs (enc y) ((l.length+1)*bt<=140737488355328/\K (.own (100*d)) (del++JA cs) [(100*d,.arr e k true ((l++[y]).map enc))] t) | false=>False)
               | false=>False)
             | _=>False)
           | _=>False)
         | false=>False)
       | _=>False)
     | false=>False)
   | none=>False)
 | none=>False
def YC (tb:Tb)(sl:Sl)(rs:Rl)(d:Nat)(ty:TypeId)(s x:AV){α:Type}(enc:α->List bX)(l:List α)(y:α)(K:AV->List Nat->aGJ->Prop):Prop:=match dK tb.sl ty with
 | some e=>(match dK tb.ty e with
   | some (_,k,bt,_)=>(match iT sl rs (100*d)&&Nat.beq k 1&&Nat.blt 0 bt with
     | true=>aBR rs e 1 s (fun del dp xs=>match dp with
       | true=>(match x with
         | .bsl h2 1=>(match bL rs h2 with
           | some (.box _ [.own hp])=>(match bL rs hp with
             | some (.arr e3 k3 true ys)=>(match qI (hp::del) with
               | true=>xs=l.map enc/\enc y= [.sl e3 k3 ys]/\(l.length+1)*bt<=140737488355328/\K (.own (100*d)) del [(100*d,.hole e 1 ((l++[y]).map enc) l.length 0 hp)]
               | false=>False)
             | _=>False)
           | _=>False)
         | _=>False)
       | false=>False)
     | false=>False)
   | _=>False)
 | _=>False
def YD (tb:Tb)(sl:Sl)(rs:Rl)(d:Nat)(ty:TypeId)(s x:AV){α:Type}(enc:α->List bX)(l:List α)(y:α)(K:AV->List Nat->aGJ->Prop):Prop:=match dK tb.sl ty with
 | some e=>(match dK tb.ty e with
   | some (_,k,bt,_)=>(match iT sl rs (100*d)&&Nat.blt 0 k&&Nat.blt 0 bt with
     | true=>(match s with
       | .own h0=>(match bL rs h0 with
         | some (.hole e' k' xs i j hp)=>(match x with
           | .bsl h2 1=>(match bL rs h2 with
             | some (.box _ cs)=>(match Nat.beq e' e&&Nat.beq k' k&&qI (hp::h0::JA cs)&& !Nat.beq hp (100*d)&&Nat.beq (enc y).length k with
               | true=>xs=l.map enc/\Gt rs cs (enc y) ((l.length+1)*bt<=140737488355328/\K (.own (100*d)) (h0::JA cs) [(100*d,.hole e k ((l++[y]).map enc) i j hp)])
               | false=>False)
             | _=>False)
           | _=>False)
         | _=>False)
       | _=>False)
     | false=>False)
   | _=>False)
 | _=>False
def aED (tb:Tb)(sl:Sl)(rs:Rl)(d:Nat)(ty:TypeId)(s x:AV)(t:T)(K:AV->List Nat->aGJ->T->Prop):Prop:=match t with
 | .apph _ enc l y t=>YC tb sl rs d ty s x enc l y (fun v del new=>K v del new t)
 | .appy _ enc l y t=>YD tb sl rs d ty s x enc l y (fun v del new=>K v del new t)
 | t=>aEC tb sl rs d ty s x t K
def YE (P:Program)(sl:Sl)(rs:Rl)(d:Nat)(f:FuncId)(args:List AV)(t:T)(K:AV->aGJ->T->Prop):Prop:=match t with
 | .call rv rr t=>(match Fo rs args with
   | some ys=>(match ((nE rv&&rr.all fun q=>MU q.2) || sQ args)&&(rr.all fun q=>Iv q.2&&iT sl rs (100*d+q.1))&&((cZ rv).all fun h=>(bF rr h).isSome) with
     | true=>xK P f ys rv rr/\K (nI (100*d+ ·) rv) (rr.map fun q=>(100*d+q.1,q.2)) t
     | false=>False)
   | none=>False)
 | _=>False
def bQ (b:Int):List bX:=[.int .u8 b]
def rH (s:E)(i:Nat):Int:=((s.data.toList.getD i 0).toNat:Nat)
def cvW (tb:Tb)(rs:Rl)(src dst:TypeId)(x:AV)(t:T)(K:AV->T->Prop):Prop:=match dK tb.nt dst with
 | some k=>(match dK tb.nt src with
   | some _=>(match x with | .p none (.int _ n)=>arW k n t K | _=>False)
   | none=>False)
 | none=>False
def aEE (tb:Tb)(ty:TypeId)(x y:AV)(t:T)(K:AV->T->Prop):Prop:=match dK tb.st ty with
 | some _=>(match x with
   | .p none (.str s)=>(match y with
     | .p none (.int _ n)=>0<=n/\n<s.size/\K (.p none (.int .u8 (rH s n.toNat))) t
     | _=>False)
   | _=>False)
 | none=>False
def aEF (tb:Tb)(ty:TypeId)(x:AV)(lo hi:Option AV)(t:T)(K:AV->T->Prop):Prop:=match dK tb.st ty with
 | some _=>(match x with
   | .p none (.str s)=>(match lo with
     | none=>(match hi with
       | none=>False
       | some (.p none (.int _ b))=>0<=b/\b<=s.size/\K (.p none (.str (s.extract 0 b.toNat))) t
       | _=>False)
     | some (.p none (.int _ a))=>(match hi with
       | none=>0<=a/\a<=s.size/\K (.p none (.str (s.extract a.toNat s.size))) t
       | some (.p none (.int _ b))=>0<=a/\a<=b/\b<=s.size/\K (.p none (.str (s.extract a.toNat b.toNat))) t
       | _=>False)
     | _=>False)
   | _=>False)
 | none=>False
def aEG (tb:Tb)(rs:Rl)(ty:TypeId)(x:AV)(lo hi:Option AV)(t:T)(K:AV->T->Prop):Prop:=match dK tb.sl ty with
 | some e=>(match dK tb.ty e with
   | some (_,k,_,_)=>(match x with
     | .p o (.sl e' k' xs)=>(match sT rs o&&Nat.beq k' k with
       | true=>(match t with
         | .sub _ enc l t=>(match lo with
           | none=>(match hi with
             | some (.p none (.int _ b))=>xs=l.map enc/\0<=b/\b<=(l.length:Int)/\K (.p o (.sl e' k' ((l.take b.toNat).map enc))) t
             | _=>False)
           | some (.p none (.int _ a))=>(match hi with
             | none=>xs=l.map enc/\0<=a/\a<=(l.length:Int)/\K (.p o (.sl e' k' ((l.drop a.toNat).map enc))) t
             | some (.p none (.int _ b))=>xs=l.map enc/\0<=a/\a<=b/\b<=(l.length:Int)/\K (.p o (.sl e' k' (((l.take b.toNat).drop a.toNat).map enc))) t
             | _=>False)
           | _=>False)
         | _=>False)
       | false=>False)
     | _=>False)
   | none=>False)
 | none=>aEF tb ty x lo hi t K
def aBS (rs:Rl):AV->Option (AV × List Nat)
 | .own h=>(match bL rs h with | some (.arr e k _ xs)=>some (.p none (.sl e k xs),[h]) | _=>none)
 | .p none x=>some (.p none x,[])
 | .nil=>some (.nil,[])
 | _=>none
def Sy (rs:Rl):List AV->Option (List AV × List Nat)
 | []=>some ([],[])
 | c::cs=>(match aBS rs c with | some q=>(match Sy rs cs with | some r=>some (q.1::r.1,q.2++r.2) | none=>none) | none=>none)
def aBT (rs:Rl):AV->Option (AV × List Nat)
 | .agg cs=>(match Sy rs cs with | some q=>some (.agg q.1,q.2) | none=>none)
 | x=>aBS rs x
def UV (rs:Rl)(d:Nat)(x:AV)(t:T)(K:AV->List Nat->T->Prop):Prop:=match t with
 | .stl d' t=>(match Nat.beq d' d with
   | true=>(match aBT rs x with | some q=>K q.1 q.2 t | none=>False)
   | false=>K x [] (.stl d' t))
 | t=>K x [] t
def Sz (tb:Tb)(s:TypeId)(x:AV)(f:Nat)(K:AV->Prop):Prop:=match dK tb.fl s with
 | some l=>(match dK l f with
   | some q=>(match dK tb.ty q.2 with
     | some (g,n,_,_)=>(match x with
       | .agg cs=>(match g with
         | true=>(match Nat.ble (q.1+n) cs.length with | true=>K (.agg ((cs.drop q.1).take n)) | false=>False)
         | false=>(match cs[q.1]? with | some y=>K y | none=>False))
       | _=>False)
     | none=>False)
   | none=>False)
 | none=>False
def aEH (P:Program)(tb:Tb)(sl:Sl)(rs:Rl)(d:Nat)(o:Op)(t:T)(K:AV->List Nat->aGJ->T->Prop):Prop:=match o with
 | .move x=>UV rs d (eA sl x) t (fun v del t=>K v del [] t)
 | .assign x=>UV rs d (eA sl x) t (fun v del t=>K v del [] t)
 | .pick c x y=>X9 (eA sl c) (eA sl x) (eA sl y) t (fun v t=>K v [] [] t)
 | .extract x i=>(match eA sl x with | .tup vs=>(match vs[i]? with | some v=>K v [] [] t | none=>False) | _=>False)
 | .binOp op ty x y _=>aDw tb op ty (eA sl x) (eA sl y) t (fun v t=>K v [] [] t)
 | .unOp op _ x=>unW op (eA sl x) t (fun v t=>K v [] [] t)
 | .fieldAddr s x f=>aDy tb rs s (eA sl x) f (fun v=>K v [] [] t)
 | .field s x f=>Sz tb s (eA sl x) f (fun v=>K v [] [] t)
 | .nilCheck x=>(match eA sl x with | .ptr h o=>K (.ptr h o) [] [] t | _=>False)
 | .indexAddr ty x y=>aDx tb rs ty (eA sl x) (eA sl y) t (fun v t=>K v [] [] t)
 | .load ty x=>YA tb rs ty (eA sl x) t (fun v t=>K v [] [] t)
 | .alloc ty=>(match dK tb.ty ty with | some (_,_,_,z)=>(match iT sl rs (100*d) with | true=>K (.ptr (100*d) 0) [] [(100*d,.box ty (z.cells.toList.map UL))] t | false=>False) | none=>False)
 | .box ty x=>(match Au rs (eA sl x)&&iT sl rs (100*d) with | true=>K (.ptr (100*d) 0) [] [(100*d,.box ty (gJ (eA sl x)))] t | false=>False)
 | .build ty parts=>Sx tb rs ty (parts.toList.map fun q=>(q.1,eA sl q.2)) (fun v=>K v [] [] t)
 | .buildSlice ty n parts=>aDz tb sl rs d ty n (parts.toList.map fun q=>(q.1,eA sl q.2)) (fun v new=>K v [] new t)
 | .makeSlice ty x y=>mkW tb sl rs d ty (eA sl x) (eA sl y) t (fun v new t=>K v [] new t)
 | .call c=>(match c with
   | ⟨.builtin b,⟨args⟩,⟨ts⟩⟩=>(match b with
     | .len=>(match args,ts with
       | [x],[ty]=>(match dK tb.sl ty with
         | some _=>aEA rs (eA sl x) t (fun v t=>K v [] [] t)
         | none=>(match dK tb.st ty with
           | some _=>(match eA sl x with | .p none (.str s)=>K (vI s.size) [] [] t | _=>False)
           | none=>False))
       | _,_=>False)
     | .min=>(match args with
       | [x,y]=>(match eA sl x with | .p none (.int k m)=>(match eA sl y with | .p none (.int _ n)=>K (.p none (.int k (if n<m then n else m))) [] [] t | _=>False) | _=>False)
       | _=>False)
     | .max=>(match args with
       | [x,y]=>(match eA sl x with | .p none (.int k m)=>(match eA sl y with | .p none (.int _ n)=>K (.p none (.int k (if m<n then n else m))) [] [] t | _=>False) | _=>False)
       | _=>False)
     | .append=>(match args,ts with
       | [s,x],[ty,ty']=>Lr ty' ty (aED tb sl rs d ty (eA sl s) (eA sl x) t K)
       | _,_=>False)
     | _=>False)
   | ⟨.value x,⟨args⟩,_⟩=>(match eA sl x with
     | .fn f caps=>YE P sl rs d f (args.map (eA sl)++caps) t (fun v new t=>K v [] new t)
     | _=>False)
   | _=>False)
 | .convert src dst x=>cvW tb rs src dst (eA sl x) t (fun v t=>K v [] [] t)
 | .index ty x y=>aEE tb ty (eA sl x) (eA sl y) t (fun v t=>K v [] [] t)
 | .slice ty x lo hi none=>aEG tb rs ty (eA sl x) (lo.map (eA sl)) (hi.map (eA sl)) t (fun v t=>K v [] [] t)
 | .makeFunc (.func f) ⟨[]⟩ captured=>K (.fn f (captured.toList.map (eA sl))) [] [] t
 | _=>False
def Sa (P:Program)(tb:Tb)(sl:Sl)(rs:Rl)(dst:Option Nat)(o:Op)(t:T)(K:AV->List Nat->aGJ->T->Prop):Prop:=match dst with
 | some d=>aEH P tb sl rs d o t K
 | none=>(match o with
   | .store ty x y=>stW tb rs ty (eA sl x) (eA sl y) t (fun del new t=>K .no del new t)
   | _=>False)
theorem yU {sl:Sl}{rs:Rl}: ∀{o:Option Nat},sT rs o=true->qZ (mk sl rs) o
 | none,_=>trivial
 | some h,e=>Option.isSome_iff_exists.1 e
def CP {rs:Rl}{h:Nat}(e:sT rs (some h)=true): ∃r,bL rs h=some r:=Option.isSome_iff_exists.1 e
def DP {k:IntKind}{r:Int}{t:T}{K:AV->T->Prop}(h:arW k r t K): ∃t',K (.p none (.int k (k.wrap r))) t' :=by
 unfold arW at h;split at h
 ·split at h
  ·exact⟨_,h⟩
  have e:IntKind.i64.wrap r=r:=IntWalk.i64_in _ h.1;rw[e];exact⟨_,h.2⟩
 exact⟨_,h⟩
section
variable {K:Nat->Prop} {φ:jS} {A:Nat->Prop} {w0:Aa} {N:Nat} {S:St} {a:Act} {w:World} {P:Program}
theorem G.holed (hG:G K φ A w0 N S a w){h e k i j h' :Nat}{xs:List (List bX)}(hr:S.res h=some (.hole e k xs i j h')):
 ∃(pl:Pl) (v:Value) (zs:List Value),φ h=some pl/\w.ownsRow 0 e k pl.val xs.length zs/\pl.top=pl.val.ownBlock.toList/\i<xs.length/\(∀pl',φ h' =some pl' ->v=pl'.val)/\ ∃g,pl.top= [g]/\w.cell? ⟨g,i*k+j,none⟩=some v:=by
 obtain⟨pl,hp,xs1,x1,d,x2,xs2,css1,c1,v,c2,css2,Fs1,F1,F2,Fs2,e0,e1,e2,e3,h1,h2,h3,h4,h5,h6,h7,h8⟩:=hG.dom h _ hr;have hi:i<xs.length:=by rw[e0];simp;omega
 have hl1:=h4.len;have hl2:=h7.len;have hc1:=h5.len;have hc2:=h6.len;have hlen:(css1++(c1++v::c2)::css2).length=xs.length:=by rw[e0];simp;omega
 have hk: ∀c∈css1++(c1++v::c2)::css2,c.length=k:=fun c hc=>by
  rcases aCy.1 hc with hc | hc
  ·exact hl1.2 c hc
  rcases aDr.1 hc with rfl | hc
  ·rw[<-e3];simp;omega
  exact hl2.2 c hc
 obtain⟨b,c,hv,_,_,hb,hcell⟩:=pD h1 hk hlen;obtain⟨g,rfl,hg,hcs⟩:=hcell i (c1++v::c2) (by rw[aD8 aGR];simp[hl1.1,e1]);refine⟨pl,v,_,hp,h1,h2,hi,h8.2,g,by rw[h2,hg];rfl,hcs j v ?_⟩;rw[aD8 aGR];simp[hc1,e2]
theorem Ft {o:Oper}{x y:Operand}{t e:TypeId}{k bt:Nat}{ag:Bool}{z:Value}{h i j h' :Nat}{e' :Nat}{xs:List (List bX)}{ik:IntKind}{n:Int}(ho:o.op= .indexAddr t x y)(ht:P.underlying t=some (.slice e))(hk:iJ P e=some (ag,k,bt,z))
 (hx:S.ev x= .own h) (hh:S.res h=some (.hole e' k xs i j h')) (hy:S.ev y= .p none (.int ik n)) (h0:0<=n) (hn:n<xs.length):bP P o S ⟨.ep h k n.toNat 0,[],[]⟩:=
 eC fun K φ A w0 N a w hG=>by
  obtain⟨pl,v,zs,hp,hown,htop,_⟩:=hG.holed hh;have h1:=hG.ev x;rw[hx] at h1;unfold aH at h1;have he:=h1 pl hp;have h2:a.eval y= .int ik n:=lO (x:=S.ev y) (by rw[hy];rfl) (hG.ev y);obtain⟨b,c,hv,_,_,hb⟩:=lL hown;obtain⟨g,rfl,_,_⟩:=hb aGR;rw[hv] at he htop;refine⟨.pointer (some ⟨g,0+n.toNat*k,none⟩),by simp[execOp,ho,he,h2,Aj ht hk w ik n xs.length c g 0 h0 hn],?_⟩;unfold aH;exact fun pl' hp' =>by rw[hp] at hp';injection hp' with e;subst e;exact⟨g,by rw[htop];rfl,by simp⟩
theorem Hy {o:Oper}{x:Operand}{t:TypeId}{n bt:Nat}{z:Value}{h e k i j h' :Nat}{xs:List (List bX)}(ho:o.op= .load t x)(ht:iJ P t=some (false,n,bt,z))(hx:S.ev x= .ep h k i j)(hh:S.res h=some (.hole e k xs i j h')):
 bP P o S ⟨.own h',[],[]⟩:=
 eC fun K φ A w0 N a w hG=>by
  obtain⟨pl,v,zs,hp,_,_,_,h8,g,hg,hc⟩:=hG.holed hh;have h1:=hG.ev x;rw[hx] at h1;unfold aH at h1;obtain⟨g',hg',he⟩:=h1 pl hp;rw[hg] at hg';simp only[List.cons.injEq,and_true] at hg';subst hg';refine⟨v,?_,by unfold aH;exact h8⟩;simp only[execOp,ho,he,Sem.run_bind];rw[sN ht w g (i*k+j) v hc];rfl
end
section
variable {P:Program} {tb:Tb} {sl:Sl} {rs:Rl} {ty:TypeId} {pos:String} {aft:Array Edge} {d:Nat} {gd:Option (Nat × Bool)}
section
variable {x y:Operand} {s s' :TypeId}
theorem P9 {op:BinOp}{k k' :IntKind}{m n:Int}{r:bX}{v:Value}(hx:eA sl x= .p none (.int k m))(hy:eA sl y= .p none (.int k' n))(hv:r.val? =some v)(hr: ∀w,(binOp op s (.int k m) (.int k' n)).run P w= .ok v w):bP P ⟨some d,.binOp op s x y s',ty,pos,aft,gd⟩ (mk sl rs) ⟨.p none r,[],[]⟩:=
 nF hv (fun e w he=>by
  have h1:=he x _ (xA hx rfl);have h2:=he y _ (xA hy rfl)
  have hg:(eqGuard op s x y (.int k m) (.int k' n)).run P w= .ok () w:=by
   unfold eqGuard;cases op<;>rfl
  simp only[execOp,h1,h2,Sem.run_bind,hg,Result.andThen_ok,hr];rfl)
theorem aBU {op:BinOp}{k:IntKind}{m n:Int}{t:T}{K:AV->T->Prop}(hx:eA sl x= .p none (.int k m))(hy:eA sl y= .p none (.int k n))(h:aDt op k m n t K): ∃v t',bP P ⟨some d,.binOp op s x y s',ty,pos,aft,gd⟩ (mk sl rs) ⟨v,[],[]⟩/\K v t' :=by
 unfold aDt at h;split at h
 ·exact⟨_,_,aDc hx hy,h⟩
 ·exact⟨_,_,aDd hx hy,h⟩
 ·exact⟨_,_,aDe hx hy,h⟩
 ·exact⟨_,_,aDf hx hy,h⟩
 ·exact⟨_,_,aDg hx hy,h⟩
 ·exact⟨_,_,aDh hx hy,h⟩
 ·obtain⟨t',h⟩:=DP h;exact⟨_,_,aDi hx hy,h⟩
 ·obtain⟨t',h⟩:=DP h;exact⟨_,_,aDj hx hy,h⟩
 ·obtain⟨t',h⟩:=DP h;exact⟨_,_,aDk hx hy,h⟩
 ·obtain⟨t',h'⟩:=DP h.2;exact⟨_,_,aDl hx hy h.1,h'⟩
 ·exact⟨_,_,aDm hx hy h.1,h.2⟩
 ·exact⟨_,_,gO hx hy rfl (fun w=>by simp[binOp,Op.intBits,cH]),h⟩
 ·exact⟨_,_,gO hx hy rfl (fun w=>by simp[binOp,Op.intBits,cH]),h⟩
 ·exact⟨_,_,gO hx hy rfl (fun w=>by simp[binOp,Op.intBits,cH]),h⟩
 ·exact⟨_,_,gO hx hy rfl (fun w=>by simp[binOp,Op.intBits,cH]),h⟩
 cases h
theorem YF {op:BinOp}{k k' :IntKind}{m n:Int}{t:T}{K:AV->T->Prop}(hx:eA sl x= .p none (.int k m))(hy:eA sl y= .p none (.int k' n))(h:shW op k m n t K): ∃v t',bP P ⟨some d,.binOp op s x y s',ty,pos,aft,gd⟩ (mk sl rs) ⟨v,[],[]⟩/\K v t' :=by
 unfold shW at h;split at h
 ·split at h
  ·obtain⟨⟨h0,h1⟩,h⟩:=h;obtain⟨t',h⟩:=DP h;have hm:min n.toNat 64=n.toNat:=aGR
   refine⟨_,_,P9 hx hy rfl (fun w=>?_),h⟩;simp only[binOp,Op.shift];rw[if_neg aGR];simp[IntKind.bits,hm]
  ·obtain⟨⟨h0,h1⟩,h⟩:=h;have hm:min n.toNat 64=n.toNat:=aGR
   refine⟨_,_,P9 hx hy rfl (fun w=>?_),h⟩;simp only[binOp,Op.shift];rw[if_neg aGR];have:(0:Int)<=2^n.toNat:=by exact_mod_cast aBC (2^n.toNat)
   simp[IntKind.bits,hm,Int.fdiv_eq_ediv_of_nonneg _ this]
  cases h
 cases h
theorem aBV {op:BinOp}{m n:E}{t:T}{K:AV->T->Prop}(hx:eA sl x= .p none (.str m))(hy:eA sl y= .p none (.str n))(h:aDu op m n t K): ∃v t',bP P ⟨some d,.binOp op s x y s',ty,pos,aft,gd⟩ (mk sl rs) ⟨v,[],[]⟩/\K v t' :=by
 unfold aDu at h;split at h
 ·exact⟨_,_,MD hx hy,h⟩
 ·exact⟨_,_,MC hx hy,h⟩
 ·refine⟨_,_,uG hx hy rfl (fun w=>?_),h.2⟩;simp only[binOp,Op.stringOp]
  rw [if_neg (by have:=h.1;have e:IntKind.i64.max=9223372036854775807:=by decide
                 rw[e];omega)]
  simp
 ·exact⟨_,_,uG hx hy rfl (fun w=>by simp[binOp,Op.stringOp]),h⟩
 ·exact⟨_,_,uG hx hy rfl (fun w=>by simp[binOp,Op.stringOp]),h⟩
 cases h
theorem JB {K:Nat->Prop}{φ:jS}{w:World}: ∀{xs:List AV} {ds:List bX} {vs:List Value},Mi xs=some ds->aS K φ w xs vs->ds.map bX.val? =vs.map some
 | [],ds,vs,h,hm=>by
   unfold Mi at h;injection h with h
   subst h;unfold aS at hm;subst hm;rfl
 | x::xs,ds,vs,h,hm=>by
   unfold Mi at h;split at h
   ·rename_i heq;cases heq
   ·rename_i y l heq;injection heq with e1 e2
    subst e1;subst e2;split at h
    ·rename_i u hu;split at h
     ·rename_i ds' hd;injection h with h
      subst h;unfold aS at hm;obtain⟨v,vs',rfl,h1,h2⟩:=hm;unfold aH at h1;rw[(jX.scalar hu).1 h1];simp[hu,JB hd h2]
     cases h
    cases h
   cases h
theorem QA {P:Program}{w:World}(dp:Nat): ∀(ks:List Nat) (xs ys:List bX) (us vs:List Value) (fs:List Field) (i:Nat) (U V:Array Value) (b:Bool),OZ ks xs ys=some b->xs.map bX.val? =us.map some->ys.map bX.val? =vs.map some->Mh P i ks fs=true->(∀j u,us[j]? =some u->U[i+j]? =some u)->(∀j u,vs[j]? =some u->V[i+j]? =some u)->
 (Op.eqFields (dp+1) U V fs).run P w= .ok b w
 | [],[],[],us,vs,fs,i,U,V,b,h,_,_,hf,_,_=>by
   unfold OZ at h;injection h with h
   subst h;cases fs with
   | nil=>simp[Op.eqFields]
   | cons f fs=>simp[Mh] at hf
 | k::ks,x::xs,y::ys,us,vs,fs,i,U,V,b,h,hu,hv,hf,hU,hV=>by
   cases us with
   | nil=>simp at hu
   | cons u us=>
   cases vs with
   | nil=>simp at hv
   | cons v vs=>
   cases fs with
   | nil=>simp[Mh] at hf
   | cons f fs=>
   simp only[aDH,List.cons.injEq] at hu hv;unfold Mh at hf;rw[aBB] at hf;obtain⟨hf1,hf2⟩:=hf;unfold aFO at hf1;simp only[aBB,Bool.not_eq_true',beq_eq_false_iff_ne] at hf1;obtain⟨⟨n1,n2⟩,n3⟩:=hf1;have n2:=aBQ n2;unfold OZ at h;split at h
   ·rename_i b1 hb1;split at h
    ·rename_i c hc;injection h with h
     subst h;have ih:=QA (P:=P) (w:=w) dp ks xs ys us vs fs (i+1) U V c hc hu.2 hv.2 hf2 (fun j q hq=>by have:=hU (j+1) q (by simpa using hq);rw[show i+1+j=i+(j+1) by omega];exact this) (fun j q hq=>by have:=hV (j+1) q (by simpa using hq);rw[show i+1+j=i+(j+1) by omega];exact this);have hU0:=hU 0 u rfl;have hV0:=hV 0 v rfl;rw[Nat.add_zero] at hU0 hV0
     have key:(Op.equalIn (dp+1) f.type u v).run P w= .ok b1 w/\(isAgg f.type).run P w= .ok false w:=by
      split at n3
      ·rename_i kk hk;have:=aBQ n3;subst this;unfold eq1 at hb1;split at hb1
       ·rename_i k1 a1 k2 a2;split at hb1
        ·rename_i e;subst e;injection hb1 with hb1
         simp only[bX.val?,Option.some.injEq] at hu hv;rw[<-hu.1,<-hv.1,<-hb1];exact⟨run_equalIn_int w dp f.type _ _ _ _ hk,by simp[isAgg,run_underlying hk]⟩
        cases hb1
       ·rename_i e;cases e
       ·rename_i e;cases e
       cases hb1
      ·rename_i hk;have:=aBQ n3;subst this;unfold eq1 at hb1;split at hb1
       ·rename_i e;cases e
       ·injection hb1 with hb1
        simp only[bX.val?,Option.some.injEq] at hu hv;rw[<-hu.1,<-hv.1,<-hb1];exact⟨run_equalIn_bool' w dp f.type _ _ hk,by simp[isAgg,run_underlying hk]⟩
       ·rename_i e;cases e
       cases hb1
      ·rename_i hk;have:=aBQ n3;subst this;unfold eq1 at hb1;split at hb1
       ·rename_i e;cases e
       ·rename_i e;cases e
       ·injection hb1 with hb1
        simp only[bX.val?,Option.some.injEq] at hu hv;rw[<-hu.1,<-hv.1,<-hb1];exact⟨run_equalIn_string w dp f.type _ _ hk,by simp[isAgg,run_underlying hk]⟩
       cases hb1
      cases n3
     unfold Op.eqFields;rw[if_pos n1];simp only[part,Sem.run_bind,key.2,Result.andThen_ok,Bool.false_eq_true,if_false,n2,hU0,hV0,Sem.run_pure,key.1,Sem.run_ite];cases b1 with
     | true=>simpa using ih
     | false=>simp
    cases h
   cases h
 | [],[],_::_,_,_,_,_,_,_,_,h,_,_,_,_,_=>by simp[OZ] at h
 | [],_::_,_,_,_,_,_,_,_,_,h,_,_,_,_,_=>by simp[OZ] at h
 | _::_,[],_,_,_,_,_,_,_,_,h,_,_,_,_,_=>by simp[OZ] at h
 | _::_,_::_,[],_,_,_,_,_,_,_,h,_,_,_,_,_=>by simp[OZ] at h
theorem aBW {op:BinOp}{xs ys:List AV}{t:T}{K:AV->T->Prop}(hT:oC P tb)(hx:eA sl x= .agg xs)(hy:eA sl y= .agg ys)(h:aDv tb op s xs ys t K): ∃v t',bP P ⟨some d,.binOp op s x y s',ty,pos,aft,gd⟩ (mk sl rs) ⟨v,[],[]⟩/\K v t' :=by
 unfold aDv at h;split at h
 ·rename_i ks hk;have hk:=dY hT.se hk;unfold seB at hk;simp only[aBB,Bool.not_eq_true'] at hk;obtain⟨⟨k1,k2⟩,k3⟩:=hk;split at k1
  ·rename_i fs hfs;have hfo:P.fieldsOf s=fs:=by simp[Program.fieldsOf,hfs]
   split at h
   ·rename_i ds hds;split at h
    ·rename_i es hes;split at h
     ·rename_i b hb
      have run: ∀K φ A w0 N a w,G K φ A w0 N (mk sl rs) a w-> ∃U V:Array Value,a.eval x= .agg U/\a.eval y= .agg V/\(Op.equalIn 10000 s (.agg U) (.agg V)).run P w= .ok b w:=fun K φ A w0 N a w hG=>by
       have h1:=hG.ev x;have h2:=hG.ev y;rw[cU,hx] at h1;rw[cU,hy] at h2;unfold aH at h1 h2;obtain⟨U,e1,_,m1⟩:=h1;obtain⟨V,e2,_,m2⟩:=h2;refine⟨U,V,e1,e2,?_⟩;rw[show (10000:Nat)=9999+1 from rfl,run_equalIn_agg w 9999 s _ _ (by rw[hfo];exact hfs) k2,hfo];exact QA 9998 ks ds es U.toList V.toList fs.toList 0 U V b hb (JB hds m1) (JB hes m2) k1 (fun j u hu=>by simpa using hu) (fun j u hu=>by simpa using hu)
      split at h
      ·refine⟨_,_,eC fun K φ A w0 N a w hG=>?_,h⟩;obtain⟨U,V,e1,e2,hr⟩:=run K φ A w0 N a w hG;refine⟨.bool b,?_,by unfold aH jX;rfl⟩;have hg:(eqGuard .eql s x y (.agg U) (.agg V)).run P w= .ok () w:=run_eqGuard_agg w .eql s x y _ _ k3;simp only[execOp,e1,e2,Sem.run_bind,hg,Result.andThen_ok,run_eql_struct,hr];rfl
      ·refine⟨_,_,eC fun K φ A w0 N a w hG=>?_,h⟩;obtain⟨U,V,e1,e2,hr⟩:=run K φ A w0 N a w hG;refine⟨.bool (!b),?_,by unfold aH jX;rfl⟩;have hg:(eqGuard .neq s x y (.agg U) (.agg V)).run P w= .ok () w:=run_eqGuard_agg w .neq s x y _ _ k3;simp only[execOp,e1,e2,Sem.run_bind,hg,Result.andThen_ok,run_neq_struct,hr];rfl
      cases h
     cases h
    cases h
   cases h
  cases k1
 cases h
theorem aBX {op:BinOp}{t:T}{K:AV->T->Prop}(hT:oC P tb)(h:aDw tb op s (eA sl x) (eA sl y) t K): ∃v t',bP P ⟨some d,.binOp op s x y s',ty,pos,aft,gd⟩ (mk sl rs) ⟨v,[],[]⟩/\K v t' :=by
 unfold aDw at h;split at h
 ·rename_i k m hx;split at h
  ·rename_i k' n hy;split at h
   ·exact YF hx hy h
   ·exact YF hx hy h
   split at h
   ·rename_i e;subst e;exact aBU hx hy h
   cases h
  cases h
 ·rename_i m hx;split at h
  ·rename_i n hy;split at h
   ·rename_i u hu;have hu:=dY hT.bo hu;split at h
    ·exact⟨_,_,P1 hu hx hy,h⟩
    ·exact⟨_,_,P0 hu hx hy,h⟩
    cases h
   cases h
  cases h
 ·rename_i m hx;split at h
  ·rename_i n hy;exact aBV hx hy h
  cases h
 ·rename_i xs hx;split at h
  ·rename_i ys hy;exact aBW hT hx hy h
  cases h
 cases h
theorem aEI {op:UnOp}{t:T}{K:AV->T->Prop}(h:unW op (eA sl x) t K): ∃v t',bP P ⟨some d,.unOp op s x,ty,pos,aft,gd⟩ (mk sl rs) ⟨v,[],[]⟩/\K v t' :=by
 unfold unW at h;split at h
 ·split at h
  ·rename_i b hx;exact⟨_,_,aDn hx,h⟩
  cases h
 ·split at h
  ·rename_i k m hx;obtain⟨t',h⟩:=DP h;exact⟨_,t',aDo hx,by rw[Int.zero_sub];exact h⟩
  cases h
 cases h
theorem YG {c:Operand}{t:T}{K:AV->T->Prop}(h:X9 (eA sl c) (eA sl x) (eA sl y) t K): ∃v t',bP P ⟨some d,.pick c x y,ty,pos,aft,gd⟩ (mk sl rs) ⟨v,[],[]⟩/\K v t' :=by
 unfold X9 at h;split at h
 ·rename_i b hc;split at h
  ·cases b with
   | true=>exact⟨_,_,vX hc rfl,h.1 rfl⟩
   | false=>exact⟨_,_,vX hc rfl,h.2 rfl⟩
  ·cases b with
   | true=>exact⟨_,_,vX hc rfl,h⟩
   | false=>exact⟨_,_,vX hc rfl,h⟩
  ·obtain⟨e,h⟩:=h;subst e;exact⟨_,_,vX hc rfl,h⟩
  ·obtain⟨e,h⟩:=h;subst e;exact⟨_,_,vX hc rfl,h⟩
  cases b with
  | true=>exact⟨_,_,vX hc rfl,h⟩
  | false=>exact⟨_,_,vX hc rfl,h⟩
 cases h
theorem QB {xs:List (List bX)}{i:Nat}{t:T}{K:List bX->T->Prop}(h:UU xs i t K): ∃r t',xs[i]? =some r/\K r t' :=by
 unfold UU at h;split at h
 ·obtain⟨rfl,h1,h2⟩:=h;rename_i l t' ;exact⟨_,_,I8 (aBP h1),h2 _ (aBP h1)⟩
 ·exact⟨_,_,h.1,h.2⟩
 cases h
theorem aBY {t:T}{K:AV->T->Prop}(hT:oC P tb)(h:aDx tb rs s (eA sl x) (eA sl y) t K): ∃v t',bP P ⟨some d,.indexAddr s x y,ty,pos,aft,gd⟩ (mk sl rs) ⟨v,[],[]⟩/\K v t' :=by
 unfold aDx at h;split at h
 ·rename_i ik n hy;split at h
  ·rename_i e he;split at h
   ·rename_i q hq;obtain⟨ag,k0,bt,z⟩:=q;have he:=dY hT.sl he;have hq:=dY hT.ty hq;split at h
    ·rename_i o te k xs hx;split at h
     ·rename_i hb;rw[aBB] at hb;have hk:=aBQ hb.1
      dsimp only at hk
      subst hk;obtain⟨r,t',h1,h2⟩:=QB h.2;exact⟨_,_,L4 (o' :=o) rfl he hq (by rw[cU];exact hx) (yU hb.2) (by rw[cU];exact hy) h.1 h1,h2⟩
     cases h
    ·rename_i hh hx;split at h
     ·rename_i e' k dp xs hr;split at h
      ·rename_i hb;have hk:=aBQ hb
       dsimp only at hk
       subst hk;split at h
       ·obtain⟨h0,h1,h2,h3⟩:=h;exact⟨_,_,Vw he hq hx hr hy h0 aGR,h3⟩
       cases h
      cases h
     ·rename_i e' k xs _ _ _ hr;split at h
      ·rename_i hb;have hk:=aBQ hb
       dsimp only at hk
       subst hk;split at h
       ·obtain⟨h0,h1,h2,h3⟩:=h;exact⟨_,_,Ft rfl he hq (by rw[cU];exact hx) hr (by rw[cU];exact hy) h0 aGR,h3⟩
       cases h
      cases h
     cases h
    cases h
   cases h
  cases h
 cases h
theorem aBZ {f:Nat}{K:AV->Prop}(hT:oC P tb)(h:aDy tb rs s (eA sl x) f K): ∃v,bP P ⟨some d,.fieldAddr s x f,ty,pos,aft,gd⟩ (mk sl rs) ⟨v,[],[]⟩/\K v:=by
 unfold aDy at h;split at h
 ·rename_i l hl;split at h
  ·rename_i q hq;have hf:=dY (dY hT.fl hl) hq;obtain⟨off,ft⟩:=q;split at h
   ·rename_i hh o hx;exact⟨_,xI rfl hf (by rw[cU];exact hx),h⟩
   ·rename_i hh k i o hx;split at h
    ·rename_i hb;obtain⟨r,hr⟩:=CP hb;exact⟨_,Vv hf hx hr,h⟩
    cases h
   ·rename_i o xs hx;split at h
    ·rename_i hb;exact⟨_,Ig (o' :=o) rfl hf (by rw[cU];exact hx) (yU hb),h⟩
    cases h
   cases h
  cases h
 cases h
theorem JC {P:Program}{s:TypeId}{f off:Nat}{ft:TypeId}{g:Bool}{n b:Nat}{z:Value}(h:tN P s f=some (off,ft))(ht:iJ P ft=some (g,n,b,z))(w:World)(cs:Array Value):
 (g=true->(Instr.field s (.agg cs) f).run P w= .ok (.agg (cs.extract off (off+n))) w)/\(g=false-> ∀v,cs[off]? =some v->(Instr.field s (.agg cs) f).run P w= .ok v w):=by
 obtain⟨h1,h2,_⟩:=iE ht w;unfold tN at h;split at h
 ·rename_i fields hu;split at h
  ·rename_i fd hf;split at h
   ·rename_i i hi;split at h
    ·cases h
    simp only[Option.some.injEq,Prod.mk.injEq] at h;obtain⟨rfl,rfl⟩:=h;exact⟨fun e=>by subst e;simp[Instr.field,run_underlying hu,hf,asAgg,part,h1,h2],fun e v hv=>by subst e;simp[Instr.field,run_underlying hu,hf,asAgg,part,h1,hv]⟩
   cases h
  cases h
 cases h
theorem V5 {f:Nat}{K:AV->Prop}(hT:oC P tb)(h:Sz tb s (eA sl x) f K): ∃v,bP P ⟨some d,.field s x f,ty,pos,aft,gd⟩ (mk sl rs) ⟨v,[],[]⟩/\K v:=by
 unfold Sz at h;split at h
 ·rename_i l hl;split at h
  ·rename_i q hq;have hf:=dY (dY hT.fl hl) hq;obtain⟨off,ft⟩:=q;split at h
   ·rename_i g n b z hz;have hz:=dY hT.ty hz;split at h
    ·rename_i cs hx;split at h
     ·split at h
      ·rename_i hb;have hb:=aBF hb;refine⟨_,eC fun K φ A w0 N a w hG=>?_,h⟩;have h1:=hG.ev x;rw[cU,hx] at h1;unfold aH at h1;obtain⟨vs,he,hone,hm⟩:=h1;refine⟨.agg (vs.extract off (off+n)),?_,?_⟩
       ·simp only[execOp,he,Sem.run_bind];rw[(JC hf hz w vs).1 rfl];rfl
       unfold aH;refine⟨_,rfl,fun u hu=>hone u ?_,?_⟩
       ·rw[Array.toList_extract,List.extract_eq_take_drop] at hu;exact List.mem_of_mem_drop (List.mem_of_mem_take hu)
       rw[Array.toList_extract,List.extract_eq_take_drop,show off+n - off=n by omega];exact sM n (sL off hm)
      cases h
     split at h
     ·rename_i y hy;refine⟨_,eC fun K φ A w0 N a w hG=>?_,h⟩;have h1:=hG.ev x;rw[cU,hx] at h1;unfold aH at h1;obtain⟨vs,he,hone,hm⟩:=h1;obtain⟨v,hv,hmv⟩:=rC hm hy;refine⟨v,?_,hmv⟩;simp only[execOp,he,Sem.run_bind];rw[(JC hf hz w vs).2 rfl v (by rw[<-Array.getElem?_toList];exact hv)];rfl
     cases h
    cases h
   cases h
  cases h
 cases h
theorem YH {t:T}{K:AV->T->Prop}(hT:oC P tb)(h:YA tb rs s (eA sl x) t K): ∃v t',bP P ⟨some d,.load s x,ty,pos,aft,gd⟩ (mk sl rs) ⟨v,[],[]⟩/\K v t' :=by
 unfold YA at h;split at h
 ·rename_i ag n bt z hq;have hq:=dY hT.ty hq;split at h
  ·rename_i hh off hx;split at h
   ·rename_i tq cs hr;split at h
    ·split at h
     ·rename_i hb;exact⟨_,_,X0 hq hx hr (aBF hb) rfl,h⟩
     cases h
    split at h
    ·rename_i v hv;exact⟨_,_,Vx hq hx hr hv,h⟩
    cases h
   cases h
  ·rename_i o xs hx;split at h
   ·rename_i hl;split at h
    ·split at h
     ·rename_i hb;exact⟨_,_,L6 (o' :=o) rfl hq (by rw[cU];exact hx) (yU hl) (aBF hb),h⟩
     cases h
    split at h
    ·rename_i y hy;exact⟨_,_,Ii (o' :=o) rfl hq (by rw[cU];exact hx) (yU hl) hy,h⟩
    cases h
   cases h
  ·rename_i hh k i off hx;split at h
   ·rename_i e k' dp xs hr;split at h
    ·rename_i hb;have:=aBQ hb;subst this;obtain⟨row,t',h1,h2⟩:=QB h;cases ag with
     | true=>
       dsimp only at h2
       split at h2
       ·rename_i hb2;cases dp with
        | true=>exact⟨_,_,P2 hq hx hr h1 (aBF hb2) rfl,h2⟩
        | false=>exact⟨_,_,P2 hq hx hr h1 (aBF hb2) rfl,h2⟩
       cases h2
     | false=>
       dsimp only at h2
       split at h2
       ·rename_i y hy;cases dp with
        | true=>exact⟨_,_,Mb hq hx hr h1 hy rfl,h2⟩
        | false=>exact⟨_,_,Mb hq hx hr h1 hy rfl,h2⟩
       cases h2
    cases h
   ·rename_i e k' xs i' j h' hr;split at h
    ·rename_i hb;simp only[aBB,Bool.not_eq_true'] at hb;obtain⟨⟨b1,b2⟩,b3⟩:=hb;have b1:=aBQ b1;have b2:=aBQ b2;obtain⟨b4,h⟩:=h;subst b1 b2 b3 b4;exact⟨_,_,Hy rfl hq (by rw[cU];exact hx) hr,h⟩
    cases h
   cases h
  cases h
 cases h
theorem aEJ {c:Operand}{t:TypeId}(hc:sO (mk sl rs) (eA sl c))(hf:iT sl rs (100*d)=true):bP P ⟨some d,.box t c,ty,pos,aft,gd⟩ (mk sl rs) ⟨.ptr (100*d) 0,[],[(100*d,.box t (gJ (eA sl c)))]⟩:=
 by rw[<-cU sl rs];exact Vq rfl (by rw[cU];exact hc) (iF hf)
theorem YI {t:TypeId}{ag:Bool}{n bt:Nat}{z:Value}(ht:iJ P t=some (ag,n,bt,z))(hf:iT sl rs (100*d)=true):bP P ⟨some d,.alloc t,ty,pos,aft,gd⟩ (mk sl rs) ⟨.ptr (100*d) 0,[],[(100*d,.box t (z.cells.toList.map UL))]⟩:=
 Pp rfl ht (iF hf)
theorem V6 {t e:TypeId}{k bt:Nat}{ag:Bool}{z:Value}(ht:P.underlying t=some (.slice e))(hk:iJ P e=some (ag,k,bt,z))(hf:iT sl rs (100*d)=true):bP P ⟨some d,.buildSlice t 0 #[],ty,pos,aft,gd⟩ (mk sl rs) ⟨.own (100*d),[],[(100*d,.arr e k true [])]⟩:=
 OS rfl ht hk (iF hf)
theorem V7 {t e:TypeId}{len k bt:Nat}{ag:Bool}{z:Value}{parts:Array (Nat × Operand)}{rows:List (List bX)}{css:List (List Value)}(ht:P.underlying t=some (.slice e))(hk:iJ P e=some (ag,k,bt,z))(hs:len*k<=16777216)(hp:0<len*k)(hc: ∀q∈parts.toList,sO (mk sl rs) (eA sl q.2))
 (hf:xJ (fun i=>some (i*k,k)) (List.replicate (len*k) AV.no) (parts.toList.map fun q=>(q.1,eA sl q.2))=some (rows.flatten.map (AV.p none))) (hfl:qH rows css) (hrk: ∀x∈rows,x.length=k) (hrl:rows.length=len) (hfr:iT sl rs (100*d)=true):bP P ⟨some d,.buildSlice t len parts,ty,pos,aft,gd⟩ (mk sl rs) ⟨.own (100*d),[],[(100*d,.arr e k true rows)]⟩:=
 OT rfl ht hk hs hp (fun q hq=>by rw[cU];exact hc q hq) (by rw[<-hf];congr 1) (iF hfr) hfl hrk hrl
theorem aEK {t e:TypeId}{len k bt:Nat}{ag:Bool}{z:Value}{parts:Array (Nat × Operand)}{cs:List AV}(ht:P.underlying t=some (.slice e))(hk:iJ P e=some (ag,k,bt,z))(hs:len*k<=16777216)(hp:0<len*k)(hc: ∀q∈parts.toList,sO (mk sl rs) (eA sl q.2))
 (hf:xJ (fun i=>some (i*k,k)) (List.replicate (len*k) AV.no) (parts.toList.map fun q=>(q.1,eA sl q.2))=some cs) (hfr:iT sl rs (100*d)=true) (hm:(gY cs).contains (100*d)=false):bP P ⟨some d,.buildSlice t len parts,ty,pos,aft,gd⟩ (mk sl rs) ⟨.bsl (100*d) len,[],[(100*d,.box e cs)]⟩:=
 Vr rfl ht hk hs hp (fun q hq=>by rw[cU];exact hc q hq) (by rw[<-hf];congr 1) (iF hfr) (by simpa using hm)
theorem aB0 {u v:Operand}{t e:TypeId}{k bt n:Nat}{ag:Bool}{z:Value}{kl kc:IntKind}{zr:List bX}(ht:P.underlying t=some (.slice e))(hk:iJ P e=some (ag,k,bt,z))(hx:eA sl u= .p none (.int kl n))(hy:eA sl v= .p none (.int kc n))(hz: ∀w,dW w zr z.cells.toList [])(hn:bt*n<=281474976710656)(hm:n<=maxLen)(hf:iT sl rs (100*d)=true):bP P ⟨some d,.makeSlice t u v,ty,pos,aft,gd⟩ (mk sl rs) ⟨.own (100*d),[],[(100*d,.arr e k true (List.replicate n zr))]⟩:=
 Hx rfl ht hk (by rw[cU];exact hx) (by rw[cU];exact hy) hz hn hm (iF hf)
section
variable {u v:Operand} {t e:TypeId} {k bt:Nat} {ag:Bool} {z:Value} {del:List Nat} {dp:Bool} {xs ys:List (List bX)}
theorem aB1 {dss:List (List Value)}{zs:List (List bX)}(ht:P.underlying t=some (.slice e))(hk:iJ P e=some (ag,k,bt,z))(hpos:0<k)(htgt:Am (mk sl rs) (eA sl u) del e k dp xs)(hsrc:EY (mk sl rs) (eA sl v) k ys)(hf:qH ys dss)(hb:(xs.length+ys.length)*bt<=140737488355328)(h63:xs.length+ys.length<=maxLen)(hzs:xs++ys=zs)(hfr:iT sl rs (100*d)=true):bP P ⟨some d,.call { callee:= .builtin .append,args:= #[u,v],argTypes:= #[t,t] },ty,pos,aft,gd⟩ (mk sl rs) ⟨.own (100*d),del,[(100*d,.arr e k dp zs)]⟩:=
 by rw[<-hzs];exact Ip rfl ht hk hpos (by rw[cU];exact htgt) (by rw[cU];exact hsrc) hf h63 hb (iF hfr)
theorem aB2 {zs:List (List bX)}(ht:P.underlying t=some (.slice e))(hk:iJ P e=some (ag,k,bt,z))(hpos:0<k)(htgt:Am (mk sl rs) (eA sl u) del e k dp xs)(hdx:dp=false\/xs= [])(hsrc:Ps (mk sl rs) (eA sl v) k ys)(hb:(xs.length+ys.length)*bt<=140737488355328)(h63:xs.length+ys.length<=maxLen)(hzs:xs++ys=zs)(hfr:iT sl rs (100*d)=true):bP P ⟨some d,.call { callee:= .builtin .append,args:= #[u,v],argTypes:= #[t,t] },ty,pos,aft,gd⟩ (mk sl rs) ⟨.own (100*d),del,[(100*d,.arr e k false zs)]⟩:=
 by rw[<-hzs];exact OU rfl ht hk hpos (by rw[cU];exact htgt) hdx (by rw[cU];exact hsrc) h63 hb (iF hfr)
theorem aB3 {h2:Nat}{e2:TypeId}{cs:List AV}{row:List bX}{hs:List Nat}{zs:List (List bX)}(ht:P.underlying t=some (.slice e))(hk:iJ P e=some (ag,k,bt,z))(hpos:0<k)(htgt:Am (mk sl rs) (eA sl u) del e k dp xs)(hdx:dp=true\/xs= [])(hx:eA sl v= .bsl h2 1)(hr:bL rs h2=some (.box e2 cs))(hm:EZ (mk sl rs) cs row hs)(hrow:row.length=k)(hnd:(del++hs).Nodup)(hb:(xs.length+1)*bt<=140737488355328)(h63:xs.length+1<=maxLen)(hzs:xs++[row]=zs)(hfr:iT sl rs (100*d)=true):bP P ⟨some d,.call { callee:= .builtin .append,args:= #[u,v],argTypes:= #[t,t] },ty,pos,aft,gd⟩ (mk sl rs) ⟨.own (100*d),(del++hs),[(100*d,.arr e k true zs)]⟩:=
 by rw[<-hzs];exact Iq rfl ht hk hpos (by rw[cU];exact htgt) hdx (by rw[cU];exact hx) hr hm hrow hnd h63 hb (iF hfr)
theorem aB4 {h2 hp:Nat}{e2 e3:TypeId}{k3:Nat}{ys zs:List (List bX)}(ht:P.underlying t=some (.slice e))(hk:iJ P e=some (ag,1,bt,z))(htgt:Am (mk sl rs) (eA sl u) del e 1 true xs)(hx:eA sl v= .bsl h2 1)(hr:bL rs h2=some (.box e2 [.own hp]))(hhp:bL rs hp=some (.arr e3 k3 true ys))(hnd:hp ∉ del)(hb:(xs.length+1)*bt<=140737488355328)(h63:xs.length+1<=maxLen)(hzs:xs++[[.sl e3 k3 ys]]=zs)(hfr:iT sl rs (100*d)=true):bP P ⟨some d,.call { callee:= .builtin .append,args:= #[u,v],argTypes:= #[t,t] },ty,pos,aft,gd⟩ (mk sl rs) ⟨.own (100*d),del,[(100*d,.hole e 1 zs xs.length 0 hp)]⟩:=
 by rw[<-hzs];exact It rfl ht hk (by rw[cU];exact htgt) (by rw[cU];exact hx) hr hhp hnd h63 hb (iF hfr)
theorem aB5 {h0 h2 hp i j:Nat}{e2:TypeId}{cs:List AV}{row:List bX}{hs:List Nat}{zs:List (List bX)}(ht:P.underlying t=some (.slice e))(hk:iJ P e=some (ag,k,bt,z))(hpos:0<k)(hs0:eA sl u= .own h0)(hr0:bL rs h0=some (.hole e k xs i j hp))(hx:eA sl v= .bsl h2 1)(hr:bL rs h2=some (.box e2 cs))(hm:EZ (mk sl rs) cs row hs)(hrow:row.length=k)(hnd:(h0::hs).Nodup)(hnp:hp ∉ h0::hs)(hne:hp≠100*d)(hb:(xs.length+1)*bt<=140737488355328)(h63:xs.length+1<=maxLen)(hzs:xs++[row]=zs)(hfr:iT sl rs (100*d)=true):bP P ⟨some d,.call { callee:= .builtin .append,args:= #[u,v],argTypes:= #[t,t] },ty,pos,aft,gd⟩ (mk sl rs) ⟨.own (100*d),h0::hs,[(100*d,.hole e k zs i j hp)]⟩:=
 by rw[<-hzs];exact Iu rfl ht hk hpos (by rw[cU];exact hs0) hr0 (by rw[cU];exact hx) hr hm hrow hnd hnp hne h63 hb (iF hfr)
end
theorem Ek {x:AV}(h:Au rs x=true):sO (mk sl rs) x:=by
 cases x<;>simp only[Au] at h<;>first|exact yU h|trivial
theorem Fu: ∀{cs:List AV} {ds:List bX},Fq cs=some ds->cs=ds.map (AV.p none)/\ ∃us,mH ds us
 | [],ds,h=>by simp only[Fq,Option.some.injEq] at h;subst h;exact⟨rfl,[],rfl⟩
 | c::cs,ds,h=>by
   unfold Fq at h;split at h
   ·rename_i e;cases e
   ·rename_i x l e;injection e with e1 e2
    subst e1;subst e2;split at h
    ·rename_i v hv;split at h
     ·rename_i ds' hd;injection h with h
      subst h;obtain⟨h1,us,h2⟩:=Fu hd;exact⟨by rw[h1];rfl,v::us,by simp only[mH,aDH,hv] at h2 ⊢;rw[h2]⟩
     cases h
    cases h
   cases h
theorem El: ∀{ds:List bX},iU ds=true-> ∃us,mH ds us
 | [],_=>⟨[],rfl⟩
 | x::l,h=>by
   simp only[iU,aBB] at h;obtain⟨us,h2⟩:=El h.2;obtain⟨v,hv⟩:=Option.isSome_iff_exists.1 h.1;exact⟨v::us,by simp only[mH,aDH,hv] at h2 ⊢;rw[h2]⟩
theorem Mj {α:Type}{enc:α->List bX}(h: ∀x,iU (enc x)=true): ∀(l:List α),∃css,qH (l.map enc) css
 | []=>⟨[],rfl⟩
 | x::l=>by
   obtain⟨us,h1⟩:=El (h x);obtain⟨css,h2⟩:=Mj h l;exact⟨us::css,us,css,rfl,h1,h2⟩
theorem aEL {t:T}{K:List Nat->aGJ->T->Prop}(hT:oC P tb)(h:stW tb rs s (eA sl x) (eA sl y) t K): ∃del new t',bP P ⟨none,.store s x y,ty,pos,aft,gd⟩ (mk sl rs) ⟨.no,del,new⟩/\K del new t' :=by
 unfold stW at h;split at h
 ·rename_i ag n bt z hq;have hq:=dY hT.ty hq;split at h
  ·rename_i hh off hx;split at h
   ·rename_i tq cs hr;split at h
    ·rename_i hb;simp only[aBB] at hb;exact⟨_,_,_,Vy hq hx hr (Ek hb.1.1) (aBQ hb.1.2) (aBF hb.2) rfl,h⟩
    cases h
   cases h
  ·rename_i hh k i off hx;split at h
   ·rename_i e k' dp xs hr;split at h
    ·rename_i hb;have:=aBQ hb;subst this;split at h
     ·rename_i ys hys;split at h
      ·rename_i hn;split at h
       ·obtain⟨h1,h2,h3⟩:=h;obtain⟨h4,h5,h6,h7⟩:=h3 _ (aBP h2);obtain⟨hy1,us,hy2⟩:=Fu hys;obtain⟨vs,hv⟩:=El h4;subst h1;exact⟨_,_,_,Vz hq hx hr (I8 (aBP h2)) hv hy1 hy2 (aBQ hn) h5 (by rw[h6,List.map_set]),h7⟩
       cases h
      cases h
     cases h
    cases h
   cases h
  cases h
 cases h
theorem Fv {parts:List (Nat × Operand)}(h:(parts.map fun q=>(q.1,eA sl q.2)).all (fun q=>Au rs q.2)=true): ∀q∈parts,sO (mk sl rs) (eA sl q.2):=fun q hq=>by
 have:=aCS.1 h (q.1,eA sl q.2) (List.mem_map_of_mem (f:=fun q:Nat × Operand=>(q.1,eA sl q.2)) hq);exact Ek this
theorem V8 {parts:Array (Nat × Operand)}{K:AV->Prop}(hT:oC P tb)(h:Sx tb rs s (parts.toList.map fun q=>(q.1,eA sl q.2)) K): ∃v,bP P ⟨some d,.build s parts,ty,pos,aft,gd⟩ (mk sl rs) ⟨v,[],[]⟩/\K v:=by
 unfold Sx at h;split at h
 ·rename_i z ps hp;have hp:=dY hT.pl hp;split at h
  ·rename_i hc;split at h
   ·rename_i cs hf;exact⟨_,X1 hp (Fv hc) hf,h⟩
   cases h
  cases h
 cases h
theorem QC (k:Nat): ∀(n:Nat) (l:List bX),l.length=n*k->(Gr k n l).flatten=l/\(∀x∈Gr k n l,x.length=k)/\(Gr k n l).length=n
 | 0,l,h=>by
   have:l= []:=aDE (by simpa using h);subst this;simp[Gr]
 | n+1,l,h=>by
   have hk:k<=l.length:=by rw[h,Nat.succ_mul];omega
   obtain⟨h1,h2,h3⟩:=QC k n (l.drop k) (by rw[aF6,h,Nat.succ_mul];omega);simp only[Gr];refine⟨by rw[aE8,h1,List.take_append_drop],fun x hx=>?_,by simp[h3]⟩;rcases aDr.1 hx with rfl | hx
   ·simp;omega
   exact h2 x hx
theorem Gu (k:Nat): ∀(n:Nat) (l:List bX),(∀x∈l,x.val?.isSome=true)-> ∃css,qH (Gr k n l) css
 | 0,l,h=>⟨[],rfl⟩
 | n+1,l,h=>by
   obtain⟨css,h1⟩:=Gu k n (l.drop k) (fun x hx=>h x (List.mem_of_mem_drop hx))
   have hf: ∀(m:List bX),(∀x∈m,x.val?.isSome=true)->iU m=true:=by
    intro m
    induction m with
    | nil=>intro _;rfl
    | cons a m ih=>intro hm;simp only[iU,aBB];exact⟨hm a (by simp),ih fun x hx=>hm x (by simp[hx])⟩
   obtain⟨us,h2⟩:=El (hf (l.take k) (fun x hx=>h x (List.mem_of_mem_take hx)));exact⟨us::css,us,css,rfl,h2,h1⟩
theorem Mk: ∀{ds:List bX} {us:List Value},mH ds us-> ∀x∈ds,x.val?.isSome=true
 | [],_,_,x,hx=>by simp at hx
 | y::ds,[],h,x,hx=>by simp[mH] at h
 | y::ds,u::us,h,x,hx=>by
   simp only[mH,aDH,List.cons.injEq] at h;rcases aDr.1 hx with rfl | hx
   ·rw[h.1];rfl
   exact Mk (us:=us) h.2 x hx
theorem aB6 {n:Nat}{parts:Array (Nat × Operand)}{K:AV->aGJ->Prop}(hT:oC P tb)(h:aDz tb sl rs d s n (parts.toList.map fun q=>(q.1,eA sl q.2)) K): ∃v new,bP P ⟨some d,.buildSlice s n parts,ty,pos,aft,gd⟩ (mk sl rs) ⟨v,[],new⟩/\K v new:=by
 unfold aDz at h;split at h
 ·rename_i e he;have he:=dY hT.sl he;split at h
  ·rename_i ag k bt z hq;have hq:=dY hT.ty hq;split at h
   ·rename_i hf;split at h
    ·split at h
     ·rename_i hp
      have:parts= #[]:=by
       apply Array.ext';simpa using hp
      subst this;exact⟨_,_,V6 he hq hf,h⟩
     cases h
    split at h
    ·rename_i hb;simp only[aBB] at hb;have hb1:=aBF hb.1.2;have hb2:0<n*k:=by have:=hb.2;simpa [Nat.blt_eq] using this
     split at h
     ·rename_i cs hcs;split at h
      ·rename_i ds hds;split at h
       ·rename_i hl;obtain⟨h1,us,h2⟩:=Fu hds;obtain⟨q1,q2,q3⟩:=QC k n ds (aBQ hl);obtain⟨css,q4⟩:=Gu k n ds (Mk h2);exact⟨_,_,V7 he hq hb1 hb2 (Fv hb.1.1) (by rw[hcs,h1,q1]) q4 q2 q3 hf,h⟩
       cases h
      split at h
      ·cases h
      rename_i hm;exact⟨_,_,aEK he hq hb1 hb2 (Fv hb.1.1) hcs hf hm,h⟩
     cases h
    cases h
   cases h
  cases h
 cases h
theorem uK {w:World}: ∀{vs:List Value} {ds:List bX},Av vs ds=true->dW w ds vs []
 | [],[],_=>P6
 | .int k n::vs,.int k' m::ds,h=>by
   simp only[Av,aBB] at h;obtain⟨⟨h1,h2⟩,h3⟩:=h;have e1:k=k' :=by by_cases e:k=k' <;>simp[e] at h1 ⊢
   have e2:n=m:=by by_cases e:n=m<;>simp[e] at h2 ⊢
   subst e1;subst e2;exact pR (F1:=[]) UT (uK h3)
 | .bool a::vs,.bool b::ds,h=>by
   simp only[Av,aBB,beq_iff_eq] at h;obtain⟨h1,h3⟩:=h;subst h1;exact pR (F1:=[]) P7 (uK h3)
 | v::vs,d::ds,h=>by
   unfold Av at h;split at h
   ·rename_i e;cases e
   ·rename_i k n vs' k' m ds' e1 e2;simp only[aBB] at h;injection e1 with e1 e3
    injection e2 with e2 e4
    subst e1;subst e2;subst e3;subst e4;obtain⟨⟨h1,h2⟩,h3⟩:=h;have e1:k=k' :=by by_cases e:k=k' <;>simp[e] at h1 ⊢
    have e2:n=m:=by by_cases e:n=m<;>simp[e] at h2 ⊢
    subst e1;subst e2;exact pR (F1:=[]) UT (uK h3)
   ·rename_i a vs' b ds' e1 e2;simp only[aBB,beq_iff_eq] at h;injection e1 with e1 e3
    injection e2 with e2 e4
    subst e1;subst e2;subst e3;subst e4;obtain⟨h1,h3⟩:=h;subst h1;exact pR (F1:=[]) P7 (uK h3)
   ·rename_i vs' e k ds' e1 e2;injection e1 with e1 e3
    injection e2 with e2 e4
    subst e1;subst e2;subst e3;subst e4;refine pR (F1:=[]) ?_ (uK h);unfold sG;refine⟨[],[],?_,rfl,by unfold dB;exact⟨rfl,rfl⟩⟩;exact World.ownsRow_nil w 0 e k
   ·rename_i vs' ds' e1 e2;injection e1 with e1 e3
    injection e2 with e2 e4
    subst e1;subst e2;subst e3;subst e4;refine pR (F1:=[]) ?_ (uK h);unfold sG;exact⟨rfl,rfl⟩
   cases h
 | [],_::_,h=>by simp[Av] at h
 | _::_,[],h=>by simp[Av] at h
theorem aEM {t:T}{K:AV->aGJ->T->Prop}(hT:oC P tb)(h:mkW tb sl rs d s (eA sl x) (eA sl y) t K): ∃v new t',bP P ⟨some d,.makeSlice s x y,ty,pos,aft,gd⟩ (mk sl rs) ⟨v,[],new⟩/\K v new t' :=by
 unfold mkW at h;split at h
 ·rename_i e he;have he:=dY hT.sl he;split at h
  ·rename_i ag k bt z hq;have hq:=dY hT.ty hq;split at h
   ·rename_i hf;split at h
    ·rename_i ka a hx;split at h
     ·rename_i kb b hy;split at h
      ·split at h
       ·rename_i n zr zs t' hz;obtain⟨h1,h2,h3,h4,h5,h6⟩:=h;subst h5;subst h1;subst h2;exact⟨_,_,_,aB0 he hq hx hy (fun w=>uK hz) h3 (by unfold maxLen;omega) hf,h6⟩
       cases h
      cases h
     cases h
    cases h
   cases h
  cases h
 cases h
theorem aB7 {t:T}{K:AV->T->Prop}{e:Nat}(he:P.underlying s=some (.slice e))(h:aEA rs (eA sl x) t K): ∃v t',bP P ⟨some d,.call { callee:= .builtin .len,args:= #[x],argTypes:= #[s] },ty,pos,aft,gd⟩ (mk sl rs) ⟨v,[],[]⟩/\K v t' :=by
 unfold aEA at h;split at h
 ·rename_i o e' k xs hx;split at h
  ·rename_i hl;split at h
   ·obtain⟨h1,h2⟩:=h;refine⟨_,_,Su he ?_,h2⟩;rw[hx];cases o with
    | none=>exact h1.symm
    | some hh=>exact⟨CP hl,h1.symm⟩
   cases h
  cases h
 ·rename_i hh hx;split at h
  ·rename_i e' k dp xs hr;split at h
   ·obtain⟨h1,h2⟩:=h;refine⟨_,_,Su he ?_,h2⟩;rw[hx];exact⟨_,_,_,_,hr,h1.symm⟩
   cases h
  cases h
 ·rename_i hx;exact⟨_,_,Su (n:=0) he (by rw[hx];rfl),h⟩
 cases h
theorem sU {K:Prop}: ∀{cs:List AV} {row:List bX},Gt rs cs row K->EZ (mk sl rs) cs row (JA cs)/\K
 | [],row,h=>by
   unfold Gt at h;split at h
   ·exact⟨⟨rfl,rfl⟩,h⟩
   cases h
 | c::cs,row,h=>by
   unfold Gt at h;split at h
   ·cases h
   rename_i y row';split at h
   ·rename_i x;split at h
    ·rename_i v hv;exact⟨⟨_,_,[],_,rfl,rfl,⟨h.1.eq.symm,by rw[hv];rfl,rfl⟩,(sU h.2).1⟩,(sU h.2).2⟩
    cases h
   ·rename_i g;split at h
    ·rename_i e k ys;split at h
     ·rename_i e' k' xs hr;split at h
      ·rename_i hb;rw[aBB] at hb;have e1:=aBQ hb.1;have e2:=aBQ hb.2;subst e1;subst e2;obtain⟨rfl,h2⟩:=h;exact⟨⟨_,_,[g],_,rfl,rfl,⟨_,_,_,hr,rfl,rfl⟩,(sU h2).1⟩,(sU h2).2⟩
      cases h
     cases h
    cases h
   ·split at h
    ·rename_i e k ys;obtain⟨rfl,h2⟩:=h;exact⟨⟨_,_,[],_,rfl,rfl,⟨_,_,rfl,rfl⟩,(sU h2).1⟩,(sU h2).2⟩
    cases h
   cases h
theorem UW {e k:Nat}{a:AV}{K:List Nat->Bool->List (List bX)->Prop}(h:aBR rs e k a K): ∃del dp xs,Am (mk sl rs) a del e k dp xs/\K del dp xs:=by
 unfold aBR at h;split at h
 ·rename_i hh;split at h
  ·rename_i e' k' dp xs hr;split at h
   ·rename_i hb;rw[aBB] at hb;have e1:=aBQ hb.1;have e2:=aBQ hb.2;subst e1;subst e2;exact⟨_,_,_,⟨hr,rfl⟩,h⟩
   cases h
  cases h
 ·exact⟨_,_,_,⟨rfl,rfl⟩,h⟩
 cases h
theorem aB8 {k:Nat}{a:AV}{K:List (List bX)->Prop}(h:aEB rs k a K): ∃ys,EY (mk sl rs) a k ys/\K ys:=by
 unfold aEB at h;split at h
 ·rename_i o e k' xs;split at h
  ·rename_i hb;rw[aBB] at hb;exact⟨_,⟨yU hb.1,aBQ hb.2,rfl⟩,h⟩
  cases h
 ·rename_i hh;split at h
  ·rename_i e k' dp xs hr;split at h
   ·rename_i hb;have e1:=aBQ hb;subst e1;exact⟨_,⟨_,_,hr⟩,h⟩
   cases h
  cases h
 ·exact⟨_,rfl,h⟩
 cases h
theorem QE: ∀{cs:List AV} {row:List bX},P8 cs=some row->cs=row.map (AV.p none)
 | [],row,h=>by
   simp only[P8,Option.some.injEq] at h;rw[<-h];rfl
 | c::cs,row,h=>by
   unfold P8 at h;split at h
   ·rename_i e;cases e
   ·rename_i x cs' e;simp only[List.cons.injEq] at e;obtain⟨rfl,rfl⟩:=e;split at h
    ·rename_i r hr;injection h with h
     rw[<-h,QE hr];rfl
    cases h
   cases h
theorem Ml {k:Nat}: ∀{n:Nat} {row:List bX},row.length=n*k->(yT n k row).flatten=row/\(yT n k row).length=n/\ ∀r∈yT n k row,r.length=k
 | 0,row,h=>by
   obtain rfl:row= []:=aDE (by simpa using h);exact⟨rfl,rfl,by simp[yT]⟩
 | n+1,row,h=>by
   rw[Nat.add_mul,Nat.one_mul] at h;obtain⟨h1,h2,h3⟩:=Ml (n:=n) (k:=k) (row:=row.drop k) (by rw[aF6];omega);refine⟨?_,by rw[yT,aEb,h2],?_⟩
   ·rw[yT,aE8,h1,List.take_append_drop]
   intro r hr;rw[yT] at hr;rcases aDr.1 hr with rfl | hr
   ·rw[aF5];omega
   exact h3 r hr
theorem aEN {k:Nat}{a:AV}{K:List (List bX)->Prop}(h:roW rs k a K): ∃ys,Ps (mk sl rs) a k ys/\K ys:=by
 unfold roW at h;split at h
 ·split at h
  ·rename_i hb;exact⟨_,⟨aBQ hb,rfl⟩,h⟩
  cases h
 ·split at h
  ·rename_i e cs hr;split at h
   ·rename_i row hrow;split at h
    ·rename_i hb;rw[QE hrow] at hr;obtain⟨q1,q2,q3⟩:=Ml (aBQ hb);exact⟨_,⟨e,q2.symm,by rw[q1];exact hr,q3⟩,h⟩
    cases h
   cases h
  cases h
 cases h
theorem YJ {dp:Bool}{xs:List (List bX)}{K:Prop}(h:YB dp xs K):(dp=false\/xs= [])/\K:=by
 unfold YB at h;split at h
 ·exact⟨.inl rfl,h⟩
 split at h
 ·exact⟨.inr rfl,h⟩
 cases h
theorem xM: ∀{l:List Nat},qI l=true->l.Nodup
 | [],_=>List.nodup_nil
 | x::l,h=>by
   simp only[qI,aBB,Bool.not_eq_true',List.contains_eq_mem,decide_eq_false_iff_not] at h;exact List.nodup_cons.2 ⟨h.1,xM h.2⟩
theorem aB9 {t:T}{K:AV->List Nat->aGJ->T->Prop}(hT:oC P tb)(h:aEC tb sl rs d s (eA sl x) (eA sl y) t K): ∃v del new t',bP P ⟨some d,.call { callee:= .builtin .append,args:= #[x,y],argTypes:= #[s,s] },ty,pos,aft,gd⟩ (mk sl rs) ⟨v,del,new⟩/\K v del new t' :=by
 unfold aEC at h;split at h
 ·rename_i e he;have he:=dY hT.sl he;split at h
  ·rename_i ag k bt z hq;have hq:=dY hT.ty hq;split at h
   ·rename_i hb;simp only[aBB] at hb;have hk:0<k:=by have:=hb.1.2;simpa [Nat.blt_eq] using this
    have hbt:0<bt:=by have:=hb.2;simpa [Nat.blt_eq] using this
    obtain⟨del,dp,xs,ht,h⟩:=UW (sl:=sl) h
    have small: ∀n,n*bt<=140737488355328->n<=maxLen:=fun n hn=>by
     have:n*1<=n*bt:=Nat.mul_le_mul_left n hbt;unfold maxLen;omega
    split at h
    ·obtain⟨rfl,h2,h3,h4,h5⟩:=h;obtain⟨ys,q1,rfl⟩:=aB8 (sl:=sl) h2;rename_i enc l l2 t';obtain⟨css,hc⟩:=Mj h3 l2;exact⟨_,_,_,_,aB1 he hq hk ht q1 hc (by simpa using h4) (by simpa using small _ h4) (by rw[aDM]) hb.1.1,h5⟩
    ·obtain⟨hdx,rfl,h2⟩:=YJ h;obtain⟨ys,q1,rfl,h4,h5⟩:=aEN (sl:=sl) h2;exact⟨_,_,_,_,aB2 he hq hk ht hdx q1 (by simpa using h4) (by simpa using small _ h4) (by rw[aDM]) hb.1.1,h5⟩
    ·split at h
     ·split at h
      ·rename_i h2 hx;split at h
       ·rename_i e2 cs hr;split at h
        ·rename_i hn;split at h
         rotate_left
         ·cases h
         rename_i q3;have q3:=aBQ q3;obtain⟨rfl,h⟩:=h;obtain⟨q2,q4,q5⟩:=sU (sl:=sl) h;exact⟨_,_,_,_,aB3 he hq hk ht (.inl rfl) hx hr q2 q3 (xM hn) (by simpa using q4) (by simpa using small _ q4) (by rw[aDM];rfl) hb.1.1,q5⟩
        cases h
       cases h
      cases h
     cases h
    cases h
   cases h
  cases h
 cases h
theorem YK {α:Type}{enc:α->List bX}{l:List α}{y' :α}{K:AV->List Nat->aGJ->Prop}(hT:oC P tb)(h:YC tb sl rs d s (eA sl x) (eA sl y) enc l y' K): ∃v del new,bP P ⟨some d,.call { callee:= .builtin .append,args:= #[x,y],argTypes:= #[s,s] },ty,pos,aft,gd⟩ (mk sl rs) ⟨v,del,new⟩/\K v del new:=by
 unfold YC at h;split at h
 ·rename_i e he;have he:=dY hT.sl he;split at h
  ·rename_i ag k bt z hq;have hq:=dY hT.ty hq;split at h
   ·rename_i hb;simp only[aBB] at hb;obtain rfl:=aBQ hb.1.2;have hbt:0<bt:=by have:=hb.2;simpa [Nat.blt_eq] using this
    obtain⟨del,dp,xs,ht,h⟩:=UW (sl:=sl) h;split at h
    ·split at h
     ·rename_i h2 hx;split at h
      ·rename_i e2 hp hr;split at h
       ·rename_i e3 k3 ys hh;split at h
        ·rename_i hn;obtain⟨rfl,h3,h4,h5⟩:=h;have hn:=List.nodup_cons.1 (xM hn);have h63:(l.length+1)*1<=(l.length+1)*bt:=Nat.mul_le_mul_left _ hbt;have:=aB4 (d:=d) (ty:=ty) (pos:=pos) (aft:=aft) (gd:=gd) (v:=y) he hq ht hx hr hh hn.1 (by simpa using h4) (by simp only[aAb];unfold maxLen;omega) (zs:=(l++[y']).map enc) (by rw[aDM,<-h3];rfl) hb.1.1;rw[aAb] at this;exact⟨_,_,_,this,h5⟩
        cases h
       cases h
      cases h
     cases h
    cases h
   cases h
  cases h
 cases h
theorem YL {α:Type}{enc:α->List bX}{l:List α}{y' :α}{K:AV->List Nat->aGJ->Prop}(hT:oC P tb)(h:YD tb sl rs d s (eA sl x) (eA sl y) enc l y' K): ∃v del new,bP P ⟨some d,.call { callee:= .builtin .append,args:= #[x,y],argTypes:= #[s,s] },ty,pos,aft,gd⟩ (mk sl rs) ⟨v,del,new⟩/\K v del new:=by
 unfold YD at h;split at h
 ·rename_i e he;have he:=dY hT.sl he;split at h
  ·rename_i ag k bt z hq;have hq:=dY hT.ty hq;split at h
   ·rename_i hb;simp only[aBB] at hb;have hk:0<k:=by have:=hb.1.2;simpa [Nat.blt_eq] using this
    have hbt:0<bt:=by have:=hb.2;simpa [Nat.blt_eq] using this
    split at h
    ·rename_i h0 hs0;split at h
     ·rename_i e' k' xs i j hp hr0;split at h
      ·rename_i h2 hx;split at h
       ·rename_i e2 cs hr;split at h
        ·rename_i hc;simp only[aBB,Bool.not_eq_true'] at hc;obtain⟨⟨⟨⟨c1,c2⟩,c3⟩,c4⟩,c5⟩:=hc;obtain rfl:=aBQ c1;obtain rfl:=aBQ c2;have hn:=List.nodup_cons.1 (xM c3);have hne:hp≠100*d:=fun q=>by rw[q,Nat.beq_refl] at c4;cases c4
         obtain⟨rfl,h⟩:=h;obtain⟨q2,q4,q5⟩:=sU (sl:=sl) h;have h63:(l.length+1)*1<=(l.length+1)*bt:=Nat.mul_le_mul_left _ hbt;exact⟨_,_,_,aB5 he hq hk hs0 hr0 hx hr q2 (aBQ c5) hn.2 hn.1 hne (by simpa using q4) (by simp only[aAb];unfold maxLen;omega) (by rw[aDM];rfl) hb.1.1,q5⟩
        cases h
       cases h
      cases h
     cases h
    cases h
   cases h
  cases h
 cases h
theorem aBa {t:T}{K:AV->List Nat->aGJ->T->Prop}(hT:oC P tb)(h:aED tb sl rs d s (eA sl x) (eA sl y) t K): ∃v del new t',bP P ⟨some d,.call { callee:= .builtin .append,args:= #[x,y],argTypes:= #[s,s] },ty,pos,aft,gd⟩ (mk sl rs) ⟨v,del,new⟩/\K v del new t' :=by
 unfold aED at h;split at h
 ·obtain⟨v,del,new,h1,h2⟩:=YK (ty:=ty) (pos:=pos) (aft:=aft) (gd:=gd) hT h;exact⟨v,del,new,_,h1,h2⟩
 ·obtain⟨v,del,new,h1,h2⟩:=YL (ty:=ty) (pos:=pos) (aft:=aft) (gd:=gd) hT h;exact⟨v,del,new,_,h1,h2⟩
 exact aB9 hT h
theorem Mm {K:Nat->Prop}{φ:jS}{A:Nat->Prop}{w0:Aa}{N:Nat}{S:St}{a:Act}{w:World}(hG:G K φ A w0 N S a w): ∀{xs:List AV} {ys:List Ar} {vs:List Value},Ix S xs ys->aS K φ w xs vs->tL (fun b=>b<w.heap.size) w ys vs
 | [],ys,vs,h,hm=>by unfold aS at hm;rw[hm,show ys= [] from h];exact rfl
 | x::xs,ys,vs,⟨y,ys',e,h1,h2⟩,hm=>by
   subst e;unfold aS at hm;obtain⟨v,vs',rfl,h3,h4⟩:=hm;exact⟨v,vs',rfl,aBH hG h1 h3,Mm hG h2 h4⟩
theorem JD {K:Nat->Prop}{φ:jS}{A:Nat->Prop}{w0:Aa}{N:Nat}{S:St}{a:Act}{w:World}(hG:G K φ A w0 N S a w): ∀{xs:List AV} {ys:List Ar} {vs:List Value},sQ xs=true->Ix S xs ys->aS K φ w xs vs->tL K w ys vs
 | [],ys,vs,_,h,hm=>by unfold aS at hm;rw[hm,show ys= [] from h];exact rfl
 | x::xs,ys,vs,hs,⟨y,ys',e,h1,h2⟩,hm=>by
   subst e;simp only[sQ,aBB] at hs;unfold aS at hm;obtain⟨v,vs',rfl,h3,h4⟩:=hm;exact⟨v,vs',rfl,Xr hs.1 h1 h3,JD hG hs.2 h2 h4⟩
theorem Fw {K:Nat->Prop}{φ:jS}{A:Nat->Prop}{w0:Aa}{N:Nat}{a:Act}{w:World}(hG:G K φ A w0 N (mk sl rs) a w): ∀(xs:List Operand),aS K φ w (xs.map (eA sl)) (xs.map a.eval)
 | []=>by simp only[List.map_nil];unfold aS;rfl
 | x::xs=>by
   simp only[aDH];unfold aS;exact⟨_,_,rfl,by have:=hG.ev x;rw[cU] at this;exact this,Fw hG xs⟩
theorem xN {o:Oper}{c:Operand}{f:FuncId}{caps:List AV}{xs:List Operand}{ts:Array TypeId}(ho:o.op= .call { callee:= .value c,args:=⟨xs⟩,argTypes:=ts })(hc:lB P f=true)(hx:eA sl c= .fn f caps)(K:Nat->Prop)(φ:jS)(A:Nat->Prop)(w0:Aa)(N:Nat)(a:Act)(w:World)(hG:G K φ A w0 N (mk sl rs) a w):
 ∃vs:Array Value,(execOp a.eval o).run P w= .ok (.enter f vs) w/\aS K φ w (xs.map (eA sl)++caps) vs.toList:=by
 have hev:=hG.ev c;rw[cU,hx] at hev;unfold aH at hev;obtain⟨cs,he,hm⟩:=hev;refine⟨(xs.map a.eval).toArray++cs,?_,?_⟩
 ·unfold lB at hc;split at hc
  ·rename_i fn hf;simp only[aBB,Bool.not_eq_true',beq_eq_false_iff_ne,ne_eq] at hc;obtain⟨cd,hb⟩:=Option.isSome_iff_exists.1 hc.2;simp[execOp,ho,resolve,he,Deferred.ofValue,invoke,callFunc,hf,hc.1,hb]
  cases hc
 have:=nA (Fw hG xs) hm;simpa using this
theorem YM {o:Oper}{f:FuncId}{avs:List AV}{ys:List Ar}{rv:AV}{rr:aGJ}{hb:Nat}(hrun: ∀K φ A w0 N a w,G K φ A w0 N (mk sl rs) a w-> ∃vs:Array Value,(execOp a.eval o).run P w= .ok (.enter f vs) w/\aS K φ w avs vs.toList)(hx:Fo rs avs=some ys)(hC:xK P f ys rv rr)
 (hcl:(nE rv&&rr.all fun q=>MU q.2)=true\/sQ avs=true) (ha:(rr.all fun q=>Iv q.2&&iT sl rs (hb+q.1))=true) (hmt:((cZ rv).all fun h=>(bF rr h).isSome)=true):bP P o (mk sl rs) ⟨nI (hb+ ·) rv,[],rr.map fun q=>(hb+q.1,q.2)⟩:=by
 intro K φ A w0 N a w Q hd hG;have hx:=Md (sl:=sl) hx;simp only[aCS,aBB] at ha hmt hcl;have hfr: ∀q∈rr,jP (mk sl rs) (hb+q.1):=fun q hq=>iF (ha q hq).2;have har: ∀q∈rr,Iv q.2=true:=fun q hq=>(ha q hq).1;have hmt: ∀h∈cZ rv,∃r,bF rr h=some r:=fun k hk=>Option.isSome_iff_exists.1 (hmt k hk);obtain⟨vs,hrn,hmv⟩:=hrun K φ A w0 N a w hG;unfold Oper.wp;rw[hrn,Oper.upon_enter];rcases hcl with ⟨hc1,hc2⟩ | hset
 ·refine(hC.2 (fun b=>b<w.heap.size) w _ (fun _ h=>h) (Mm hG hx hmv)).mono ?_;rintro e w' ⟨v,Kr,φr,rfl,h1,h2,h3,h4,h5,h6,h7,h8,h9⟩;obtain⟨φ',g1,g2⟩:=MX (dst:=o.dst) (A' :=A) (K' :=K) (hb:=hb) hG hd h1 h3 h4 h5 h6 h7 h8 (Ed rv v hc1 h9) (fun h r pl hr hh=>Holds.deepK (hc2 _ (dF hr)) hh) (fun _ h=>h) (fun _ h=> .inl h) har hfr hmt;exact⟨K,φ',v,rfl,g1,g2⟩
 refine(hC.2 K w _ (fun b hb=>(hG.kin b hb).1) (JD hG hset hx hmv)).mono ?_;rintro e w' ⟨v,Kr,φr,rfl,h1,h2,h3,h4,h5,h6,h7,h8,h9⟩
 have hKr: ∀b,Kr b->K b\/(Kr b/\w.heap.size<=b/\b<w'.heap.size):=fun b hb=>by
  rcases(h2 b hb).2 with h | h
  ·exact .inl h
  exact .inr ⟨hb,h,(h2 b hb).1⟩
 obtain⟨φ',g1,g2⟩:=MX (dst:=o.dst) (A' :=A) (K' :=fun b=>K b\/(Kr b/\w.heap.size<=b/\b<w'.heap.size)) (hb:=hb) hG hd h1 h3 h4 h5 h6 h7 h8
  (aH.mono (K:=Kr) (φ:=φr) (fun _ _=>rfl) hKr rv v (fun h pl _ e=>⟨e,fun _ _=>rfl⟩) h9)
  (fun h r pl hr hh=>Holds.mono (K:=Kr) (φ:=φr) (fun _ _=>rfl) hKr (fun _ _=>rfl) r (fun h pl _ e=>⟨e,fun _ _=>rfl⟩) hh) (fun _ h=> .inl h) (fun _ h=>h) har hfr hmt
 exact⟨_,φ',v,rfl,g1,g2⟩
theorem YN {f:FuncId}{avs:List AV}{o:Oper}{t:T}{K:AV->aGJ->T->Prop}(hrun:lB P f=true-> ∀K φ A w0 N a w,G K φ A w0 N (mk sl rs) a w-> ∃vs:Array Value,(execOp a.eval o).run P w= .ok (.enter f vs) w/\aS K φ w avs vs.toList)(h:YE P sl rs d f avs t K): ∃v new t',bP P o (mk sl rs) ⟨v,[],new⟩/\K v new t' :=by
 unfold YE at h;split at h
 ·split at h
  ·rename_i ys hys;split at h
   ·rename_i hb;simp only[aBB,Bool.or_eq_true] at hb;obtain⟨hC,h⟩:=h;refine⟨_,_,_,YM (hrun hC.1) hys hC ?_ hb.1.2 hb.2,h⟩;simpa using hb.1.1
   cases h
  cases h
 cases h
theorem QF {f:FuncId}{captured:Array Operand}:bP P ⟨some d,.makeFunc (.func f) ⟨[]⟩ captured,ty,pos,aft,gd⟩ (mk sl rs) ⟨.fn f (captured.toList.map (eA sl)),[],[]⟩:=
 eC fun K φ A w0 N a w hG=>by
  refine⟨.func (.func f) #[] (captured.map a.eval),by simp[execOp,Instr.makeFunc],?_⟩;unfold aH;exact⟨_,rfl,by simpa using Fw hG captured.toList⟩
theorem aBb {x:Operand}{s s' :TypeId}{ks k k' :IntKind}{n:Int}(hs:P.underlying s=some (.int ks))(ht:P.underlying s' =some (.int k))(hx:eA sl x= .p none (.int k' n)):bP P ⟨some d,.convert s s' x,ty,pos,aft,gd⟩ (mk sl rs) ⟨.p none (.int k (k.wrap n)),[],[]⟩:=
 nF rfl (fun e w he=>by
  have h1:=he x (.int k' n) (by rw[hx];rfl);simp[execOp,convert,h1,run_underlying hs,run_underlying ht,Conv.intToInt])
theorem aEO {x:Operand}{s s' :TypeId}{t:T}{K:AV->T->Prop}(hT:oC P tb)(h:cvW tb rs s s' (eA sl x) t K): ∃v t',bP P ⟨some d,.convert s s' x,ty,pos,aft,gd⟩ (mk sl rs) ⟨v,[],[]⟩/\K v t' :=by
 unfold cvW at h;split at h
 ·rename_i k hk;split at h
  ·rename_i ks hks;split at h
   ·rename_i k' n hx;obtain⟨t',h⟩:=DP h;exact⟨_,_,aBb (dY hT.nt hks) (dY hT.nt hk) hx,h⟩
   cases h
  cases h
 cases h
theorem S3 {m:E}{i:Nat}(h:i<m.size): ∃b:UInt8,m[i]? =some b/\rH m i=(b.toNat:Int):=by
 refine⟨m[i],by simp[h],?_⟩;unfold rH
 congr 2
 rw[aCz,aBP (by simpa using h)];simp[ByteArray.getElem_eq_getElem_data]
theorem aBc {x y:Operand}{s:TypeId}{t:T}{K:AV->T->Prop}(hT:oC P tb)(h:aEE tb s (eA sl x) (eA sl y) t K): ∃v t',bP P ⟨some d,.index s x y,ty,pos,aft,gd⟩ (mk sl rs) ⟨v,[],[]⟩/\K v t' :=by
 unfold aEE at h;split at h
 ·rename_i hs;have hs:=dY hT.st hs;split at h
  ·rename_i m hx;split at h
   ·rename_i k n hy;obtain⟨h0,h1,h2⟩:=h;refine⟨_,_,nF rfl (fun e w he=>?_),h2⟩;have e1:=he x (.string m) (by rw[hx];rfl);have e2:=he y (.int k n) (by rw[hy];rfl);obtain⟨b,hb,hbb⟩:=S3 (m:=m) (i:=n.toNat) aGR;simp[execOp,Instr.index,e1,e2,asIntOf,run_underlying hs,h0,hb,hbb]
   cases h
  cases h
 cases h
theorem aBd {x:Operand}{s:TypeId}{lo hi:Option Operand}{t:T}{K:AV->T->Prop}(hT:oC P tb)(h:aEF tb s (eA sl x) (lo.map (eA sl)) (hi.map (eA sl)) t K): ∃v t',bP P ⟨some d,.slice s x lo hi none,ty,pos,aft,gd⟩ (mk sl rs) ⟨v,[],[]⟩/\K v t' :=by
 unfold aEF at h;split at h
 ·rename_i hs;have hs:=dY hT.st hs;split at h
  ·rename_i m hx;cases lo with
   | none=>
     cases hi with
     | none=>simp at h
     | some hi=>
       simp only[Option.map_none,Option.map_some] at h;split at h
       ·cases h
       ·rename_i k b hb;injection hb with hb
        obtain⟨h0,h1,h2⟩:=h;refine⟨_,_,nF rfl (fun e w he=>?_),h2⟩;have e1:=he x (.string m) (by rw[hx];rfl);have e2:=he hi (.int k b) (by rw[hb];rfl);simp[execOp,Instr.sliceAt,Instr.slice,Instr.sliceBounds,Instr.sliceBound,e1,e2,asIntOf,run_underlying hs,h0,h1]
       cases h
   | some lo=>
     simp only[Option.map_some] at h;split at h
     ·rename_i hq;cases hq
     ·rename_i k a ha;injection ha with ha
      cases hi with
      | none=>
        simp only[Option.map_none] at h;obtain⟨h0,h1,h2⟩:=h;refine⟨_,_,nF rfl (fun e w he=>?_),h2⟩;have e1:=he x (.string m) (by rw[hx];rfl);have e2:=he lo (.int k a) (by rw[ha];rfl);simp[execOp,Instr.sliceAt,Instr.slice,Instr.sliceBounds,Instr.sliceBound,e1,e2,asIntOf,run_underlying hs,h0,h1]
      | some hi=>
        simp only[Option.map_some] at h;split at h
        ·rename_i hq;cases hq
        ·rename_i k' b hb;injection hb with hb
         obtain⟨h0,h1,h2,h3⟩:=h;refine⟨_,_,nF rfl (fun e w he=>?_),h3⟩;have e1:=he x (.string m) (by rw[hx];rfl);have e2:=he lo (.int k a) (by rw[ha];rfl);have e3:=he hi (.int k' b) (by rw[hb];rfl);have q1:0<=b:=aGR
         have q2:a<=(b.toNat:Int):=aGR
         simp[execOp,Instr.sliceAt,Instr.slice,Instr.sliceBounds,Instr.sliceBound,e1,e2,e3,asIntOf,run_underlying hs,h0,q1,h2];intro hq;exfalso;omega
        cases h
     cases h
  cases h
 cases h
theorem iH.take' {B:Nat->Prop}{w:World}{k:Nat}{a:Option Addr}: ∀(n:Nat) {xs:List (List bX)} {o:Nat},iH B w k xs a o->iH B w k (xs.take n) a o
 | 0,xs,o,_=>by rw[List.take_zero];unfold iH;trivial
 | n+1,[],o,_=>by rw[List.take_nil];unfold iH;trivial
 | n+1,x::xs,o,h=>by
   rw[List.take_succ_cons];unfold iH at*;exact⟨h.1,h.2.1,iH.take' n h.2.2⟩
theorem iH.drop' {B:Nat->Prop}{w:World}{k:Nat}{a:Option Addr}: ∀(n:Nat) {xs:List (List bX)} {o:Nat},iH B w k xs a o->iH B w k (xs.drop n) a (o+n*k)
 | 0,xs,o,h=>by simpa using h
 | n+1,[],o,_=>by rw[List.drop_nil];unfold iH;trivial
 | n+1,x::xs,o,h=>by
   rw[List.drop_succ_cons];unfold iH at h;have:=iH.drop' n h.2.2;rw[show o+(n+1)*k=o+k+n*k by rw[Nat.add_mul];omega];exact this
theorem lN.shift {B:Nat->Prop}{w:World}{b off s o:Nat}{x:List bX}(h:lN B w x (some ⟨b,off,none⟩) (o+s)):lN B w x (some ⟨b,off+s,none⟩) o:=by
 obtain⟨b',off',vs,e,hb,hl,hc⟩:=h.vals;simp only[Option.some.injEq,Addr.mk.injEq,and_true] at e;obtain⟨rfl,rfl⟩:=e;refine lN.mk hb hl fun j v hv=>?_;have:=hc j v hv;rw[show off+s+o+j=off+(o+s)+j by omega];exact this
theorem iH.shift {B:Nat->Prop}{w:World}{k b off s:Nat}: ∀{xs:List (List bX)} {o:Nat},iH B w k xs (some ⟨b,off,none⟩) (o+s)->iH B w k xs (some ⟨b,off+s,none⟩) o
 | [],o,_=>by unfold iH;trivial
 | x::xs,o,h=>by
   unfold iH at*;refine⟨h.1,h.2.1.shift,iH.shift ?_⟩;rw[show o+k+s=o+s+k by omega];exact h.2.2
theorem aEP {B:Nat->Prop}{w:World}{e k len c l h:Nat}{xs:List (List bX)}{a:Option Addr}(hr:jX B w (.sl e k xs) (.slice a len c))(hlh:l<=h)(hh:h<=xs.length):
 len=xs.length/\len<=c/\jX B w (.sl e k ((xs.take h).drop l)) (.slice (if c=l then a else a.map (·.add (l*k))) (h - l) (c - l)):=by
 unfold jX at*;obtain⟨a',c',e1,h1,h2,h3⟩:=hr;simp only[Value.slice.injEq] at e1;obtain⟨rfl,rfl,rfl⟩:=e1;have hlen:((xs.take h).drop l).length=h - l:=by simp;omega
 refine⟨rfl,h1,_,_,by rw[hlen],aGR,aGR,?_⟩;cases hys:(xs.take h).drop l with
 | nil=>unfold iH;trivial
 | cons y ys=>
   have hlt:l<h:=by
    have:=congrArg List.length hys;simp only[aEb] at this;omega
   rw[if_neg aGR];cases xs with
   | nil=>simp at hys
   | cons x xs' =>
     have h4:=h3;unfold iH at h4;obtain⟨b,off,vs,rfl,_⟩:=h4.2.1.vals;have h5:=iH.drop' l (iH.take' h h3);rw[hys] at h5;simp only[Option.map_some,oP];exact h5.shift
theorem aBe {P:Program}{t e:TypeId}{k bt:Nat}{ag:Bool}{z:Value}(ht:P.underlying t=some (.slice e))(hk:iJ P e=some (ag,k,bt,z))(w:World)(a:Option Addr)(len c:Nat)(lo hi:Option Value)(l h:Nat)
 (hlo:(lo=none/\l=0)\/ ∃ik,lo=some (.int ik l)) (hhi:(hi=none/\h=len)\/ ∃ik,hi=some (.int ik h)) (hlh:l<=h) (hh:h<=len) (hc:len<=c):
 (Instr.sliceAt t (.slice a len c) lo hi none).run P w= .ok (.slice (if c=l then a else a.map (·.add (l*k))) (h - l) (c - l)) w:=by
 have hs:=(iE hk w).2.1;have q1:h<=c:=aGR
 rcases hlo with ⟨rfl,rfl⟩ | ⟨i1,rfl⟩<;>rcases hhi with ⟨rfl,rfl⟩ | ⟨i2,rfl⟩<;>
  simp[Instr.sliceAt,Instr.slice,Instr.sliceBounds,Instr.sliceBound,asIntOf,run_underlying ht,hs,hlh,q1]
theorem Oa {x:Operand}{s e e' k bt:Nat}{ag:Bool}{z:Value}{lo hi:Option Operand}{ob:Option Nat}{xs:List (List bX)}{l h:Nat}(ht:P.underlying s=some (.slice e))(hk:iJ P e=some (ag,k,bt,z))(hx:eA sl x= .p ob (.sl e' k xs))(hl:qZ (mk sl rs) ob)
 (hlo:(lo=none/\l=0)\/ ∃y ik,lo=some y/\eA sl y= .p none (.int ik l)) (hhi:(hi=none/\h=xs.length)\/ ∃y ik,hi=some y/\eA sl y= .p none (.int ik h)) (hlh:l<=h) (hh:h<=xs.length):
 bP P ⟨some d,.slice s x lo hi none,ty,pos,aft,gd⟩ (mk sl rs) ⟨.p ob (.sl e' k ((xs.take h).drop l)),[],[]⟩:=
 eC fun K φ A w0 N a w hG=>by
  obtain⟨B,hB,_⟩:=hG.inO hl;have h1:=hG.ev x;rw[cU,hx,hB] at h1;have h1' :=h1;unfold jX at h1';obtain⟨b,c,he,_,_,_⟩:=h1';rw[he] at h1;obtain⟨_,hc,h2⟩:=aEP h1 hlh hh;refine⟨_,?_,(hB _ _).2 h2⟩
  have hr:=aBe ht hk w b xs.length c (lo.map a.eval) (hi.map a.eval) l h
   (by rcases hlo with ⟨rfl,rfl⟩ | ⟨y,ik,rfl,hy⟩
       ·exact .inl ⟨rfl,rfl⟩
       exact .inr ⟨ik,by rw[Option.map_some,lO (x:=(mk sl rs).ev y) (by rw[cU,hy];rfl) (hG.ev y)]⟩)
   (by rcases hhi with ⟨rfl,rfl⟩ | ⟨y,ik,rfl,hy⟩
       ·exact .inl ⟨rfl,rfl⟩
       exact .inr ⟨ik,by rw[Option.map_some,lO (x:=(mk sl rs).ev y) (by rw[cU,hy];rfl) (hG.ev y)]⟩) hlh hh hc
  simp only[execOp,he,Option.map_none];simp[hr]
theorem aBf {x:Operand}{s:TypeId}{lo hi:Option Operand}{t:T}{K:AV->T->Prop}(hT:oC P tb)(h:aEG tb rs s (eA sl x) (lo.map (eA sl)) (hi.map (eA sl)) t K): ∃v t',bP P ⟨some d,.slice s x lo hi none,ty,pos,aft,gd⟩ (mk sl rs) ⟨v,[],[]⟩/\K v t' :=by
 unfold aEG at h;split at h
 ·rename_i e hs;have hs:=dY hT.sl hs;split at h
  ·rename_i ag k bt z hk;have hk:=dY hT.ty hk;split at h
   ·rename_i o e' k' xs hx;split at h
    ·rename_i hb;rw[aBB] at hb;have:=aBQ hb.2;subst this;have hl:=yU (sl:=sl) hb.1;split at h
     ·rename_i α enc l t';cases lo with
      | none=>
        cases hi with
        | none=>simp at h
        | some hi=>
          simp only[Option.map_none,Option.map_some] at h;split at h
          ·rename_i k2 b hb2;injection hb2 with hb2
           obtain⟨rfl,h0,h1,h2⟩:=h;refine⟨_,_,?_,h2⟩;have:=Oa (d:=d) (ty:=ty) (pos:=pos) (aft:=aft) (gd:=gd) (lo:=none) (hi:=some hi) (l:=0) (h:=b.toNat) hs hk hx hl (.inl ⟨rfl,rfl⟩) (.inr ⟨hi,k2,rfl,by rw[hb2,Int.toNat_of_nonneg h0]⟩) (aBC _) (by rw[aAb];omega);rw[List.drop_zero,<-List.map_take] at this;exact this
          cases h
      | some lo=>
        simp only[Option.map_some] at h;split at h
        ·rename_i hq;cases hq
        ·rename_i k1 a ha;injection ha with ha
         cases hi with
         | none=>
           simp only[Option.map_none] at h;obtain⟨rfl,h0,h1,h2⟩:=h;refine⟨_,_,?_,h2⟩;have:=Oa (d:=d) (ty:=ty) (pos:=pos) (aft:=aft) (gd:=gd) (lo:=some lo) (hi:=none) (l:=a.toNat) (h:=(l.map enc).length) hs hk hx hl (.inr ⟨lo,k1,rfl,by rw[ha,Int.toNat_of_nonneg h0]⟩) (.inl ⟨rfl,rfl⟩) (by rw[aAb];omega) (aFC _);rw[aFF,<-List.map_drop] at this;exact this
         | some hi=>
           simp only[Option.map_some] at h;split at h
           ·rename_i hq;cases hq
           ·rename_i k2 b hb2;injection hb2 with hb2
            obtain⟨rfl,h0,h1,h2,h3⟩:=h;refine⟨_,_,?_,h3⟩;have:=Oa (d:=d) (ty:=ty) (pos:=pos) (aft:=aft) (gd:=gd) (lo:=some lo) (hi:=some hi) (l:=a.toNat) (h:=b.toNat) hs hk hx hl (.inr ⟨lo,k1,rfl,by rw[ha,Int.toNat_of_nonneg h0]⟩) (.inr ⟨hi,k2,rfl,by rw[hb2,Int.toNat_of_nonneg aGR]⟩) aGR (by rw[aAb];omega);rw[<-List.map_take,<-List.map_drop] at this;exact this
           cases h
        cases h
     cases h
    cases h
   cases h
  cases h
 obtain⟨v,t',h1,h2⟩:=aBd (d:=d) (ty:=ty) (pos:=pos) (aft:=aft) (gd:=gd) (sl:=sl) (rs:=rs) hT h;exact⟨v,t',h1,h2⟩
section
variable {K:Nat->Prop} {φ:jS} {A:Nat->Prop} {w0:Aa} {N:Nat} {S:St} {a:Act} {w:World}
theorem G.rdOwnF (hG:G K φ A w0 N S a w){h:Nat}{e k:Nat}{dp:Bool}{xs:List (List bX)}{v:Value}(hr:S.res h=some (.arr e k dp xs))(hm:aH K φ w (.own h) v){B:Nat->Prop}(hB: ∀b,K b->B b)(hB' : ∀pl,φ h=some pl-> ∀b∈pl.F,B b):jX B w (.sl e k xs) v:=by
 obtain⟨pl,css,hp,ho,hcl,hck,htop,hrow⟩:=hG.owned hr;unfold aH at hm;rw[hm pl hp];obtain⟨b,c,e1,h1,h2,h3,h4⟩:=pD ho hck hcl;unfold jX;refine⟨b,c,e1,h1,h2,?_⟩;by_cases hn:0<xs.length
 ·obtain⟨g,rfl,hg⟩:=h3 hn;have hlt:B g:=hB' pl hp g (aDG _ (by rw[htop,hg];simp));refine CI hlt hcl (fun i x c hx hc=>⟨(hrow i x c hx hc).1,oL.mono (fun _ _=>rfl) (fun b hb=>?_) x c (hrow i x c hx hc).2.1⟩) fun i c hc j u hu=>?_
  ·rcases hb with hb | hb
   ·exact hB b hb
   exact hB' pl hp b (aCX _ hb)
  obtain⟨g',e2,_,hcell⟩:=h4 i c hc;simp only[Option.some.injEq,Addr.mk.injEq,and_true] at e2;subst e2;rw[Nat.zero_add];exact hcell j u hu
 have:xs= []:=aDE aGR;subst this;unfold iH;trivial
theorem UX (hG:G K φ A w0 N (mk sl rs) a w){x y:AV}{hs:List Nat}{v:Value}{K' :Nat->Prop}{φ' :jS}(h:aBS rs x=some (y,hs))(hK: ∀b,K b->K' b)(hF: ∀b,jD φ (· ∈hs) b->K' b)(hm:aH K φ w x v):aH K' φ' w y v:=by
 unfold aBS at h;split at h
 ·rename_i h0;split at h
  ·rename_i e k dp xs hr;simp only[Option.some.injEq,Prod.mk.injEq] at h;obtain⟨rfl,rfl⟩:=h;have:=hG.rdOwnF (B:=K') (h:=h0) hr hm hK (fun pl hp b hb=>hF b ⟨h0,pl,by simp,hp,hb⟩);unfold aH;exact this
  cases h
 ·simp only[Option.some.injEq,Prod.mk.injEq] at h;obtain⟨rfl,rfl⟩:=h;unfold aH at*;exact jX.mono (fun _ _=>rfl) hK _ _ hm
 ·simp only[Option.some.injEq,Prod.mk.injEq] at h;obtain⟨rfl,rfl⟩:=h;unfold aH at*;exact hm
 cases h
theorem Ob (hG:G K φ A w0 N (mk sl rs) a w){K' :Nat->Prop}{φ' :jS}(hK: ∀b,K b->K' b): ∀{xs ys:List AV} {hs:List Nat} {vs:List Value},Sy rs xs=some (ys,hs)->(∀b,jD φ (· ∈hs) b->K' b)->aS K φ w xs vs->aS K' φ' w ys vs
 | [],ys,hs,vs,h,_,hm=>by
   simp only[Sy,Option.some.injEq,Prod.mk.injEq] at h;obtain⟨rfl,rfl⟩:=h;unfold aS at*;exact hm
 | c::cs,ys,hs,vs,h,hF,hm=>by
   unfold Sy at h;split at h
   ·rename_i q hq;split at h
    ·rename_i r hr;simp only[Option.some.injEq,Prod.mk.injEq] at h;obtain⟨rfl,rfl⟩:=h;unfold aS at hm;obtain⟨v,vs',rfl,h1,h2⟩:=hm;unfold aS;exact⟨v,vs',rfl,UX hG hq hK (fun b ⟨h,pl,q1,q2,q3⟩=>hF b ⟨h,pl,aDG _ q1,q2,q3⟩) h1,Ob hG hK hr (fun b ⟨h,pl,q1,q2,q3⟩=>hF b ⟨h,pl,aCX _ q1,q2,q3⟩) h2⟩
    cases h
   cases h
theorem aBg (hG:G K φ A w0 N (mk sl rs) a w){x y:AV}{hs:List Nat}{v:Value}{K' :Nat->Prop}{φ' :jS}(h:aBT rs x=some (y,hs))(hK: ∀b,K b->K' b)(hF: ∀b,jD φ (· ∈hs) b->K' b)(hm:aH K φ w x v):aH K' φ' w y v:=by
 unfold aBT at h;split at h
 ·split at h
  ·rename_i q hq;simp only[Option.some.injEq,Prod.mk.injEq] at h;obtain⟨rfl,rfl⟩:=h;unfold aH at*;obtain⟨vs,e,h1,h2⟩:=hm;exact⟨vs,e,h1,Ob hG hK hq hF h2⟩
  cases h
 exact UX hG h hK hF hm
end
theorem V9 {o:Oper}{x:Operand}{v:AV}{hs:List Nat}(ho:o.op= .move x\/o.op= .assign x)(h:aBT rs (eA sl x)=some (v,hs)):bP P o (mk sl rs) ⟨v,hs,[]⟩:=by
 intro K φ A w0 N a w Q hd hG;have hr:(execOp a.eval o).run P w= .ok (.value (a.eval x)) w:=by rcases ho with ho | ho<;>simp[execOp,ho]
 have hm:=hG.ev x;rw[cU] at hm
 have hst:=hG.step (C:=(· ∈hs)) (φr:=fun _=>none) (ρ:=bF []) (K' :=fun b=>K b\/jD φ (· ∈hs) b) (w' :=w)
  ⟨rfl,rfl,rfl,aFC _,fun _ _ _=>rfl⟩
  (fun _ _ hp=>by cases hp) (fun _ _ _ _ _ hp=>by cases hp) (fun _ _ hp=>by simp[bF] at hp) (fun _ _=>rfl) (fun _ hb=> .inl hb)
  (fun b hb=>by
   rcases hb with hb | hb
   ·exact .inl hb
   refine .inr ⟨?_,.inr hb,fun _ _ hp=>by cases hp⟩;obtain⟨h0,pl,_,hp,hb'⟩:=hb;exact(hG.ge h0 pl hp b hb').2)
  (fun _ _ _ _ hp=>by cases hp) (fun _ _ _ _ _ _ _ hp=>by cases hp) (fun _ _ hp=>by cases hp)
 have hmv:aH (fun b=>K b\/jD φ (· ∈hs) b) (dM (· ∈hs) (fun _=>none) φ) w v (a.eval x):=aBg hG h (fun _ hb=> .inl hb) (fun _ hb=> .inr hb) hm;unfold Oper.wp;rw[hr,Oper.upon_value];refine⟨_,_,a.eval x,rfl,hst.put hd hmv,⟨⟨rfl,rfl,rfl,aFC _,fun _ _ _=>rfl⟩,fun _ hb=> .inl hb,fun b hb=>?_,fun h1 pl hp=>?_,fun _ _ _ _ _ _=>rfl⟩⟩
 ·rcases hb with hb | hb
  ·exact .inl hb
  exact .inr (.inr hb)
 simp only[dM] at hp;split at hp
 ·cases hp
 exact .inl hp
theorem YO {K:Nat->Prop}{φ:jS}{w:World}{pl:Pl}{e k:Nat}{dp:Bool}{xs:List (List bX)}(hh:Holds K φ w pl (.arr e k dp xs)){B:Nat->Prop}(hB: ∀b,K b->B b)(hB' : ∀b∈pl.F,B b):jX B w (.sl e k xs) pl.val:=by
 have hx: ∃css:List (List Value),w.ownsRow 0 e k pl.val xs.length css.flatten/\css.length=xs.length/\(∀c∈css,c.length=k)/\pl.top=pl.val.ownBlock.toList/\ ∀(i:Nat) x c,xs[i]? =some x->css[i]? =some c->x.length=k/\oL B w x c:=by
  cases dp with
  | true=>
    obtain⟨css,Fs,h1,h2,h3,h4⟩:=hh;have hl:=h4.len;exact⟨css,h1,hl.1,hl.2,h2,fun i x c hx hc=>dB.rd (A:=B) k xs css Fs i x c (fun g hg=>hB' g (aCX _ (by rw[h3];exact hg))) h4 hx hc⟩
  | false=>
    obtain⟨css,h1,h2,h3,h4⟩:=hh;have hl:=h4.len;exact⟨css,h1,hl.1,hl.2,h2,fun i x c hx hc=>⟨(h4.at_ hx hc).1,oL.mono (fun _ _=>rfl) hB x c (h4.at_ hx hc).2⟩⟩
 obtain⟨css,ho,hcl,hck,htop,hrow⟩:=hx;obtain⟨b,c,e1,h1,h2,h3,h4⟩:=pD ho hck hcl;unfold jX;refine⟨b,c,e1,h1,h2,?_⟩;by_cases hn:0<xs.length
 ·obtain⟨g,rfl,hg⟩:=h3 hn;have hlt:B g:=hB' g (aDG _ (by rw[htop,hg];simp));refine CI hlt hcl (fun i x c hx hc=>hrow i x c hx hc) fun i c hc j u hu=>?_;obtain⟨g',e2,_,hcell⟩:=h4 i c hc;simp only[Option.some.injEq,Addr.mk.injEq,and_true] at e2;subst e2;rw[Nat.zero_add];exact hcell j u hu
 have:xs= []:=aDE aGR;subst this;unfold iH;trivial
mutual
def DQ (rr:aGJ):AV->Option AV
 | .own h=>(match bF rr h with | some (.arr e k _ xs)=>some (.p none (.sl e k xs)) | _=>none)
 | .p none x=>some (.p none x)
 | .nil=>some .nil
 | .no=>some .no
 | .agg cs=>(match Mn rr cs with | some xs=>some (.agg xs) | none=>none)
 | .tup cs=>(match Mn rr cs with | some xs=>some (.tup xs) | none=>none)
 | _=>none
def Mn (rr:aGJ):List AV->Option (List AV)
 | []=>some []
 | c::cs=>(match DQ rr c with | some x=>(match Mn rr cs with | some xs=>some (x::xs) | none=>none) | none=>none)
end
section
variable {K K' :Nat->Prop} {φ φ' :jS} {w:World} {rr:aGJ}
mutual
theorem UY (hd: ∀h r,bF rr h=some r-> ∃pl,φ h=some pl/\Holds K φ w pl r)(hK: ∀b,K b->K' b)(hF: ∀h pl,φ h=some pl-> ∀b∈pl.F,K' b): ∀(x:AV) {y:AV} {v:Value},DQ rr x=some y->aH K φ w x v->aH K' φ' w y v
 | .own h,y,v,h1,hm=>by
   unfold DQ at h1;split at h1
   ·rename_i e k dp xs hr;injection h1 with h1
    subst h1;obtain⟨pl,hp,hh⟩:=hd h _ hr;unfold aH at*;rw[hm pl hp];exact YO hh hK (hF h pl hp)
   cases h1
 | .p none x,y,v,h1,hm=>by
   unfold DQ at h1;injection h1 with h1
   subst h1;unfold aH at*;exact jX.mono (fun _ _=>rfl) hK _ _ hm
 | .p (some _) x,y,v,h1,hm=>by unfold DQ at h1;cases h1
 | .nil,y,v,h1,hm=>by
   unfold DQ at h1;injection h1 with h1
   subst h1;unfold aH at*;exact hm
 | .no,y,v,h1,hm=>by
   unfold DQ at h1;injection h1 with h1
   subst h1;unfold aH;trivial
 | .agg cs,y,v,h1,hm=>by
   unfold DQ at h1;split at h1
   ·rename_i xs hx;injection h1 with h1
    subst h1;unfold aH at*;obtain⟨vs,e,q1,q2⟩:=hm;exact⟨vs,e,q1,JE hd hK hF cs hx q2⟩
   cases h1
 | .tup cs,y,v,h1,hm=>by
   unfold DQ at h1;split at h1
   ·rename_i xs hx;injection h1 with h1
    subst h1;unfold aH at*;obtain⟨vs,e,q2⟩:=hm;exact⟨vs,e,JE hd hK hF cs hx q2⟩
   cases h1
 | .ptr _ _,y,v,h1,hm=>by unfold DQ at h1;cases h1
 | .ep _ _ _ _,y,v,h1,hm=>by unfold DQ at h1;cases h1
 | .rp _ _,y,v,h1,hm=>by unfold DQ at h1;cases h1
 | .fn _ _,y,v,h1,hm=>by unfold DQ at h1;cases h1
 | .bsl _ _,y,v,h1,hm=>by unfold DQ at h1;cases h1
theorem JE (hd: ∀h r,bF rr h=some r-> ∃pl,φ h=some pl/\Holds K φ w pl r)(hK: ∀b,K b->K' b)(hF: ∀h pl,φ h=some pl-> ∀b∈pl.F,K' b): ∀(xs:List AV) {ys:List AV} {vs:List Value},Mn rr xs=some ys->aS K φ w xs vs->aS K' φ' w ys vs
 | [],ys,vs,h1,hm=>by
   unfold Mn at h1;injection h1 with h1
   subst h1;unfold aS at*;exact hm
 | c::cs,ys,vs,h1,hm=>by
   unfold Mn at h1;split at h1
   ·rename_i x hx;split at h1
    ·rename_i xs hxs;injection h1 with h1
     subst h1;unfold aS at*;obtain⟨v,vs',rfl,q1,q2⟩:=hm;exact⟨v,vs',rfl,UY hd hK hF c hx q1,JE hd hK hF cs hxs q2⟩
    cases h1
   cases h1
end
end
theorem lV {f:FuncId}{ys:List Ar}{rv v:AV}{rr:aGJ}(hC:xK P f ys rv rr)(h:DQ rr rv=some v):xK P f ys v []:=
 ⟨hC.1,fun A w vs hA hv=>(hC.2 A w vs hA hv).mono fun e w' ⟨u,K,φ,he,hb,h1,h2,h3,h4,h5,h6,h7,h8⟩=>
  ⟨u,fun b=>K b\/ ∃h pl,φ h=some pl/\b∈pl.F,fun _=>none,he,hb,fun b hb' =>by
   rcases hb' with q | ⟨h0,pl,hp,hm⟩
   ·exact h1 b q
   ·exact⟨(h7 h0 pl hp b hm).2,.inr (h7 h0 pl hp b hm).1⟩,fun _ _ _ _ hp=>(by cases hp),fun h0 r hr=>(by simp[bF] at hr),fun _ _=>rfl,fun _ _ _ _ _ hp=>(by cases hp),fun _ _ hp=>(by cases hp),fun _ _ hp=>(by cases hp),
   UY h3 (fun _ hb=> .inl hb) (fun h0 pl hp b hm=> .inr ⟨h0,pl,hp,hm⟩) rv h h8⟩⟩
theorem QG {x:Operand}{d:Nat}{t:T}{K:AV->List Nat->T->Prop}(h:UV rs d (eA sl x) t K): ∃v del t',(∀o:Oper,o.op= .move x\/o.op= .assign x->bP P o (mk sl rs) ⟨v,del,[]⟩)/\K v del t' :=by
 unfold UV at h;split at h
 ·split at h
  ·split at h
   ·rename_i q hq;exact⟨_,_,_,fun o ho=>V9 ho hq,h⟩
   cases h
  exact⟨_,_,_,fun o ho=>by rw[<-cU sl rs];exact DJ ho,h⟩
 exact⟨_,_,_,fun o ho=>by rw[<-cU sl rs];exact DJ ho,h⟩
theorem JF {S:St}{o:Oper}{x:Operand}{h off:Nat}(ho:o.op= .nilCheck x)(hx:S.ev x= .ptr h off):bP P o S ⟨.ptr h off,[],[]⟩:=
 eC fun K φ A w0 N a w hG=>by
  have h1:=hG.ev x;rw[hx] at h1;have h2:=h1;unfold aH at h2;obtain⟨g,e,_⟩:=h2;exact⟨a.eval x,by simp[execOp,ho,e],h1⟩
theorem aBh {o:Op}{t:T}{K:AV->List Nat->aGJ->T->Prop}(hT:oC P tb)(h:aEH P tb sl rs d o t K): ∃v del new t',bP P ⟨some d,o,ty,pos,aft,gd⟩ (mk sl rs) ⟨v,del,new⟩/\K v del new t' :=by
 unfold aEH at h;split at h
 ·obtain⟨v,del,t',h1,h2⟩:=QG (P:=P) h;exact⟨v,del,[],t',h1 _ (.inl rfl),h2⟩
 ·obtain⟨v,del,t',h1,h2⟩:=QG (P:=P) h;exact⟨v,del,[],t',h1 _ (.inr rfl),h2⟩
 ·obtain⟨v,t',h1,h2⟩:=YG h;exact⟨_,_,_,_,h1,h2⟩
 ·split at h
  ·rename_i vs hx;split at h
   ·rename_i v hv;exact⟨_,_,_,_,Ss hx hv,h⟩
   cases h
  cases h
 ·obtain⟨v,t',h1,h2⟩:=aBX hT h;exact⟨_,_,_,_,h1,h2⟩
 ·obtain⟨v,t',h1,h2⟩:=aEI h;exact⟨_,_,_,_,h1,h2⟩
 ·obtain⟨v,h1,h2⟩:=aBZ hT h;exact⟨_,_,_,_,h1,h2⟩
 ·obtain⟨v,h1,h2⟩:=V5 hT h;exact⟨_,_,_,_,h1,h2⟩
 ·split at h
  ·rename_i hx;exact⟨_,_,_,_,JF rfl (by rw[cU];exact hx),h⟩
  cases h
 ·obtain⟨v,t',h1,h2⟩:=aBY hT h;exact⟨_,_,_,_,h1,h2⟩
 ·obtain⟨v,t',h1,h2⟩:=YH hT h;exact⟨_,_,_,_,h1,h2⟩
 ·split at h
  ·rename_i hq;have hq:=dY hT.ty hq;split at h
   ·rename_i hf;exact⟨_,_,_,_,YI hq hf,h⟩
   cases h
  cases h
 ·split at h
  ·rename_i hb;rw[aBB] at hb;exact⟨_,_,_,_,aEJ (Ek hb.1) hb.2,h⟩
  cases h
 ·obtain⟨v,h1,h2⟩:=V8 hT h;exact⟨_,_,_,_,h1,h2⟩
 ·obtain⟨v,new,h1,h2⟩:=aB6 hT h;exact⟨_,_,_,_,h1,h2⟩
 ·obtain⟨v,new,t',h1,h2⟩:=aEM hT h;exact⟨_,_,_,_,h1,h2⟩
 ·split at h
  ·split at h
   ·split at h
    ·split at h
     ·rename_i he;obtain⟨v,t',h1,h2⟩:=aB7 (dY hT.sl he) h;exact⟨_,_,_,_,h1,h2⟩
     split at h
     ·rename_i x s _ _ _ _ he;have he:=dY hT.st he;split at h
      ·rename_i m hx;refine⟨_,_,_,_,nF (x:= .int .i64 m.size) rfl (fun e w hee=>?_),h⟩;have e1:=hee x (.string m) (by rw[hx];rfl);simp[execOp,resolve,invoke,builtin,Builtin.len_,run_underlying he,e1,goInt]
      cases h
     cases h
    cases h
   ·split at h
    ·rename_i x y;split at h
     ·rename_i k m hx;split at h
      ·rename_i k' n hy;refine⟨_,_,_,_,nF (x:= .int k (if n<m then n else m)) rfl (fun e w hee=>?_),h⟩;have e1:=hee x (.int k m) (by rw[hx];rfl);have e2:=hee y (.int k' n) (by rw[hy];rfl);simp[execOp,resolve,invoke,builtin,Builtin.min_,Builtin.min2,e1,e2]
      cases h
     cases h
    cases h
   ·split at h
    ·rename_i x y;split at h
     ·rename_i k m hx;split at h
      ·rename_i k' n hy;refine⟨_,_,_,_,nF (x:= .int k (if m<n then n else m)) rfl (fun e w hee=>?_),h⟩;have e1:=hee x (.int k m) (by rw[hx];rfl);have e2:=hee y (.int k' n) (by rw[hy];rfl);simp[execOp,resolve,invoke,builtin,Builtin.max_,Builtin.max2,e1,e2]
      cases h
     cases h
    cases h
   ·split at h
    ·obtain⟨e,h⟩:=h.eq;subst e;exact aBa hT h
    cases h
   cases h
  ·split at h
   ·rename_i hx;obtain⟨v,new,t',h1,h2⟩:=YN (o:=⟨some d,.call ⟨.value _,⟨_⟩,_⟩,ty,pos,aft,gd⟩) (fun hc=>xN rfl hc hx) h;exact⟨_,_,_,_,h1,h2⟩
   cases h
  cases h
 ·obtain⟨v,t',h1,h2⟩:=aEO hT h;exact⟨_,_,_,_,h1,h2⟩
 ·obtain⟨v,t',h1,h2⟩:=aBc hT h;exact⟨_,_,_,_,h1,h2⟩
 ·obtain⟨v,t',h1,h2⟩:=aBf hT h;exact⟨_,_,_,_,h1,h2⟩
 ·exact⟨_,_,_,_,QF,h⟩
 cases h
end
theorem YP {o:Oper}{t:T}{K:AV->List Nat->aGJ->T->Prop}(hT:oC P tb)(h:Sa P tb sl rs o.dst o.op t K): ∃v del new t',bP P o (mk sl rs) ⟨v,del,new⟩/\K v del new t' :=by
 obtain⟨dst,op,ty,pos,aft,gd⟩:=o;unfold Sa at h
 dsimp only at h
 split at h
 ·exact aBh hT h
 split at h
 ·obtain⟨del,new,t',h1,h2⟩:=aEL hT h;exact⟨_,_,_,_,h1,h2⟩
 cases h
end
end Go.Proofs.YtgamjlgfnmpcjaaGreat
