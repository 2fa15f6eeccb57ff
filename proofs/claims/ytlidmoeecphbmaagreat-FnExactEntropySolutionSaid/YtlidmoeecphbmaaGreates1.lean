/-
  Contracts and plain laws, joined: part 2.
-/
import Derived.Test.YtlidmoeecphbmaaGreates0
import Derived.IntWalk
import Derived.Laws.StructEq
import Derived.Orders
import Derived.Laws.BytesArg
namespace Go.Proofs.YtlidmoeecphbmaaGreat
open Go.ChangeShapes Go.WideShapes Go.ChangeAt Go.RowKit
set_option linter.unusedVariables false
set_option linter.unusedSimpArgs false
set_option maxRecDepth 100000
set_option maxHeartbeats 4000000
mutual
def mP (g:Nat->Nat):AV->AV
 | .p (some h) x=> .p (some (g h)) x
 | .p none x=> .p none x
 | .own h=> .own (g h)
 | .ptr h o=> .ptr (g h) o
 | .ep h k i o=> .ep (g h) k i o
 | .rp (some h) x=> .rp (some (g h)) x
 | .rp none x=> .rp none x
 | .agg cs=> .agg (aAQ g cs)
 | .tup cs=> .tup (aAQ g cs)
 | .fn f cs=> .fn f (aAQ g cs)
 | .nil=> .nil
 | .bsl h n=> .bsl (g h) n
 | .no=> .no
def aAQ (g:Nat->Nat):List AV->List AV
 | []=>[]
 | x::xs=>mP g x::aAQ g xs
end
mutual
theorem aJ.map {K:Nat->Prop}{φ φ' :iW}{w:World}{g:Nat->Nat}: ∀(x:AV) (v:Value),(∀h pl,h∈cW x->φ' (g h)=some pl->φ h=some pl)->aJ K φ w x v->aJ K φ' w (mP g x) v
 | .p none x,v,_,h=>by unfold mP;unfold aJ at*;exact h
 | .p (some k) x,v,hm,h=>by unfold mP;unfold aJ at*;exact fun pl hp=>h pl (hm k pl (by simp[cW]) hp)
 | .own k,v,hm,h=>by unfold mP;unfold aJ at*;exact fun pl hp=>h pl (hm k pl (by simp[cW]) hp)
 | .ptr k o,v,hm,h=>by unfold mP;unfold aJ at*;obtain⟨g',e,q⟩:=h;exact⟨g',e,fun pl hp=>q pl (hm k pl (by simp[cW]) hp)⟩
 | .ep k _ _ _,v,hm,h=>by unfold mP;unfold aJ at*;exact fun pl hp=>h pl (hm k pl (by simp[cW]) hp)
 | .rp none x,v,_,h=>by unfold mP;unfold aJ at*;exact h
 | .rp (some k) x,v,hm,h=>by unfold mP;unfold aJ at*;exact fun pl hp=>h pl (hm k pl (by simp[cW]) hp)
 | .agg cs,v,hm,h=>by
   unfold mP;unfold aJ at*;obtain⟨vs,e,h1,h2⟩:=h;exact⟨vs,e,h1,aT.map cs _ (fun k pl hk=>hm k pl (by simpa [cW] using hk)) h2⟩
 | .tup cs,v,hm,h=>by
   unfold mP;unfold aJ at*;obtain⟨vs,e,h2⟩:=h;exact⟨vs,e,aT.map cs _ (fun k pl hk=>hm k pl (by simpa [cW] using hk)) h2⟩
 | .fn f cs,v,hm,h=>by
   unfold mP;unfold aJ at*;obtain⟨vs,e,h2⟩:=h;exact⟨vs,e,aT.map cs _ (fun k pl hk=>hm k pl (by simpa [cW] using hk)) h2⟩
 | .nil,v,_,h=>by unfold mP;unfold aJ at*;exact h
 | .bsl k n,v,hm,h=>by unfold mP;unfold aJ at*;exact fun pl hp=>h pl (hm k pl (by simp[cW]) hp)
 | .no,v,_,_=>by unfold mP;unfold aJ;trivial
theorem aT.map {K:Nat->Prop}{φ φ' :iW}{w:World}{g:Nat->Nat}: ∀(xs:List AV) (vs:List Value),(∀h pl,h∈gH xs->φ' (g h)=some pl->φ h=some pl)->aT K φ w xs vs->aT K φ' w (aAQ g xs) vs
 | [],vs,_,h=>by unfold aAQ;unfold aT at*;exact h
 | x::xs,vs,hm,h=>by
   unfold aAQ;unfold aT at*;obtain⟨v,vs',e,h1,h2⟩:=h;exact⟨v,vs',e,aJ.map x v (fun k pl hk=>hm k pl (by simp[gH,hk])) h1,aT.map xs vs' (fun k pl hk=>hm k pl (by simp[gH,hk])) h2⟩
end
mutual
def mL:AV->Bool
 | .p none x=>x.val?.isSome
 | .own _=>true
 | .nil=>true
 | .agg cs=>aDk cs
 | .tup cs=>aDk cs
 | .no=>true
 | _=>false
def aDk:List AV->Bool
 | []=>true
 | x::xs=>mL x&&aDk xs
end
mutual
theorem aDl {K K' :Nat->Prop}{φ:iW}{w:World}: ∀(x:AV) (v:Value),mL x=true->aJ K φ w x v->aJ K' φ w x v
 | .p none x,v,hc,h=>by
   unfold mL at hc;unfold aJ at*;cases hx:x.val? with
   | none=>simp[hx] at hc
   | some u=>exact(iU.scalar hx).2 ((iU.scalar hx).1 h)
 | .p (some k) x,v,hc,h=>by simp[mL] at hc
 | .own k,v,_,h=>by unfold aJ at*;exact h
 | .ptr k o,v,hc,_=>by simp[mL] at hc
 | .ep k _ _ _,v,hc,_=>by simp[mL] at hc
 | .rp none x,v,hc,h=>by simp[mL] at hc
 | .rp (some k) x,v,hc,h=>by simp[mL] at hc
 | .agg cs,v,hc,h=>by
   unfold mL at hc;unfold aJ at*;obtain⟨vs,e,h1,h2⟩:=h;exact⟨vs,e,h1,vV cs _ hc h2⟩
 | .tup cs,v,hc,h=>by
   unfold mL at hc;unfold aJ at*;obtain⟨vs,e,h2⟩:=h;exact⟨vs,e,vV cs _ hc h2⟩
 | .fn f cs,v,hc,h=>by simp[mL] at hc
 | .nil,v,_,h=>by unfold aJ at*;exact h
 | .bsl k n,v,hc,h=>by simp[mL] at hc
 | .no,v,_,_=>by unfold aJ;trivial
theorem vV {K K' :Nat->Prop}{φ:iW}{w:World}: ∀(xs:List AV) (vs:List Value),aDk xs=true->aT K φ w xs vs->aT K' φ w xs vs
 | [],vs,_,h=>by unfold aT at*;exact h
 | x::xs,vs,hc,h=>by
   unfold aDk at hc;simp only[aCA] at hc;unfold aT at*;obtain⟨v,vs',e,h1,h2⟩:=h;exact⟨v,vs',e,aDl x v hc.1 h1,vV xs vs' hc.2 h2⟩
end
def aLE:Rs->Bool
 | .arr _ _ true _=>true
 | _=>false
def aH2:Rs->Bool
 | .arr _ _ _ _=>true
 | _=>false
inductive Ar where
 | one (x:bR)
 | agg (xs:List bR)
 | ref (xs:List bR)
 | fn (f:FuncId) (caps:List (List bR))
def aR4 (A:Nat->Prop)(w:World)(xs:List bR)(v:Value):Prop:= ∃a,v= .pointer a/\kN A w xs a 0
def aH3 (A:Nat->Prop)(w:World):List (List bR)->List Value->Prop
 | [],vs=>vs= []
 | x::xs,vs=> ∃v vs',vs=v::vs' /\aR4 A w x v/\aH3 A w xs vs'
def aNy (A:Nat->Prop)(w:World):Ar->Value->Prop
 | .one x,v=>iU A w x v
 | .agg xs,v=> ∃vs:Array Value,v= .agg vs/\jR A w xs vs.toList
 | .ref xs,v=>aR4 A w xs v
 | .fn f caps,v=> ∃vs:Array Value,v= .func (.func f) #[] vs/\aH3 A w caps vs.toList
def pU (A:Nat->Prop)(w:World):List Ar->List Value->Prop
 | [],vs=>vs= []
 | x::xs,vs=> ∃v vs',vs=v::vs' /\aNy A w x v/\pU A w xs vs'
def aZE (A:Nat->Prop)(w:World)(rv:AV)(rs:List (Nat × Rs))(e:Ending)(w' :World):Prop:=
 ∃v K φ,e= .returned v/\Below w.heap.size w w' /\(∀b,K b->b<w'.heap.size/\(A b\/w.heap.size<=b))/\(∀b,K b-> ∀h pl,φ h=some pl->b ∉ pl.F)/\
  (∀h r,bF rs h=some r-> ∃pl,φ h=some pl/\Holds K φ w' pl r)/\(∀h,bF rs h=none->φ h=none)/\
  (∀h h' pl pl',h≠h' ->φ h=some pl->φ h' =some pl' -> ∀g∈pl.F,g ∉ pl'.F)/\(∀h pl,φ h=some pl->pl.F.Nodup)/\(∀h pl,φ h=some pl-> ∀g∈pl.F,w.heap.size<=g/\g<w'.heap.size)/\
  aJ K φ w' rv v
def kF (P : Program) (f : FuncId) : Bool := match P.funcs[f]? with | some fn => !(fn.name == "runtime.NumGoroutine") && fn.body.isSome | none => false
def rM (P:Program)(f:FuncId)(args:List Ar)(rv:AV)(rs:List (Nat × Rs)):Prop:=
 kF P f=true/\ ∀(A:Nat->Prop) (w:World) (vs:Array Value),(∀b,A b->b<w.heap.size)->pU A w args vs.toList->Calls P f vs w (aZE A w rv rs)
def AsD (S:St):AV->bR->Prop
 | .p o x,y=>pS S o/\y=x
 | .own h,y=> ∃e k d xs,S.res h=some (.arr e k d xs)/\y= .sl e k xs
 | .nil,y=> ∃e k,y= .sl e k []
 | _,_=>False
def aK4 (S:St):List AV->List bR->Prop
 | [],ys=>ys= []
 | x::xs,ys=> ∃y ys',ys=y::ys' /\AsD S x y/\aK4 S xs ys'
def aLF (S:St):AV->List bR->Prop
 | .rp o xs,ys=>pS S o/\ys=xs
 | .ptr h off,ys=> ∃t cs,S.res h=some (.box t cs)/\aK4 S (cs.drop off) ys/\ys≠[]
 | _,_=>False
def aMj (S:St):List AV->List (List bR)->Prop
 | [],ys=>ys= []
 | x::xs,ys=> ∃y ys',ys=y::ys' /\aLF S x y/\aMj S xs ys'
def aNz (S:St):AV->Ar->Prop
 | .agg cs,y=> ∃ys,y= .agg ys/\aK4 S cs ys
 | .fn f cs,y=> ∃caps,y= .fn f caps/\aMj S cs caps
 | .rp o xs,y=> ∃ys,y= .ref ys/\aLF S (.rp o xs) ys
 | .ptr h off,y=> ∃ys,y= .ref ys/\aLF S (.ptr h off) ys
 | x,y=> ∃d,y= .one d/\AsD S x d
def aH4 (S:St):List AV->List Ar->Prop
 | [],ys=>ys= []
 | x::xs,ys=> ∃y ys',ys=y::ys' /\aNz S x y/\aH4 S xs ys'
mutual
def sP:AV->Bool
 | .p none _=>true
 | .nil=>true
 | .agg cs=>rN cs
 | _=>false
def rN:List AV->Bool
 | []=>true
 | x::xs=>sP x&&rN xs
end
section
variable {K:Nat->Prop} {φ:iW} {A:Nat->Prop} {w0:xU} {N:Nat} {S:St} {a:Act} {w:World} {P:Program}
theorem uW {B:Nat->Prop}{e k:Nat}:iU B w (.sl e k []) (.slice none 0 0):=by
 unfold iU;exact⟨none,0,rfl,aUX _,by unfold maxLen;omega,by unfold gV;trivial⟩
theorem G.rdOwn (hG:G K φ A w0 N S a w){h:Nat}{e k:Nat}{d:Bool}{xs:List (List bR)}{v:Value}(hr:S.res h=some (.arr e k d xs))(hm:aJ K φ w (.own h) v):iU (fun b=>b<w.heap.size) w (.sl e k xs) v:=by
 obtain⟨pl,css,hp,ho,hcl,hck,htop,hrow⟩:=hG.owned hr;unfold aJ at hm;rw[hm pl hp];obtain⟨b,c,e1,h1,h2,h3,h4⟩:=nY ho hck hcl;unfold iU;refine⟨b,c,e1,h1,h2,?_⟩;by_cases hn:0<xs.length
 ·obtain⟨g,rfl,hg⟩:=h3 hn;have hlt:g<w.heap.size:=(hG.ge h pl hp g (aL6 _ (by rw[htop,hg];simp))).2;refine aBh hlt hcl (fun i x c hx hc=>⟨(hrow i x c hx hc).1,jR.mono (fun _ _=>rfl) (fun b hb=>?_) x c (hrow i x c hx hc).2.1⟩) fun i c hc j u hu=>?_
  ·rcases hb with hb | hb
   ·exact(hG.kin b hb).1
   exact(hG.ge h pl hp b (aKS _ hb)).2
  obtain⟨g',e2,_,hcell⟩:=h4 i c hc;simp only[Option.some.injEq,Addr.mk.injEq,and_true] at e2;subst e2;rw[Nat.zero_add];exact hcell j u hu
 have:xs= []:=aKV (by omega);subst this;unfold gV;trivial
theorem aU7 (hG:G K φ A w0 N S a w){x:AV}{y:bR}{v:Value}(h:AsD S x y)(hm:aJ K φ w x v):iU (fun b=>b<w.heap.size) w y v:=by
 unfold AsD at h;split at h
 ·rename_i o x';obtain⟨hl,rfl⟩:=h;cases o with
  | none=>unfold aJ at hm;exact iU.mono (fun _ _=>rfl) (fun b hb=>(hG.kin b hb).1) _ _ hm
  | some g=>
    obtain⟨r,hr⟩:=hl;obtain⟨pl,hp,_⟩:=hG.dom g r hr;unfold aJ at hm;exact iU.mono (fun _ _=>rfl) (fun b hb=>by rcases hb with hb | hb;exact(hG.kin b hb).1;exact(hG.ge g pl hp b (aKS _ hb)).2) _ _ (hm pl hp)
 ·obtain⟨e,k,d,xs,hr,rfl⟩:=h;exact hG.rdOwn hr hm
 ·obtain⟨e,k,rfl⟩:=h;unfold aJ at hm;rw[hm];exact uW
 exact h.elim
theorem aMk (hG:G K φ A w0 N S a w): ∀{xs:List AV} {ys:List bR} {vs:List Value},aK4 S xs ys->aT K φ w xs vs->jR (fun b=>b<w.heap.size) w ys vs
 | [],ys,vs,h,hm=>by unfold aT at hm;rw[hm,show ys= [] from h];exact rfl
 | x::xs,ys,vs,⟨y,ys',e,h1,h2⟩,hm=>by
   subst e;unfold aT at hm;obtain⟨v,vs',rfl,h3,h4⟩:=hm;exact⟨v,vs',rfl,aU7 hG h1 h3,aMk hG h2 h4⟩
theorem xX {K:Nat->Prop}{φ:iW}{w:World}: ∀(n:Nat) {xs:List AV} {vs:List Value},aT K φ w xs vs->aT K φ w (xs.drop n) (vs.drop n)
 | 0,_,_,h=>by simpa using h
 | n+1,[],vs,h=>by unfold aT at h;subst h;simp only[List.drop_nil];unfold aT;rfl
 | n+1,x::xs,vs,h=>by
   unfold aT at h;obtain⟨v,vs',rfl,_,h2⟩:=h;simpa using xX n h2
theorem aH5 (hG:G K φ A w0 N S a w){x:AV}{y:List bR}{v:Value}(h:aLF S x y)(hm:aJ K φ w x v):aR4 (fun b=>b<w.heap.size) w y v:=by
 unfold aLF at h;split at h
 ·rename_i o xs;obtain⟨hl,rfl⟩:=h;cases o with
  | none=>
    unfold aJ at hm;obtain⟨a,e,hr⟩:=hm;exact⟨a,e,kN.mono (fun _ _=>rfl) (fun b hb=>(hG.kin b hb).1) _ _ _ hr⟩
  | some g=>
    obtain⟨r,hr⟩:=hl;obtain⟨pl,hp,_⟩:=hG.dom g r hr;unfold aJ at hm;obtain⟨a,e,hr⟩:=hm pl hp;exact⟨a,e,kN.mono (fun _ _=>rfl) (fun b hb=>by rcases hb with hb | hb;exact(hG.kin b hb).1;exact(hG.ge g pl hp b (aKS _ hb)).2) _ _ _ hr⟩
 ·rename_i h0 off;obtain⟨t,cs,hr,hd,hne⟩:=h;obtain⟨g,vs,hp,hB,h1,hl⟩:=hG.boxed hr;unfold aJ at hm;obtain⟨g',rfl,hg⟩:=hm;have hgg:=hg _ hp;simp only[List.cons.injEq,and_true] at hgg;subst hgg;have hlt:=(hG.ge h0 _ hp g (by simp[Pl.F])).2;refine⟨_,rfl,kN.mk (fun _=>hlt) (aMk hG hd (xX off hl)) fun j u hu=>?_⟩;rw[List.getElem?_drop] at hu;rw[Nat.add_zero,hB.cell (off+j)];simpa using hu
 exact h.elim
theorem aLG (hG:G K φ A w0 N S a w): ∀{xs:List AV} {ys:List (List bR)} {vs:List Value},aMj S xs ys->aT K φ w xs vs->aH3 (fun b=>b<w.heap.size) w ys vs
 | [],ys,vs,h,hm=>by unfold aT at hm;rw[hm,show ys= [] from h];exact rfl
 | x::xs,ys,vs,⟨y,ys',e,h1,h2⟩,hm=>by
   subst e;unfold aT at hm;obtain⟨v,vs',rfl,h3,h4⟩:=hm;exact⟨v,vs',rfl,aH5 hG h1 h3,aLG hG h2 h4⟩
theorem aX9 (hG:G K φ A w0 N S a w){x:AV}{y:Ar}{v:Value}(h:aNz S x y)(hm:aJ K φ w x v):aNy (fun b=>b<w.heap.size) w y v:=by
 unfold aNz at h;split at h
 ·obtain⟨ys,rfl,h⟩:=h;unfold aJ at hm;obtain⟨vs,e,_,hl⟩:=hm;exact⟨vs,e,aMk hG h hl⟩
 ·obtain⟨caps,rfl,h⟩:=h;unfold aJ at hm;obtain⟨vs,e,hl⟩:=hm;exact⟨vs,e,aLG hG h hl⟩
 ·obtain⟨ys,rfl,h⟩:=h;exact aH5 hG h hm
 ·obtain⟨ys,rfl,h⟩:=h;exact aH5 hG h hm
 obtain⟨d,rfl,h⟩:=h;exact aU7 hG h hm
theorem aR5 {x:AV}{y:bR}{v:Value}(hs:sP x=true)(h:AsD S x y)(hm:aJ K φ w x v):iU K w y v:=by
 unfold AsD at h;split at h
 ·rename_i o x';cases o with
  | none=>obtain⟨_,rfl⟩:=h;unfold aJ at hm;exact hm
  | some g=>simp[sP] at hs
 ·simp[sP] at hs
 ·obtain⟨e,k,rfl⟩:=h;unfold aJ at hm;rw[hm];exact uW
 exact h.elim
theorem aOA: ∀{xs:List AV} {ys:List bR} {vs:List Value},rN xs=true->aK4 S xs ys->aT K φ w xs vs->jR K w ys vs
 | [],ys,vs,_,h,hm=>by unfold aT at hm;rw[hm,show ys= [] from h];exact rfl
 | x::xs,ys,vs,hs,⟨y,ys',e,h1,h2⟩,hm=>by
   subst e;unfold rN at hs;simp only[aCA] at hs;unfold aT at hm;obtain⟨v,vs',rfl,h3,h4⟩:=hm;exact⟨v,vs',rfl,aR5 hs.1 h1 h3,aOA hs.2 h2 h4⟩
theorem aU8 {x:AV}{y:Ar}{v:Value}(hs:sP x=true)(h:aNz S x y)(hm:aJ K φ w x v):aNy K w y v:=by
 unfold aNz at h;split at h
 ·obtain⟨ys,rfl,h⟩:=h;unfold aJ at hm;unfold sP at hs;obtain⟨vs,e,_,hl⟩:=hm;exact⟨vs,e,aOA hs h hl⟩
 ·simp[sP] at hs
 ·simp[sP] at hs
 ·simp[sP] at hs
 obtain⟨d,rfl,h⟩:=h;exact aR5 hs h hm
theorem uX (hb:Nat): ∀(rs:List (Nat × Rs)) (h:Nat),bF (rs.map fun q=>(hb+q.1,q.2)) h=if hb<=h then bF rs (h - hb) else none
 | [],h=>by simp[bF]
 | (k,r)::rs,h=>by
   simp only[aLz,bF,uX hb rs h];by_cases h1:hb<=h
   ·by_cases h2:h - hb=k
    ·have:h=hb+k:=by omega
     simp[h1,h2,this]
    have:h≠hb+k:=by omega
    simp[h1,h2,this]
   have:h≠hb+k:=by omega
   simp[h1,this]
theorem Holds.arrPhi {φ' :iW}{pl:Pl}{r:Rs}(ha:aH2 r=true)(h:Holds K φ w pl r):Holds K φ' w pl r:=by
 cases r with
 | box t cs=>simp[aH2] at ha
 | hole e k xs i j h=>simp[aH2] at ha
 | arr e k d xs=>cases d<;>exact h
theorem Holds.deepK {K' :Nat->Prop}{pl:Pl}{r:Rs}(ha:aLE r=true)(h:Holds K φ w pl r):Holds K' φ w pl r:=by
 cases r with
 | box t cs=>simp[aLE] at ha
 | hole e k xs i j h=>simp[aLE] at ha
 | arr e k d xs=>
   cases d with
   | true=>exact h
   | false=>simp[aLE] at ha
theorem dA: ∀{rs:List (Nat × Rs)} {h:Nat} {r:Rs},bF rs h=some r->(h,r)∈rs
 | [],_,_,e=>by simp[bF] at e
 | (k,r')::rs,h,r,e=>by
   simp only[bF] at e;split at e
   ·injection e with e;subst_vars;simp
   exact aVm _ (dA e)
theorem aLH (hG:G K φ A w0 N S a w){dst:Option Nat}{A' K' :Nat->Prop}{rv:AV}{rs:List (Nat × Rs)}{hb:Nat}{w' :World}{v:Value}{Kr:Nat->Prop}{φr:iW}(hd: ∀d,dst=some d->d<N)
 (hbel:Below w.heap.size w w') (hkout: ∀b,Kr b-> ∀h pl,φr h=some pl->b ∉ pl.F)
 (hdom: ∀h r,bF rs h=some r-> ∃pl,φr h=some pl/\Holds Kr φr w' pl r) (hnon: ∀h,bF rs h=none->φr h=none)
 (hdisj: ∀h h' pl pl',h≠h' ->φr h=some pl->φr h' =some pl' -> ∀g∈pl.F,g ∉ pl'.F) (hnd: ∀h pl,φr h=some pl->pl.F.Nodup) (hge: ∀h pl,φr h=some pl-> ∀g∈pl.F,w.heap.size<=g/\g<w'.heap.size)
 (hm:aJ K' φr w' rv v) (hH: ∀h r pl,bF rs h=some r->Holds Kr φr w' pl r->Holds K' φr w' pl r)
 (hK: ∀b,K b->K' b) (hK' : ∀b,K' b->K b\/(Kr b/\w.heap.size<=b/\b<w'.heap.size)) (ha: ∀q∈rs,aH2 q.2=true) (hf: ∀q∈rs,iI S (hb+q.1)) (hmt: ∀h∈cW rv,∃r,bF rs h=some r):
 ∃φ',G K' φ' A w0 N (S.apply dst ⟨mP (hb+ ·) rv,[],rs.map fun q=>(hb+q.1,q.2)⟩) (a.put dst v) w' /\Tr K φ w (· ∈([]:List Nat)) (bF (rs.map fun q=>(hb+q.1,q.2))) K' φ' w' :=by
 have hfs: ∀h r,bF (rs.map fun q=>(hb+q.1,q.2)) h=some r->hb<=h/\bF rs (h - hb)=some r:=fun h r e=>by
  rw[uX] at e;split at e
  ·exact⟨by assumption,e⟩
  cases e
 have hφs: ∀h pl,(if hb<=h then φr (h - hb) else none)=some pl->hb<=h/\φr (h - hb)=some pl:=fun h pl e=>by
  split at e
  ·exact⟨by assumption,e⟩
  cases e
 have hfresh: ∀h pl,(if hb<=h then φr (h - hb) else none)=some pl->iI S h:=fun h pl e=>by
  obtain⟨h1,h2⟩:=hφs h pl e;cases hc:bF rs (h - hb) with
  | none=>rw[hnon _ hc] at h2;cases h2
  | some r=>
    have:=hf _ (dA hc);simp only at this
    rwa [show hb+(h - hb)=h by omega] at this
 have hstep:=hG.step (C:=(· ∈([]:List Nat))) (φr:=fun h=>if hb<=h then φr (h - hb) else none) (ρ:=bF (rs.map fun q=>(hb+q.1,q.2))) (K' :=K') (w' :=w')
  (Chg.of_below hbel _)
  (fun h pl e=>⟨hnd _ pl (hφs h pl e).2,fun g hg=>⟨(hge _ pl (hφs h pl e).2 g hg).2,.inl (hge _ pl (hφs h pl e).2 g hg).1⟩⟩)
  (fun h h' pl pl' hne e e' =>hdisj _ _ pl pl' (fun e2=>hne (by have:=(hφs h pl e).1;have:=(hφs h' pl' e').1;omega)) (hφs h pl e).2 (hφs h' pl' e').2)
  (fun h r e=>by
   obtain⟨h1,h2⟩:=hfs h r e;obtain⟨pl,hp,hh⟩:=hdom _ r h2;exact⟨pl,by simp[h1,hp],Holds.arrPhi (ha _ (dA h2)) (hH _ r pl h2 hh)⟩)
  (fun h e=>by
   rw[uX] at e;split at e
   ·rename_i h1;simp[h1,hnon _ e]
   rename_i h1;simp[h1])
  hK
  (fun b hb' =>by
   rcases hK' b hb' with h1 | ⟨h1,h2,h3⟩
   ·exact .inl h1
   exact .inr ⟨h3,.inl h2,fun h pl e=>hkout b h1 _ pl (hφs h pl e).2⟩)
  (fun t h pl hmm e=>absurd hmm ((hfresh h pl e).1 t))
  (fun h' r h pl _ hr hmm e=>absurd hmm ((hfresh h pl e).2.1 h' r hr))
 have hstep:=hstep (fun h pl e=> .inr (hfresh h pl e).2.2.2);refine⟨_,hstep.put hd (aJ.map (φ:=φr) rv v (fun h pl hh e=>?_) hm),Chg.of_below hbel _,hK,fun b hb' =>?_,fun h pl e=>?_,fun h pl _ e g hg=>hbel.block g (hG.ge h pl e g (aKS _ hg)).2⟩
 ·rcases cE e with e | ⟨e1,_,e⟩
  ·have:=(hφs _ pl e).2
   rwa [show hb+h - hb=h by omega] at this
  obtain⟨r,hr⟩:=hmt h hh;obtain⟨pl',hp',_⟩:=hdom h r hr;rw[if_pos (by omega),show hb+h - hb=h by omega,hp'] at e1;cases e1
 ·rcases hK' b hb' with h1 | ⟨h1,h2,h3⟩
  ·exact .inl h1
  exact .inr (.inl h2)
 rcases cE e with e | ⟨_,_,e⟩
 ·refine .inr ⟨hG.non h (hfresh h pl e).2.2.1,?_,fun g hg=> .inl (hge _ pl (hφs h pl e).2 g hg).1⟩;obtain⟨h1,h2⟩:=hφs h pl e;rw[uX,if_pos h1];cases hc:bF rs (h - hb) with
  | none=>rw[hnon _ hc] at h2;cases h2
  | some r=>exact⟨r,rfl⟩
 exact .inl e
end
mutual
theorem aJ.unmap {K:Nat->Prop}{φ φ' :iW}{w:World}{g:Nat->Nat}: ∀(x:AV) (v:Value),(∀h pl,h∈cW x->φ' h=some pl->φ (g h)=some pl)->aJ K φ w (mP g x) v->aJ K φ' w x v
 | .p none x,v,_,h=>by unfold mP at h;unfold aJ at*;exact h
 | .p (some k) x,v,hm,h=>by unfold mP at h;unfold aJ at*;exact fun pl hp=>h pl (hm k pl (by simp[cW]) hp)
 | .own k,v,hm,h=>by unfold mP at h;unfold aJ at*;exact fun pl hp=>h pl (hm k pl (by simp[cW]) hp)
 | .ptr k o,v,hm,h=>by unfold mP at h;unfold aJ at*;obtain⟨g',e,q⟩:=h;exact⟨g',e,fun pl hp=>q pl (hm k pl (by simp[cW]) hp)⟩
 | .ep k _ _ _,v,hm,h=>by unfold mP at h;unfold aJ at*;exact fun pl hp=>h pl (hm k pl (by simp[cW]) hp)
 | .rp none x,v,_,h=>by unfold mP at h;unfold aJ at*;exact h
 | .rp (some k) x,v,hm,h=>by unfold mP at h;unfold aJ at*;exact fun pl hp=>h pl (hm k pl (by simp[cW]) hp)
 | .agg cs,v,hm,h=>by
   unfold mP at h;unfold aJ at*;obtain⟨vs,e,h1,h2⟩:=h;exact⟨vs,e,h1,aT.unmap cs _ (fun k pl hk=>hm k pl (by simpa [cW] using hk)) h2⟩
 | .tup cs,v,hm,h=>by
   unfold mP at h;unfold aJ at*;obtain⟨vs,e,h2⟩:=h;exact⟨vs,e,aT.unmap cs _ (fun k pl hk=>hm k pl (by simpa [cW] using hk)) h2⟩
 | .fn f cs,v,hm,h=>by
   unfold mP at h;unfold aJ at*;obtain⟨vs,e,h2⟩:=h;exact⟨vs,e,aT.unmap cs _ (fun k pl hk=>hm k pl (by simpa [cW] using hk)) h2⟩
 | .nil,v,_,h=>by unfold mP at h;unfold aJ at*;exact h
 | .bsl k n,v,hm,h=>by unfold mP at h;unfold aJ at*;exact fun pl hp=>h pl (hm k pl (by simp[cW]) hp)
 | .no,v,_,_=>by unfold aJ;trivial
theorem aT.unmap {K:Nat->Prop}{φ φ' :iW}{w:World}{g:Nat->Nat}: ∀(xs:List AV) (vs:List Value),(∀h pl,h∈gH xs->φ' h=some pl->φ (g h)=some pl)->aT K φ w (aAQ g xs) vs->aT K φ' w xs vs
 | [],vs,_,h=>by unfold aAQ at h;unfold aT at*;exact h
 | x::xs,vs,hm,h=>by
   unfold aAQ at h;unfold aT at*;obtain⟨v,vs',e,h1,h2⟩:=h;exact⟨v,vs',e,aJ.unmap x v (fun k pl hk=>hm k pl (by simp[gH,hk])) h1,aT.unmap xs vs' (fun k pl hk=>hm k pl (by simp[gH,hk])) h2⟩
end
def aK5 (g:Nat->Nat):Rs->Rs
 | .box t cs=> .box t (aAQ g cs)
 | .arr e k d xs=> .arr e k d xs
 | .hole e k xs i j h=> .hole e k xs i j (g h)
def wH (A:Nat->Prop)(w0:xU)(N:Nat)(S:St)(a:Act)(w:World):Prop:= ∃K φ,G K φ A w0 N S a w
def VC (P:Program)(N:Nat)(c:Code)(S:St)(Q:Exit->St->Prop):Prop:=
 ∀A w0 a w,wH A w0 N S a w->c.wp P (fun e a' w' => ∃S',wH A w0 N S' a' w' /\Q e S') a w
def aZF (Kn:St->Prop)(Q:Exit->St->Prop):Exit->St->Prop
 | .normal,S=>Kn S
 | e,S=>Q e S
def aQI (id:Nat)(Q:Exit->St->Prop):Exit->St->Prop
 | .exit id',S=>if id' =id then Q .normal S else Q (.exit id') S
 | e,S=>Q e S
section
variable {P:Program} {N:Nat} {S:St} {Q:Exit->St->Prop}
theorem aXa (h:Q .normal S):VC P N .skip S Q:=fun A w0 a w hG=>wp_skip ⟨S,hG,h⟩
theorem aZX (h:Q .ret S):VC P N .ret S Q:=fun A w0 a w hG=>wp_ret ⟨S,hG,h⟩
theorem aXb {id:Nat}(h:Q (.exit id) S):VC P N (.exit id) S Q:=fun A w0 a w hG=>wp_exit ⟨S,hG,h⟩
theorem aMl {c:Code}{Q' :Exit->St->Prop}(h:VC P N c S Q)(hq: ∀e S,Q e S->Q' e S):VC P N c S Q' :=fun A w0 a w hG=>Code.wp_mono (fun e a w ⟨S',h1,h2⟩=>⟨S',h1,hq e S' h2⟩) (h A w0 a w hG)
theorem aZY {x y:Code}(h: ∀Kn:St->Prop,(∀S,VC P N y S Q->Kn S)->VC P N x S (aZF Kn Q)):VC P N (.seq x y) S Q:=fun A w0 a w hG=>by
 refine wp_seq (Code.wp_mono (fun e a w ⟨S',h1,h2⟩=>?_) (h (fun S=>VC P N y S Q) (fun _ h=>h) A w0 a w hG));cases e with
 | normal=>exact h2 A w0 a w h1
 | _=>exact⟨S',h1,h2⟩
theorem aXc {c:Operand}{x y:Code}{t:Bool}(hc:S.ev c= .p none (.bool t))(hx:t=true->VC P N x S Q)(hy:t=false->VC P N y S Q):VC P N (.cond c x y) S Q:=fun A w0 a w hG=>by
 obtain⟨K,φ,hG'⟩:=hG;have e:a.eval c= .bool t:=kO (x:=S.ev c) (by rw[hc];rfl) (hG'.ev c);exact wp_cond_split e (fun ht=>hx ht A w0 a w ⟨K,φ,hG'⟩) (fun ht=>hy ht A w0 a w ⟨K,φ,hG'⟩)
theorem aU9 {id:Nat}{c:Code}(h:VC P N c S (aQI id Q)):VC P N (.block id c) S Q:=fun A w0 a w hG=>by
 refine wp_block (Code.wp_mono (fun e a w ⟨S',h1,h2⟩=>?_) (h A w0 a w hG));cases e with
 | exit id' =>
   simp only[aQI,Exit.inBlock] at*;split at h2
   ·rename_i hid;rw[if_pos hid];exact⟨S',h1,h2⟩
   rename_i hid;rw[if_neg hid];exact⟨S',h1,h2⟩
 | _=>exact⟨S',h1,h2⟩
theorem aC6 (p:Nat->Prop)(h: ∃n,p n): ∃n,p n/\ ∀m,p m->n<=m:=by
 obtain⟨n,hn⟩:=h
 induction n using Nat.strongRecOn with
 | _ n ih=>
   by_cases hm: ∃m,m<n/\p m
   ·obtain⟨m,h1,h2⟩:=hm;exact ih m h1 h2
   exact⟨n,hn,fun m h=>Nat.le_of_not_lt fun h' =>hm ⟨m,h',h⟩⟩
def gvA:AV->Option (Option Bool)
 | .p none (.bool b)=>some (some b)
 | .tup []=>some none
 | _=>none
theorem aUb {x:AV}{b:Bool}(h:x= .p none (.bool b)):gvA x=some (some b):=by rw[h];rfl
theorem aF8 (K:Nat->Prop)(φ:iW)(w:World):aJ K φ w (.tup []) undef:=by
 unfold aJ;exact⟨#[],rfl,by unfold aT;rfl⟩
def Ops (P:Program)(N:Nat)(all:Array Oper):List Oper->St->(St->Prop)->Prop
 | [],S,K=>K S
 | o::rest,S,K=>(∀d,o.dst=some d->d<N)/\match o.guard with
   | none=> ∃e,vU P o S e/\Ops P N all rest (S.apply o.dst e) K
   | some (j,want)=> ∃d b,(all[j]?).bind (·.dst)=some d/\d<N/\gvA (S.slots d)=some b/\(b=some want-> ∃e,vU P o S e/\Ops P N all rest (S.apply o.dst e) K)/\(b≠some want->Ops P N all rest (S.put o.dst (.tup [])) K)
theorem aLI {A:Nat->Prop}{w0:xU}{S:St}{a:Act}{w:World}{K:Nat->Prop}{φ:iW}{all:Array Oper}{o:Oper}{j d:Nat}{want:Bool}{b:Option Bool}(hG:G K φ A w0 N S a w)(hg:o.guard=some (j,want))(hj:(all[j]?).bind (·.dst)=some d)(hd:d<N)(hs:gvA (S.slots d)=some b):
 Region.wanted o (yielded all a.tmps)=(b==some want):=by
 have h1:=hG.slots d;have hlt:d<a.tmps.size:=by rw[hG.size];exact hd
 rw[Array.getD_eq_getD_getElem?,Array.getElem?_eq_getElem hlt] at h1;unfold gvA at hs;split at hs
 ·rename_i b' hx;rw[hx] at h1;unfold aJ iU at h1;have h2:a.tmps[d]? =some (.bool b'):=by rw[Array.getElem?_eq_getElem hlt];simpa using h1
  injection hs with hs
  subst hs;unfold Region.wanted;simp only[hg,yielded,hj,Option.bind_some,h2]
 ·rename_i hx;rw[hx] at h1;unfold aJ at h1;obtain⟨vs,hv,_⟩:=h1;have h2:a.tmps[d]? =some (.tuple vs):=by rw[Array.getElem?_eq_getElem hlt];simpa using hv
  injection hs with hs
  subst hs;unfold Region.wanted;simp only[hg,yielded,hj,Option.bind_some,h2]
 cases hs
theorem aEq {all:Array Oper}{Qw:Exit->Act->World->Prop}{A:Nat->Prop}{w0:xU}{Kn:St->Prop}(hQ: ∀S a w,Kn S->wH A w0 N S a w->Qw .normal a w): ∀(l:List Oper) (S:St) (a:Act) (w:World),Ops P N all l S Kn->wH A w0 N S a w->wpList P all Qw l a w
 | [],S,a,w,h,hG=>hQ S a w h hG
 | o::rest,S,a,w,h,⟨K,φ,hG⟩=>by
   unfold Ops at h;obtain⟨hd,h⟩:=h
   have step: ∀e,vU P o S e->Ops P N all rest (S.apply o.dst e) Kn->o.wp P a w (wpList P all Qw rest) Qw:=fun e hs ho=>
    Oper.wp_mono (fun a' w' ⟨K',φ',v,_,hG'⟩=>aEq hQ rest _ a' w' ho ⟨K',φ',hG'⟩) (hs K φ A w0 N a w Qw hd hG)
   unfold wpList;split at h
   ·rename_i hg;obtain⟨e,hs,ho⟩:=h;rw[if_pos (by simp[Region.wanted,hg])];exact .inl (step e hs ho)
   rename_i j want hg;obtain⟨d,b,hj,hdN,hsl,h1,h2⟩:=h;rw[aLI hG hg hj hdN hsl];by_cases hb:b=some want
   ·obtain⟨e,hs,ho⟩:=h1 hb;rw[if_pos (by simp[hb])];exact .inl (step e hs ho)
   rw[if_neg (by simp[hb])];exact aEq hQ rest _ _ w (h2 hb) ⟨K,φ,hG.put hd (aF8 _ _ _)⟩
theorem aS9 {id:Nat}{ops:Array Oper}(h:Ops P N ops ops.toList S (Q .normal)):VC P N (.region id ops false) S Q:=fun A w0 a w hG=>
 wp_region_list (aEq (fun S a w hq hG=>⟨S,hG,hq⟩) ops.toList S a w h hG)
def aXd (P:Program)(S:St):ResultVar->AV->Prop
 | .tmp t,x=>x=S.slots t
 | .cell t ty,x=> ∃h tb cs ag n bt z,S.slots t= .ptr h 0/\S.res h=some (.box tb cs)/\gU P ty=some (ag,n,bt,z)/\((ag=true/\n=cs.length/\x= .agg cs)\/(ag=false/\cs[0]? =some x))
def aUd (P:Program)(S:St):List ResultVar->List AV->Prop
 | [],xs=>xs= []
 | r::rs,xs=> ∃x xs',xs=x::xs' /\aXd P S r x/\aUd P S rs xs'
def aLJ:List AV->AV
 | [x]=>x
 | xs=> .tup xs
def aH6 (tmps:Array Value)(r:ResultVar):Sem Value:=match r with | .tmp t=>pure (tmps.getD t undef) | .cell t ty=>do loadVar ty (<-asAddr (tmps.getD t undef))
theorem aQJ {A:Nat->Prop}{w0:xU}{a:Act}{w:World}{K:Nat->Prop}{φ:iW}(hG:G K φ A w0 N S a w){r:ResultVar}{x:AV}(h:aXd P S r x):
 ∃v,(aH6 a.tmps r).run P w= .ok v w/\aJ K φ w x v:=by
 cases r with
 | tmp t=>
   simp only[aXd] at h;subst h;exact⟨_,rfl,hG.slots t⟩
 | cell t ty=>
   simp only[aXd] at h;obtain⟨k,tb,cs,ag,n,bt,z,h1,h2,h3,h4⟩:=h;obtain⟨g,vs,hp,hB,hone,hl⟩:=hG.boxed h2;have h5:=hG.slots t;rw[h1] at h5;unfold aJ at h5;obtain⟨g',he,hq'⟩:=h5;have hg' :=hq' _ hp;simp only[List.cons.injEq,and_true] at hg';subst hg';have hlen:=lR hl;simp only[bA8] at hlen;rcases h4 with ⟨rfl,rfl,rfl⟩ | ⟨rfl,hx⟩
   ·have:=uU h3 w g 0 vs.toList (by simpa using hlen) (fun j v hv=>by rw[hB.cell,<-Array.getElem?_toList,Nat.zero_add];exact hv);refine⟨.agg vs,?_,by unfold aJ;exact⟨vs,rfl,hone,hl⟩⟩;simp only[aH6,he,asAddr,Sem.run_bind,Sem.run_pure,Result.andThen_ok];simpa [Instr.loadAt,Instr.sureAddr] using this
   obtain⟨v,hv,hm⟩:=pX hl hx;have:=rJ h3 w g 0 v (by rw[hB.cell,<-Array.getElem?_toList];exact hv);refine⟨v,?_,hm⟩;simp only[aH6,he,asAddr,Sem.run_bind,Sem.run_pure,Result.andThen_ok];simpa [Instr.loadAt,Instr.sureAddr] using this
theorem aH7 {A:Nat->Prop}{w0:xU}{a:Act}{w:World}{K:Nat->Prop}{φ:iW}(hG:G K φ A w0 N S a w): ∀{rs:List ResultVar} {xs:List AV},aUd P S rs xs->
 ∃vs:List Value,(rs.mapM (aH6 a.tmps)).run P w= .ok vs w/\aT K φ w xs vs
 | [],xs,h=>⟨[],by simp,by rw[show xs= [] from h];unfold aT;rfl⟩
 | r::rs,xs,⟨x,xs',e,h1,h2⟩=>by
   subst e;obtain⟨v,q1,q2⟩:=aQJ hG h1;obtain⟨vs,q3,q4⟩:=aH7 hG h2;refine⟨v::vs,?_,by unfold aT;exact⟨v,vs,rfl,q2,q4⟩⟩;simp only[List.mapM_cons,Sem.run_bind];rw[q1];simp only[Result.andThen_ok,Sem.run_bind];rw[q3];rfl
theorem aCO {A:Nat->Prop}{w0:xU}{a:Act}{w:World}{K:Nat->Prop}{φ:iW}{fn:Func}{xs:List AV}(hG:G K φ A w0 N S a w)(h:aUd P S fn.results.toList xs): ∃v,(results fn a.tmps).run P w= .ok v w/\aJ K φ w (aLJ xs) v:=by
 obtain⟨vs,h1,h2⟩:=aH7 hG h;have hl:=lR h2
 have hrun:(results fn a.tmps).run P w= .ok (if h:vs.toArray.size=1 then vs.toArray[0] else .tuple vs.toArray) w:=by
  have e:results fn a.tmps=(do let vs <-fn.results.mapM (aH6 a.tmps);pure (if h:vs.size=1 then vs[0] else .tuple vs)):=by
   unfold results
   congr 1
  rw[e,Array.mapM_eq_mapM_toList];simp only[Sem.run_bind,Sem.run_map,h1];rfl
 refine⟨_,hrun,?_⟩;rcases xs with _ | ⟨x,_ | ⟨y,xs⟩⟩
 ·have:vs= []:=aKV hl;subst this;simp only[aLJ];unfold aJ;exact⟨#[],rfl,h2⟩
 ·unfold aT at h2;obtain⟨v,vs',rfl,h3,h4⟩:=h2;unfold aT at h4;subst h4;exact h3
 rw[dif_neg (by simp at hl ⊢;omega)];simp only[aLJ];unfold aJ;exact⟨_,rfl,h2⟩
def aOB:Ar->AV
 | .one x=> .p none x
 | .agg xs=> .agg (xs.map (AV.p none))
 | .ref xs=> .rp none xs
 | .fn f caps=> .fn f (caps.map (AV.rp none))
def S0 (args:List Ar):St:=⟨fun t=>match args[t]? with | some x=>aOB x | none=> .no,fun _=>none⟩
theorem aOC {A:Nat->Prop}{w:World}: ∀{xs:List Ar} {vs:List Value} {i:Nat} {x:Ar},pU A w xs vs->xs[i]? =some x-> ∃v,vs[i]? =some v/\aNy A w x v
 | [],_,_,_,_,h=>by simp at h
 | y::xs,_,0,x,⟨v,vs',e,h1,_⟩,h=>by subst e;simp at h;subst h;exact⟨v,rfl,h1⟩
 | y::xs,_,i+1,x,⟨v,vs',e,_,h2⟩,h=>by
   subst e;simp at h;obtain⟨u,hu,hr⟩:=aOC h2 h;exact⟨u,by simpa using hu,hr⟩
theorem aLK {A:Nat->Prop}{w:World}: ∀{xs:List Ar} {vs:List Value},pU A w xs vs->vs.length=xs.length
 | [],_,h=>by rw[show _= [] from h];rfl
 | y::xs,_,⟨v,vs',e,_,h2⟩=>by subst e;simp[aLK h2]
theorem aH8 {A:Nat->Prop}{w:World}{φ:iW}: ∀{xs:List (List bR)} {vs:List Value},aH3 A w xs vs->aT A φ w (xs.map (AV.rp none)) vs
 | [],vs,h=>by unfold aH3 at h;subst h;unfold List.map aT;rfl
 | x::xs,_,⟨v,vs',e,h1,h2⟩=>by
   subst e;rw[aLz];unfold aT;refine⟨v,vs',rfl,?_,aH8 h2⟩;unfold aJ;exact h1
theorem aQK {A:Nat->Prop}{w:World}{φ:iW}{x:Ar}{v:Value}(h:aNy A w x v):aJ A φ w (aOB x) v:=by
 cases x with
 | one x=>simp only[aOB];unfold aJ;exact h
 | ref xs=>simp only[aOB];unfold aJ;exact h
 | fn f caps=>
   obtain⟨vs,rfl,hl⟩:=h;simp only[aOB];unfold aJ;exact⟨vs,rfl,aH8 hl⟩
 | agg xs=>
   obtain⟨vs,rfl,hl⟩:=h;simp only[aOB];obtain⟨h1,h2⟩:=nE (K:=A) (φ:=φ) (w:=w) (o:=none) (fun x v=>by unfold aJ;exact Iff.rfl) hl
   have e2:xs.map (pOf none)=xs.map (AV.p none):=by
    apply List.map_congr_left;intro y _;unfold pOf;split<;>rfl
   rw[e2] at h1;unfold aJ;exact⟨vs,rfl,h2,h1⟩
def Fin (P:Program)(fn:Func)(rv:AV)(rs:List (Nat × Rs))(e:Exit)(S:St):Prop:=
 (e= .normal\/e= .ret)/\ ∃xs g,aUd P S fn.results.toList xs/\aLJ xs=mP g rv/\(∀h r,bF rs h=some r->S.res (g h)=some r/\aH2 r=true)/\(∀h h' r r',bF rs h=some r->bF rs h' =some r' ->g h=g h' ->h=h')
theorem aUe {w w' :World}(h:Chg (fun _=>False) w w'):Below w.heap.size w w' :=⟨h.os,h.tape,h.output,h.size,fun k hk=>h.block k hk id⟩
theorem aR6 {w:World}{φ0:iW}{hd: ∀h pl,φ0 h=some pl->h<100}{b:Nat}(h:xU.mine ⟨w,fun _=>False,φ0,hd⟩ b):w.heap.size<=b:=h.elim id False.elim
end
def cF:List (Nat × AV)->Nat->AV
 | [],_=> .no
 | (k,v)::l,t=>if t=k then v else cF l t
def bH:List (Nat × Option Rs)->Nat->Option Rs
 | [],_=>none
 | (k,r)::l,h=>if h=k then r else bH l h
def mk (sl:List (Nat × AV))(rs:List (Nat × Option Rs)):St:=⟨cF sl,bH rs⟩
theorem aUf (sl:List (Nat × AV))(rs:List (Nat × Option Rs))(d:Nat)(v:AV):(mk sl rs).put (some d) v=mk ((d,v)::sl) rs:=by
 simp only[St.put,mk]
 congr 1
def lL (del:List Nat):List (Nat × Option Rs):=del.map fun h=>(h,none)
def pP (new:List (Nat × Rs)):List (Nat × Option Rs):=new.map fun q=>(q.1,some q.2)
theorem aH9 (del:List Nat)(rs:List (Nat × Option Rs))(h:Nat):bH (lL del++rs) h=if h∈del then none else bH rs h:=by
 induction del with
 | nil=>simp[lL]
 | cons k del ih=>
   simp only[lL,aLz,List.cons_append,bH] at*;rw[ih];by_cases e:h=k<;>simp[e]
theorem aEr (new:List (Nat × Rs))(rs:List (Nat × Option Rs))(h:Nat):bH (pP new++rs) h=match bF new h with | some r=>some r | none=>bH rs h:=by
 induction new with
 | nil=>simp[pP,bF]
 | cons q new ih=>
   obtain⟨k,r⟩:=q;simp only[pP,aLz,List.cons_append,bH,bF] at*;rw[ih];by_cases e:h=k<;>simp[e]
theorem aOD (sl:List (Nat × AV))(rs:List (Nat × Option Rs))(d:Nat)(v:AV)(del:List Nat)(new:List (Nat × Rs)):(mk sl rs).apply (some d) ⟨v,del,new⟩=mk ((d,v)::sl) (pP new++(lL del++rs)):=by
 unfold St.apply;rw[<-aUf]
 congr 1
 simp only[mk]
 congr 1
 funext h;rw[aEr,aH9];simp only[gF];cases bF new h<;>rfl
theorem aSa (sl:List (Nat × AV))(rs:List (Nat × Option Rs))(v:AV)(del:List Nat)(new:List (Nat × Rs)):(mk sl rs).apply none ⟨v,del,new⟩=mk sl (pP new++(lL del++rs)):=by
 unfold St.apply;simp only[St.put,mk]
 congr 1
 funext h;rw[aEr,aH9];simp only[gF];cases bF new h<;>rfl
section
variable {P:Program} {N:Nat} {all:Array Oper} {rest:List Oper} {sl:List (Nat × AV)} {rs:List (Nat × Option Rs)} {K:St->Prop} {ty:TypeId} {pos:String} {aft:Array Edge} {d:Nat} {gd:Option (Nat × Bool)}
def dT (sl:List (Nat × AV)):Operand->AV
 | .tmp t=>cF sl t
 | .const v=>avC v
 | .func f=> .fn f []
 | .global _=> .no
theorem cQ (sl:List (Nat × AV))(rs:List (Nat × Option Rs))(x:Operand):(mk sl rs).ev x=dT sl x:=by cases x<;>rfl
theorem uY {c x y:Operand}{t:Bool}{v:AV}(hc:dT sl c= .p none (.bool t))(hv:(if t then dT sl x else dT sl y)=v):bL P ⟨some d,.pick c x y,ty,pos,aft,gd⟩ (mk sl rs) ⟨v,[],[]⟩:=
 by rw[<-hv,<-cQ sl rs,<-cQ sl rs];exact aQE rfl (by rw[cQ];exact hc)
theorem aQL {x:Operand}{i:Nat}{vs:List AV}{v:AV}(hx:dT sl x= .tup vs)(hv:vs[i]? =some v):bL P ⟨some d,.extract x i,ty,pos,aft,gd⟩ (mk sl rs) ⟨v,[],[]⟩:=
 aKZ rfl (by rw[cQ];exact hx) hv
theorem aQM {x:Operand}{t e:TypeId}{n:Nat}(ht:P.underlying t=some (.slice e))(hn:aR3 (mk sl rs) (dT sl x) n):bL P ⟨some d,.call { callee:= .builtin .len,args:= #[x],argTypes:= #[t] },ty,pos,aft,gd⟩ (mk sl rs) ⟨.p none (.int .i64 n),[],[]⟩:=
 aS3 rfl ht (by rw[cQ];exact hn)
theorem mM {o:Op}{x:bR}{v:Value}(hx:x.val? =some v)(hr: ∀(e:Operand->Value) (w:World),(∀y u,aU4 (dT sl y)=some u->e y=u)->(execOp e ⟨some d,o,ty,pos,aft,gd⟩).run P w= .ok (.value v) w):bL P ⟨some d,o,ty,pos,aft,gd⟩ (mk sl rs) ⟨.p none x,[],[]⟩:=
 aQD hx fun e w he=>hr e w fun y u hu=>he y u (by rw[cQ];exact hu)
theorem vW {x:AV}{y:bR}{v:Value}(h:x= .p none y)(hv:y.val? =some v):aU4 x=some v:=by rw[h];exact hv
section
variable {x y:Operand} {t t' :TypeId} {k:IntKind} {m n:Int}
theorem fW {op:BinOp}{r:bR}{v:Value}(hx:dT sl x= .p none (.int k m))(hy:dT sl y= .p none (.int k n))(hv:r.val? =some v)(hr: ∀w,(binOp op t (.int k m) (.int k n)).run P w= .ok v w):bL P ⟨some d,.binOp op t x y t',ty,pos,aft,gd⟩ (mk sl rs) ⟨.p none r,[],[]⟩:=
 mM hv (fun e w he=>by
  have h1:=he x _ (vW hx rfl);have h2:=he y _ (vW hy rfl)
  have hg:(eqGuard op t x y (.int k m) (.int k n)).run P w= .ok () w:=by
   unfold eqGuard;cases op<;>rfl
  simp only[execOp,h1,h2,Sem.run_bind,hg,Result.andThen_ok,hr];rfl)
theorem aZZ (hx:dT sl x= .p none (.int k m))(hy:dT sl y= .p none (.int k n)):bL P ⟨some d,.binOp .lss t x y t',ty,pos,aft,gd⟩ (mk sl rs) ⟨.p none (.bool (decide (m<n))),[],[]⟩:=
 fW hx hy rfl (fun w=>by simp[binOp,Op.intCmp])
theorem aZ0 (hx:dT sl x= .p none (.int k m))(hy:dT sl y= .p none (.int k n)):bL P ⟨some d,.binOp .leq t x y t',ty,pos,aft,gd⟩ (mk sl rs) ⟨.p none (.bool (decide (m<=n))),[],[]⟩:=
 fW hx hy rfl (fun w=>by simp[binOp,Op.intCmp])
theorem aZ1 (hx:dT sl x= .p none (.int k m))(hy:dT sl y= .p none (.int k n)):bL P ⟨some d,.binOp .gtr t x y t',ty,pos,aft,gd⟩ (mk sl rs) ⟨.p none (.bool (decide (n<m))),[],[]⟩:=
 fW hx hy rfl (fun w=>by simp[binOp,Op.intCmp])
theorem aZ2 (hx:dT sl x= .p none (.int k m))(hy:dT sl y= .p none (.int k n)):bL P ⟨some d,.binOp .geq t x y t',ty,pos,aft,gd⟩ (mk sl rs) ⟨.p none (.bool (decide (n<=m))),[],[]⟩:=
 fW hx hy rfl (fun w=>by simp[binOp,Op.intCmp])
theorem aZ3 (hx:dT sl x= .p none (.int k m))(hy:dT sl y= .p none (.int k n)):bL P ⟨some d,.binOp .eql t x y t',ty,pos,aft,gd⟩ (mk sl rs) ⟨.p none (.bool (decide (m=n))),[],[]⟩:=
 fW hx hy rfl (fun w=>by simp[binOp,Op.intCmp];rfl)
theorem aZ4 (hx:dT sl x= .p none (.int k m))(hy:dT sl y= .p none (.int k n)):bL P ⟨some d,.binOp .neq t x y t',ty,pos,aft,gd⟩ (mk sl rs) ⟨.p none (.bool (!decide (m=n))),[],[]⟩:=
 fW hx hy rfl (fun w=>by simp[binOp,Op.intCmp];rfl)
theorem aZ5 (hx:dT sl x= .p none (.int k m))(hy:dT sl y= .p none (.int k n)):bL P ⟨some d,.binOp .add t x y t',ty,pos,aft,gd⟩ (mk sl rs) ⟨.p none (.int k (k.wrap (m+n))),[],[]⟩:=
 fW hx hy rfl (fun w=>by simp[binOp,Op.intArith])
theorem aZ6 (hx:dT sl x= .p none (.int k m))(hy:dT sl y= .p none (.int k n)):bL P ⟨some d,.binOp .sub t x y t',ty,pos,aft,gd⟩ (mk sl rs) ⟨.p none (.int k (k.wrap (m - n))),[],[]⟩:=
 fW hx hy rfl (fun w=>by simp[binOp,Op.intArith])
theorem aZ7 (hx:dT sl x= .p none (.int k m))(hy:dT sl y= .p none (.int k n)):bL P ⟨some d,.binOp .mul t x y t',ty,pos,aft,gd⟩ (mk sl rs) ⟨.p none (.int k (k.wrap (m*n))),[],[]⟩:=
 fW hx hy rfl (fun w=>by simp[binOp,Op.intArith])
theorem aZ8 (hx:dT sl x= .p none (.int k m))(hy:dT sl y= .p none (.int k n))(h0:n≠0):bL P ⟨some d,.binOp .quo t x y t',ty,pos,aft,gd⟩ (mk sl rs) ⟨.p none (.int k (k.wrap (m.tdiv n))),[],[]⟩:=
 fW hx hy rfl (fun w=>by simp[binOp,Op.intDiv,h0])
theorem aZ9 (hx:dT sl x= .p none (.int k m))(hy:dT sl y= .p none (.int k n))(h0:n≠0):bL P ⟨some d,.binOp .rem t x y t',ty,pos,aft,gd⟩ (mk sl rs) ⟨.p none (.int k (m.tmod n)),[],[]⟩:=
 fW hx hy rfl (fun w=>by simp[binOp,Op.intDiv,h0])
theorem aZa {b:Bool}(hx:dT sl x= .p none (.bool b)):bL P ⟨some d,.unOp .not t x,ty,pos,aft,gd⟩ (mk sl rs) ⟨.p none (.bool (!b)),[],[]⟩:=
 mM (x:= .bool (!b)) rfl (fun e w he=>by have h1:=he x _ (vW hx rfl);simp[execOp,h1,Op.unary])
theorem aZb (hx:dT sl x= .p none (.int k m)):bL P ⟨some d,.unOp .neg t x,ty,pos,aft,gd⟩ (mk sl rs) ⟨.p none (.int k (k.wrap (0 - m))),[],[]⟩:=
 mM (x:= .int k (k.wrap (0 - m))) rfl (fun e w he=>by have h1:=he x _ (vW hx rfl);simp[execOp,h1,Op.unary,Op.intArith])
end
theorem aF9 {op:BinOp}{x y:Operand}{t t' :TypeId}{m n:Bool}{r:bR}{v:Value}(hx:dT sl x= .p none (.bool m))(hy:dT sl y= .p none (.bool n))(hv:r.val? =some v)(hr: ∀w,(binOp op t (.bool m) (.bool n)).run P w= .ok v w):bL P ⟨some d,.binOp op t x y t',ty,pos,aft,gd⟩ (mk sl rs) ⟨.p none r,[],[]⟩:=
 mM hv (fun e w he=>by
  have h1:=he x _ (vW hx rfl);have h2:=he y _ (vW hy rfl)
  have hg:(eqGuard op t x y (.bool m) (.bool n)).run P w= .ok () w:=by
   unfold eqGuard;cases op<;>rfl
  simp only[execOp,h1,h2,Sem.run_bind,hg,Result.andThen_ok,hr];rfl)
theorem aOE {x y:Operand}{t t' :TypeId}{m n:Bool}(hu:P.underlying t=some .bool)(hx:dT sl x= .p none (.bool m))(hy:dT sl y= .p none (.bool n)):bL P ⟨some d,.binOp .neq t x y t',ty,pos,aft,gd⟩ (mk sl rs) ⟨.p none (.bool (!(m==n))),[],[]⟩:=
 aF9 hx hy rfl (fun w=>by
  have h:=run_equalIn_bool' (P:=P) w 9999 t m n hu;have h' :(Op.equal t (.bool m) (.bool n)).run P w= .ok (m==n) w:=h;simp only[binOp,Sem.run_bind,h',Result.andThen_ok,Sem.run_pure])
theorem aOF {x y:Operand}{t t' :TypeId}{m n:Bool}(hu:P.underlying t=some .bool)(hx:dT sl x= .p none (.bool m))(hy:dT sl y= .p none (.bool n)):bL P ⟨some d,.binOp .eql t x y t',ty,pos,aft,gd⟩ (mk sl rs) ⟨.p none (.bool (m==n)),[],[]⟩:=
 aF9 hx hy rfl (fun w=>by
  have h:=run_equalIn_bool' (P:=P) w 9999 t m n hu;have h' :(Op.equal t (.bool m) (.bool n)).run P w= .ok (m==n) w:=h;simp only[binOp,Sem.run_bind,h',Result.andThen_ok,Sem.run_pure])
theorem tK {op:BinOp}{x y:Operand}{t t' :TypeId}{m n:ByteArray}{r:bR}{v:Value}(hx:dT sl x= .p none (.str m))(hy:dT sl y= .p none (.str n))(hv:r.val? =some v)(hr: ∀w,(binOp op t (.string m) (.string n)).run P w= .ok v w):bL P ⟨some d,.binOp op t x y t',ty,pos,aft,gd⟩ (mk sl rs) ⟨.p none r,[],[]⟩:=
 mM hv (fun e w he=>by
  have h1:=he x _ (vW hx rfl);have h2:=he y _ (vW hy rfl)
  have hg:(eqGuard op t x y (.string m) (.string n)).run P w= .ok () w:=by
   unfold eqGuard;cases op<;>rfl
  simp only[execOp,h1,h2,Sem.run_bind,hg,Result.andThen_ok,hr];rfl)
theorem aK6 {x y:Operand}{t t' :TypeId}{m n:ByteArray}(hx:dT sl x= .p none (.str m))(hy:dT sl y= .p none (.str n)):bL P ⟨some d,.binOp .neq t x y t',ty,pos,aft,gd⟩ (mk sl rs) ⟨.p none (.bool (!(m.toList==n.toList))),[],[]⟩:=
 tK hx hy rfl (fun w=>by simp[binOp,Op.stringOp])
theorem aK7 {x y:Operand}{t t' :TypeId}{m n:ByteArray}(hx:dT sl x= .p none (.str m))(hy:dT sl y= .p none (.str n)):bL P ⟨some d,.binOp .eql t x y t',ty,pos,aft,gd⟩ (mk sl rs) ⟨.p none (.bool (m.toList==n.toList)),[],[]⟩:=
 tK hx hy rfl (fun w=>by simp[binOp,Op.stringOp])
theorem aSb {x:Operand}{s:TypeId}{f off o' hh k i:Nat}{ft:TypeId}{r:Rs}(hf:sO P s f=some (off,ft))(hx:dT sl x= .ep hh k i o')(hr:bH rs hh=some r):bL P ⟨some d,.fieldAddr s x f,ty,pos,aft,gd⟩ (mk sl rs) ⟨.ep hh k i (o' +off),[],[]⟩:=
 aHQ rfl hf (by rw[cQ];exact hx) ⟨r,hr⟩
theorem aSc {x y:Operand}{t e:TypeId}{k bt hh e' :Nat}{ag dp:Bool}{z:Value}{xs:List (List bR)}{ik:IntKind}{n:Int}(ht:P.underlying t=some (.slice e))(hk:gU P e=some (ag,k,bt,z))(hx:dT sl x= .own hh)(hr:bH rs hh=some (.arr e' k dp xs))(hy:dT sl y= .p none (.int ik n))(h0:0<=n)(hn:n<xs.length):bL P ⟨some d,.indexAddr t x y,ty,pos,aft,gd⟩ (mk sl rs) ⟨.ep hh k n.toNat 0,[],[]⟩:=
 aGd rfl ht hk (by rw[cQ];exact hx) hr (by rw[cQ];exact hy) h0 hn
theorem aUg {x:Operand}{t tb:TypeId}{n bt off hh:Nat}{z:Value}{cs vs:List AV}(ht:gU P t=some (true,n,bt,z))(hx:dT sl x= .ptr hh off)(hr:bH rs hh=some (.box tb cs))(hn:off+n<=cs.length)(hv:(cs.drop off).take n=vs):bL P ⟨some d,.load t x,ty,pos,aft,gd⟩ (mk sl rs) ⟨.agg vs,[],[]⟩:=
 by rw[<-hv];exact aAM rfl ht (by rw[cQ];exact hx) hr hn
theorem aSd {x:Operand}{t tb:TypeId}{n bt off hh:Nat}{z:Value}{cs:List AV}{v:AV}(ht:gU P t=some (false,n,bt,z))(hx:dT sl x= .ptr hh off)(hr:bH rs hh=some (.box tb cs))(hv:cs[off]? =some v):bL P ⟨some d,.load t x,ty,pos,aft,gd⟩ (mk sl rs) ⟨v,[],[]⟩:=
 zJ rfl ht (by rw[cQ];exact hx) hr hv
theorem aOG {x:Operand}{t:TypeId}{n bt hh e k i off:Nat}{dp:Bool}{z:Value}{xs:List (List bR)}{row:List bR}{vs:List AV}(ht:gU P t=some (true,n,bt,z))(hx:dT sl x= .ep hh k i off)(hr:bH rs hh=some (.arr e k dp xs))(hi:xs[i]? =some row)(hn:off+n<=row.length)(hv:((row.drop off).take n).map (pOf (if dp then some hh else none))=vs):bL P ⟨some d,.load t x,ty,pos,aft,gd⟩ (mk sl rs) ⟨.agg vs,[],[]⟩:=
 by rw[<-hv];exact aK3 rfl ht (by rw[cQ];exact hx) hr hi hn
theorem aLL {x:Operand}{t:TypeId}{n bt hh e k i off:Nat}{dp:Bool}{z:Value}{xs:List (List bR)}{row:List bR}{y:bR}{v:AV}(ht:gU P t=some (false,n,bt,z))(hx:dT sl x= .ep hh k i off)(hr:bH rs hh=some (.arr e k dp xs))(hi:xs[i]? =some row)(hy:row[off]? =some y)(hv:pOf (if dp then some hh else none) y=v):bL P ⟨some d,.load t x,ty,pos,aft,gd⟩ (mk sl rs) ⟨v,[],[]⟩:=
 by rw[<-hv];exact aHU rfl ht (by rw[cQ];exact hx) hr hi hy
theorem aSe {x y:Operand}{t tb:TypeId}{ag:Bool}{n bt off hh:Nat}{z:Value}{cs cs' :List AV}(ht:gU P t=some (ag,n,bt,z))(hx:dT sl x= .ptr hh off)(hr:bH rs hh=some (.box tb cs))(hc:pT (mk sl rs) (dT sl y))(hn:(fE (dT sl y)).length=n)(hl:off+n<=cs.length)(hv:cs.take off++fE (dT sl y)++cs.drop (off+n)=cs'):bL P ⟨none,.store t x y,ty,pos,aft,gd⟩ (mk sl rs) ⟨.no,[hh],[(hh,.box tb cs')]⟩:=
 by rw[<-hv,<-cQ sl rs];exact aGe rfl ht (by rw[cQ];exact hx) hr (by rw[cQ];exact hc) (by rw[cQ];exact hn) hl
theorem aSf {x y:Operand}{t:TypeId}{ag dp:Bool}{n bt off hh e k i:Nat}{z:Value}{xs xs' :List (List bR)}{row ys:List bR}{vs us:List Value}(ht:gU P t=some (ag,n,bt,z))(hx:dT sl x= .ep hh k i off)(hr:bH rs hh=some (.arr e k dp xs))(hi:xs[i]? =some row)(hrow:lJ row vs)(hy:fE (dT sl y)=ys.map (AV.p none))(hys:lJ ys us)(hn:ys.length=n)(hl:off+n<=row.length)
 (hv:xs.set i (row.take off++ys++row.drop (off+n))=xs'):bL P ⟨none,.store t x y,ty,pos,aft,gd⟩ (mk sl rs) ⟨.no,[hh],[(hh,.arr e k dp xs')]⟩:=
 by rw[<-hv];exact aHW rfl ht (by rw[cQ];exact hx) hr hi hrow (by rw[cQ];exact hy) hys hn hl
theorem aUh {t:TypeId}{parts:Array (Nat × Operand)}{z:Value}{ps:List (Nat × Nat)}{cs:List AV}(ht:aDi P t=some (z,ps))(hc: ∀q∈parts.toList,pT (mk sl rs) (dT sl q.2))(hf:tI (ps.toArray[·]?) (z.cells.toList.map avC) (parts.toList.map fun q=>(q.1,dT sl q.2))=some cs):bL P ⟨some d,.build t parts,ty,pos,aft,gd⟩ (mk sl rs) ⟨.agg cs,[],[]⟩:=
 aNt rfl ht (fun q hq=>by rw[cQ];exact hc q hq) (by rw[<-hf];congr 1)
theorem aSg {S:St}:aH4 S [] []:=rfl
theorem aQN {S:St}{x:AV}{y:Ar}{xs:List AV}{ys:List Ar}(h:aNz S x y)(h' :aH4 S xs ys):aH4 S (x::xs) (y::ys):=⟨y,ys,rfl,h,h'⟩
theorem aUi {S:St}{cs:List AV}{ys:List bR}(h:aK4 S cs ys):aNz S (.agg cs) (.agg ys):=⟨ys,rfl,h⟩
theorem aUj {S:St}:aK4 S [] []:=rfl
theorem aSh {S:St}{x:AV}{y:bR}{xs:List AV}{ys:List bR}(h:AsD S x y)(h' :aK4 S xs ys):aK4 S (x::xs) (y::ys):=⟨y,ys,rfl,h,h'⟩
theorem bAe {S:St}{x:bR}:AsD S (.p none x) x:=⟨trivial,rfl⟩
theorem aZc {h:Nat}{x:bR}{r:Rs}(hr:bH rs h=some r):AsD (mk sl rs) (.p (some h) x) x:=⟨⟨r,hr⟩,rfl⟩
theorem aXe {h e k:Nat}{dp:Bool}{xs:List (List bR)}(hr:bH rs h=some (.arr e k dp xs)):AsD (mk sl rs) (.own h) (.sl e k xs):=⟨e,k,dp,xs,hr,rfl⟩
def aXf (rs:List (Nat × Option Rs)):AV->Option bR
 | .p none x=>some x
 | .p (some h) x=>match bH rs h with | some _=>some x | none=>none
 | .own h=>match bH rs h with | some (.arr e k _ xs)=>some (.sl e k xs) | _=>none
 | .nil=>some (.sl 0 1 [])
 | _=>none
def aLM (rs:List (Nat × Option Rs)):List AV->Option (List bR)
 | []=>some []
 | x::xs=>match aXf rs x with | some y=>(match aLM rs xs with | some ys=>some (y::ys) | none=>none) | none=>none
def aHa (rs:List (Nat × Option Rs)):AV->Option (List bR)
 | .rp none xs=>some xs
 | .rp (some h) xs=>match bH rs h with | some _=>some xs | none=>none
 | .ptr h off=>match bH rs h with | some (.box _ cs)=>(match aLM rs (cs.drop off) with | some (y::ys)=>some (y::ys) | _=>none) | _=>none
 | _=>none
def aDm (rs:List (Nat × Option Rs)):List AV->Option (List (List bR))
 | []=>some []
 | x::xs=>match aHa rs x with | some y=>(match aDm rs xs with | some ys=>some (y::ys) | none=>none) | none=>none
def aUk (rs:List (Nat × Option Rs)):AV->Option Ar
 | .agg cs=>match aLM rs cs with | some ys=>some (.agg ys) | none=>none
 | .fn f cs=>match aDm rs cs with | some ys=>some (.fn f ys) | none=>none
 | .rp o xs=>match aHa rs (.rp o xs) with | some ys=>some (.ref ys) | none=>none
 | .ptr h off=>match aHa rs (.ptr h off) with | some ys=>some (.ref ys) | none=>none
 | x=>match aXf rs x with | some y=>some (.one y) | none=>none
def aEs (rs:List (Nat × Option Rs)):List AV->Option (List Ar)
 | []=>some []
 | x::xs=>match aUk rs x with | some y=>(match aEs rs xs with | some ys=>some (y::ys) | none=>none) | none=>none
theorem aR7 {x:AV}{y:bR}(h:aXf rs x=some y):AsD (mk sl rs) x y:=by
 unfold aXf at h;split at h
 ·injection h with h;subst h;exact bAe
 ·split at h
  ·rename_i hr;injection h with h;subst h;exact aZc hr
  cases h
 ·split at h
  ·rename_i hr;injection h with h;subst h;exact aXe hr
  cases h
 ·injection h with h;subst h;exact⟨0,1,rfl⟩
 cases h
theorem aOH {A:Nat->Prop}{w:World}{e k:Nat}{v:Value}:iU A w (.sl e k []) v↔ ∃a c,v= .slice a 0 c/\c<=maxLen:=by
 unfold iU gV;constructor
 ·rintro⟨a,c,e,_,h,_⟩;exact⟨a,c,e,h⟩
 rintro⟨a,c,e,h⟩;exact⟨a,c,e,aDB _,h,trivial⟩
theorem rM.imp {P:Program}{f:FuncId}{ys ys' :List Ar}{rv:AV}{rr:List (Nat × Rs)}(h: ∀A w vs,pU A w ys vs->pU A w ys' vs)(hC:rM P f ys' rv rr):rM P f ys rv rr:=⟨hC.1,fun A w vs hA hv=>hC.2 A w vs hA (h A w vs.toList hv)⟩
theorem aHb: ∀{xs:List AV} {ys:List bR},aLM rs xs=some ys->aK4 (mk sl rs) xs ys
 | [],ys,h=>by unfold aLM at h;injection h with h;subst h;exact aUj
 | x::xs,ys,h=>by
   unfold aLM at h;split at h
   ·rename_i y hy;split at h
    ·rename_i zs hz;injection h with h
     subst h;exact aSh (aR7 hy) (aHb hz)
    cases h
   cases h
theorem aEt {x:AV}{y:List bR}(h:aHa rs x=some y):aLF (mk sl rs) x y:=by
 unfold aHa at h;split at h
 ·injection h with h;subst h;exact⟨trivial,rfl⟩
 ·split at h
  ·rename_i hr;injection h with h;subst h;exact⟨⟨_,hr⟩,rfl⟩
  cases h
 ·split at h
  ·rename_i hr;split at h
   ·rename_i hd;injection h with h;subst h;exact⟨_,_,hr,aHb hd,by simp⟩
   cases h
  cases h
 cases h
theorem aHc: ∀{xs:List AV} {ys:List (List bR)},aDm rs xs=some ys->aMj (mk sl rs) xs ys
 | [],ys,h=>by unfold aDm at h;injection h with h;subst h;exact rfl
 | x::xs,ys,h=>by
   unfold aDm at h;split at h
   ·rename_i y hy;split at h
    ·rename_i zs hz;injection h with h
     subst h;exact⟨y,zs,rfl,aEt hy,aHc hz⟩
    cases h
   cases h
theorem aUl {x:AV}{y:Ar}(h:aUk rs x=some y):aNz (mk sl rs) x y:=by
 unfold aUk at h;split at h
 ·split at h
  ·rename_i hy;injection h with h;subst h;exact aUi (aHb hy)
  cases h
 ·split at h
  ·rename_i hy;injection h with h;subst h;exact⟨_,rfl,aHc hy⟩
  cases h
 ·split at h
  ·rename_i hy;injection h with h;subst h;exact⟨_,rfl,aEt hy⟩
  cases h
 ·split at h
  ·rename_i hy;injection h with h;subst h;exact⟨_,rfl,aEt hy⟩
  cases h
 rename_i hna hnf hnr hnp;split at h
 ·rename_i z hz;injection h with h
  subst h;have hd:=aR7 (sl:=sl) hz;cases x with
  | agg cs=>exact absurd rfl (hna cs)
  | fn f cs=>exact absurd rfl (hnf f cs)
  | rp o xs=>exact absurd rfl (hnr o xs)
  | ptr h off=>exact absurd rfl (hnp h off)
  | _=>exact⟨z,rfl,hd⟩
 cases h
theorem aLN: ∀{xs:List AV} {ys:List Ar},aEs rs xs=some ys->aH4 (mk sl rs) xs ys
 | [],ys,h=>by unfold aEs at h;injection h with h;subst h;exact aSg
 | x::xs,ys,h=>by
   unfold aEs at h;split at h
   ·rename_i y hy;split at h
    ·rename_i zs hz;injection h with h
     subst h;exact aQN (aUl hy) (aLN hz)
    cases h
   cases h
theorem aZd {id:Nat}{l:List Oper}{S:St}{Q:Exit->St->Prop}(h:Ops P N l.toArray l S (Q .normal)):VC P N (.region id l.toArray false) S Q:=aS9 (by simpa using h)
end
section
variable {P:Program} {N:Nat}
theorem Chg.mono {U U' :Nat->Prop}{w w' :World}(h:Chg U w w')(hU: ∀b,U b->U' b):Chg U' w w' :=⟨h.os,h.tape,h.output,h.size,fun k hk hn=>h.block k hk (fun hu=>hn (hU k hu))⟩
theorem bL.lift {o:Oper}{V S:St}{e:Eff}(hs:bL P o V e)(h1: ∀t,V.slots t= .no\/S.slots t=V.slots t)(hV: ∀h r,V.res h=some r->S.res h=some r)
 (hm1: ∀t h,h∈cW (V.slots t)->S.res h=V.res h) (hm2: ∀h0 r h,V.res h0=some r->h∈jI r->S.res h=V.res h) (hm3: ∀h,h∈cW e.v->bF e.new h=none->S.res h=V.res h)
 (hm4: ∀k r h,bF e.new k=some r->h∈jI r->bF e.new h=none->S.res h=V.res h) (hnew: ∀h r,bF e.new h=some r->((∃r',V.res h=some r')/\h∈e.del)\/iI S h):bL P o S e:=by
 intro K φ A w0 N a w Q hd hG
 have hφ1: ∀h pl,(match V.res h with | some _=>φ h | none=>none)=some pl->(∃r,V.res h=some r)/\φ h=some pl:=fun h pl e=>by
  split at e
  ·rename_i r hr;exact⟨⟨r,hr⟩,e⟩
  cases e
 have hφ1' : ∀h r,V.res h=some r->(match V.res h with | some _=>φ h | none=>none)=φ h:=fun h r hr=>by rw[hr]
 generalize hφ:(fun h=>match V.res h with | some _=>φ h | none=>none:iW)=φ1;have p1: ∀h pl,φ1 h=some pl->(∃r,V.res h=some r)/\φ h=some pl:=fun h pl e=>hφ1 h pl (by rw[<-hφ] at e;exact e);have p2: ∀h r,V.res h=some r->φ1 h=φ h:=fun h r hr=>by rw[<-hφ];exact hφ1' h r hr
 have p3: ∀h,V.res h=none->φ1 h=none:=fun h hr=>by rw[<-hφ];simp[hr]
 clear hφ1 hφ1' hφ
 have G1:G K φ1 A w0 N V a w:=by
  refine⟨fun h r hr=>?_,p3,fun h h' pl pl' hne e e' =>hG.disj h h' pl pl' hne (p1 h pl e).2 (p1 h' pl' e').2,fun h pl e=>hG.nodup h pl (p1 h pl e).2,fun h pl e=>hG.ge h pl (p1 h pl e).2,hG.kin,fun b hb h pl e=>hG.kout b hb h pl (p1 h pl e).2,hG.aK,fun t=>?_,hG.bel,hG.nd,hG.size,fun h pl pl0 e=>hG.pin h pl pl0 (p1 h pl e).2⟩
  ·obtain⟨pl,hp,hh⟩:=hG.dom h r (hV h r hr);exact⟨pl,by rw[p2 h r hr];exact hp,Holds.mono (fun _ _=>rfl) (fun _ h=>h) (fun _ _=>rfl) r (fun h' pl' _ e=>⟨(p1 h' pl' e).2,fun _ _=>rfl⟩) hh⟩
  rcases h1 t with e | e
  ·rw[e];unfold aJ;trivial
  rw[<-e];exact aJ.mono (fun _ _=>rfl) (fun _ h=>h) _ _ (fun h' pl' _ e=>⟨(p1 h' pl' e).2,fun _ _=>rfl⟩) (hG.slots t)
 refine Oper.wp_mono (fun a' w' ⟨K',φ',v,ha,G',tr⟩=>?_) (hs K φ1 A w0 N a w Q hd G1);have hfoot: ∀b,gS φ1 (· ∈e.del) b->gS φ (· ∈e.del) b:=fun b ⟨h,pl,hc,hp,hb⟩=>⟨h,pl,hc,(p1 h pl hp).2,hb⟩;have hres: ∀h,(V.apply o.dst e).res h=gF (· ∈e.del) (bF e.new) V.res h:=fun h=>by unfold St.apply St.put;cases o.dst<;>rfl
 have hnewdom: ∀h r,bF e.new h=some r-> ∃pl,φ' h=some pl/\Holds K' φ' w' pl r:=fun h r hr=>G'.dom h r (by rw[hres];simp[gF,hr])
 have hφr: ∀h pl,(if (bF e.new h).isSome then φ' h else none)=some pl->(∃r,bF e.new h=some r)/\φ' h=some pl:=fun h pl e' =>by
  split at e'
  ·rename_i hx;exact⟨Option.isSome_iff_exists.1 hx,e'⟩
  cases e'
 have hsame: ∀h pl,(bF e.new h=none->S.res h=V.res h)->dD (· ∈e.del) (fun h=>if (bF e.new h).isSome then φ' h else none) φ h=some pl->φ' h=some pl:=fun h pl hh e' =>by
  rcases cE e' with e' | ⟨e0,hc,e'⟩
  ·exact(hφr h pl e').2
  cases hx:bF e.new h with
  | some r=>
    obtain⟨pl',hp',_⟩:=hnewdom h r hx;simp[hx,hp'] at e0
  | none=>
    have hs' :=hh hx;cases hv:V.res h with
    | none=>rw[hv] at hs';rw[hG.non h hs'] at e';cases e'
    | some r=>
      obtain⟨pl',hp',_⟩:=G'.dom h r (by rw[hres];simp[gF,hx,hc,hv]);rcases tr.ph h pl' hp' with q | ⟨q,_⟩
      ·rw[p2 h r hv,e'] at q;injection q with q
       subst q;exact hp'
      rw[p2 h r hv,e'] at q;cases q
 have hold: ∀h pl,¬iI S h->(if (bF e.new h).isSome then φ' h else none)=some pl->φ h=some pl/\eR (· ∈pl.sub) w w' :=fun h pl hnf e' =>by
  obtain⟨⟨r,hr⟩,e'⟩:=hφr h pl e';rcases hnew h r hr with ⟨⟨r',hr'⟩,_⟩ | hf
  ·rcases tr.ph h pl e' with q | ⟨q,_⟩
   ·exact⟨(p1 h pl q).2,tr.sub h pl e' q⟩
   obtain⟨pl0,hp0,_⟩:=G1.dom h r' hr';rw[q] at hp0;cases hp0
  exact absurd hf hnf
 have hstep:=hG.step (C:=(· ∈e.del)) (φr:=fun h=>if (bF e.new h).isSome then φ' h else none) (ρ:=bF e.new) (K' :=K') (w' :=w')
  (tr.chg.mono hfoot)
  (fun h pl e' =>by
   obtain⟨⟨r,hr⟩,e'⟩:=hφr h pl e';refine⟨G'.nodup h pl e',fun g hg=>⟨(G'.ge h pl e' g hg).2,?_⟩⟩;rcases tr.ph h pl e' with q | ⟨_,_,q⟩
   ·rcases hnew h r hr with ⟨_,hdl⟩ | hf
    ·exact .inr ⟨h,pl,hdl,(p1 h pl q).2,hg⟩
    have:=(p1 h pl q).2;rw[hG.non h hf.2.2.1] at this;cases this
   rcases q g hg with q | q
   ·exact .inl q
   exact .inr (hfoot g q))
  (fun h h' pl pl' hne e1 e2=>G'.disj h h' pl pl' hne (hφr h pl e1).2 (hφr h' pl' e2).2)
  (fun h r hr=>by
   obtain⟨pl,hp,hh⟩:=hnewdom h r hr;exact⟨pl,by simp[hr,hp],Holds.mono (fun _ _=>rfl) (fun _ h=>h) (fun _ _=>rfl) r (fun h' pl' hm' e' =>⟨hsame h' pl' (hm4 h r h' hr hm') e',fun _ _=>rfl⟩) hh⟩)
  (fun h hr=>by simp[hr])
  tr.kk
  (fun b hb=>by
   rcases tr.kk' b hb with q | q
   ·exact .inl q
   refine .inr ⟨(G'.kin b hb).1,?_,fun h pl e' =>G'.kout b hb h pl (hφr h pl e').2⟩;rcases q with q | q
   ·exact .inl q
   exact .inr (hfoot b q))
  (fun t h pl hm' e' =>hold h pl (fun hf=>hf.1 t hm') e')
  (fun h' r h pl _ hr hm' e' =>hold h pl (fun hf=>hf.2.1 h' r hr hm') e')
  (fun h pl e' =>by
   obtain⟨⟨r,hr⟩,e'⟩:=hφr h pl e';rcases hnew h r hr with ⟨⟨r',hr'⟩,_⟩ | hf
   ·rcases tr.ph h pl e' with q | ⟨q,_⟩
    ·exact .inl (p1 h pl q).2
    obtain⟨pl0,hp0,_⟩:=G1.dom h r' hr';rw[q] at hp0;cases hp0
   exact .inr hf.2.2.2)
 refine⟨K',dD (· ∈e.del) (fun h=>if (bF e.new h).isSome then φ' h else none) φ,v,ha,?_,⟨tr.chg.mono hfoot,tr.kk,fun b hb=>?_,fun h pl e' =>?_,fun h pl e' e2=>?_⟩⟩
 ·have hsl: ∀d,o.dst=some d->aJ K' (dD (· ∈e.del) (fun h=>if (bF e.new h).isSome then φ' h else none) φ) w' e.v v:=fun d hdst=>by
   have hsl:=G'.slots d;have h2:(V.apply o.dst e).slots d=e.v:=by rw[hdst];simp[St.apply,St.put,upd]
   rw[h2,ha,hdst] at hsl;simp only[Act.put] at hsl;rw[Array.getD_eq_getD_getElem?,Array.getElem?_setIfInBounds_self_of_lt (by rw[hG.size];exact hd d hdst)] at hsl;exact aJ.mono (K:=K') (φ:=φ') (w:=w') (fun _ _=>rfl) (fun _ h=>h) e.v v (fun h' pl' hm' e' =>⟨hsame h' pl' (hm3 h' hm') e',fun _ _=>rfl⟩) hsl
  rw[ha];cases hdst:o.dst with
  | none=>exact hstep
  | some d=>exact hstep.put (d:=some d) (fun d' e' =>by injection e' with e';subst e';exact hd d hdst) (hsl d hdst)
 ·rcases tr.kk' b hb with q | q | q
  ·exact .inl q
  ·exact .inr (.inl q)
  exact .inr (.inr (hfoot b q))
 ·rcases cE e' with e' | ⟨_,_,e'⟩
  ·obtain⟨⟨r,hr⟩,e'⟩:=hφr h pl e';rcases tr.ph h pl e' with q | ⟨q1,q2,q3⟩
   ·exact .inl (p1 h pl q).2
   rcases hnew h r hr with ⟨⟨r',hr'⟩,_⟩ | hf
   ·obtain⟨pl0,hp0,_⟩:=G1.dom h r' hr';rw[q1] at hp0;cases hp0
   exact .inr ⟨hG.non h hf.2.2.1,q2,fun g hg=>by rcases q3 g hg with q | q;exact .inl q;exact .inr (hfoot g q)⟩
  exact .inl e'
 rcases cE e' with e' | ⟨_,hc,e'⟩
 ·obtain⟨⟨r,hr⟩,e3⟩:=hφr h pl e';exact(hold h pl (fun hf=>by rw[hG.non h hf.2.2.1] at e2;cases e2) e').2
 intro g hg
 exact(tr.chg.mono hfoot).block g (hG.ge h pl e' g (aKS _ hg)).2 (fun ⟨h3,pl3,hc3,q3,hm3'⟩=>by
  by_cases ex:h=h3
  ·subst ex;exact hc hc3
  exact hG.disj h h3 pl pl3 ex e' q3 g (aKS _ hg) hm3')
end
structure iJ where
 i:Nat
 o:Oper
 skip:Bool
 vs:List (Nat × AV)
 vr:List (Nat × Option Rs)
 e:Eff
def iJ.fr (r:iJ):Bool:=match r.vr with | (99,none)::_=>true | _=>false
def iJ.W (r:iJ):List Nat:=if r.skip then [] else r.e.del++r.e.new.map (·.1)
def iJ.Nw (r:iJ):List Nat:=if r.skip then [] else (r.e.new.map (·.1)).filter fun h=> !r.e.del.contains h
def iJ.M (r:iJ):List Nat:=if r.skip then [] else cW r.e.v++(r.e.new.map fun q=>jI q.2).flatten
def iJ.T (r:iJ):List Nat:=if r.skip then [] else if r.fr then (r.vr.drop 1).map (·.1) else r.vr.map (·.1)++(r.vs.map fun q=>cW q.2).flatten++(r.vr.map fun q=>match q.2 with | some r=>jI r | none=>[]).flatten++r.M
def iJ.gs (ops:Array Oper)(r:iJ):List Nat:=match r.o.guard with | some (j,_)=>((ops[j]?).bind (·.dst)).toList | none=>[]
def iJ.looks (ops:Array Oper)(r:iJ):List Nat:=r.vs.map (·.1)++r.gs ops
def iJ.next (r:iJ)(S:St):St:=if r.skip then S.put r.o.dst (.tup []) else S.apply r.o.dst r.e
def aDn (a b:List Nat):Bool:=a.all fun h=> !b.contains h
theorem pY {a b:List Nat}(h:aDn a b=true): ∀x∈a,x ∉ b:=by
 unfold aDn at h;simp only[aI4,Bool.not_eq_true',List.contains_eq_mem,decide_eq_false_iff_not] at h;exact h
def aHd (ops:Array Oper)(x y:iJ):Bool:=
 aDn x.o.dst.toList (y.looks ops++y.o.dst.toList)&&aDn y.o.dst.toList (x.looks ops)&&aDn x.W (y.T++y.W)&&aDn y.W x.T
def bAf (x y:iJ):Bool:=aDn x.Nw (y.M++y.W)
def tL (ops:Array Oper):Nat->Nat->Array Edge->Bool
 | 0,_,_=>false
 | n+1,x,es=>es.any fun e=>Region.binds .any e&&(Nat.beq e.on x || (match ops[e.on]? with | some o=>tL ops n x o.after | none=>false))
def aMm (ops:Array Oper)(x y:iJ):Bool:=tL ops ops.size x.i y.o.after
def aAR (ops:Array Oper)(x y:iJ):Bool:=(aMm ops x y || (aHd ops x y&&bAf x y))&&bAf y x
def tM (ops:Array Oper):List iJ->Bool
 | []=>true
 | x::l=>l.all (fun y=>decide (x.i<y.i)&&aAR ops x y)&&x.o.after.all (fun e=> !Region.binds .any e || decide (e.on<x.i))&&(x.skip || x.e.new.all fun q=> !x.e.del.contains q.1 || (bH x.vr q.1).isSome)&&tM ops l
section
variable {P:Program} {N:Nat} {ops:Array Oper}
def aC7 (P:Program)(r:iJ):Prop:=(r.fr=false->bL P r.o (mk r.vs r.vr) r.e)/\(r.fr=true-> ∀S:St,(∀t∈r.vs.map (·.1),S.slots t=cF r.vs t)->(∀h∈r.T,S.res h=bH r.vr h)->bL P r.o S r.e)
def Ok (P:Program)(N:Nat)(ops:Array Oper)(r:iJ)(S:St):Prop:=
 ops[r.i]? =some r.o/\(∀d,r.o.dst=some d->d<N)/\
 (match r.o.guard with
  | none=>r.skip=false
  | some (j,want)=> ∃d b,(ops[j]?).bind (·.dst)=some d/\d<N/\gvA (S.slots d)=some b/\r.skip=(b !=some want))/\
 (r.skip=false->aC7 P r/\(∀t∈r.vs.map (·.1),S.slots t=cF r.vs t)/\ ∀h∈r.T,S.res h=bH r.vr h)
def aC8 (P:Program)(N:Nat)(ops:Array Oper):List iJ->St->(St->Prop)->Prop
 | [],S,K=>K S
 | r::l,S,K=>Ok P N ops r S/\aC8 P N ops l (r.next S) K
theorem aLO {r:iJ}{S:St}{t:Nat}(h:r.o.dst≠some t):(r.next S).slots t=S.slots t:=by
 unfold iJ.next
 have put: ∀(S:St) v,(S.put r.o.dst v).slots t=S.slots t:=fun S v=>by
  cases hd:r.o.dst with
  | none=>rfl
  | some d=>simp only[St.put,upd];rw[if_neg (fun e=>h (by rw[hd,e]))]
 split
 ·exact put S _
 unfold St.apply;exact put _ _
theorem nO {r:iJ}{S:St}{h:Nat}(hw:h ∉ r.W):(r.next S).res h=S.res h:=by
 unfold iJ.next;have put: ∀(S:St) v,(S.put r.o.dst v).res=S.res:=fun S v=>by cases r.o.dst<;>rfl
 split
 ·rw[put]
 rename_i hs;unfold iJ.W at hw;rw[if_neg hs] at hw;simp only[aKT,not_or] at hw;unfold St.apply;rw[put];simp only[gF]
 have:bF r.e.new h=none:=by
  cases hf:bF r.e.new h with
  | none=>rfl
  | some x=>exact absurd (aQO.2 ⟨_,dA hf,rfl⟩) hw.2
 rw[this];simp[hw.1]
theorem Ok.swap {x y:iJ}{S:St}(h:Ok P N ops y (x.next S))(hd: ∀t∈x.o.dst.toList,t ∉ y.looks ops)(hw: ∀k∈x.W,k ∉ y.T):Ok P N ops y S:=by
 have hsl: ∀t∈y.looks ops,(x.next S).slots t=S.slots t:=fun t ht=>aLO (fun e=>hd t (by simp[e]) ht);obtain⟨h1,h2,h3,h4⟩:=h;refine⟨h1,h2,?_,fun hs=>?_⟩
 ·split at h3
  ·exact h3
  rename_i j want hg;obtain⟨d,b,q1,q2,q3,q4⟩:=h3;exact⟨d,b,q1,q2,by rw[<-q3];exact congrArg gvA (hsl d (by simp[iJ.looks,iJ.gs,hg,q1])).symm,q4⟩
 obtain⟨q1,q2,q3⟩:=h4 hs;exact⟨q1,fun t ht=>by rw[<-q2 t ht];exact(hsl t (by simp only[iJ.looks,aKT];exact .inl ht)).symm,fun k hk=>by rw[<-q3 k hk];exact(nO (fun e=>hw k e hk)).symm⟩
theorem Ok.swap' {x y:iJ}{S:St}(h:Ok P N ops x S)(hd: ∀t∈y.o.dst.toList,t ∉ x.looks ops)(hw: ∀k∈y.W,k ∉ x.T):Ok P N ops x (y.next S):=by
 have hsl: ∀t∈x.looks ops,(y.next S).slots t=S.slots t:=fun t ht=>aLO (fun e=>hd t (by simp[e]) ht);obtain⟨h1,h2,h3,h4⟩:=h;refine⟨h1,h2,?_,fun hs=>?_⟩
 ·split at h3
  ·exact h3
  rename_i j want hg;obtain⟨d,b,q1,q2,q3,q4⟩:=h3;exact⟨d,b,q1,q2,by rw[<-q3];exact congrArg gvA (hsl d (by simp[iJ.looks,iJ.gs,hg,q1])),q4⟩
 obtain⟨q1,q2,q3⟩:=h4 hs;exact⟨q1,fun t ht=>by rw[<-q2 t ht];exact hsl t (by simp only[iJ.looks,aKT];exact .inl ht),fun k hk=>by rw[<-q3 k hk];exact nO (fun e=>hw k e hk)⟩
def iJ.v (r:iJ):AV:=if r.skip then .tup [] else r.e.v
theorem tN (r:iJ)(S:St):(r.next S).slots=match r.o.dst with | some d=>upd S.slots d r.v | none=>S.slots:=by
 unfold iJ.next iJ.v;split<;>cases r.o.dst<;>rfl
theorem wI (r:iJ)(S:St):(r.next S).res=if r.skip then S.res else gF (· ∈r.e.del) (bF r.e.new) S.res:=by
 unfold iJ.next;split<;>(try unfold St.apply)<;>cases r.o.dst<;>rfl
theorem St.ext' {S S' :St}(h1:S.slots=S'.slots)(h2:S.res=S'.res):S=S' :=by cases S;cases S';simp_all
theorem aSi {x y:iJ}{S:St}(hd: ∀t∈x.o.dst.toList,t ∉ y.o.dst.toList)(hw: ∀k∈x.W,k ∉ y.W):y.next (x.next S)=x.next (y.next S):=by
 apply St.ext'
 ·rw[tN,tN,tN,tN];cases hx:x.o.dst with
  | none=>cases hy:y.o.dst<;>rfl
  | some dx=>
    cases hy:y.o.dst with
    | none=>rfl
    | some dy=>
      have hne:dx≠dy:=fun e=>hd dx (by simp[hx]) (by simp[hy,e]);funext t;simp only[upd];by_cases h1:t=dx
      ·subst h1;simp[hne]
      by_cases h2:t=dy
      ·subst h2;simp[h1]
      simp[h1,h2]
 funext h;by_cases h1:h∈x.W
 ·have h2:=hw h h1;rw[nO h2];by_cases h3:x.skip=true
  ·unfold iJ.W at h1;simp[h3] at h1
  rw[wI x,wI x,if_neg h3,if_neg h3];simp only[gF];rw[nO h2]
 rw[nO (r:=x) h1];by_cases h2:h∈y.W
 ·by_cases h3:y.skip=true
  ·unfold iJ.W at h2;simp[h3] at h2
  rw[wI y,wI y,if_neg h3,if_neg h3];simp only[gF];rw[nO h1]
 rw[nO h2,nO h2,nO h1]
theorem aC8.bubble {y:iJ}{l2:List iJ}{K:St->Prop}: ∀{l1:List iJ} {S:St},aC8 P N ops (l1++y::l2) S K->(∀x∈l1,aHd ops x y=true)->Ok P N ops y S/\aC8 P N ops (l1++l2) (y.next S) K
 | [],S,h,_=>h
 | x::l1,S,h,ha=>by
   obtain⟨h1,h2⟩:=h;obtain⟨h3,h4⟩:=aC8.bubble h2 (fun z hz=>ha z (by simp[hz]));have:=ha x (by simp);simp only[aHd,aCA] at this;obtain⟨⟨⟨q1,q2⟩,q3⟩,q4⟩:=this;have q1:=pY q1;have q2:=pY q2;have q3:=pY q3;have q4:=pY q4;refine⟨h3.swap (fun t ht hm=>q1 t ht (aL6 _ hm)) (fun k hk hm=>q3 k hk (aL6 _ hm)),h1.swap' q2 q4,?_⟩;rw[<-aSi (fun t ht hm=>q1 t ht (aKS _ hm)) (fun k hk hm=>q3 k hk (aKS _ hm))];exact h4
theorem aC8.bubble' {y:iJ}{l2:List iJ}{K:St->Prop}: ∀{l1:List iJ} {S:St},aC8 P N ops (l1++y::l2) S K->ops[y.i]? =some y.o/\True
 | [],S,h=>⟨h.1.1,trivial⟩
 | x::l1,S,h=>aC8.bubble' h.2
theorem aSj {l:List (Nat × AV)}{t:Nat}(h:cF l t≠ .no):t∈l.map (·.1):=by
 induction l with
 | nil=>simp[cF] at h
 | cons q l ih=>
   obtain⟨k,v⟩:=q;simp only[cF] at h;split at h
   ·simp_all
   simp[ih h]
theorem aOI {l:List (Nat × AV)}{t h:Nat}(hm:h∈cW (cF l t)):h∈(l.map fun q=>cW q.2).flatten:=by
 induction l with
 | nil=>simp[cF,cW] at hm
 | cons q l ih=>
   obtain⟨k,v⟩:=q;simp only[cF] at hm;simp only[aLz,aOc,aKT];split at hm
   ·exact .inl hm
   exact .inr (ih hm)
theorem aLP {l:List (Nat × Option Rs)}{h:Nat}{r:Rs}(e:bH l h=some r):h∈l.map (·.1)/\ ∀k∈jI r,k∈(l.map fun q=>match q.2 with | some r=>jI r | none=>[]).flatten:=by
 induction l with
 | nil=>simp[bH] at e
 | cons q l ih=>
   obtain⟨k,v⟩:=q;simp only[bH] at e;split at e
   ·subst e;rename_i hk;subst hk;exact⟨by simp,fun k hk=>by simp[hk]⟩
   obtain⟨q1,q2⟩:=ih e;exact⟨by simp at q1 ⊢;exact .inr q1,fun k hk=>by simp only[aLz,aOc,aKT];exact .inr (q2 k hk)⟩
theorem Ok.sound {r:iJ}{S:St}(h:Ok P N ops r S)(hs:r.skip=false)(hf: ∀k∈r.Nw,iI S k)(hn:(r.e.new.all fun q=> !r.e.del.contains q.1 || (bH r.vr q.1).isSome)=true):bL P r.o S r.e:=by
 obtain⟨_,_,_,h4⟩:=h;obtain⟨q1,q2,q3⟩:=h4 hs;cases hfr:r.fr with
 | true=>exact q1.2 hfr S q2 q3
 | false=>
 replace q1:=q1.1 hfr
 have hT: ∀k,k∈r.vr.map (·.1)\/k∈(r.vs.map fun q=>cW q.2).flatten\/k∈(r.vr.map fun q=>match q.2 with | some r=>jI r | none=>[]).flatten\/k∈r.M->S.res k=bH r.vr k:=fun k hk=>q3 k (by
  unfold iJ.T;rw[hs,hfr];simp only[Bool.false_eq_true,if_false,aKT];rcases hk with hk | hk | hk | hk<;>simp[hk])
 have hM: ∀k,k∈cW r.e.v\/k∈(r.e.new.map fun q=>jI q.2).flatten->k∈r.M:=fun k hk=>by
  unfold iJ.M;rw[hs];simp only[Bool.false_eq_true,if_false,aKT];exact hk
 refine q1.lift (fun t=>?_) (fun k x hx=>?_) (fun t k hk=>?_) (fun k0 x k hx hk=>?_) (fun k hk _=>hT k (.inr (.inr (.inr (hM k (.inl hk)))))) (fun k x h' hx hk _=>?_) (fun k x hx=>?_)
 ·by_cases e:cF r.vs t= .no
  ·exact .inl e
  exact .inr (q2 t (aSj e))
 ·rw[hT k (.inl (aLP hx).1)];exact hx
 ·exact hT k (.inr (.inl (aOI hk)))
 ·exact hT k (.inr (.inr (.inl ((aLP hx).2 k hk))))
 ·exact hT h' (.inr (.inr (.inr (hM h' (.inr (List.mem_flatten.2 ⟨_,aQO.2 ⟨_,dA hx,rfl⟩,hk⟩))))))
 by_cases e:k∈r.e.del
 ·refine .inl ⟨?_,e⟩;have:=aI4.1 hn _ (dA hx);simp only[List.contains_eq_mem,e,decide_true,Bool.not_true,Bool.false_or] at this;exact Option.isSome_iff_exists.1 this
 exact .inr (hf k (by
  unfold iJ.Nw;rw[hs];simp only[Bool.false_eq_true,if_false,aZe,List.contains_eq_mem,e,decide_false,Bool.not_false,and_true];exact aQO.2 ⟨_,dA hx,rfl⟩))
theorem iI.next {r:iJ}{S:St}{k:Nat}(hf:iI S k)(h:k ∉ r.M++r.W):iI (r.next S) k:=by
 simp only[aKT,not_or] at h;refine⟨fun t ht=>?_,fun h' x hx hm=>?_,by rw[nO h.2];exact hf.2.2.1,hf.2.2.2⟩
 ·rw[tN] at ht
  have hv:k ∉ cW r.v:=fun hm=>by
   unfold iJ.v at hm;split at hm
   ·simp[cW,gH] at hm
   rename_i hs;exact h.1 (by unfold iJ.M;rw[if_neg hs];exact aL6 _ hm)
  cases hd:r.o.dst with
  | none=>rw[hd] at ht;exact hf.1 t ht
  | some d=>
    rw[hd] at ht;simp only[upd] at ht;by_cases e:t=d
    ·rw[if_pos e] at ht;exact hv ht
    rw[if_neg e] at ht;exact hf.1 t ht
 rw[wI] at hx;split at hx
 ·exact hf.2.1 h' x hx hm
 rename_i hs;simp only[gF] at hx;split at hx
 ·rename_i y hy;injection hx with hx
  subst hx;exact h.1 (by unfold iJ.M;rw[if_neg hs];exact aKS _ (List.mem_flatten.2 ⟨_,aQO.2 ⟨_,dA hy,rfl⟩,hm⟩))
 split at hx
 ·cases hx
 exact hf.2.1 h' x hx hm
theorem aDo {ops:Array Oper}{y:iJ}{l2:List iJ}: ∀{l1:List iJ},tM ops (l1++y::l2)=true->tM ops (l1++l2)=true/\(∀x∈l1,x.i<y.i/\aAR ops x y=true)/\(∀z∈l2,y.i<z.i/\aAR ops y z=true)/\(y.skip || y.e.new.all fun q=> !y.e.del.contains q.1 || (bH y.vr q.1).isSome)=true
 | [],h=>by
   simp only[aZG,tM,aCA,aI4,aUa] at h;obtain⟨⟨⟨h1,h2⟩,h3⟩,h4⟩:=h;exact⟨h4,by simp,h1,h3⟩
 | x::l1,h=>by
   simp only[List.cons_append,tM,aCA] at h;obtain⟨⟨⟨h1,h2⟩,h3⟩,h4⟩:=h;obtain⟨q1,q2,q3,q4⟩:=aDo h4;rw[aI4] at h1;have hy:=h1 y (by simp);simp only[aCA,aUa] at hy;refine⟨?_,fun z hz=>?_,q3,q4⟩
   ·simp only[List.cons_append,tM,aCA];refine⟨⟨⟨aI4.2 fun z hz=>h1 z ?_,h2⟩,h3⟩,q1⟩;simp only[aKT,aNn] at hz ⊢;rcases hz with hz | hz<;>simp[hz]
   rcases aNn.1 hz with rfl | hz
   ·exact hy
   exact q2 z hz
def aUm (ops:Array Oper)(listed:Array Bool):Prop:= ∀(i:Nat) (o:Oper),i<ops.size->ops[i]? =some o->listed.getD i true=true-> ∀e∈o.after,Region.binds .any e=true->listed.getD e.on false=true
theorem aDp {ops:Array Oper}{listed:Array Bool}(hs:aUm ops listed)(h2: ∀i,i<ops.size->listed.getD i false=listed.getD i true): ∀(n x:Nat) (es:Array Edge),(∀e∈es,Region.binds .any e=true->listed.getD e.on false=true)->tL ops n x es=true->listed.getD x false=true
 | 0,x,es,_,h=>by simp[tL] at h
 | n+1,x,es,he,h=>by
   unfold tL at h;rw[Array.any_eq_true] at h;obtain⟨j,hj,h⟩:=h;simp only[aCA,Bool.or_eq_true] at h;have hl:=he _ (Array.getElem_mem hj) h.1;rcases h.2 with hb | hb
   ·rw[<-aFj hb];exact hl
   split at hb
   ·rename_i o ho;have hi:=(Array.getElem?_eq_some_iff.1 ho).1;exact aDp hs h2 n x o.after (hs _ o hi ho (by rw[<-h2 _ hi];exact hl)) hb
   cases hb
theorem aSk {Qw:Exit->Act->World->Prop}{A:Nat->Prop}{w0:xU}{Kn:St->Prop}(hQ: ∀S a w,Kn S->wH A w0 N S a w->Qw .normal a w): ∀(fuel:Nat) (l:List iJ) (listed:Array Bool) (S:St) (a:Act) (w:World),l.length<=fuel->aC8 P N ops l S Kn->tM ops l=true->
 (∀i,i<ops.size->(listed.getD i true=false↔ ∃r∈l,r.i=i))->(∀i,i<ops.size->listed.getD i false=listed.getD i true)->(∀r∈l,r.i<ops.size)->(∀r∈l,∀k∈r.Nw,iI S k)->aUm ops listed->wH A w0 N S a w->wpAny P .any ops Qw fuel listed a w:=by
 intro fuel
 induction fuel with
 | zero=>
   intro l listed S a w hl hr hlk hli hli2 hsz hf hsh hG;have:l= []:=aKV (by omega);subst this;refine⟨?_,hQ S a w hr hG⟩;unfold Region.ready;rw[List.filter_eq_nil_iff];intro i hi hc;simp only[aCA,Bool.not_eq_true'] at hc;obtain⟨r,hr,_⟩:=(hli i (aR2.1 hi)).1 hc.1;simp at hr
 | succ fuel ih=>
   intro l listed S a w hl hr hlk hli hli2 hsz hf hsh hG;refine⟨fun hnil=>?_,fun i hi=>?_⟩
   ·rcases l with _ | ⟨r,l⟩
    ·exact hQ S a w hr hG
    exfalso
    have hrd:r.i∈Region.ready .any ops listed:=by
     rw[mem_ready];have hsr:=hsz r (by simp);refine⟨(hli r.i hsr).2 ⟨r,by simp,rfl⟩,r.o,hr.1.1,fun e he hb=>?_⟩;simp only[tM,aCA,aI4,aUa] at hlk;obtain⟨⟨⟨h1,h2⟩,_⟩,_⟩:=hlk;have h2' :=Array.all_eq_true_iff_forall_mem.1 h2 e he;simp only[hb,Bool.not_true,Bool.false_or,aUa] at h2';rw[hli2 e.on (by omega)];cases hx:listed.getD e.on true with
     | true=>rfl
     | false=>
       obtain⟨z,hz,hzi⟩:=(hli e.on (by omega)).1 hx;rcases aNn.1 hz with rfl | hz
       ·omega
       have:=(h1 z hz).1;omega
    rw[hnil] at hrd;simp at hrd
   rw[mem_ready] at hi;obtain⟨hi1,o,ho,hdep⟩:=hi;have hsi:i<ops.size:=(Array.getElem?_eq_some_iff.1 ho).1;obtain⟨y,hy,rfl⟩:=(hli i hsi).1 hi1;obtain⟨l1,l2,rfl⟩:=List.append_of_mem hy;obtain⟨k1,k2,k3,k4⟩:=aDo hlk;have hyo:=(aC8.bubble' hr).1;have hoy:o=y.o:=by rw[hyo] at ho;injection ho with ho;exact ho.symm
   have hna: ∀x∈l1,aMm ops x y=false:=fun x hx=>by
    cases hc:aMm ops x y with
    | false=>rfl
    | true=>
      exfalso;have h1:=aDp hsh hli2 _ _ _ (fun e he hb=>hdep e (by rw[hoy];exact he) hb) hc;have hxs:=hsz x (by simp[hx]);rw[hli2 x.i hxs] at h1;have:=(hli x.i hxs).2 ⟨x,by simp[hx],rfl⟩;rw[h1] at this;cases this
   have hap: ∀x∈l1,aHd ops x y=true:=fun x hx=>by
    have:=(k2 x hx).2;simp only[aAR,hna x hx,Bool.false_or,aCA] at this;exact this.1.1
   obtain⟨hok,hrest⟩:=aC8.bubble hr hap
   have hfr: ∀x∈l1++l2,∀k∈x.Nw,iI (y.next S) k:=fun x hx k hk=>by
    have hfx:=hf x (by simp only[aKT,aNn] at hx ⊢;rcases hx with hx | hx<;>simp[hx]) k hk;refine hfx.next ?_;rcases aKT.1 hx with hx | hx
    ·have:=(k2 x hx).2;simp only[aAR,hna x hx,Bool.false_or,aCA] at this;exact pY this.1.2 k hk
    have:=(k3 x hx).2;simp only[aAR,aCA] at this;exact pY this.2 k hk
   have hgo: ∀(a' :Act) (w' :World),wH A w0 N (y.next S) a' w' ->wpAny P .any ops Qw fuel (listed.setIfInBounds y.i true) a' w' :=fun a' w' hG' =>by
    have hne: ∀x∈l1++l2,x.i≠y.i:=fun x hx=>by
     rcases aKT.1 hx with hx | hx
     ·have:=(k2 x hx).1;omega
     have:=(k3 x hx).1;omega
    have hls:y.i<listed.size:=by
     rcases Nat.lt_or_ge y.i listed.size with h | h
     ·exact h
     rw[Array.getD_eq_getD_getElem?,Array.getElem?_eq_none h] at hi1;simp at hi1
    have hsh' :aUm ops (listed.setIfInBounds y.i true):=fun i q hi hq hl' e he hb=>by
     have key:listed.getD e.on false=true:=by
      by_cases ei:y.i=i
      ·subst ei;rw[hyo] at hq;injection hq with hq
       subst hq;exact hdep e (by rw[hoy];exact he) hb
      rw[getD_set_ne true ei] at hl';exact hsh i q hi hq hl' e he hb
     by_cases ee:y.i=e.on
     ·rw[<-ee,Array.getD_eq_getD_getElem?,Array.getElem?_setIfInBounds_self_of_lt hls];rfl
     rw[getD_set_ne false ee];exact key
    refine ih (l1++l2) _ _ a' w' (by simp at hl ⊢;omega) hrest k1 (fun i hi=>?_) (fun i hi=>?_) (fun r hr=>hsz r (by simp only[aKT,aNn] at hr ⊢;rcases hr with hr | hr<;>simp[hr])) hfr hsh' hG'
    ·by_cases e:y.i=i
     ·subst e;rw[Array.getD_eq_getD_getElem?,Array.getElem?_setIfInBounds_self_of_lt hls];simp only[Option.getD_some,Bool.true_eq_false,false_iff,not_exists,not_and];exact fun x hx=>hne x hx
     rw[getD_set_ne true e,hli i hi];constructor
     ·rintro⟨r,hr,rfl⟩;refine⟨r,?_,rfl⟩;simp only[aKT,aNn] at hr ⊢;rcases hr with hr | hr | hr
      ·exact .inl hr
      ·subst hr;exact absurd rfl e
      exact .inr hr
     rintro⟨r,hr,rfl⟩;refine⟨r,?_,rfl⟩;simp only[aKT,aNn] at hr ⊢;rcases hr with hr | hr<;>simp[hr]
    by_cases e:y.i=i
    ·subst e;rw[Array.getD_eq_getD_getElem?,Array.getD_eq_getD_getElem?,Array.getElem?_setIfInBounds_self_of_lt hls];rfl
    rw[getD_set_ne true e,getD_set_ne false e,hli2 i hi]
   obtain⟨K,φ,hG⟩:=hG;have hok' :=hok;obtain⟨o1,o2,o3,o4⟩:=hok';unfold wpOp;rw[o1];simp only
   have exec:y.skip=false->y.o.wp P a w (wpAny P .any ops Qw fuel (listed.setIfInBounds y.i true)) Qw:=fun hs=>by
    have hn:(y.e.new.all fun q=> !y.e.del.contains q.1 || (bH y.vr q.1).isSome)=true:=by simpa [hs] using k4
    have:=hok.sound hs (hf y (by simp)) hn;refine Oper.wp_mono (fun a' w' ⟨K',φ',v,_,hG',_⟩=>hgo a' w' ⟨K',φ',?_⟩) (this K φ A w0 N a w Qw o2 hG);unfold iJ.next;rw[hs];exact hG'
   split at o3
   ·rename_i hg;rw[if_pos (by simp[Region.wanted,hg])];exact .inl (exec o3)
   rename_i j want hg;obtain⟨d,b,q1,q2,q3,q4⟩:=o3;rw[aLI hG hg q1 q2 q3];by_cases hb:b=some want
   ·rw[if_pos (by simp[hb])];exact .inl (exec (by rw[q4];simp[hb]))
   rw[if_neg (by simp[hb])];refine hgo _ w ⟨K,φ,?_⟩;unfold iJ.next;rw[if_pos (by rw[q4];simp[hb])];exact hG.put o2 (aF8 _ _ _)
end
def sN (sl:List (Nat × AV)):List Operand->List (Nat × AV)
 | .tmp t::l=>(t,cF sl t)::sN sl l
 | _::l=>sN sl l
 | []=>[]
def opL:Op->List Operand
 | .move x | .assign x | .box _ x | .load _ x | .nilCheck x | .unOp _ _ x | .convert _ _ x | .fieldAddr _ x _ | .field _ x _ | .extract x _=>[x]
 | .pick c a b=>[c,a,b]
 | .build _ ps | .buildSlice _ _ ps=>ps.toList.map (·.2)
 | .store _ a v | .binOp _ _ a v _ | .makeSlice _ a v | .indexAddr _ a v | .index _ a v=>[a,v]
 | .call c=>(match c.callee with | .value f=>f::c.args.toList | _=>c.args.toList)
 | .slice _ x l h m=>x::(l.toList++h.toList++m.toList)
 | _=>[]
def oL (o:Op)(sl:List (Nat × AV)):List (Nat × AV):=sN sl (opL o)
def aUn (rs:List (Nat × Option Rs))(l:List Nat):List Nat:=l.flatMap fun h=>match bH rs h with | some r=>jI r | none=>[]
def zK (o:Op)(sl:List (Nat × AV))(rs:List (Nat × Option Rs)):List (Nat × Option Rs):=
 let m0:=(oL o sl).flatMap fun q=>cW q.2
 let m1:=aUn rs m0
 (m0++m1++aUn rs m1).map fun h=>(h,bH rs h)
theorem oM (sl:List (Nat × AV)): ∀(l:List Operand) (t:Nat),t∈(sN sl l).map (·.1)->cF (sN sl l) t=cF sl t
 | [],t,h=>by simp[sN] at h
 | .tmp u::l,t,h=>by
   simp only[sN,aLz,aNn,cF] at h ⊢;by_cases e:t=u
   ·simp[e]
   rw[if_neg e];exact oM sl l t (h.resolve_left e)
 | .const _::l,t,h=>oM sl l t h
 | .func _::l,t,h=>oM sl l t h
 | .global _::l,t,h=>oM sl l t h
theorem aLQ (rs:List (Nat × Option Rs)): ∀(l:List Nat) (h:Nat),bH (l.map fun k=>(k,bH rs k)) h=if h∈l then bH rs h else none
 | [],h=>by simp[bH]
 | k::l,h=>by
   simp only[aLz,bH,aLQ rs l h];by_cases e:h=k<;>simp[e]
section
variable {P:Program} {N:Nat} {all:Array Oper}
def mR (i:Nat)(o:Oper)(sl:List (Nat × AV))(rs:List (Nat × Option Rs))(v:AV)(del:List Nat)(new:List (Nat × Rs)):iJ:=⟨i,o,false,oL o.op sl,zK o.op sl rs,⟨v,del,new⟩⟩
def nP (i:Nat)(o:Oper)(sl:List (Nat × AV))(v:AV)(b:List (Nat × Option Rs)):iJ:=⟨i,o,false,oL o.op sl,(99,none)::b,⟨v,[],[]⟩⟩
def tOk (r:iJ)(rs:List (Nat × Option Rs)):Bool:= !r.fr&&r.T.all fun h=>(r.vr.map (·.1)).contains h || (bH rs h).isNone
def rO (sl:List (Nat × AV)):Option Nat->AV->List (Nat × AV)
 | some d,v=>(d,v)::sl
 | none,_=>sl
def rP (P:Program)(N:Nat)(all:Array Oper):Nat->List Oper->List (Nat × AV)->List (Nat × Option Rs)->List iJ->(St->List iJ->Prop)->Prop
 | i,[],sl,rs,acc,K=>K (mk sl rs) acc.reverse
 | i,o::rest,sl,rs,acc,K=>all[i]? =some o/\(∀d,o.dst=some d->d<N)/\match o.guard with
   | none=>(∃v del new,bL P o (mk (oL o.op sl) (zK o.op sl rs)) ⟨v,del,new⟩/\tOk (mR i o sl rs v del new) rs=true/\rP P N all (i+1) rest (rO sl o.dst v) (pP new++(lL del++rs)) (mR i o sl rs v del new::acc) K)\/
     (∃v b,aC7 P (nP i o sl v b)/\(∀k∈b.map (·.1),bH rs k=bH ((99,none)::b) k)/\rP P N all (i+1) rest (rO sl o.dst v) rs (nP i o sl v b::acc) K)
   | some (j,want)=> ∃d b,(all[j]?).bind (·.dst)=some d/\d<N/\gvA (cF sl d)=some b/\
     (b=some want->(∃v del new,bL P o (mk (oL o.op sl) (zK o.op sl rs)) ⟨v,del,new⟩/\tOk (mR i o sl rs v del new) rs=true/\rP P N all (i+1) rest (rO sl o.dst v) (pP new++(lL del++rs)) (mR i o sl rs v del new::acc) K)\/
      (∃v b,aC7 P (nP i o sl v b)/\(∀k∈b.map (·.1),bH rs k=bH ((99,none)::b) k)/\rP P N all (i+1) rest (rO sl o.dst v) rs (nP i o sl v b::acc) K))/\
     (b≠some want->rP P N all (i+1) rest (rO sl o.dst (.tup [])) rs (⟨i,o,true,[],[],⟨.no,[],[]⟩⟩::acc) K)
theorem kY (sl:List (Nat × AV))(rs:List (Nat × Option Rs))(d:Option Nat)(v:AV)(del:List Nat)(new:List (Nat × Rs)):(mk sl rs).apply d ⟨v,del,new⟩=mk (rO sl d v) (pP new++(lL del++rs)):=by
 cases d with
 | none=>exact aSa sl rs v del new
 | some d=>exact aOD sl rs d v del new
theorem aR8 (sl:List (Nat × AV))(rs:List (Nat × Option Rs))(d:Option Nat)(v:AV):(mk sl rs).put d v=mk (rO sl d v) rs:=by
 cases d with
 | none=>rfl
 | some d=>exact aUf sl rs d v
theorem aBm {K:St->List iJ->Prop}: ∀(l:List Oper) (i:Nat) (sl:List (Nat × AV)) (rs:List (Nat × Option Rs)) (acc:List iJ),rP P N all i l sl rs acc K->
 ∃recs S',aC8 P N all recs (mk sl rs) (fun S=>S=S')/\K S' (acc.reverse++recs)/\recs.map (·.i)=List.range' i l.length
 | [],i,sl,rs,acc,h=>⟨[],mk sl rs,rfl,by simpa [rP] using h,by simp⟩
 | o::rest,i,sl,rs,acc,h=>by
   unfold rP at h;obtain⟨hi,hd,h⟩:=h
   have exec:(match o.guard with | none=>True | some (j,want)=> ∃d,(all[j]?).bind (·.dst)=some d/\d<N/\gvA (cF sl d)=some (some want))->(∃v del new,bL P o (mk (oL o.op sl) (zK o.op sl rs)) ⟨v,del,new⟩/\tOk (mR i o sl rs v del new) rs=true/\rP P N all (i+1) rest (rO sl o.dst v) (pP new++(lL del++rs)) (mR i o sl rs v del new::acc) K)->
    ∃recs S',aC8 P N all recs (mk sl rs) (fun S=>S=S')/\K S' (acc.reverse++recs)/\recs.map (·.i)=List.range' i (o::rest).length:=by
    rintro hg ⟨v,del,new,hs,ht,hrest⟩;obtain⟨recs,S',h1,h2,h3⟩:=aBm rest (i+1) _ _ _ hrest;unfold tOk at ht;rw[aCA,Bool.not_eq_true'] at ht;obtain⟨hfr,ht⟩:=ht;refine⟨mR i o sl rs v del new::recs,S',⟨⟨hi,hd,?_,fun _=>⟨⟨fun _=>hs,fun e=>by rw[hfr] at e;cases e⟩,fun t ht=>?_,fun k hk=>?_⟩⟩,?_⟩,by simpa using h2,by simp[h3,mR,List.range'_succ]⟩
    ·cases hgd:o.guard with
     | none=>simp[mR,hgd]
     | some q=>
       obtain⟨j,want⟩:=q;rw[hgd] at hg;obtain⟨d,q1,q2,q3⟩:=hg;simp only[mR,hgd];exact⟨d,some want,q1,q2,q3,by simp⟩
    ·exact(oM sl _ t ht).symm
    ·have:=aI4.1 ht k hk;simp only[Bool.or_eq_true,List.contains_eq_mem,aUa] at this;simp only[mR,zK,List.map_map] at this ⊢;rw[aLQ];split
     ·rfl
     rename_i hn;rcases this with q | q
     ·exact absurd (by simpa [Function.comp_def] using q) hn
     show bH rs k=none;simpa using q
    unfold iJ.next;simp only[mR,Bool.false_eq_true,if_false];rw[kY];exact h1
   have execF:(match o.guard with | none=>True | some (j,want)=> ∃d,(all[j]?).bind (·.dst)=some d/\d<N/\gvA (cF sl d)=some (some want))->(∃v b,aC7 P (nP i o sl v b)/\(∀k∈b.map (·.1),bH rs k=bH ((99,none)::b) k)/\rP P N all (i+1) rest (rO sl o.dst v) rs (nP i o sl v b::acc) K)->
    ∃recs S',aC8 P N all recs (mk sl rs) (fun S=>S=S')/\K S' (acc.reverse++recs)/\recs.map (·.i)=List.range' i (o::rest).length:=by
    rintro hg ⟨v,b,hs,hb,hrest⟩;obtain⟨recs,S',h1,h2,h3⟩:=aBm rest (i+1) _ _ _ hrest;refine⟨nP i o sl v b::recs,S',⟨⟨hi,hd,?_,fun _=>⟨hs,fun t ht=>?_,fun k hk=>?_⟩⟩,?_⟩,by simpa using h2,by simp[h3,nP,List.range'_succ]⟩
    ·cases hgd:o.guard with
     | none=>simp[nP,hgd]
     | some q=>
       obtain⟨j,want⟩:=q;rw[hgd] at hg;obtain⟨d,q1,q2,q3⟩:=hg;simp only[nP,hgd];exact⟨d,some want,q1,q2,q3,by simp⟩
    ·exact(oM sl _ t ht).symm
    ·exact hb k (by simpa [iJ.T,iJ.fr,nP] using hk)
    unfold iJ.next;simp only[nP,Bool.false_eq_true,if_false];rw[kY];exact h1
   split at h
   ·rename_i hg;exact h.elim (exec (by rw[hg];trivial)) (execF (by rw[hg];trivial))
   rename_i j want hg;obtain⟨d,b,q1,q2,q3,q4,q5⟩:=h;by_cases hb:b=some want
   ·exact(q4 hb).elim (exec (by rw[hg];exact⟨d,q1,q2,by rw[q3,hb]⟩)) (execF (by rw[hg];exact⟨d,q1,q2,by rw[q3,hb]⟩))
   obtain⟨recs,S',h1,h2,h3⟩:=aBm rest (i+1) _ _ _ (q5 hb);refine⟨⟨i,o,true,[],[],⟨.no,[],[]⟩⟩::recs,S',⟨⟨hi,hd,?_,fun e=>by cases e⟩,?_⟩,by simpa using h2,by simp[h3,List.range'_succ]⟩
   ·simp only[hg];exact⟨d,b,q1,q2,q3,by simp[hb]⟩
   unfold iJ.next;simp only[if_true];rw[aR8];exact h1
theorem wH.drew {A:Nat->Prop}{w0:xU}{S:St}{a:Act}{w:World}(h:wH A w0 N S a w):wH A w0 N S a { w with drawn:=w.drawn+1 }:=by
 obtain⟨K,φ,hG⟩:=h;have hs: ∀(B:Nat->Prop),eR B w { w with drawn:=w.drawn+1 }:=fun _ _ _=>rfl;refine⟨K,φ,fun h r hr=>?_,hG.non,hG.disj,hG.nodup,hG.ge,hG.kin,hG.kout,hG.aK,fun t=>aJ.mono (hs _) (fun _ h=>h) _ _ (fun h pl _ e=>⟨e,hs _⟩) (hG.slots t),⟨hG.bel.os,hG.bel.tape,hG.bel.output,hG.bel.size,hG.bel.block⟩,hG.nd,hG.size,hG.pin⟩;obtain⟨pl,hp,hh⟩:=hG.dom h r hr;exact⟨pl,hp,Holds.mono (hs _) (fun _ h=>h) (fun _ _=>rfl) r (fun h pl _ e=>⟨e,hs _⟩) hh⟩
end
def aAS:Nat->List Ar->List (Nat × AV)
 | _,[]=>[]
 | i,x::xs=>(i,aOB x)::aAS (i+1) xs
theorem aDq: ∀(xs:List Ar) (i t:Nat),cF (aAS i xs) t=if i<=t then (match xs[t - i]? with | some x=>aOB x | none=> .no) else .no
 | [],i,t=>by simp[aAS,cF]
 | x::xs,i,t=>by
   simp only[aAS,cF,aDq xs (i+1) t];by_cases e:t=i
   ·subst e;simp
   by_cases h:i<=t
   ·have:t - i=(t - (i+1))+1:=by omega
    rw[if_neg e,if_pos (by omega),if_pos h,this,List.getElem?_cons_succ]
   rw[if_neg e,if_neg (by omega),if_neg h]
theorem bAg (args:List Ar):S0 args=mk (aAS 0 args) []:=by
 apply St.ext'
 ·funext t;simp only[S0,mk,aDq,aDB,if_true,Nat.sub_zero]
  try (cases args[t]? <;>rfl)
 funext h;simp[S0,mk,bH]
abbrev intD (n:Int):List bR:=[.int .i64 n]
theorem aHe {α β:Type}{f:α->β}{l:List α}{k:Nat}{x:α}(h:l[k]? =some x):(l.map f)[k]? =some (f x):=by simp[h]
abbrev Lv (w:World):Nat->Prop:=fun b=>b<w.heap.size
section
variable {α:Type}
theorem aHf {R:Rd α}{enc:α->List bR}{w:World}{k:Nat}{a:Option Addr}(hR: ∀cs x,R w cs x->jR (Lv w) w (enc x) cs): ∀(xs:List α) (o:Nat),
 (∀i x,xs[i]? =some x-> ∃b off cs',a=some ⟨b,off,none⟩/\cs'.length=k/\(∀j u,cs'[j]? =some u->w.cell? ⟨b,off+(o+i*k)+j,none⟩=some u)/\R w cs' x)->gV (Lv w) w k (xs.map enc) a o
 | [],o,_=>by simp only[List.map_nil];unfold gV;trivial
 | x::xs,o,h=>by
   simp only[aLz];unfold gV;obtain⟨b,off,cs,rfl,hl,hc,hr⟩:=h 0 x rfl;have hrd:=hR cs x hr;have hlen:=hrd.len;refine⟨by omega,kN.mk (fun hne=>?_) hrd (fun j u hu=>by have:=hc j u hu;simpa using this),aHf hR xs (o+k) fun i y hy=>?_⟩
   ·have h0:0<cs.length:=by
     rcases Nat.eq_zero_or_pos cs.length with h | h
     ·exact absurd (aKV (by omega)) hne
     exact h
    have:=hc 0 _ (aFZ h0);exact World.block_lt_of_cell? w _ this
   obtain⟨b',off',cs',e,hl',hc',hr'⟩:=h (i+1) y (by simpa using hy);refine⟨b',off',cs',e,hl',fun j u hu=>?_,hr'⟩;have:=hc' j u hu;rw[show off' +(o+k+i*k)+j=off' +(o+(i+1)*k)+j by rw[Nat.add_mul];omega];exact this
theorem rQ {R:Rd α}{enc:α->List bR}{w:World}{e k:Nat}{v:Value}{xs:List α}(hR: ∀cs x,R w cs x->jR (Lv w) w (enc x) cs)(h:vT k R w [v] xs):iU (Lv w) w (.sl e k (xs.map enc)) v:=by
 obtain⟨a,c,hv,h1,h2,h3⟩:=h;simp only[List.cons.injEq,and_true] at hv;subst hv;unfold iU;refine⟨a,c,by simp,by simpa using h1,h2,aHf hR xs 0 fun i x hx=>?_⟩;obtain⟨b,off,cs,e,hl,hc,hr⟩:=h3 i x hx;exact⟨b,off,cs,e,hl,fun j u hu=>by have:=hc j u hu;simpa using this,hr⟩
end
section
variable {P:Program}
theorem arsRd_nil {A:Nat->Prop}{w:World}:pU A w [] []:=rfl
theorem arsRd_one {A:Nat->Prop}{w:World}{x:bR}{xs:List Ar}{v:Value}{vs:List Value}(h:iU A w x v)(h' :pU A w xs vs):pU A w (.one x::xs) (v::vs):=⟨v,vs,rfl,h,h'⟩
theorem arsRd_agg {A:Nat->Prop}{w:World}{x:List bR}{xs:List Ar}{us:Array Value}{vs:List Value}(h:jR A w x us.toList)(h' :pU A w xs vs):pU A w (.agg x::xs) (.agg us::vs):=⟨_,vs,rfl,⟨us,rfl,h⟩,h'⟩
theorem rdV_int {A:Nat->Prop}{w:World}{k:IntKind}{n:Int}:iU A w (.int k n) (.int k n):=by unfold iU;rfl
theorem eY {A:Nat->Prop}{w:World}{x:bR}{xs:List bR}{v:Value}{vs:List Value}(h:iU A w x v)(h' :jR A w xs vs):jR A w (x::xs) (v::vs):=⟨v,vs,rfl,h,h'⟩
theorem iZ {A:Nat->Prop}{w:World}:jR A w [] []:=rfl
theorem rM.calls {f:FuncId}{args:List Ar}{rv:AV}{val:Value}{w:World}{vs:Array Value}(h:rM P f args rv [])(ha:pU (Lv w) w args vs.toList)(hv: ∀K φ w v,aJ K φ w rv v->v=val):Calls P f vs w fun e w' =>e= .returned val/\Below w.heap.size w w' :=
 (h.2 (Lv w) w vs (fun _ h=>h) ha).mono fun e w' ⟨v,K,φ,he,hb,_,_,_,_,_,_,_,hm⟩=>⟨by rw[he,hv _ _ _ _ hm],hb⟩
theorem match_bool {b:Bool}: ∀K φ w v,aJ K φ w (.p none (.bool b)) v->v= .bool b:=fun K φ w v h=>by unfold aJ iU at h;exact h
end
section
variable {α:Type}
theorem oN {w:World}{p:bR}{ps:List bR}{v:Value}{cs:List Value}{F1 F2:List Nat}(h1:qZ w p v F1)(h2:dN w ps cs F2):dN w (p::ps) (v::cs) (F1++F2):=by
 unfold dN;exact⟨v,cs,F1,F2,rfl,rfl,h1,h2⟩
theorem aOJ {w:World}:dN w [] [] []:=by unfold dN;exact⟨rfl,rfl⟩
theorem aR9 {w:World}{k:IntKind}{n:Int}:qZ w (.int k n) (.int k n) []:=by unfold qZ;exact⟨rfl,rfl⟩
theorem aOK {w:World}{b:Bool}:qZ w (.bool b) (.bool b) []:=by unfold qZ;exact⟨rfl,rfl⟩
end
mutual
theorem qZ.lt {w:World}: ∀{x:bR} {v:Value} {F:List Nat},qZ w x v F-> ∀g∈F,g<w.heap.size
 | .int _ _,_,_,h,g,hg=>by unfold qZ at h;rw[h.2] at hg;simp at hg
 | .bool _,_,_,h,g,hg=>by unfold qZ at h;rw[h.2] at hg;simp at hg
 | .str _,_,_,h,g,hg=>by unfold qZ at h;rw[h.2] at hg;simp at hg
 | .gone,_,_,h,g,hg=>by unfold qZ at h;rw[h.2] at hg;simp at hg
 | .sl e k xs,v,F,h,g,hg=>by
   unfold qZ at h;obtain⟨css,Fs,h1,rfl,h2⟩:=h;rcases aKT.1 hg with hg | hg
   ·exact(xS h1 g hg).2
   exact cV.lt h2 g hg
theorem cV.lt {w:World}{k:Nat}: ∀{xs:List (List bR)} {css:List (List Value)} {Fs:List (List Nat)},cV w k xs css Fs-> ∀g∈Fs.flatten,g<w.heap.size
 | [],css,Fs,h,g,hg=>by unfold cV at h;rw[h.2] at hg;simp at hg
 | x::xs,css,Fs,h,g,hg=>by
   unfold cV at h;obtain⟨c,css',F,Fs',rfl,rfl,h1,h2,h3⟩:=h;rcases aKT.1 (by simpa using hg:g∈F++Fs'.flatten) with hg | hg
   ·exact dN.lt h2 g hg
   exact cV.lt h3 g hg
theorem dN.lt {w:World}: ∀{ds:List bR} {cs:List Value} {F:List Nat},dN w ds cs F-> ∀g∈F,g<w.heap.size
 | [],cs,F,h,g,hg=>by unfold dN at h;rw[h.2] at hg;simp at hg
 | p::ps,cs,F,h,g,hg=>by
   unfold dN at h;obtain⟨v,cs',F1,F2,rfl,rfl,h1,h2⟩:=h;rcases aKT.1 hg with hg | hg
   ·exact qZ.lt h1 g hg
   exact dN.lt h2 g hg
end
abbrev Sl:=List (Nat × AV)
abbrev Rl:=List (Nat × Option Rs)
structure Qn (τ:Type) where
 all:(τ->Prop)->Prop
 ex:Nat->(τ->Prop)->Prop
 h1: ∀P,all P-> ∀x,P x
 h2: ∀n P,ex n P-> ∃x,P x
def Q1 (α:Type):Qn α:=⟨fun P=> ∀x,P x,fun _ P=> ∃x,P x,fun _ h=>h,fun _ _ h=>h⟩
def Q2 (α β:Type):Qn (α × β):=⟨fun P=> ∀x y,P (x,y),fun _ P=> ∃x y,P (x,y),fun _ h ⟨x,y⟩=>h x y,fun _ _ ⟨x,y,h⟩=>⟨(x,y),h⟩⟩
def Q3 (α β γ:Type):Qn (α × β × γ):=⟨fun P=> ∀x y z,P (x,y,z),fun _ P=> ∃x y z,P (x,y,z),fun _ h ⟨x,y,z⟩=>h x y z,fun _ _ ⟨x,y,z,h⟩=>⟨(x,y,z),h⟩⟩
def Q4 (α β γ δ:Type):Qn (α × β × γ × δ):=⟨fun P=> ∀x y z u,P (x,y,z,u),fun _ P=> ∃x y z u,P (x,y,z,u),fun _ h ⟨x,y,z,u⟩=>h x y z u,fun _ _ ⟨x,y,z,u,h⟩=>⟨(x,y,z,u),h⟩⟩
def Qs {α β:Type}(p:Qn α)(q:Qn β):Qn (α ⊕ β):=
 ⟨fun P=>p.all (fun x=>P (.inl x))/\q.all (fun x=>P (.inr x)),fun n P=>(match n with | 0=>p.ex 0 fun x=>P (.inl x) | n+1=>q.ex n fun x=>P (.inr x)),
  fun P h x=>(match x with | .inl y=>p.h1 _ h.1 y | .inr y=>q.h1 _ h.2 y),
  fun n P h=>(match n,h with | 0,h=>(p.h2 0 _ h).elim fun x hx=>⟨.inl x,hx⟩ | n+1,h=>(q.h2 n _ h).elim fun x hx=>⟨.inr x,hx⟩)⟩
inductive T:Type 1 where
 | fin (ren:List (Nat × Nat))
 | back (ren:List (Nat × Nat)) (n:Nat:=0)
 | br (a b:T)
 | lit (t:T)
 | yes (t:T)
 | no (t:T)
 | raw (t:T)
 | elem (α:Type) (enc:α->List bR) (l:List α) (t:α->T)
 | row (r:List bR) (t:T)
 | len (n:Nat) (t:T)
 | mk (n:Nat) (zr:List bR) (zs:List (List bR)) (t:T)
 | set (α:Type) (enc:α->List bR) (l:List α) (y:α->α) (t:α->T)
 | app (α:Type) (enc:α->List bR) (l l2:List α) (t:T)
 | appx (α:Type) (enc:α->List bR) (l:List α) (x:α) (t:T)
 | appr (α:Type) (enc:α->List bR) (l l2:List α) (t:T)
 | bld (α:Type) (enc:α->List bR) (x:α) (t:T)
 | apph (α:Type) (enc:α->List bR) (l:List α) (y:α) (t:T)
 | appy (α:Type) (enc:α->List bR) (l:List α) (y:α) (t:T)
 | call (rv:AV) (rr:List (Nat × Rs)) (t:T)
 | callx (fs:List AV) (ri:List (Nat × Rs)) (ren:List (Nat × Nat)) (rv:AV) (ro:List (Nat × Rs)) (t:T)
 | callxs (fs:List AV) (ri:List (Nat × Rs)) (ren:List (Nat × Nat)) (rv:AV) (ro:List (Nat × Rs)) (t:T)
 | bytes (l:List Int) (t:T)
 | split (rid h i j h' :Nat) (α:Type) (enc:α->List bR) (l:List α) (t:α->T)
 | join (rid h h' :Nat) (α:Type) (enc:α->List bR) (l:List α) (y:α->α) (t:α->T)
 | takeg (rid h n h' :Nat) (α:Type) (enc:α->List bR) (l:List α) (t:α->List α->T)
 | leave (rid h n h' :Nat) (α:Type) (enc:α->List bR) (x:α) (l:List α) (t:T)
 | setm (α:Type) (enc:α->List bR) (l:List α) (y:α->α) (t:α->T)
 | sub (α:Type) (enc:α->List bR) (l:List α) (t:T)
 | stl (d:Nat) (t:T)
 | shal (rid h:Nat) (t:T)
 | stls (rid d:Nat) (t:T)
 | nilt (rid h off e k:Nat) (t:T)
 | stlb (rid h:Nat) (t:T)
 | loop (τ:Type) (q:Qn τ) (W V:List Nat) (osl:τ->Sl) (ors:τ->Rl) (inv:τ->Prop) (m:τ->Nat) (t:τ->T)
def bAh (P:Program)(i k:Nat)(f:Field):Bool:=
 !(f.name == "_") && Nat.beq f.offset i && (match P.underlying f.type with | some (.int _) => Nat.beq k 0 | some .bool => Nat.beq k 1 | some .string => Nat.beq k 2 | _ => false)
def aLR (P:Program):Nat->List Nat->List Field->Bool
 | _,[],[]=>true
 | i,k::ks,f::fs=>bAh P i k f&&aLR P (i+1) ks fs
 | _,_,_=>false
def seB (P:Program)(t:TypeId)(ks:List Nat):Bool:=
 (match P.underlying t with | some (.struct fs)=>aLR P 0 ks fs.toList | _=>false)&& !P.stoodInHeld t&& !P.eqGuardType P.depth t
structure Tb where
 ty:List (Nat × (Bool × Nat × Nat × Value))
 sl:List (Nat × Nat)
 fl:List (Nat × List (Nat × (Nat × Nat)))
 pl:List (Nat × (Value × List (Nat × Nat)))
 bo:List (Nat × Unit)
 st:List (Nat × Unit)
 nt:List (Nat × IntKind)
 se:List (Nat × List Nat)
def dC {α:Type}:List (Nat × α)->Nat->Option α
 | [],_=>none
 | (k,v)::l,t=>match Nat.beq t k with | true=>some v | false=>dC l t
def pZ {α:Type}(p:Nat->α->Prop):List (Nat × α)->Prop
 | []=>True
 | (k,v)::l=>p k v/\pZ p l
theorem dG {α:Type}{p:Nat->α->Prop}: ∀{l:List (Nat × α)} {t:Nat} {x:α},pZ p l->dC l t=some x->p t x
 | [],_,_,_,h=>by simp[dC] at h
 | (k,v)::l,t,x,hf,h=>by
   unfold dC at h;split at h
   ·rename_i e;have:=aFj e;subst this;injection h with h
    subst h;exact hf.1
   exact dG hf.2 h
structure mS (P:Program) (tb:Tb):Prop where
 ty:pZ (fun t x=>gU P t=some x) tb.ty
 sl:pZ (fun t e=>P.underlying t=some (.slice e)) tb.sl
 fl:pZ (fun t l=>pZ (fun f x=>sO P t f=some x) l) tb.fl
 pl:pZ (fun t x=>aDi P t=some x) tb.pl
 bo:pZ (fun t _=>P.underlying t=some .bool) tb.bo
 st:pZ (fun t _=>P.underlying t=some .string) tb.st
 nt:pZ (fun t k=>P.underlying t=some (.int k)) tb.nt
 se:pZ (fun t ks=>seB P t ks=true) tb.se
def bK (n:Int):Prop:= -9223372036854775808<=n/\n<=9223372036854775807
abbrev vI (n:Int):AV:= .p none (.int .i64 n)
abbrev vB (b:Bool):AV:= .p none (.bool b)
def EqD:bR->bR->Prop
 | .int k a,.int k' b=>if k=k' then a=b else False
 | .bool a,.bool b=>a=b
 | .str a,.str b=>a=b
 | .sl e k xs,.sl e' k' ys=>match Nat.beq e e' &&Nat.beq k k' with | true=>xs=ys | false=>False
 | _,_=>False
theorem EqD.eq: ∀{x y:bR},EqD x y->x=y:=by
 intro x y h;unfold EqD at h;split at h
 ·split at h
  ·rename_i e;subst e;rw[h]
  cases h
 ·rw[h]
 ·rw[h]
 ·split at h
  ·rename_i e;rw[aCA] at e;rw[aFj e.1,aFj e.2,h]
  cases h
 cases h
def EqN (a b:Nat)(K:Prop):Prop:=match Nat.beq a b with | true=>K | false=>False
theorem EqN.eq {a b:Nat}{K:Prop}(h:EqN a b K):a=b/\K:=by
 unfold EqN at h;split at h
 ·rename_i e;exact⟨aFj e,h⟩
 cases h
def eqO:Option Nat->Option Nat->Bool
 | none,none=>true
 | some a,some b=>Nat.beq a b
 | _,_=>false
theorem aZf: ∀{a b:Option Nat},eqO a b=true->a=b
 | none,none,_=>rfl
 | some a,some b,h=>by rw[aFj h]
 | none,some _,h=>by cases h
 | some _,none,h=>by cases h
mutual
def EqA:AV->AV->Prop->Prop
 | .p o x,y,K=>(match y with | .p o' x' =>(match eqO o o' with | true=>EqD x x' /\K | false=>False) | _=>False)
 | .own h,y,K=>(match y with | .own h' =>EqN h h' K | _=>False)
 | .ptr h o,y,K=>(match y with | .ptr h' o' =>EqN h h' (EqN o o' K) | _=>False)
 | .nil,y,K=>(match y with | .nil=>K | _=>False)
 | .no,y,K=>(match y with | .no=>K | _=>False)
 | .agg cs,y,K=>(match y with | .agg cs' =>aDr cs cs' K | _=>False)
 | .tup cs,y,K=>(match y with | .tup cs' =>aDr cs cs' K | _=>False)
 | .fn f cs,y,K=>(match y with | .fn f' cs' =>EqN f f' (aDr cs cs' K) | _=>False)
 | x,y,K=>x=y/\K
def aDr:List AV->List AV->Prop->Prop
 | [],ys,K=>(match ys with | []=>K | _=>False)
 | x::xs,ys,K=>(match ys with | y::ys=>EqA x y (aDr xs ys K) | []=>False)
end
mutual
theorem EqA.eq: ∀(x y:AV) (K:Prop),EqA x y K->x=y/\K
 | .p o x,y,K,h=>by
   unfold EqA at h;split at h
   ·split at h
    ·rename_i e;exact⟨by rw[aZf e,EqD.eq h.1],h.2⟩
    cases h
   cases h
 | .own h,y,K,hh=>by
   unfold EqA at hh;split at hh
   ·exact⟨by rw[hh.eq.1],hh.eq.2⟩
   cases hh
 | .ptr h o,y,K,hh=>by
   unfold EqA at hh;split at hh
   ·exact⟨by rw[hh.eq.1,hh.eq.2.eq.1],hh.eq.2.eq.2⟩
   cases hh
 | .nil,y,K,h=>by
   unfold EqA at h;split at h
   ·exact⟨rfl,h⟩
   cases h
 | .no,y,K,h=>by
   unfold EqA at h;split at h
   ·exact⟨rfl,h⟩
   cases h
 | .agg cs,y,K,h=>by
   unfold EqA at h;split at h
   ·have:=aDr.eq cs _ K h;exact⟨by rw[this.1],this.2⟩
   cases h
 | .tup cs,y,K,h=>by
   unfold EqA at h;split at h
   ·have:=aDr.eq cs _ K h;exact⟨by rw[this.1],this.2⟩
   cases h
 | .fn f cs,y,K,h=>by
   unfold EqA at h;split at h
   ·have:=aDr.eq cs _ K h.eq.2;exact⟨by rw[h.eq.1,this.1],this.2⟩
   cases h
 | .ep _ _ _ _,y,K,h=>by unfold EqA at h;exact h
 | .rp _ _,y,K,h=>by unfold EqA at h;exact h
 | .bsl _ _,y,K,h=>by unfold EqA at h;exact h
theorem aDr.eq: ∀(xs ys:List AV) (K:Prop),aDr xs ys K->xs=ys/\K
 | [],ys,K,h=>by
   unfold aDr at h;split at h
   ·exact⟨rfl,h⟩
   cases h
 | x::xs,ys,K,h=>by
   unfold aDr at h;split at h
   ·rename_i y ys';have h1:=EqA.eq x y _ h;have h2:=aDr.eq xs _ K h1.2;exact⟨by rw[h1.1,h2.1],h2.2⟩
   cases h
end
def EqR:Rs->Rs->Prop->Prop
 | .box t cs,y,K=>(match y with | .box t' cs' =>EqN t t' (aDr cs cs' K) | _=>False)
 | .arr e k d xs,y,K=>(match y with | .arr e' k' d' ys=>(match Nat.beq e e' &&Nat.beq k k' &&(d==d') with | true=>xs=ys/\K | false=>False) | _=>False)
 | .hole _ _ _ _ _ _,_,_=>False
theorem EqR.eq {x y:Rs}{K:Prop}(h:EqR x y K):x=y/\K:=by
 cases x with
 | box t cs=>
   simp only[EqR] at h;split at h
   ·have:=aDr.eq cs _ K h.eq.2;exact⟨by rw[h.eq.1,this.1],this.2⟩
   cases h
 | arr e k d xs=>
   simp only[EqR] at h;split at h
   ·split at h
    ·rename_i hb;simp only[aCA,beq_iff_eq] at hb;exact⟨by rw[aFj hb.1.1,aFj hb.1.2,hb.2,h.1],h.2⟩
    cases h
   cases h
 | hole e k xs i j q=>simp only[EqR] at h
def gW (sl:Sl)(rs:Rl)(h:Nat):Bool:=
 (Nat.ble 100 h&&(match bH rs h with | none=>true | some _=>false))&&sl.all (fun q=> !(cW (cF sl q.1)).contains h)&&rs.all (fun q=>match bH rs q.1 with | some r=> !(jI r).contains h | none=>true)
theorem gA {sl:Sl}{rs:Rl}{h:Nat}(hb:gW sl rs h=true):iI (mk sl rs) h:=by
 unfold gW at hb;simp only[aCA,aI4] at hb;obtain⟨⟨⟨h0,h1⟩,h2⟩,h3⟩:=hb;refine⟨fun t ht=>?_,fun h' r hr hm=>?_,?_,aEP h0⟩
 ·simp only[mk] at ht
  have:t∈sl.map (·.1):=by
   refine Classical.byContradiction fun hn=>?_
   have e: ∀(l:Sl),t ∉ l.map (·.1)->cF l t= .no:=by
    intro l
    induction l with
    | nil=>intro _;rfl
    | cons q l ih=>
      intro hn;simp only[aLz,aNn,not_or] at hn;simp only[cF];rw[if_neg hn.1];exact ih hn.2
   rw[e sl hn] at ht;simp[cW] at ht
  obtain⟨q,hq,rfl⟩:=aQO.1 this;have:=h2 q hq;simp only[Bool.not_eq_true',List.contains_eq_mem,decide_eq_false_iff_not] at this;exact this ht
 ·simp only[mk] at hr
  have:h' ∈rs.map (·.1):=by
   refine Classical.byContradiction fun hn=>?_
   have e: ∀(l:Rl),h' ∉ l.map (·.1)->bH l h' =none:=by
    intro l
    induction l with
    | nil=>intro _;rfl
    | cons q l ih=>
      intro hn;simp only[aLz,aNn,not_or] at hn;simp only[bH];rw[if_neg hn.1];exact ih hn.2
   rw[e rs hn] at hr;cases hr
  obtain⟨q,hq,rfl⟩:=aQO.1 this;have:=h3 q hq;rw[hr] at this;simp only[Bool.not_eq_true',List.contains_eq_mem,decide_eq_false_iff_not] at this;exact this hm
 simp only[mk];cases hf:bH rs h with
 | none=>rfl
 | some r=>simp[hf] at h1
def arW (k:IntKind)(r:Int)(t:T)(K:AV->T->Prop):Prop:=match k with
 | .i64=>match t with | .raw t=>K (.p none (.int .i64 (IntKind.i64.wrap r))) t | t=>bK r/\K (.p none (.int .i64 r)) t
 | k=>K (.p none (.int k (k.wrap r))) t
def cL (op:BinOp)(k:IntKind)(m n:Int):Int:=k.wrap (match op with
 | .and=>(BitVec.ofInt k.bits m&&&BitVec.ofInt k.bits n).toNat
 | .or=>(BitVec.ofInt k.bits m ||| BitVec.ofInt k.bits n).toNat
 | .xor=>(BitVec.ofInt k.bits m^^^BitVec.ofInt k.bits n).toNat
 | _=>(BitVec.ofInt k.bits m&&& ~~~ BitVec.ofInt k.bits n).toNat:Nat)
def aZg (op:BinOp)(k:IntKind)(m n:Int)(t:T)(K:AV->T->Prop):Prop:=match op with
 | .lss=>K (vB (decide (m<n))) t
 | .leq=>K (vB (decide (m<=n))) t
 | .gtr=>K (vB (decide (n<m))) t
 | .geq=>K (vB (decide (n<=m))) t
 | .eql=>K (vB (decide (m=n))) t
 | .neq=>K (vB (!decide (m=n))) t
 | .add=>arW k (m+n) t K
 | .sub=>arW k (m - n) t K
 | .mul=>arW k (m*n) t K
 | .quo=>n≠0/\arW k (m.tdiv n) t K
 | .rem=>n≠0/\K (.p none (.int k (m.tmod n))) t
 | .and=>K (.p none (.int k (cL .and k m n))) t
 | .or=>K (.p none (.int k (cL .or k m n))) t
 | .xor=>K (.p none (.int k (cL .xor k m n))) t
 | .andNot=>K (.p none (.int k (cL .andNot k m n))) t
 | _=>False
def shW (op:BinOp)(k:IntKind)(m n:Int)(t:T)(K:AV->T->Prop):Prop:=match k with
 | .i64=>match op with
   | .shl=>(0<=n/\n<=64)/\arW .i64 (m*2^n.toNat) t K
   | .shr=>(0<=n/\n<=64)/\K (.p none (.int .i64 (m/2^n.toNat))) t
   | _=>False
 | _=>False
def aZh (op:BinOp)(m n:ByteArray)(t:T)(K:AV->T->Prop):Prop:=match op with
 | .eql=>K (vB (m.toList==n.toList)) t
 | .neq=>K (vB (!(m.toList==n.toList))) t
 | .add=>m.size+n.size<=9223372036854775807/\K (.p none (.str (m++n))) t
 | .lss=>K (vB (Op.bytesLess m.toList n.toList)) t
 | .geq=>K (vB (!Op.bytesLess m.toList n.toList)) t
 | _=>False
def eq1:Nat->bR->bR->Option Bool
 | 0,.int k a,.int k' b=>if k=k' then some (a==b) else none
 | 1,.bool a,.bool b=>some (a==b)
 | 2,.str a,.str b=>some (a.toList==b.toList)
 | _,_,_=>none
def aMn:List Nat->List bR->List bR->Option Bool
 | [],[],[]=>some true
 | k::ks,x::xs,y::ys=>(match eq1 k x y with | some b=>(match aMn ks xs ys with | some c=>some (b&&c) | none=>none) | none=>none)
 | _,_,_=>none
def aLS:List AV->Option (List bR)
 | []=>some []
 | .p none x::l=>(match x.val? with | some _=>(match aLS l with | some xs=>some (x::xs) | none=>none) | none=>none)
 | _::_=>none
def aZi (tb:Tb)(op:BinOp)(ty:TypeId)(xs ys:List AV)(t:T)(K:AV->T->Prop):Prop:=match dC tb.se ty with
 | some ks=>(match aLS xs with
   | some ds=>(match aLS ys with
     | some es=>(match aMn ks ds es with
       | some b=>(match op with | .eql=>K (vB b) t | .neq=>K (vB (!b)) t | _=>False)
       | none=>False)
     | none=>False)
   | none=>False)
 | none=>False
def aZj (tb:Tb)(op:BinOp)(ty:TypeId)(x y:AV)(t:T)(K:AV->T->Prop):Prop:=
 match x with
 | .p none (.int k m)=>(match y with
   | .p none (.int k' n)=>(match op with
     | .shl=>shW .shl k m n t K
     | .shr=>shW .shr k m n t K
     | op=>if k=k' then aZg op k m n t K else False)
   | _=>False)
 | .p none (.bool m)=>(match y with
   | .p none (.bool n)=>(match dC tb.bo ty with
     | some _=>(match op with
       | .eql=>K (vB (m==n)) t
       | .neq=>K (vB (!(m==n))) t
       | _=>False)
     | none=>False)
   | _=>False)
 | .p none (.str m)=>(match y with
   | .p none (.str n)=>aZh op m n t K
   | _=>False)
 | .agg xs=>(match y with
   | .agg ys=>aZi tb op ty xs ys t K
   | _=>False)
 | _=>False
def unW (op:UnOp)(x:AV)(t:T)(K:AV->T->Prop):Prop:=match op with
 | .not=>(match x with | .p none (.bool b)=>K (vB (!b)) t | _=>False)
 | .neg=>(match x with | .p none (.int k m)=>arW k (-m) t K | _=>False)
 | _=>False
def aUo (c x y:AV)(t:T)(K:AV->T->Prop):Prop:=match c with
 | .p none (.bool b)=>(match t with
   | .br t1 t2=>(b=true->K x t1)/\(b=false->K y t2)
   | .lit t=>(match b with | true=>K x t | false=>K y t)
   | .yes t=>b=true/\K x t
   | .no t=>b=false/\K y t
   | t=>(match b with | true=>K x t | false=>K y t))
 | _=>False
def rR (rs:Rl):Option Nat->Bool
 | none=>true
 | some h=>(bH rs h).isSome
def aRa (xs:List (List bR))(i:Nat)(t:T)(K:List bR->T->Prop):Prop:=match t with
 | .elem _ enc l t=>xs=l.map enc/\i<l.length/\ ∀x,l[i]? =some x->K (enc x) (t x)
 | .row r t=>xs[i]? =some r/\K r t
 | _=>False
def aZk (tb:Tb)(rs:Rl)(ty:TypeId)(x y:AV)(t:T)(K:AV->T->Prop):Prop:=
 match y with
 | .p none (.int _ n)=>(match dC tb.sl ty with
   | some e=>(match dC tb.ty e with
     | some q=>(match x with
       | .p o (.sl _ k xs)=>(match Nat.beq k q.2.1&&rR rs o with
         | true=>0<=n/\aRa xs n.toNat t (fun r t=>K (.rp o r) t)
         | false=>False)
       | .own h=>(match bH rs h with
         | some (.arr _ k _ xs)=>(match Nat.beq k q.2.1 with
           | true=>(match t with | .len m t=>0<=n/\xs.length=m/\n<m/\K (.ep h k n.toNat 0) t | _=>False)
           | false=>False)
         | some (.hole _ k xs _ _ _)=>(match Nat.beq k q.2.1 with
           | true=>(match t with | .len m t=>0<=n/\xs.length=m/\n<m/\K (.ep h k n.toNat 0) t | _=>False)
           | false=>False)
         | _=>False)
       | _=>False)
     | none=>False)
   | none=>False)
 | _=>False
def aZl (tb:Tb)(rs:Rl)(s:TypeId)(x:AV)(f:Nat)(K:AV->Prop):Prop:=match dC tb.fl s with
 | some l=>(match dC l f with
   | some q=>(match x with
     | .ptr h o=>K (.ptr h (o+q.1))
     | .ep h k i o=>(match rR rs (some h) with | true=>K (.ep h k i (o+q.1)) | false=>False)
     | .rp o xs=>(match rR rs o with | true=>K (.rp o (xs.drop q.1)) | false=>False)
     | _=>False)
   | none=>False)
 | none=>False
def aUp (tb:Tb)(rs:Rl)(ty:TypeId)(x:AV)(t:T)(K:AV->T->Prop):Prop:=match dC tb.ty ty with
 | some (ag,n,_,_)=>(match x with
   | .ptr h off=>(match bH rs h with
     | some (.box _ cs)=>(match ag with
       | true=>(match Nat.ble (off+n) cs.length with | true=>K (.agg ((cs.drop off).take n)) t | false=>False)
       | false=>(match cs[off]? with | some v=>K v t | none=>False))
     | _=>False)
   | .rp o xs=>(match rR rs o with
     | true=>(match ag with
       | true=>(match Nat.ble n xs.length with | true=>K (.agg ((xs.take n).map (pOf o))) t | false=>False)
       | false=>(match xs[0]? with | some y=>K (pOf o y) t | none=>False))
     | false=>False)
   | .ep h k i off=>(match bH rs h with
     | some (.arr _ k' dp xs)=>(match Nat.beq k k' with
       | true=>aRa xs i t (fun row t=>match ag with
         | true=>(match Nat.ble (off+n) row.length with | true=>K (.agg (((row.drop off).take n).map (pOf (match dp with | true=>some h | false=>none)))) t | false=>False)
         | false=>(match row[off]? with | some y=>K (pOf (match dp with | true=>some h | false=>none) y) t | none=>False))
       | false=>False)
     | some (.hole _ k' _ i' j h')=>(match Nat.beq k k' &&Nat.beq off j&& !ag with
       | true=>i=i' /\K (.own h') t
       | false=>False)
     | _=>False)
   | _=>False)
 | none=>False
def xY (rs:Rl):AV->Bool
 | .p o _=>rR rs o
 | .own h=>rR rs (some h)
 | .ptr h _=>rR rs (some h)
 | .ep h _ _ _=>rR rs (some h)
 | .rp o _=>rR rs o
 | .bsl h _=>rR rs (some h)
 | .fn _ _=>true
 | .nil=>true
 | .agg _=>true
 | _=>false
def aEu:List AV->Option (List bR)
 | []=>some []
 | .p none x::l=>(match x.val? with
   | some _=>(match aEu l with | some ds=>some (x::ds) | none=>none)
   | none=>none)
 | _=>none
def fT:List bR->Bool
 | []=>true
 | x::l=>x.val?.isSome&&fT l
def stW (tb:Tb)(rs:Rl)(ty:TypeId)(x y:AV)(t:T)(K:List Nat->List (Nat × Rs)->T->Prop):Prop:=match dC tb.ty ty with
 | some (_,n,_,_)=>(match x with
   | .ptr h off=>(match bH rs h with
     | some (.box tq cs)=>(match xY rs y&&Nat.beq (fE y).length n&&Nat.ble (off+n) cs.length with
       | true=>K [h] [(h,.box tq (cs.take off++fE y++cs.drop (off+n)))] t
       | false=>False)
     | _=>False)
   | .ep h k i off=>(match bH rs h with
     | some (.arr e k' dp xs)=>(match Nat.beq k k' with
       | true=>(match aEu (fE y) with
         | some ys=>(match Nat.beq ys.length n with
           | true=>(match t with
             | .set _ enc l y t=>xs=l.map enc/\i<l.length/\ ∀x,l[i]? =some x->fT (enc x)=true/\off+n<=(enc x).length/\(enc x).take off++ys++(enc x).drop (off+n)=enc (y x)/\K [h] [(h,.arr e k dp ((l.set i (y x)).map enc))] (t x)
             | _=>False)
           | false=>False)
         | none=>False)
       | false=>False)
     | _=>False)
   | _=>False)
 | none=>False
def aQQ (tb:Tb)(rs:Rl)(ty:TypeId)(parts:List (Nat × AV))(K:AV->Prop):Prop:=match dC tb.pl ty with
 | some (z,ps)=>(match parts.all (fun q=>xY rs q.2) with
   | true=>(match tI (ps.toArray[·]?) (z.cells.toList.map avC) parts with | some cs=>K (.agg cs) | none=>False)
   | false=>False)
 | none=>False
def aFa (k:Nat):Nat->List bR->List (List bR)
 | 0,_=>[]
 | n+1,l=>l.take k::aFa k n (l.drop k)
def aZm (tb:Tb)(sl:Sl)(rs:Rl)(d:Nat)(ty:TypeId)(n:Nat)(parts:List (Nat × AV))(K:AV->List (Nat × Rs)->Prop):Prop:=match dC tb.sl ty with
 | some e=>(match dC tb.ty e with
   | some (_,k,_,_)=>(match gW sl rs (100*d) with
     | true=>(match n with
       | 0=>(match parts with | []=>K (.own (100*d)) [(100*d,.arr e k true [])] | _=>False)
       | n=>(match parts.all (fun q=>xY rs q.2)&&Nat.ble (n*k) 16777216&&Nat.blt 0 (n*k) with
         | true=>(match tI (fun i=>some (i*k,k)) (List.replicate (n*k) AV.no) parts with
           | some cs=>(match aEu cs with
             | some ds=>(match Nat.beq ds.length (n*k) with | true=>K (.own (100*d)) [(100*d,.arr e k true (aFa k n ds))] | false=>False)
             | none=>(match (gH cs).contains (100*d) with | true=>False | false=>K (.bsl (100*d) n) [(100*d,.box e cs)]))
           | none=>False)
         | false=>False))
     | false=>False)
   | none=>False)
 | none=>False
def aAT:List Value->List bR->Bool
 | [],[]=>true
 | .int k n::vs,.int k' m::ds=>(if k=k' then true else false)&&(if n=m then true else false)&&aAT vs ds
 | .bool a::vs,.bool b::ds=>(a==b)&&aAT vs ds
 | .slice none 0 0::vs,.sl _ _ []::ds=>aAT vs ds
 | .string ⟨⟨[]⟩⟩::vs,.str ⟨⟨[]⟩⟩::ds=>aAT vs ds
 | _,_=>false
def mkW (tb:Tb)(sl:Sl)(rs:Rl)(d:Nat)(ty:TypeId)(x y:AV)(t:T)(K:AV->List (Nat × Rs)->T->Prop):Prop:=match dC tb.sl ty with
 | some e=>(match dC tb.ty e with
   | some (_,k,bt,z)=>(match gW sl rs (100*d) with
     | true=>(match x with
       | .p none (.int _ a)=>(match y with
         | .p none (.int _ b)=>(match t with
           | .mk n zr zs t=>(match aAT z.cells.toList zr with
             | true=>a=n/\b=n/\bt*n<=281474976710656/\n<=9223372036854775807/\List.replicate n zr=zs/\K (.own (100*d)) [(100*d,.arr e k true zs)] t
             | false=>False)
           | _=>False)
         | _=>False)
       | _=>False)
     | false=>False)
   | none=>False)
 | none=>False
def aZn (rs:Rl)(x:AV)(t:T)(K:AV->T->Prop):Prop:=match x with
 | .p o (.sl _ _ xs)=>(match rR rs o with
   | true=>(match t with | .len n t=>xs.length=n/\K (vI n) t | _=>False)
   | false=>False)
 | .own h=>(match bH rs h with
   | some (.arr _ _ _ xs)=>(match t with | .len n t=>xs.length=n/\K (vI n) t | _=>False)
   | _=>False)
 | .nil=>K (vI 0) t
 | _=>False
def aCP (rs:Rl):List AV->List bR->Prop->Prop
 | [],row,K=>(match row with | []=>K | _=>False)
 | c::cs,row,K=>(match row with
   | []=>False
   | x::row=>(match c with
     | .p none y=>(match y.val? with | some _=>EqD y x/\aCP rs cs row K | none=>False)
     | .own g=>(match x with
       | .sl e k ys=>(match bH rs g with
         | some (.arr e' k' true xs)=>(match Nat.beq e' e&&Nat.beq k' k with | true=>xs=ys/\aCP rs cs row K | false=>False)
         | _=>False)
       | _=>False)
     | .nil=>(match x with | .sl _ _ ys=>ys= []/\aCP rs cs row K | _=>False)
     | _=>False))
def aAU:List AV->List Nat
 | []=>[]
 | .own g::cs=>g::aAU cs
 | _::cs=>aAU cs
def aXi (rs:Rl)(e k:Nat)(x:AV)(K:List Nat->Bool->List (List bR)->Prop):Prop:=match x with
 | .own h=>(match bH rs h with
   | some (.arr e' k' dp xs)=>(match Nat.beq e' e&&Nat.beq k' k with | true=>K [h] dp xs | false=>False)
   | _=>False)
 | .nil=>K [] true []
 | _=>False
def aXj (rs:Rl)(k:Nat)(x:AV)(K:List (List bR)->Prop):Prop:=match x with
 | .p o (.sl _ k' xs)=>(match rR rs o&&Nat.beq k' k with | true=>K xs | false=>False)
 | .own h=>(match bH rs h with
   | some (.arr _ k' _ xs)=>(match Nat.beq k' k with | true=>K xs | false=>False)
   | _=>False)
 | .nil=>K []
 | _=>False
def aOL:List AV->Option (List bR)
 | []=>some []
 | .p none x::cs=>(match aOL cs with | some r=>some (x::r) | none=>none)
 | _=>none
def xZ:Nat->Nat->List bR->List (List bR)
 | 0,_,_=>[]
 | n+1,k,row=>row.take k::xZ n k (row.drop k)
def roW (rs:Rl)(k:Nat)(x:AV)(K:List (List bR)->Prop):Prop:=match x with
 | .p none (.sl _ k' xs)=>(match Nat.beq k' k with | true=>K xs | false=>False)
 | .bsl h n=>(match bH rs h with
   | some (.box _ cs)=>(match aOL cs with | some row=>(match Nat.beq row.length (n*k) with | true=>K (xZ n k row) | false=>False) | none=>False)
   | _=>False)
 | _=>False
def aUq (dp:Bool)(xs:List (List bR))(K:Prop):Prop:=match dp with
 | false=>K
 | true=>(match xs with | []=>K | _=>False)
def nL:List Nat->Bool
 | []=>true
 | x::l=> !l.contains x&&nL l
def aZo (tb:Tb)(sl:Sl)(rs:Rl)(d:Nat)(ty:TypeId)(s x:AV)(t:T)(K:AV->List Nat->List (Nat × Rs)->T->Prop):Prop:=match dC tb.sl ty with
 | some e=>(match dC tb.ty e with
   | some (_,k,bt,_)=>(match gW sl rs (100*d)&&Nat.blt 0 k&&Nat.blt 0 bt with
     | true=>aXi rs e k s (fun del dp xs=>match t with
       | .app _ enc l l2 t=>xs=l.map enc/\aXj rs k x (fun ys=>ys=l2.map enc)/\(∀x,fT (enc x)=true)/\(l.length+l2.length)*bt<=140737488355328/\K (.own (100*d)) del [(100*d,.arr e k dp ((l++l2).map enc))] t
       | .appr _ enc l l2 t=>aUq dp xs (xs=l.map enc/\roW rs k x (fun ys=>ys=l2.map enc/\(l.length+l2.length)*bt<=140737488355328/\K (.own (100*d)) del [(100*d,.arr e k false ((l++l2).map enc))] t))
       | .appx _ enc l y t=>(match dp with
         | true=>(match x with
           | .bsl h2 1=>(match bH rs h2 with
             | some (.box _ cs)=>(match nL (del++aAU cs) with
               | true=>(match Nat.beq (enc y).length k with | true=>xs=l.map enc/\aCP rs cs (enc y) ((l.length+1)*bt<=140737488355328/\K (.own (100*d)) (del++aAU cs) [(100*d,.arr e k true ((l++[y]).map enc))] t) | false=>False)
               | false=>False)
             | _=>False)
           | _=>False)
         | false=>False)
       | _=>False)
     | false=>False)
   | none=>False)
 | none=>False
def aZp (tb:Tb)(sl:Sl)(rs:Rl)(d:Nat)(ty:TypeId)(n:Nat)(parts:List (Nat × AV)){α:Type}(enc:α->List bR)(y:α)(K:AV->List Nat->List (Nat × Rs)->Prop):Prop:=match dC tb.sl ty with
 | some e=>(match dC tb.ty e with
   | some (_,k,_,_)=>(match gW sl rs (100*d)&&Nat.beq n 1&&parts.all (fun q=>xY rs q.2)&&Nat.ble (1*k) 16777216&&Nat.blt 0 (1*k)&&Nat.beq (enc y).length k with
     | true=>(match tI (fun i=>some (i*k,k)) (List.replicate (1*k) AV.no) parts with
       | some cs=>(match nL (aAU cs) with
         | true=>aCP rs cs (enc y) (K (.own (100*d)) (aAU cs) [(100*d,.arr e k true ([y].map enc))])
         | false=>False)
       | none=>False)
     | false=>False)
   | none=>False)
 | none=>False
def aUr (tb:Tb)(sl:Sl)(rs:Rl)(d:Nat)(ty:TypeId)(s x:AV){α:Type}(enc:α->List bR)(l:List α)(y:α)(K:AV->List Nat->List (Nat × Rs)->Prop):Prop:=match dC tb.sl ty with
 | some e=>(match dC tb.ty e with
   | some (_,k,bt,_)=>(match gW sl rs (100*d)&&Nat.beq k 1&&Nat.blt 0 bt with
     | true=>aXi rs e 1 s (fun del dp xs=>match dp with
       | true=>(match x with
         | .bsl h2 1=>(match bH rs h2 with
           | some (.box _ [.own hp])=>(match bH rs hp with
             | some (.arr e3 k3 true ys)=>(match nL (hp::del) with
               | true=>xs=l.map enc/\enc y= [.sl e3 k3 ys]/\(l.length+1)*bt<=140737488355328/\K (.own (100*d)) del [(100*d,.hole e 1 ((l++[y]).map enc) l.length 0 hp)]
               | false=>False)
             | _=>False)
           | _=>False)
         | _=>False)
       | false=>False)
     | false=>False)
   | _=>False)
 | _=>False
def aUs (tb:Tb)(sl:Sl)(rs:Rl)(d:Nat)(ty:TypeId)(s x:AV){α:Type}(enc:α->List bR)(l:List α)(y:α)(K:AV->List Nat->List (Nat × Rs)->Prop):Prop:=match dC tb.sl ty with
 | some e=>(match dC tb.ty e with
   | some (_,k,bt,_)=>(match gW sl rs (100*d)&&Nat.blt 0 k&&Nat.blt 0 bt with
     | true=>(match s with
       | .own h0=>(match bH rs h0 with
         | some (.hole e' k' xs i j hp)=>(match x with
           | .bsl h2 1=>(match bH rs h2 with
             | some (.box _ cs)=>(match Nat.beq e' e&&Nat.beq k' k&&nL (hp::h0::aAU cs)&& !Nat.beq hp (100*d)&&Nat.beq (enc y).length k with
               | true=>xs=l.map enc/\aCP rs cs (enc y) ((l.length+1)*bt<=140737488355328/\K (.own (100*d)) (h0::aAU cs) [(100*d,.hole e k ((l++[y]).map enc) i j hp)])
               | false=>False)
             | _=>False)
           | _=>False)
         | _=>False)
       | _=>False)
     | false=>False)
   | _=>False)
 | _=>False
def aZq (tb:Tb)(sl:Sl)(rs:Rl)(d:Nat)(ty:TypeId)(s x:AV)(t:T)(K:AV->List Nat->List (Nat × Rs)->T->Prop):Prop:=match t with
 | .apph _ enc l y t=>aUr tb sl rs d ty s x enc l y (fun v del new=>K v del new t)
 | .appy _ enc l y t=>aUs tb sl rs d ty s x enc l y (fun v del new=>K v del new t)
 | t=>aZo tb sl rs d ty s x t K
def aUt (P:Program)(sl:Sl)(rs:Rl)(d:Nat)(f:FuncId)(args:List AV)(t:T)(K:AV->List (Nat × Rs)->T->Prop):Prop:=match t with
 | .call rv rr t=>(match aEs rs args with
   | some ys=>(match ((mL rv&&rr.all fun q=>aLE q.2) || rN args)&&(rr.all fun q=>aH2 q.2&&gW sl rs (100*d+q.1))&&((cW rv).all fun h=>(bF rr h).isSome) with
     | true=>rM P f ys rv rr/\K (mP (100*d+ ·) rv) (rr.map fun q=>(100*d+q.1,q.2)) t
     | false=>False)
   | none=>False)
 | _=>False
def byD (b:Int):List bR:=[.int .u8 b]
def zL (l:List Int):ByteArray:=⟨(l.map fun n=>UInt8.ofNat n.toNat).toArray⟩
def yA (s:ByteArray)(i:Nat):Int:=((s.data.toList.getD i 0).toNat:Nat)
def cvW (tb:Tb)(rs:Rl)(src dst:TypeId)(x:AV)(t:T)(K:AV->T->Prop):Prop:=match dC tb.nt dst with
 | some k=>(match dC tb.nt src with
   | some _=>(match x with | .p none (.int _ n)=>arW k n t K | _=>False)
   | none=>False)
 | none=>(match dC tb.st dst with
   | some _=>(match dC tb.sl src with
     | some e=>(match dC tb.nt e with
       | some .u8=>(match t with
         | .bytes l t=>aXj rs 1 x (fun xs=>xs=l.map byD)/\K (.p none (.str (zL l))) t
         | _=>False)
       | _=>False)
     | none=>False)
   | none=>False)
def aZr (tb:Tb)(ty:TypeId)(x y:AV)(t:T)(K:AV->T->Prop):Prop:=match dC tb.st ty with
 | some _=>(match x with
   | .p none (.str s)=>(match y with
     | .p none (.int _ n)=>0<=n/\n<s.size/\K (.p none (.int .u8 (yA s n.toNat))) t
     | _=>False)
   | _=>False)
 | none=>False
def aZs (tb:Tb)(ty:TypeId)(x:AV)(lo hi:Option AV)(t:T)(K:AV->T->Prop):Prop:=match dC tb.st ty with
 | some _=>(match x with
   | .p none (.str s)=>(match lo with
     | none=>(match hi with
       | none=>False
       | some (.p none (.int _ b))=>0<=b/\b<=s.size/\K (.p none (.str (s.extract 0 b.toNat))) t
       | _=>False)
     | some (.p none (.int _ a))=>(match hi with
       | none=>0<=a/\a<=s.size/\K (.p none (.str (s.extract a.toNat s.size))) t
       | some (.p none (.int _ b))=>0<=a/\a<=b/\b<=s.size/\K (.p none (.str (s.extract a.toNat b.toNat))) t
       | _=>False)
     | _=>False)
   | _=>False)
 | none=>False
def aZt (tb:Tb)(rs:Rl)(ty:TypeId)(x:AV)(lo hi:Option AV)(t:T)(K:AV->T->Prop):Prop:=match dC tb.sl ty with
 | some e=>(match dC tb.ty e with
   | some (_,k,_,_)=>(match x with
     | .p o (.sl e' k' xs)=>(match rR rs o&&Nat.beq k' k with
       | true=>(match t with
         | .sub _ enc l t=>(match lo with
           | none=>(match hi with
             | some (.p none (.int _ b))=>xs=l.map enc/\0<=b/\b<=(l.length:Int)/\K (.p o (.sl e' k' ((l.take b.toNat).map enc))) t
             | _=>False)
           | some (.p none (.int _ a))=>(match hi with
             | none=>xs=l.map enc/\0<=a/\a<=(l.length:Int)/\K (.p o (.sl e' k' ((l.drop a.toNat).map enc))) t
             | some (.p none (.int _ b))=>xs=l.map enc/\0<=a/\a<=b/\b<=(l.length:Int)/\K (.p o (.sl e' k' (((l.take b.toNat).drop a.toNat).map enc))) t
             | _=>False)
           | _=>False)
         | _=>False)
       | false=>False)
     | _=>False)
   | none=>False)
 | none=>aZs tb ty x lo hi t K
def aXk (rs:Rl):AV->Option (AV × List Nat)
 | .own h=>(match bH rs h with | some (.arr e k _ xs)=>some (.p none (.sl e k xs),[h]) | _=>none)
 | .p none x=>some (.p none x,[])
 | .nil=>some (.nil,[])
 | _=>none
def aQR (rs:Rl):List AV->Option (List AV × List Nat)
 | []=>some ([],[])
 | c::cs=>(match aXk rs c with | some q=>(match aQR rs cs with | some r=>some (q.1::r.1,q.2++r.2) | none=>none) | none=>none)
def aSl (rs:Rl):AV->Option (AV × List Nat)
 | .agg cs=>(match aQR rs cs with | some q=>some (.agg q.1,q.2) | none=>none)
 | x=>aXk rs x
def aRb (rs:Rl)(d:Nat)(x:AV)(t:T)(K:AV->List Nat->T->Prop):Prop:=match t with
 | .stl d' t=>(match Nat.beq d' d with
   | true=>(match aSl rs x with | some q=>K q.1 q.2 t | none=>False)
   | false=>K x [] (.stl d' t))
 | t=>K x [] t
def aQS (tb:Tb)(s:TypeId)(x:AV)(f:Nat)(K:AV->Prop):Prop:=match dC tb.fl s with
 | some l=>(match dC l f with
   | some q=>(match dC tb.ty q.2 with
     | some (g,n,_,_)=>(match x with
       | .agg cs=>(match g with
         | true=>(match Nat.ble (q.1+n) cs.length with | true=>K (.agg ((cs.drop q.1).take n)) | false=>False)
         | false=>(match cs[q.1]? with | some y=>K y | none=>False))
       | _=>False)
     | none=>False)
   | none=>False)
 | none=>False
def aZu (P:Program)(tb:Tb)(sl:Sl)(rs:Rl)(d:Nat)(o:Op)(t:T)(K:AV->List Nat->List (Nat × Rs)->T->Prop):Prop:=match o with
 | .move x=>aRb rs d (dT sl x) t (fun v del t=>K v del [] t)
 | .assign x=>aRb rs d (dT sl x) t (fun v del t=>K v del [] t)
 | .pick c x y=>aUo (dT sl c) (dT sl x) (dT sl y) t (fun v t=>K v [] [] t)
 | .extract x i=>(match dT sl x with | .tup vs=>(match vs[i]? with | some v=>K v [] [] t | none=>False) | _=>False)
 | .binOp op ty x y _=>aZj tb op ty (dT sl x) (dT sl y) t (fun v t=>K v [] [] t)
 | .unOp op _ x=>unW op (dT sl x) t (fun v t=>K v [] [] t)
 | .fieldAddr s x f=>aZl tb rs s (dT sl x) f (fun v=>K v [] [] t)
 | .field s x f=>aQS tb s (dT sl x) f (fun v=>K v [] [] t)
 | .nilCheck x=>(match dT sl x with | .ptr h o=>K (.ptr h o) [] [] t | _=>False)
 | .indexAddr ty x y=>aZk tb rs ty (dT sl x) (dT sl y) t (fun v t=>K v [] [] t)
 | .load ty x=>aUp tb rs ty (dT sl x) t (fun v t=>K v [] [] t)
 | .alloc ty=>(match dC tb.ty ty with | some (_,_,_,z)=>(match gW sl rs (100*d) with | true=>K (.ptr (100*d) 0) [] [(100*d,.box ty (z.cells.toList.map avC))] t | false=>False) | none=>False)
 | .box ty x=>(match xY rs (dT sl x)&&gW sl rs (100*d) with | true=>K (.ptr (100*d) 0) [] [(100*d,.box ty (fE (dT sl x)))] t | false=>False)
 | .build ty parts=>aQQ tb rs ty (parts.toList.map fun q=>(q.1,dT sl q.2)) (fun v=>K v [] [] t)
 | .buildSlice ty n parts=>(match t with | .bld _ enc y t=>aZp tb sl rs d ty n (parts.toList.map fun q=>(q.1,dT sl q.2)) enc y (fun v del new=>K v del new t) | t=>aZm tb sl rs d ty n (parts.toList.map fun q=>(q.1,dT sl q.2)) (fun v new=>K v [] new t))
 | .makeSlice ty x y=>mkW tb sl rs d ty (dT sl x) (dT sl y) t (fun v new t=>K v [] new t)
 | .call c=>(match c with
   | ⟨.builtin b,⟨args⟩,⟨ts⟩⟩=>(match b with
     | .len=>(match args,ts with
       | [x],[ty]=>(match dC tb.sl ty with
         | some _=>aZn rs (dT sl x) t (fun v t=>K v [] [] t)
         | none=>(match dC tb.st ty with
           | some _=>(match dT sl x with | .p none (.str s)=>K (vI s.size) [] [] t | _=>False)
           | none=>False))
       | _,_=>False)
     | .min=>(match args with
       | [x,y]=>(match dT sl x with | .p none (.int k m)=>(match dT sl y with | .p none (.int _ n)=>K (.p none (.int k (if n<m then n else m))) [] [] t | _=>False) | _=>False)
       | _=>False)
     | .max=>(match args with
       | [x,y]=>(match dT sl x with | .p none (.int k m)=>(match dT sl y with | .p none (.int _ n)=>K (.p none (.int k (if m<n then n else m))) [] [] t | _=>False) | _=>False)
       | _=>False)
     | .append=>(match args,ts with
       | [s,x],[ty,ty']=>EqN ty' ty (aZq tb sl rs d ty (dT sl s) (dT sl x) t K)
       | _,_=>False)
     | _=>False)
   | ⟨.value x,⟨args⟩,_⟩=>(match dT sl x with
     | .fn f caps=>aUt P sl rs d f (args.map (dT sl)++caps) t (fun v new t=>K v [] new t)
     | _=>False)
   | _=>False)
 | .convert src dst x=>cvW tb rs src dst (dT sl x) t (fun v t=>K v [] [] t)
 | .index ty x y=>aZr tb ty (dT sl x) (dT sl y) t (fun v t=>K v [] [] t)
 | .slice ty x lo hi none=>aZt tb rs ty (dT sl x) (lo.map (dT sl)) (hi.map (dT sl)) t (fun v t=>K v [] [] t)
 | .makeFunc (.func f) ⟨[]⟩ captured=>K (.fn f (captured.toList.map (dT sl))) [] [] t
 | _=>False
def opW (P:Program)(tb:Tb)(sl:Sl)(rs:Rl)(dst:Option Nat)(o:Op)(t:T)(K:AV->List Nat->List (Nat × Rs)->T->Prop):Prop:=match dst with
 | some d=>aZu P tb sl rs d o t K
 | none=>(match o with
   | .store ty x y=>stW tb rs ty (dT sl x) (dT sl y) t (fun del new t=>K .no del new t)
   | _=>False)
theorem yB {sl:Sl}{rs:Rl}: ∀{o:Option Nat},rR rs o=true->pS (mk sl rs) o
 | none,_=>trivial
 | some h,e=>Option.isSome_iff_exists.1 e
theorem aBn {rs:Rl}{h:Nat}(e:rR rs (some h)=true): ∃r,bH rs h=some r:=Option.isSome_iff_exists.1 e
theorem aC9 {k:IntKind}{r:Int}{t:T}{K:AV->T->Prop}(h:arW k r t K): ∃t',K (.p none (.int k (k.wrap r))) t' :=by
 unfold arW at h;split at h
 ·split at h
  ·exact⟨_,h⟩
  have e:IntKind.i64.wrap r=r:=IntWalk.i64_in _ h.1;rw[e];exact⟨_,h.2⟩
 exact⟨_,h⟩
section
variable {K:Nat->Prop} {φ:iW} {A:Nat->Prop} {w0:xU} {N:Nat} {S:St} {a:Act} {w:World} {P:Program}
theorem G.holed (hG:G K φ A w0 N S a w){h e k i j h' :Nat}{xs:List (List bR)}(hr:S.res h=some (.hole e k xs i j h')):
 ∃(pl:Pl) (v:Value) (zs:List Value),φ h=some pl/\w.ownsRow 0 e k pl.val xs.length zs/\pl.top=pl.val.ownBlock.toList/\i<xs.length/\(∀pl',φ h' =some pl' ->v=pl'.val)/\ ∃g,pl.top= [g]/\w.cell? ⟨g,i*k+j,none⟩=some v:=by
 obtain⟨pl,hp,xs1,x1,d,x2,xs2,css1,c1,v,c2,css2,Fs1,F1,F2,Fs2,e0,e1,e2,e3,h1,h2,h3,h4,h5,h6,h7,h8⟩:=hG.dom h _ hr;have hi:i<xs.length:=by rw[e0];simp;omega
 have hl1:=h4.len;have hl2:=h7.len;have hc1:=h5.len;have hc2:=h6.len;have hlen:(css1++(c1++v::c2)::css2).length=xs.length:=by rw[e0];simp;omega
 have hk: ∀c∈css1++(c1++v::c2)::css2,c.length=k:=fun c hc=>by
  rcases aKT.1 hc with hc | hc
  ·exact hl1.2 c hc
  rcases aNn.1 hc with rfl | hc
  ·rw[<-e3];simp;omega
  exact hl2.2 c hc
 obtain⟨b,c,hv,_,_,hb,hcell⟩:=nY h1 hk hlen;obtain⟨g,rfl,hg,hcs⟩:=hcell i (c1++v::c2) (by rw[aNW (by omega)];simp[hl1.1,e1]);refine⟨pl,v,_,hp,h1,h2,hi,h8.2,g,by rw[h2,hg];rfl,hcs j v ?_⟩;rw[aNW (by omega)];simp[hc1,e2]
theorem aEv {o:Oper}{x y:Operand}{t e:TypeId}{k bt:Nat}{ag:Bool}{z:Value}{h i j h' :Nat}{e' :Nat}{xs:List (List bR)}{ik:IntKind}{n:Int}(ho:o.op= .indexAddr t x y)(ht:P.underlying t=some (.slice e))(hk:gU P e=some (ag,k,bt,z))
 (hx:S.ev x= .own h) (hh:S.res h=some (.hole e' k xs i j h')) (hy:S.ev y= .p none (.int ik n)) (h0:0<=n) (hn:n<xs.length):bL P o S ⟨.ep h k n.toNat 0,[],[]⟩:=
 dS fun K φ A w0 N a w hG=>by
  obtain⟨pl,v,zs,hp,hown,htop,_⟩:=hG.holed hh;have h1:=hG.ev x;rw[hx] at h1;unfold aJ at h1;have he:=h1 pl hp;have h2:a.eval y= .int ik n:=kO (x:=S.ev y) (by rw[hy];rfl) (hG.ev y);obtain⟨b,c,hv,_,_,hb⟩:=kM hown;obtain⟨g,rfl,_,_⟩:=hb (by omega);rw[hv] at he htop;refine⟨.pointer (some ⟨g,0+n.toNat*k,none⟩),by simp[execOp,ho,he,h2,aAL ht hk w ik n xs.length c g 0 h0 hn],?_⟩;unfold aJ;exact fun pl' hp' =>by rw[hp] at hp';injection hp' with e;subst e;exact⟨g,by rw[htop];rfl,by simp⟩
theorem aGg {o:Oper}{x:Operand}{t:TypeId}{n bt:Nat}{z:Value}{h e k i j h' :Nat}{xs:List (List bR)}(ho:o.op= .load t x)(ht:gU P t=some (false,n,bt,z))(hx:S.ev x= .ep h k i j)(hh:S.res h=some (.hole e k xs i j h')):
 bL P o S ⟨.own h',[],[]⟩:=
 dS fun K φ A w0 N a w hG=>by
  obtain⟨pl,v,zs,hp,_,_,_,h8,g,hg,hc⟩:=hG.holed hh;have h1:=hG.ev x;rw[hx] at h1;unfold aJ at h1;obtain⟨g',hg',he⟩:=h1 pl hp;rw[hg] at hg';simp only[List.cons.injEq,and_true] at hg';subst hg';refine⟨v,?_,by unfold aJ;exact h8⟩;simp only[execOp,ho,he,Sem.run_bind];rw[rJ ht w g (i*k+j) v hc];rfl
end
section
variable {P:Program} {tb:Tb} {sl:Sl} {rs:Rl} {ty:TypeId} {pos:String} {aft:Array Edge} {d:Nat} {gd:Option (Nat × Bool)}
section
variable {x y:Operand} {s s' :TypeId}
theorem aOM {op:BinOp}{k k' :IntKind}{m n:Int}{r:bR}{v:Value}(hx:dT sl x= .p none (.int k m))(hy:dT sl y= .p none (.int k' n))(hv:r.val? =some v)(hr: ∀w,(binOp op s (.int k m) (.int k' n)).run P w= .ok v w):bL P ⟨some d,.binOp op s x y s',ty,pos,aft,gd⟩ (mk sl rs) ⟨.p none r,[],[]⟩:=
 mM hv (fun e w he=>by
  have h1:=he x _ (vW hx rfl);have h2:=he y _ (vW hy rfl)
  have hg:(eqGuard op s x y (.int k m) (.int k' n)).run P w= .ok () w:=by
   unfold eqGuard;cases op<;>rfl
  simp only[execOp,h1,h2,Sem.run_bind,hg,Result.andThen_ok,hr];rfl)
theorem aXl {op:BinOp}{k:IntKind}{m n:Int}{t:T}{K:AV->T->Prop}(hx:dT sl x= .p none (.int k m))(hy:dT sl y= .p none (.int k n))(h:aZg op k m n t K): ∃v t',bL P ⟨some d,.binOp op s x y s',ty,pos,aft,gd⟩ (mk sl rs) ⟨v,[],[]⟩/\K v t' :=by
 unfold aZg at h;split at h
 ·exact⟨_,_,aZZ hx hy,h⟩
 ·exact⟨_,_,aZ0 hx hy,h⟩
 ·exact⟨_,_,aZ1 hx hy,h⟩
 ·exact⟨_,_,aZ2 hx hy,h⟩
 ·exact⟨_,_,aZ3 hx hy,h⟩
 ·exact⟨_,_,aZ4 hx hy,h⟩
 ·obtain⟨t',h⟩:=aC9 h;exact⟨_,_,aZ5 hx hy,h⟩
 ·obtain⟨t',h⟩:=aC9 h;exact⟨_,_,aZ6 hx hy,h⟩
 ·obtain⟨t',h⟩:=aC9 h;exact⟨_,_,aZ7 hx hy,h⟩
 ·obtain⟨t',h'⟩:=aC9 h.2;exact⟨_,_,aZ8 hx hy h.1,h'⟩
 ·exact⟨_,_,aZ9 hx hy h.1,h.2⟩
 ·exact⟨_,_,fW hx hy rfl (fun w=>by simp[binOp,Op.intBits,cL]),h⟩
 ·exact⟨_,_,fW hx hy rfl (fun w=>by simp[binOp,Op.intBits,cL]),h⟩
 ·exact⟨_,_,fW hx hy rfl (fun w=>by simp[binOp,Op.intBits,cL]),h⟩
 ·exact⟨_,_,fW hx hy rfl (fun w=>by simp[binOp,Op.intBits,cL]),h⟩
 cases h
theorem aUu {op:BinOp}{k k' :IntKind}{m n:Int}{t:T}{K:AV->T->Prop}(hx:dT sl x= .p none (.int k m))(hy:dT sl y= .p none (.int k' n))(h:shW op k m n t K): ∃v t',bL P ⟨some d,.binOp op s x y s',ty,pos,aft,gd⟩ (mk sl rs) ⟨v,[],[]⟩/\K v t' :=by
 unfold shW at h;split at h
 ·split at h
  ·obtain⟨⟨h0,h1⟩,h⟩:=h;obtain⟨t',h⟩:=aC9 h;have hm:min n.toNat 64=n.toNat:=by omega
   refine⟨_,_,aOM hx hy rfl (fun w=>?_),h⟩;simp only[binOp,Op.shift];rw[if_neg (by omega)];simp[IntKind.bits,hm]
  ·obtain⟨⟨h0,h1⟩,h⟩:=h;have hm:min n.toNat 64=n.toNat:=by omega
   refine⟨_,_,aOM hx hy rfl (fun w=>?_),h⟩;simp only[binOp,Op.shift];rw[if_neg (by omega)];have:(0:Int)<=2^n.toNat:=by exact_mod_cast aDB (2^n.toNat)
   simp[IntKind.bits,hm,Int.fdiv_eq_ediv_of_nonneg _ this]
  cases h
 cases h
theorem aXm {op:BinOp}{m n:ByteArray}{t:T}{K:AV->T->Prop}(hx:dT sl x= .p none (.str m))(hy:dT sl y= .p none (.str n))(h:aZh op m n t K): ∃v t',bL P ⟨some d,.binOp op s x y s',ty,pos,aft,gd⟩ (mk sl rs) ⟨v,[],[]⟩/\K v t' :=by
 unfold aZh at h;split at h
 ·exact⟨_,_,aK7 hx hy,h⟩
 ·exact⟨_,_,aK6 hx hy,h⟩
 ·refine⟨_,_,tK hx hy rfl (fun w=>?_),h.2⟩;simp only[binOp,Op.stringOp]
  rw [if_neg (by have:=h.1;have e:IntKind.i64.max=9223372036854775807:=by decide
                 rw[e];omega)]
  simp
 ·exact⟨_,_,tK hx hy rfl (fun w=>by simp[binOp,Op.stringOp]),h⟩
 ·exact⟨_,_,tK hx hy rfl (fun w=>by simp[binOp,Op.stringOp]),h⟩
 cases h
theorem aHg {K:Nat->Prop}{φ:iW}{w:World}: ∀{xs:List AV} {ds:List bR} {vs:List Value},aLS xs=some ds->aT K φ w xs vs->ds.map bR.val? =vs.map some
 | [],ds,vs,h,hm=>by
   unfold aLS at h;injection h with h
   subst h;unfold aT at hm;subst hm;rfl
 | x::xs,ds,vs,h,hm=>by
   unfold aLS at h;split at h
   ·rename_i heq;cases heq
   ·rename_i y l heq;injection heq with e1 e2
    subst e1;subst e2;split at h
    ·rename_i u hu;split at h
     ·rename_i ds' hd;injection h with h
      subst h;unfold aT at hm;obtain⟨v,vs',rfl,h1,h2⟩:=hm;unfold aJ at h1;rw[(iU.scalar hu).1 h1];simp[hu,aHg hd h2]
     cases h
    cases h
   cases h
theorem aON {P:Program}{w:World}(dp:Nat): ∀(ks:List Nat) (xs ys:List bR) (us vs:List Value) (fs:List Field) (i:Nat) (U V:Array Value) (b:Bool),aMn ks xs ys=some b->xs.map bR.val? =us.map some->ys.map bR.val? =vs.map some->aLR P i ks fs=true->(∀j u,us[j]? =some u->U[i+j]? =some u)->(∀j u,vs[j]? =some u->V[i+j]? =some u)->
 (Op.eqFields (dp+1) U V fs).run P w= .ok b w
 | [],[],[],us,vs,fs,i,U,V,b,h,_,_,hf,_,_=>by
   unfold aMn at h;injection h with h
   subst h;cases fs with
   | nil=>simp[Op.eqFields]
   | cons f fs=>simp[aLR] at hf
 | k::ks,x::xs,y::ys,us,vs,fs,i,U,V,b,h,hu,hv,hf,hU,hV=>by
   cases us with
   | nil=>simp at hu
   | cons u us=>
   cases vs with
   | nil=>simp at hv
   | cons v vs=>
   cases fs with
   | nil=>simp[aLR] at hf
   | cons f fs=>
   simp only[aLz,List.cons.injEq] at hu hv;unfold aLR at hf;rw[aCA] at hf;obtain⟨hf1,hf2⟩:=hf;unfold bAh at hf1;simp only[aCA,Bool.not_eq_true',beq_eq_false_iff_ne] at hf1;obtain⟨⟨n1,n2⟩,n3⟩:=hf1;have n2:=aFj n2;unfold aMn at h;split at h
   ·rename_i b1 hb1;split at h
    ·rename_i c hc;injection h with h
     subst h;have ih:=aON (P:=P) (w:=w) dp ks xs ys us vs fs (i+1) U V c hc hu.2 hv.2 hf2 (fun j q hq=>by have:=hU (j+1) q (by simpa using hq);rw[show i+1+j=i+(j+1) by omega];exact this) (fun j q hq=>by have:=hV (j+1) q (by simpa using hq);rw[show i+1+j=i+(j+1) by omega];exact this);have hU0:=hU 0 u rfl;have hV0:=hV 0 v rfl;rw[Nat.add_zero] at hU0 hV0
     have key:(Op.equalIn (dp+1) f.type u v).run P w= .ok b1 w/\(isAgg f.type).run P w= .ok false w:=by
      split at n3
      ·rename_i kk hk;have:=aFj n3;subst this;unfold eq1 at hb1;split at hb1
       ·rename_i k1 a1 k2 a2;split at hb1
        ·rename_i e;subst e;injection hb1 with hb1
         simp only[bR.val?,Option.some.injEq] at hu hv;rw[<-hu.1,<-hv.1,<-hb1];exact⟨run_equalIn_int w dp f.type _ _ _ _ hk,by simp[isAgg,run_underlying hk]⟩
        cases hb1
       ·rename_i e;cases e
       ·rename_i e;cases e
       cases hb1
      ·rename_i hk;have:=aFj n3;subst this;unfold eq1 at hb1;split at hb1
       ·rename_i e;cases e
       ·injection hb1 with hb1
        simp only[bR.val?,Option.some.injEq] at hu hv;rw[<-hu.1,<-hv.1,<-hb1];exact⟨run_equalIn_bool' w dp f.type _ _ hk,by simp[isAgg,run_underlying hk]⟩
       ·rename_i e;cases e
       cases hb1
      ·rename_i hk;have:=aFj n3;subst this;unfold eq1 at hb1;split at hb1
       ·rename_i e;cases e
       ·rename_i e;cases e
       ·injection hb1 with hb1
        simp only[bR.val?,Option.some.injEq] at hu hv;rw[<-hu.1,<-hv.1,<-hb1];exact⟨run_equalIn_string w dp f.type _ _ hk,by simp[isAgg,run_underlying hk]⟩
       cases hb1
      cases n3
     unfold Op.eqFields;rw[if_pos n1];simp only[part,Sem.run_bind,key.2,Result.andThen_ok,Bool.false_eq_true,if_false,n2,hU0,hV0,Sem.run_pure,key.1,Sem.run_ite];cases b1 with
     | true=>simpa using ih
     | false=>simp
    cases h
   cases h
 | [],[],_::_,_,_,_,_,_,_,_,h,_,_,_,_,_=>by simp[aMn] at h
 | [],_::_,_,_,_,_,_,_,_,_,h,_,_,_,_,_=>by simp[aMn] at h
 | _::_,[],_,_,_,_,_,_,_,_,h,_,_,_,_,_=>by simp[aMn] at h
 | _::_,_::_,[],_,_,_,_,_,_,_,h,_,_,_,_,_=>by simp[aMn] at h
theorem aXn {op:BinOp}{xs ys:List AV}{t:T}{K:AV->T->Prop}(hT:mS P tb)(hx:dT sl x= .agg xs)(hy:dT sl y= .agg ys)(h:aZi tb op s xs ys t K): ∃v t',bL P ⟨some d,.binOp op s x y s',ty,pos,aft,gd⟩ (mk sl rs) ⟨v,[],[]⟩/\K v t' :=by
 unfold aZi at h;split at h
 ·rename_i ks hk;have hk:=dG hT.se hk;unfold seB at hk;simp only[aCA,Bool.not_eq_true'] at hk;obtain⟨⟨k1,k2⟩,k3⟩:=hk;split at k1
  ·rename_i fs hfs;have hfo:P.fieldsOf s=fs:=by simp[Program.fieldsOf,hfs]
   split at h
   ·rename_i ds hds;split at h
    ·rename_i es hes;split at h
     ·rename_i b hb
      have run: ∀K φ A w0 N a w,G K φ A w0 N (mk sl rs) a w-> ∃U V:Array Value,a.eval x= .agg U/\a.eval y= .agg V/\(Op.equalIn 10000 s (.agg U) (.agg V)).run P w= .ok b w:=fun K φ A w0 N a w hG=>by
       have h1:=hG.ev x;have h2:=hG.ev y;rw[cQ,hx] at h1;rw[cQ,hy] at h2;unfold aJ at h1 h2;obtain⟨U,e1,_,m1⟩:=h1;obtain⟨V,e2,_,m2⟩:=h2;refine⟨U,V,e1,e2,?_⟩;rw[show (10000:Nat)=9999+1 from rfl,run_equalIn_agg w 9999 s _ _ (by rw[hfo];exact hfs) k2,hfo];exact aON 9998 ks ds es U.toList V.toList fs.toList 0 U V b hb (aHg hds m1) (aHg hes m2) k1 (fun j u hu=>by simpa using hu) (fun j u hu=>by simpa using hu)
      split at h
      ·refine⟨_,_,dS fun K φ A w0 N a w hG=>?_,h⟩;obtain⟨U,V,e1,e2,hr⟩:=run K φ A w0 N a w hG;refine⟨.bool b,?_,by unfold aJ iU;rfl⟩;have hg:(eqGuard .eql s x y (.agg U) (.agg V)).run P w= .ok () w:=run_eqGuard_agg w .eql s x y _ _ k3;simp only[execOp,e1,e2,Sem.run_bind,hg,Result.andThen_ok,run_eql_struct,hr];rfl
      ·refine⟨_,_,dS fun K φ A w0 N a w hG=>?_,h⟩;obtain⟨U,V,e1,e2,hr⟩:=run K φ A w0 N a w hG;refine⟨.bool (!b),?_,by unfold aJ iU;rfl⟩;have hg:(eqGuard .neq s x y (.agg U) (.agg V)).run P w= .ok () w:=run_eqGuard_agg w .neq s x y _ _ k3;simp only[execOp,e1,e2,Sem.run_bind,hg,Result.andThen_ok,run_neq_struct,hr];rfl
      cases h
     cases h
    cases h
   cases h
  cases k1
 cases h
theorem aXo {op:BinOp}{t:T}{K:AV->T->Prop}(hT:mS P tb)(h:aZj tb op s (dT sl x) (dT sl y) t K): ∃v t',bL P ⟨some d,.binOp op s x y s',ty,pos,aft,gd⟩ (mk sl rs) ⟨v,[],[]⟩/\K v t' :=by
 unfold aZj at h;split at h
 ·rename_i k m hx;split at h
  ·rename_i k' n hy;split at h
   ·exact aUu hx hy h
   ·exact aUu hx hy h
   split at h
   ·rename_i e;subst e;exact aXl hx hy h
   cases h
  cases h
 ·rename_i m hx;split at h
  ·rename_i n hy;split at h
   ·rename_i u hu;have hu:=dG hT.bo hu;split at h
    ·exact⟨_,_,aOF hu hx hy,h⟩
    ·exact⟨_,_,aOE hu hx hy,h⟩
    cases h
   cases h
  cases h
 ·rename_i m hx;split at h
  ·rename_i n hy;exact aXm hx hy h
  cases h
 ·rename_i xs hx;split at h
  ·rename_i ys hy;exact aXn hT hx hy h
  cases h
 cases h
theorem aZv {op:UnOp}{t:T}{K:AV->T->Prop}(h:unW op (dT sl x) t K): ∃v t',bL P ⟨some d,.unOp op s x,ty,pos,aft,gd⟩ (mk sl rs) ⟨v,[],[]⟩/\K v t' :=by
 unfold unW at h;split at h
 ·split at h
  ·rename_i b hx;exact⟨_,_,aZa hx,h⟩
  cases h
 ·split at h
  ·rename_i k m hx;obtain⟨t',h⟩:=aC9 h;exact⟨_,t',aZb hx,by rw[Int.zero_sub];exact h⟩
  cases h
 cases h
theorem aUv {c:Operand}{t:T}{K:AV->T->Prop}(h:aUo (dT sl c) (dT sl x) (dT sl y) t K): ∃v t',bL P ⟨some d,.pick c x y,ty,pos,aft,gd⟩ (mk sl rs) ⟨v,[],[]⟩/\K v t' :=by
 unfold aUo at h;split at h
 ·rename_i b hc;split at h
  ·cases b with
   | true=>exact⟨_,_,uY hc rfl,h.1 rfl⟩
   | false=>exact⟨_,_,uY hc rfl,h.2 rfl⟩
  ·cases b with
   | true=>exact⟨_,_,uY hc rfl,h⟩
   | false=>exact⟨_,_,uY hc rfl,h⟩
  ·obtain⟨e,h⟩:=h;subst e;exact⟨_,_,uY hc rfl,h⟩
  ·obtain⟨e,h⟩:=h;subst e;exact⟨_,_,uY hc rfl,h⟩
  cases b with
  | true=>exact⟨_,_,uY hc rfl,h⟩
  | false=>exact⟨_,_,uY hc rfl,h⟩
 cases h
theorem aOO {xs:List (List bR)}{i:Nat}{t:T}{K:List bR->T->Prop}(h:aRa xs i t K): ∃r t',xs[i]? =some r/\K r t' :=by
 unfold aRa at h;split at h
 ·obtain⟨rfl,h1,h2⟩:=h;rename_i l t' ;exact⟨_,_,aHe (aFZ h1),h2 _ (aFZ h1)⟩
 ·exact⟨_,_,h.1,h.2⟩
 cases h
theorem aXp {t:T}{K:AV->T->Prop}(hT:mS P tb)(h:aZk tb rs s (dT sl x) (dT sl y) t K): ∃v t',bL P ⟨some d,.indexAddr s x y,ty,pos,aft,gd⟩ (mk sl rs) ⟨v,[],[]⟩/\K v t' :=by
 unfold aZk at h;split at h
 ·rename_i ik n hy;split at h
  ·rename_i e he;split at h
   ·rename_i q hq;obtain⟨ag,k0,bt,z⟩:=q;have he:=dG hT.sl he;have hq:=dG hT.ty hq;split at h
    ·rename_i o te k xs hx;split at h
     ·rename_i hb;rw[aCA] at hb;have hk:=aFj hb.1
      dsimp only at hk
      subst hk;obtain⟨r,t',h1,h2⟩:=aOO h.2;exact⟨_,_,aK0 (o' :=o) rfl he hq (by rw[cQ];exact hx) (yB hb.2) (by rw[cQ];exact hy) h.1 h1,h2⟩
     cases h
    ·rename_i hh hx;split at h
     ·rename_i e' k dp xs hr;split at h
      ·rename_i hb;have hk:=aFj hb
       dsimp only at hk
       subst hk;split at h
       ·obtain⟨h0,h1,h2,h3⟩:=h;exact⟨_,_,aSc he hq hx hr hy h0 (by omega),h3⟩
       cases h
      cases h
     ·rename_i e' k xs _ _ _ hr;split at h
      ·rename_i hb;have hk:=aFj hb
       dsimp only at hk
       subst hk;split at h
       ·obtain⟨h0,h1,h2,h3⟩:=h;exact⟨_,_,aEv rfl he hq (by rw[cQ];exact hx) hr (by rw[cQ];exact hy) h0 (by omega),h3⟩
       cases h
      cases h
     cases h
    cases h
   cases h
  cases h
 cases h
theorem aXq {f:Nat}{K:AV->Prop}(hT:mS P tb)(h:aZl tb rs s (dT sl x) f K): ∃v,bL P ⟨some d,.fieldAddr s x f,ty,pos,aft,gd⟩ (mk sl rs) ⟨v,[],[]⟩/\K v:=by
 unfold aZl at h;split at h
 ·rename_i l hl;split at h
  ·rename_i q hq;have hf:=dG (dG hT.fl hl) hq;obtain⟨off,ft⟩:=q;split at h
   ·rename_i hh o hx;exact⟨_,wG rfl hf (by rw[cQ];exact hx),h⟩
   ·rename_i hh k i o hx;split at h
    ·rename_i hb;obtain⟨r,hr⟩:=aBn hb;exact⟨_,aSb hf hx hr,h⟩
    cases h
   ·rename_i o xs hx;split at h
    ·rename_i hb;exact⟨_,aHR (o' :=o) rfl hf (by rw[cQ];exact hx) (yB hb),h⟩
    cases h
   cases h
  cases h
 cases h
theorem aHh {P:Program}{s:TypeId}{f off:Nat}{ft:TypeId}{g:Bool}{n b:Nat}{z:Value}(h:sO P s f=some (off,ft))(ht:gU P ft=some (g,n,b,z))(w:World)(cs:Array Value):
 (g=true->(Instr.field s (.agg cs) f).run P w= .ok (.agg (cs.extract off (off+n))) w)/\(g=false-> ∀v,cs[off]? =some v->(Instr.field s (.agg cs) f).run P w= .ok v w):=by
 obtain⟨h1,h2,_⟩:=gP ht w;unfold sO at h;split at h
 ·rename_i fields hu;split at h
  ·rename_i fd hf;split at h
   ·rename_i i hi;split at h
    ·cases h
    simp only[Option.some.injEq,Prod.mk.injEq] at h;obtain⟨rfl,rfl⟩:=h;exact⟨fun e=>by subst e;simp[Instr.field,run_underlying hu,hf,asAgg,part,h1,h2],fun e v hv=>by subst e;simp[Instr.field,run_underlying hu,hf,asAgg,part,h1,hv]⟩
   cases h
  cases h
 cases h
theorem aSm {f:Nat}{K:AV->Prop}(hT:mS P tb)(h:aQS tb s (dT sl x) f K): ∃v,bL P ⟨some d,.field s x f,ty,pos,aft,gd⟩ (mk sl rs) ⟨v,[],[]⟩/\K v:=by
 unfold aQS at h;split at h
 ·rename_i l hl;split at h
  ·rename_i q hq;have hf:=dG (dG hT.fl hl) hq;obtain⟨off,ft⟩:=q;split at h
   ·rename_i g n b z hz;have hz:=dG hT.ty hz;split at h
    ·rename_i cs hx;split at h
     ·split at h
      ·rename_i hb;have hb:=aEP hb;refine⟨_,dS fun K φ A w0 N a w hG=>?_,h⟩;have h1:=hG.ev x;rw[cQ,hx] at h1;unfold aJ at h1;obtain⟨vs,he,hone,hm⟩:=h1;refine⟨.agg (vs.extract off (off+n)),?_,?_⟩
       ·simp only[execOp,he,Sem.run_bind];rw[(aHh hf hz w vs).1 rfl];rfl
       unfold aJ;refine⟨_,rfl,fun u hu=>hone u ?_,?_⟩
       ·rw[Array.toList_extract,List.extract_eq_take_drop] at hu;exact List.mem_of_mem_drop (List.mem_of_mem_take hu)
       rw[Array.toList_extract,List.extract_eq_take_drop,show off+n - off=n by omega];exact rI n (rH off hm)
      cases h
     split at h
     ·rename_i y hy;refine⟨_,dS fun K φ A w0 N a w hG=>?_,h⟩;have h1:=hG.ev x;rw[cQ,hx] at h1;unfold aJ at h1;obtain⟨vs,he,hone,hm⟩:=h1;obtain⟨v,hv,hmv⟩:=pX hm hy;refine⟨v,?_,hmv⟩;simp only[execOp,he,Sem.run_bind];rw[(aHh hf hz w vs).2 rfl v (by rw[<-Array.getElem?_toList];exact hv)];rfl
     cases h
    cases h
   cases h
  cases h
 cases h
theorem aUw {t:T}{K:AV->T->Prop}(hT:mS P tb)(h:aUp tb rs s (dT sl x) t K): ∃v t',bL P ⟨some d,.load s x,ty,pos,aft,gd⟩ (mk sl rs) ⟨v,[],[]⟩/\K v t' :=by
 unfold aUp at h;split at h
 ·rename_i ag n bt z hq;have hq:=dG hT.ty hq;split at h
  ·rename_i hh off hx;split at h
   ·rename_i tq cs hr;split at h
    ·split at h
     ·rename_i hb;exact⟨_,_,aUg hq hx hr (aEP hb) rfl,h⟩
     cases h
    split at h
    ·rename_i v hv;exact⟨_,_,aSd hq hx hr hv,h⟩
    cases h
   cases h
  ·rename_i o xs hx;split at h
   ·rename_i hl;split at h
    ·split at h
     ·rename_i hb;exact⟨_,_,aK2 (o' :=o) rfl hq (by rw[cQ];exact hx) (yB hl) (aEP hb),h⟩
     cases h
    split at h
    ·rename_i y hy;exact⟨_,_,aHT (o' :=o) rfl hq (by rw[cQ];exact hx) (yB hl) hy,h⟩
    cases h
   cases h
  ·rename_i hh k i off hx;split at h
   ·rename_i e k' dp xs hr;split at h
    ·rename_i hb;have:=aFj hb;subst this;obtain⟨row,t',h1,h2⟩:=aOO h;cases ag with
     | true=>
       dsimp only at h2
       split at h2
       ·rename_i hb2;cases dp with
        | true=>exact⟨_,_,aOG hq hx hr h1 (aEP hb2) rfl,h2⟩
        | false=>exact⟨_,_,aOG hq hx hr h1 (aEP hb2) rfl,h2⟩
       cases h2
     | false=>
       dsimp only at h2
       split at h2
       ·rename_i y hy;cases dp with
        | true=>exact⟨_,_,aLL hq hx hr h1 hy rfl,h2⟩
        | false=>exact⟨_,_,aLL hq hx hr h1 hy rfl,h2⟩
       cases h2
    cases h
   ·rename_i e k' xs i' j h' hr;split at h
    ·rename_i hb;simp only[aCA,Bool.not_eq_true'] at hb;obtain⟨⟨b1,b2⟩,b3⟩:=hb;have b1:=aFj b1;have b2:=aFj b2;obtain⟨b4,h⟩:=h;subst b1 b2 b3 b4;exact⟨_,_,aGg rfl hq (by rw[cQ];exact hx) hr,h⟩
    cases h
   cases h
  cases h
 cases h
theorem aZw {c:Operand}{t:TypeId}(hc:pT (mk sl rs) (dT sl c))(hf:gW sl rs (100*d)=true):bL P ⟨some d,.box t c,ty,pos,aft,gd⟩ (mk sl rs) ⟨.ptr (100*d) 0,[],[(100*d,.box t (fE (dT sl c)))]⟩:=
 by rw[<-cQ sl rs];exact aS6 rfl (by rw[cQ];exact hc) (gA hf)
theorem aUx {t:TypeId}{ag:Bool}{n bt:Nat}{z:Value}(ht:gU P t=some (ag,n,bt,z))(hf:gW sl rs (100*d)=true):bL P ⟨some d,.alloc t,ty,pos,aft,gd⟩ (mk sl rs) ⟨.ptr (100*d) 0,[],[(100*d,.box t (z.cells.toList.map avC))]⟩:=
 aNr rfl ht (gA hf)
theorem aSn {t e:TypeId}{k bt:Nat}{ag:Bool}{z:Value}(ht:P.underlying t=some (.slice e))(hk:gU P e=some (ag,k,bt,z))(hf:gW sl rs (100*d)=true):bL P ⟨some d,.buildSlice t 0 #[],ty,pos,aft,gd⟩ (mk sl rs) ⟨.own (100*d),[],[(100*d,.arr e k true [])]⟩:=
 aMg rfl ht hk (gA hf)
theorem aSo {t e:TypeId}{len k bt:Nat}{ag:Bool}{z:Value}{parts:Array (Nat × Operand)}{rows:List (List bR)}{css:List (List Value)}(ht:P.underlying t=some (.slice e))(hk:gU P e=some (ag,k,bt,z))(hs:len*k<=16777216)(hp:0<len*k)(hc: ∀q∈parts.toList,pT (mk sl rs) (dT sl q.2))
 (hf:tI (fun i=>some (i*k,k)) (List.replicate (len*k) AV.no) (parts.toList.map fun q=>(q.1,dT sl q.2))=some (rows.flatten.map (AV.p none))) (hfl:oK rows css) (hrk: ∀x∈rows,x.length=k) (hrl:rows.length=len) (hfr:gW sl rs (100*d)=true):bL P ⟨some d,.buildSlice t len parts,ty,pos,aft,gd⟩ (mk sl rs) ⟨.own (100*d),[],[(100*d,.arr e k true rows)]⟩:=
 aMh rfl ht hk hs hp (fun q hq=>by rw[cQ];exact hc q hq) (by rw[<-hf];congr 1) (gA hfr) hfl hrk hrl
theorem aZx {t e:TypeId}{len k bt:Nat}{ag:Bool}{z:Value}{parts:Array (Nat × Operand)}{cs:List AV}(ht:P.underlying t=some (.slice e))(hk:gU P e=some (ag,k,bt,z))(hs:len*k<=16777216)(hp:0<len*k)(hc: ∀q∈parts.toList,pT (mk sl rs) (dT sl q.2))
 (hf:tI (fun i=>some (i*k,k)) (List.replicate (len*k) AV.no) (parts.toList.map fun q=>(q.1,dT sl q.2))=some cs) (hfr:gW sl rs (100*d)=true) (hm:(gH cs).contains (100*d)=false):bL P ⟨some d,.buildSlice t len parts,ty,pos,aft,gd⟩ (mk sl rs) ⟨.bsl (100*d) len,[],[(100*d,.box e cs)]⟩:=
 aS7 rfl ht hk hs hp (fun q hq=>by rw[cQ];exact hc q hq) (by rw[<-hf];congr 1) (gA hfr) (by simpa using hm)
theorem aXr {u v:Operand}{t e:TypeId}{k bt n:Nat}{ag:Bool}{z:Value}{kl kc:IntKind}{zr:List bR}(ht:P.underlying t=some (.slice e))(hk:gU P e=some (ag,k,bt,z))(hx:dT sl u= .p none (.int kl n))(hy:dT sl v= .p none (.int kc n))(hz: ∀w,dN w zr z.cells.toList [])(hn:bt*n<=281474976710656)(hm:n<=maxLen)(hf:gW sl rs (100*d)=true):bL P ⟨some d,.makeSlice t u v,ty,pos,aft,gd⟩ (mk sl rs) ⟨.own (100*d),[],[(100*d,.arr e k true (List.replicate n zr))]⟩:=
 aGf rfl ht hk (by rw[cQ];exact hx) (by rw[cQ];exact hy) hz hn hm (gA hf)
section
variable {u v:Operand} {t e:TypeId} {k bt:Nat} {ag:Bool} {z:Value} {del:List Nat} {dp:Bool} {xs ys:List (List bR)}
theorem aXs {dss:List (List Value)}{zs:List (List bR)}(ht:P.underlying t=some (.slice e))(hk:gU P e=some (ag,k,bt,z))(hpos:0<k)(htgt:aAP (mk sl rs) (dT sl u) del e k dp xs)(hsrc:aBl (mk sl rs) (dT sl v) k ys)(hf:oK ys dss)(hb:(xs.length+ys.length)*bt<=140737488355328)(h63:xs.length+ys.length<=maxLen)(hzs:xs++ys=zs)(hfr:gW sl rs (100*d)=true):bL P ⟨some d,.call { callee:= .builtin .append,args:= #[u,v],argTypes:= #[t,t] },ty,pos,aft,gd⟩ (mk sl rs) ⟨.own (100*d),del,[(100*d,.arr e k dp zs)]⟩:=
 by rw[<-hzs];exact aHY rfl ht hk hpos (by rw[cQ];exact htgt) (by rw[cQ];exact hsrc) hf h63 hb (gA hfr)
theorem aXt {zs:List (List bR)}(ht:P.underlying t=some (.slice e))(hk:gU P e=some (ag,k,bt,z))(hpos:0<k)(htgt:aAP (mk sl rs) (dT sl u) del e k dp xs)(hdx:dp=false\/xs= [])(hsrc:aNv (mk sl rs) (dT sl v) k ys)(hb:(xs.length+ys.length)*bt<=140737488355328)(h63:xs.length+ys.length<=maxLen)(hzs:xs++ys=zs)(hfr:gW sl rs (100*d)=true):bL P ⟨some d,.call { callee:= .builtin .append,args:= #[u,v],argTypes:= #[t,t] },ty,pos,aft,gd⟩ (mk sl rs) ⟨.own (100*d),del,[(100*d,.arr e k false zs)]⟩:=
 by rw[<-hzs];exact aMi rfl ht hk hpos (by rw[cQ];exact htgt) hdx (by rw[cQ];exact hsrc) h63 hb (gA hfr)
theorem aXu {h2:Nat}{e2:TypeId}{cs:List AV}{row:List bR}{hs:List Nat}{zs:List (List bR)}(ht:P.underlying t=some (.slice e))(hk:gU P e=some (ag,k,bt,z))(hpos:0<k)(htgt:aAP (mk sl rs) (dT sl u) del e k dp xs)(hdx:dp=true\/xs= [])(hx:dT sl v= .bsl h2 1)(hr:bH rs h2=some (.box e2 cs))(hm:uV (mk sl rs) cs row hs)(hrow:row.length=k)(hnd:(del++hs).Nodup)(hb:(xs.length+1)*bt<=140737488355328)(h63:xs.length+1<=maxLen)(hzs:xs++[row]=zs)(hfr:gW sl rs (100*d)=true):bL P ⟨some d,.call { callee:= .builtin .append,args:= #[u,v],argTypes:= #[t,t] },ty,pos,aft,gd⟩ (mk sl rs) ⟨.own (100*d),(del++hs),[(100*d,.arr e k true zs)]⟩:=
 by rw[<-hzs];exact aHZ rfl ht hk hpos (by rw[cQ];exact htgt) hdx (by rw[cQ];exact hx) hr hm hrow hnd h63 hb (gA hfr)
theorem aXv {h2 hp:Nat}{e2 e3:TypeId}{k3:Nat}{ys zs:List (List bR)}(ht:P.underlying t=some (.slice e))(hk:gU P e=some (ag,1,bt,z))(htgt:aAP (mk sl rs) (dT sl u) del e 1 true xs)(hx:dT sl v= .bsl h2 1)(hr:bH rs h2=some (.box e2 [.own hp]))(hhp:bH rs hp=some (.arr e3 k3 true ys))(hnd:hp ∉ del)(hb:(xs.length+1)*bt<=140737488355328)(h63:xs.length+1<=maxLen)(hzs:xs++[[.sl e3 k3 ys]]=zs)(hfr:gW sl rs (100*d)=true):bL P ⟨some d,.call { callee:= .builtin .append,args:= #[u,v],argTypes:= #[t,t] },ty,pos,aft,gd⟩ (mk sl rs) ⟨.own (100*d),del,[(100*d,.hole e 1 zs xs.length 0 hp)]⟩:=
 by rw[<-hzs];exact aH0 rfl ht hk (by rw[cQ];exact htgt) (by rw[cQ];exact hx) hr hhp hnd h63 hb (gA hfr)
theorem aXw {h0 h2 hp i j:Nat}{e2:TypeId}{cs:List AV}{row:List bR}{hs:List Nat}{zs:List (List bR)}(ht:P.underlying t=some (.slice e))(hk:gU P e=some (ag,k,bt,z))(hpos:0<k)(hs0:dT sl u= .own h0)(hr0:bH rs h0=some (.hole e k xs i j hp))(hx:dT sl v= .bsl h2 1)(hr:bH rs h2=some (.box e2 cs))(hm:uV (mk sl rs) cs row hs)(hrow:row.length=k)(hnd:(h0::hs).Nodup)(hnp:hp ∉ h0::hs)(hne:hp≠100*d)(hb:(xs.length+1)*bt<=140737488355328)(h63:xs.length+1<=maxLen)(hzs:xs++[row]=zs)(hfr:gW sl rs (100*d)=true):bL P ⟨some d,.call { callee:= .builtin .append,args:= #[u,v],argTypes:= #[t,t] },ty,pos,aft,gd⟩ (mk sl rs) ⟨.own (100*d),h0::hs,[(100*d,.hole e k zs i j hp)]⟩:=
 by rw[<-hzs];exact aH1 rfl ht hk hpos (by rw[cQ];exact hs0) hr0 (by rw[cQ];exact hx) hr hm hrow hnd hnp hne h63 hb (gA hfr)
end
theorem aDs {x:AV}(h:xY rs x=true):pT (mk sl rs) x:=by
 cases x<;>simp only[xY] at h<;>first|exact yB h|trivial
theorem aEw: ∀{cs:List AV} {ds:List bR},aEu cs=some ds->cs=ds.map (AV.p none)/\ ∃us,lJ ds us
 | [],ds,h=>by simp only[aEu,Option.some.injEq] at h;subst h;exact⟨rfl,[],rfl⟩
 | c::cs,ds,h=>by
   unfold aEu at h;split at h
   ·rename_i e;cases e
   ·rename_i x l e;injection e with e1 e2
    subst e1;subst e2;split at h
    ·rename_i v hv;split at h
     ·rename_i ds' hd;injection h with h
      subst h;obtain⟨h1,us,h2⟩:=aEw hd;exact⟨by rw[h1];rfl,v::us,by simp only[lJ,aLz,hv] at h2 ⊢;rw[h2]⟩
     cases h
    cases h
   cases h
theorem aDt: ∀{ds:List bR},fT ds=true-> ∃us,lJ ds us
 | [],_=>⟨[],rfl⟩
 | x::l,h=>by
   simp only[fT,aCA] at h;obtain⟨us,h2⟩:=aDt h.2;obtain⟨v,hv⟩:=Option.isSome_iff_exists.1 h.1;exact⟨v::us,by simp only[lJ,aLz,hv] at h2 ⊢;rw[h2]⟩
theorem aLT {α:Type}{enc:α->List bR}(h: ∀x,fT (enc x)=true): ∀(l:List α),∃css,oK (l.map enc) css
 | []=>⟨[],rfl⟩
 | x::l=>by
   obtain⟨us,h1⟩:=aDt (h x);obtain⟨css,h2⟩:=aLT h l;exact⟨us::css,us,css,rfl,h1,h2⟩
theorem aZy {t:T}{K:List Nat->List (Nat × Rs)->T->Prop}(hT:mS P tb)(h:stW tb rs s (dT sl x) (dT sl y) t K): ∃del new t',bL P ⟨none,.store s x y,ty,pos,aft,gd⟩ (mk sl rs) ⟨.no,del,new⟩/\K del new t' :=by
 unfold stW at h;split at h
 ·rename_i ag n bt z hq;have hq:=dG hT.ty hq;split at h
  ·rename_i hh off hx;split at h
   ·rename_i tq cs hr;split at h
    ·rename_i hb;simp only[aCA] at hb;exact⟨_,_,_,aSe hq hx hr (aDs hb.1.1) (aFj hb.1.2) (aEP hb.2) rfl,h⟩
    cases h
   cases h
  ·rename_i hh k i off hx;split at h
   ·rename_i e k' dp xs hr;split at h
    ·rename_i hb;have:=aFj hb;subst this;split at h
     ·rename_i ys hys;split at h
      ·rename_i hn;split at h
       ·obtain⟨h1,h2,h3⟩:=h;obtain⟨h4,h5,h6,h7⟩:=h3 _ (aFZ h2);obtain⟨hy1,us,hy2⟩:=aEw hys;obtain⟨vs,hv⟩:=aDt h4;subst h1;exact⟨_,_,_,aSf hq hx hr (aHe (aFZ h2)) hv hy1 hy2 (aFj hn) h5 (by rw[h6,List.map_set]),h7⟩
       cases h
      cases h
     cases h
    cases h
   cases h
  cases h
 cases h
theorem aBo {parts:List (Nat × Operand)}(h:(parts.map fun q=>(q.1,dT sl q.2)).all (fun q=>xY rs q.2)=true): ∀q∈parts,pT (mk sl rs) (dT sl q.2):=fun q hq=>by
 have:=aI4.1 h (q.1,dT sl q.2) (List.mem_map_of_mem (f:=fun q:Nat × Operand=>(q.1,dT sl q.2)) hq);exact aDs this
theorem aSp {parts:Array (Nat × Operand)}{K:AV->Prop}(hT:mS P tb)(h:aQQ tb rs s (parts.toList.map fun q=>(q.1,dT sl q.2)) K): ∃v,bL P ⟨some d,.build s parts,ty,pos,aft,gd⟩ (mk sl rs) ⟨v,[],[]⟩/\K v:=by
 unfold aQQ at h;split at h
 ·rename_i z ps hp;have hp:=dG hT.pl hp;split at h
  ·rename_i hc;split at h
   ·rename_i cs hf;exact⟨_,aUh hp (aBo hc) hf,h⟩
   cases h
  cases h
 cases h
theorem aOP (k:Nat): ∀(n:Nat) (l:List bR),l.length=n*k->(aFa k n l).flatten=l/\(∀x∈aFa k n l,x.length=k)/\(aFa k n l).length=n
 | 0,l,h=>by
   have:l= []:=aKV (by simpa using h);subst this;simp[aFa]
 | n+1,l,h=>by
   have hk:k<=l.length:=by rw[h,Nat.succ_mul];omega
   obtain⟨h1,h2,h3⟩:=aOP k n (l.drop k) (by rw[aXh,h,Nat.succ_mul];omega);simp only[aFa];refine⟨by rw[aOc,h1,List.take_append_drop],fun x hx=>?_,by simp[h3]⟩;rcases aNn.1 hx with rfl | hx
   ·simp;omega
   exact h2 x hx
theorem aFb (k:Nat): ∀(n:Nat) (l:List bR),(∀x∈l,x.val?.isSome=true)-> ∃css,oK (aFa k n l) css
 | 0,l,h=>⟨[],rfl⟩
 | n+1,l,h=>by
   obtain⟨css,h1⟩:=aFb k n (l.drop k) (fun x hx=>h x (List.mem_of_mem_drop hx))
   have hf: ∀(m:List bR),(∀x∈m,x.val?.isSome=true)->fT m=true:=by
    intro m
    induction m with
    | nil=>intro _;rfl
    | cons a m ih=>intro hm;simp only[fT,aCA];exact⟨hm a (by simp),ih fun x hx=>hm x (by simp[hx])⟩
   obtain⟨us,h2⟩:=aDt (hf (l.take k) (fun x hx=>h x (List.mem_of_mem_take hx)));exact⟨us::css,us,css,rfl,h2,h1⟩
theorem aLU: ∀{ds:List bR} {us:List Value},lJ ds us-> ∀x∈ds,x.val?.isSome=true
 | [],_,_,x,hx=>by simp at hx
 | y::ds,[],h,x,hx=>by simp[lJ] at h
 | y::ds,u::us,h,x,hx=>by
   simp only[lJ,aLz,List.cons.injEq] at h;rcases aNn.1 hx with rfl | hx
   ·rw[h.1];rfl
   exact aLU (us:=us) h.2 x hx
theorem aXx {n:Nat}{parts:Array (Nat × Operand)}{K:AV->List (Nat × Rs)->Prop}(hT:mS P tb)(h:aZm tb sl rs d s n (parts.toList.map fun q=>(q.1,dT sl q.2)) K): ∃v new,bL P ⟨some d,.buildSlice s n parts,ty,pos,aft,gd⟩ (mk sl rs) ⟨v,[],new⟩/\K v new:=by
 unfold aZm at h;split at h
 ·rename_i e he;have he:=dG hT.sl he;split at h
  ·rename_i ag k bt z hq;have hq:=dG hT.ty hq;split at h
   ·rename_i hf;split at h
    ·split at h
     ·rename_i hp
      have:parts= #[]:=by
       apply Array.ext';simpa using hp
      subst this;exact⟨_,_,aSn he hq hf,h⟩
     cases h
    split at h
    ·rename_i hb;simp only[aCA] at hb;have hb1:=aEP hb.1.2;have hb2:0<n*k:=by have:=hb.2;simpa [Nat.blt_eq] using this
     split at h
     ·rename_i cs hcs;split at h
      ·rename_i ds hds;split at h
       ·rename_i hl;obtain⟨h1,us,h2⟩:=aEw hds;obtain⟨q1,q2,q3⟩:=aOP k n ds (aFj hl);obtain⟨css,q4⟩:=aFb k n ds (aLU h2);exact⟨_,_,aSo he hq hb1 hb2 (aBo hb.1.1) (by rw[hcs,h1,q1]) q4 q2 q3 hf,h⟩
       cases h
      split at h
      ·cases h
      rename_i hm;exact⟨_,_,aZx he hq hb1 hb2 (aBo hb.1.1) hcs hf hm,h⟩
     cases h
    cases h
   cases h
  cases h
 cases h
theorem tO {w:World}: ∀{vs:List Value} {ds:List bR},aAT vs ds=true->dN w ds vs []
 | [],[],_=>aOJ
 | .int k n::vs,.int k' m::ds,h=>by
   simp only[aAT,aCA] at h;obtain⟨⟨h1,h2⟩,h3⟩:=h;have e1:k=k' :=by by_cases e:k=k' <;>simp[e] at h1 ⊢
   have e2:n=m:=by by_cases e:n=m<;>simp[e] at h2 ⊢
   subst e1;subst e2;exact oN (F1:=[]) aR9 (tO h3)
 | .bool a::vs,.bool b::ds,h=>by
   simp only[aAT,aCA,beq_iff_eq] at h;obtain⟨h1,h3⟩:=h;subst h1;exact oN (F1:=[]) aOK (tO h3)
 | v::vs,d::ds,h=>by
   unfold aAT at h;split at h
   ·rename_i e;cases e
   ·rename_i k n vs' k' m ds' e1 e2;simp only[aCA] at h;injection e1 with e1 e3
    injection e2 with e2 e4
    subst e1;subst e2;subst e3;subst e4;obtain⟨⟨h1,h2⟩,h3⟩:=h;have e1:k=k' :=by by_cases e:k=k' <;>simp[e] at h1 ⊢
    have e2:n=m:=by by_cases e:n=m<;>simp[e] at h2 ⊢
    subst e1;subst e2;exact oN (F1:=[]) aR9 (tO h3)
   ·rename_i a vs' b ds' e1 e2;simp only[aCA,beq_iff_eq] at h;injection e1 with e1 e3
    injection e2 with e2 e4
    subst e1;subst e2;subst e3;subst e4;obtain⟨h1,h3⟩:=h;subst h1;exact oN (F1:=[]) aOK (tO h3)
   ·rename_i vs' e k ds' e1 e2;injection e1 with e1 e3
    injection e2 with e2 e4
    subst e1;subst e2;subst e3;subst e4;refine oN (F1:=[]) ?_ (tO h);unfold qZ;refine⟨[],[],?_,rfl,by unfold cV;exact⟨rfl,rfl⟩⟩;exact World.ownsRow_nil w 0 e k
   ·rename_i vs' ds' e1 e2;injection e1 with e1 e3
    injection e2 with e2 e4
    subst e1;subst e2;subst e3;subst e4;refine oN (F1:=[]) ?_ (tO h);unfold qZ;exact⟨rfl,rfl⟩
   cases h
 | [],_::_,h=>by simp[aAT] at h
 | _::_,[],h=>by simp[aAT] at h
theorem aZz {t:T}{K:AV->List (Nat × Rs)->T->Prop}(hT:mS P tb)(h:mkW tb sl rs d s (dT sl x) (dT sl y) t K): ∃v new t',bL P ⟨some d,.makeSlice s x y,ty,pos,aft,gd⟩ (mk sl rs) ⟨v,[],new⟩/\K v new t' :=by
 unfold mkW at h;split at h
 ·rename_i e he;have he:=dG hT.sl he;split at h
  ·rename_i ag k bt z hq;have hq:=dG hT.ty hq;split at h
   ·rename_i hf;split at h
    ·rename_i ka a hx;split at h
     ·rename_i kb b hy;split at h
      ·split at h
       ·rename_i n zr zs t' hz;obtain⟨h1,h2,h3,h4,h5,h6⟩:=h;subst h5;subst h1;subst h2;exact⟨_,_,_,aXr he hq hx hy (fun w=>tO hz) h3 (by unfold maxLen;omega) hf,h6⟩
       cases h
      cases h
     cases h
    cases h
   cases h
  cases h
 cases h
theorem aXy {t:T}{K:AV->T->Prop}{e:Nat}(he:P.underlying s=some (.slice e))(h:aZn rs (dT sl x) t K): ∃v t',bL P ⟨some d,.call { callee:= .builtin .len,args:= #[x],argTypes:= #[s] },ty,pos,aft,gd⟩ (mk sl rs) ⟨v,[],[]⟩/\K v t' :=by
 unfold aZn at h;split at h
 ·rename_i o e' k xs hx;split at h
  ·rename_i hl;split at h
   ·obtain⟨h1,h2⟩:=h;refine⟨_,_,aQM he ?_,h2⟩;rw[hx];cases o with
    | none=>exact h1.symm
    | some hh=>exact⟨aBn hl,h1.symm⟩
   cases h
  cases h
 ·rename_i hh hx;split at h
  ·rename_i e' k dp xs hr;split at h
   ·obtain⟨h1,h2⟩:=h;refine⟨_,_,aQM he ?_,h2⟩;rw[hx];exact⟨_,_,_,_,hr,h1.symm⟩
   cases h
  cases h
 ·rename_i hx;exact⟨_,_,aQM (n:=0) he (by rw[hx];rfl),h⟩
 cases h
theorem nQ {K:Prop}: ∀{cs:List AV} {row:List bR},aCP rs cs row K->uV (mk sl rs) cs row (aAU cs)/\K
 | [],row,h=>by
   unfold aCP at h;split at h
   ·exact⟨⟨rfl,rfl⟩,h⟩
   cases h
 | c::cs,row,h=>by
   unfold aCP at h;split at h
   ·cases h
   rename_i y row';split at h
   ·rename_i x;split at h
    ·rename_i v hv;exact⟨⟨_,_,[],_,rfl,rfl,⟨h.1.eq.symm,by rw[hv];rfl,rfl⟩,(nQ h.2).1⟩,(nQ h.2).2⟩
    cases h
   ·rename_i g;split at h
    ·rename_i e k ys;split at h
     ·rename_i e' k' xs hr;split at h
      ·rename_i hb;rw[aCA] at hb;have e1:=aFj hb.1;have e2:=aFj hb.2;subst e1;subst e2;obtain⟨rfl,h2⟩:=h;exact⟨⟨_,_,[g],_,rfl,rfl,⟨_,_,_,hr,rfl,rfl⟩,(nQ h2).1⟩,(nQ h2).2⟩
      cases h
     cases h
    cases h
   ·split at h
    ·rename_i e k ys;obtain⟨rfl,h2⟩:=h;exact⟨⟨_,_,[],_,rfl,rfl,⟨_,_,rfl,rfl⟩,(nQ h2).1⟩,(nQ h2).2⟩
    cases h
   cases h
theorem aRc {e k:Nat}{a:AV}{K:List Nat->Bool->List (List bR)->Prop}(h:aXi rs e k a K): ∃del dp xs,aAP (mk sl rs) a del e k dp xs/\K del dp xs:=by
 unfold aXi at h;split at h
 ·rename_i hh;split at h
  ·rename_i e' k' dp xs hr;split at h
   ·rename_i hb;rw[aCA] at hb;have e1:=aFj hb.1;have e2:=aFj hb.2;subst e1;subst e2;exact⟨_,_,_,⟨hr,rfl⟩,h⟩
   cases h
  cases h
 ·exact⟨_,_,_,⟨rfl,rfl⟩,h⟩
 cases h
theorem aRd {k:Nat}{a:AV}{K:List (List bR)->Prop}(h:aXj rs k a K): ∃ys,aBl (mk sl rs) a k ys/\K ys:=by
 unfold aXj at h;split at h
 ·rename_i o e k' xs;split at h
  ·rename_i hb;rw[aCA] at hb;exact⟨_,⟨yB hb.1,aFj hb.2,rfl⟩,h⟩
  cases h
 ·rename_i hh;split at h
  ·rename_i e k' dp xs hr;split at h
   ·rename_i hb;have e1:=aFj hb;subst e1;exact⟨_,⟨_,_,hr⟩,h⟩
   cases h
  cases h
 ·exact⟨_,rfl,h⟩
 cases h
theorem aOQ: ∀{cs:List AV} {row:List bR},aOL cs=some row->cs=row.map (AV.p none)
 | [],row,h=>by
   simp only[aOL,Option.some.injEq] at h;rw[<-h];rfl
 | c::cs,row,h=>by
   unfold aOL at h;split at h
   ·rename_i e;cases e
   ·rename_i x cs' e;simp only[List.cons.injEq] at e;obtain⟨rfl,rfl⟩:=e;split at h
    ·rename_i r hr;injection h with h
     rw[<-h,aOQ hr];rfl
    cases h
   cases h
theorem aLV {k:Nat}: ∀{n:Nat} {row:List bR},row.length=n*k->(xZ n k row).flatten=row/\(xZ n k row).length=n/\ ∀r∈xZ n k row,r.length=k
 | 0,row,h=>by
   obtain rfl:row= []:=aKV (by simpa using h);exact⟨rfl,rfl,by simp[xZ]⟩
 | n+1,row,h=>by
   rw[Nat.add_mul,Nat.one_mul] at h;obtain⟨h1,h2,h3⟩:=aLV (n:=n) (k:=k) (row:=row.drop k) (by rw[aXh];omega);refine⟨?_,by rw[xZ,aQP,h2],?_⟩
   ·rw[xZ,aOc,h1,List.take_append_drop]
   intro r hr;rw[xZ] at hr;rcases aNn.1 hr with rfl | hr
   ·rw[aXg];omega
   exact h3 r hr
theorem bAA {k:Nat}{a:AV}{K:List (List bR)->Prop}(h:roW rs k a K): ∃ys,aNv (mk sl rs) a k ys/\K ys:=by
 unfold roW at h;split at h
 ·split at h
  ·rename_i hb;exact⟨_,⟨aFj hb,rfl⟩,h⟩
  cases h
 ·split at h
  ·rename_i e cs hr;split at h
   ·rename_i row hrow;split at h
    ·rename_i hb;rw[aOQ hrow] at hr;obtain⟨q1,q2,q3⟩:=aLV (aFj hb);exact⟨_,⟨e,q2.symm,by rw[q1];exact hr,q3⟩,h⟩
    cases h
   cases h
  cases h
 cases h
theorem aUy {dp:Bool}{xs:List (List bR)}{K:Prop}(h:aUq dp xs K):(dp=false\/xs= [])/\K:=by
 unfold aUq at h;split at h
 ·exact⟨.inl rfl,h⟩
 split at h
 ·exact⟨.inr rfl,h⟩
 cases h
theorem qA: ∀{l:List Nat},nL l=true->l.Nodup
 | [],_=>List.nodup_nil
 | x::l,h=>by
   simp only[nL,aCA,Bool.not_eq_true',List.contains_eq_mem,decide_eq_false_iff_not] at h;exact List.nodup_cons.2 ⟨h.1,qA h.2⟩
theorem aXz {α:Type}{enc:α->List bR}{y:α}{n:Nat}{parts:Array (Nat × Operand)}{K:AV->List Nat->List (Nat × Rs)->Prop}(hT:mS P tb)(h:aZp tb sl rs d s n (parts.toList.map fun q=>(q.1,dT sl q.2)) enc y K): ∃v del new,bL P ⟨some d,.buildSlice s n parts,ty,pos,aft,gd⟩ (mk sl rs) ⟨v,del,new⟩/\K v del new:=by
 unfold aZp at h;split at h
 ·rename_i e he;have he:=dG hT.sl he;split at h
  ·rename_i ag k bt z hq;have hq:=dG hT.ty hq;split at h
   ·rename_i hb;simp only[aCA] at hb;obtain⟨⟨⟨⟨⟨b1,b2⟩,b3⟩,b4⟩,b5⟩,b6⟩:=hb;obtain rfl:n=1:=aFj b2;have hb4:=aEP b4;have hb5:0<1*k:=by simpa [Nat.blt_eq] using b5
    split at h
    ·rename_i cs hcs;split at h
     ·rename_i hn;obtain⟨q1,q2⟩:=nQ h;exact⟨_,_,_,aEp rfl he hq hb4 hb5 (fun q hq=>by rw[cQ];exact aBo b3 q hq) (by rw[<-hcs];congr 1) q1 (aFj b6) (qA hn) (gA b1),q2⟩
     cases h
    cases h
   cases h
  cases h
 cases h
theorem aYA {t:T}{K:AV->List Nat->List (Nat × Rs)->T->Prop}(hT:mS P tb)(h:aZo tb sl rs d s (dT sl x) (dT sl y) t K): ∃v del new t',bL P ⟨some d,.call { callee:= .builtin .append,args:= #[x,y],argTypes:= #[s,s] },ty,pos,aft,gd⟩ (mk sl rs) ⟨v,del,new⟩/\K v del new t' :=by
 unfold aZo at h;split at h
 ·rename_i e he;have he:=dG hT.sl he;split at h
  ·rename_i ag k bt z hq;have hq:=dG hT.ty hq;split at h
   ·rename_i hb;simp only[aCA] at hb;have hk:0<k:=by have:=hb.1.2;simpa [Nat.blt_eq] using this
    have hbt:0<bt:=by have:=hb.2;simpa [Nat.blt_eq] using this
    obtain⟨del,dp,xs,ht,h⟩:=aRc (sl:=sl) h
    have small: ∀n,n*bt<=140737488355328->n<=maxLen:=fun n hn=>by
     have:n*1<=n*bt:=Nat.mul_le_mul_left n hbt;unfold maxLen;omega
    split at h
    ·obtain⟨rfl,h2,h3,h4,h5⟩:=h;obtain⟨ys,q1,rfl⟩:=aRd (sl:=sl) h2;rename_i enc l l2 t';obtain⟨css,hc⟩:=aLT h3 l2;exact⟨_,_,_,_,aXs he hq hk ht q1 hc (by simpa using h4) (by simpa using small _ h4) (by rw[aMQ]) hb.1.1,h5⟩
    ·obtain⟨hdx,rfl,h2⟩:=aUy h;obtain⟨ys,q1,rfl,h4,h5⟩:=bAA (sl:=sl) h2;exact⟨_,_,_,_,aXt he hq hk ht hdx q1 (by simpa using h4) (by simpa using small _ h4) (by rw[aMQ]) hb.1.1,h5⟩
    ·split at h
     ·split at h
      ·rename_i h2 hx;split at h
       ·rename_i e2 cs hr;split at h
        ·rename_i hn;split at h
         rotate_left
         ·cases h
         rename_i q3;have q3:=aFj q3;obtain⟨rfl,h⟩:=h;obtain⟨q2,q4,q5⟩:=nQ (sl:=sl) h;exact⟨_,_,_,_,aXu he hq hk ht (.inl rfl) hx hr q2 q3 (qA hn) (by simpa using q4) (by simpa using small _ q4) (by rw[aMQ];rfl) hb.1.1,q5⟩
        cases h
       cases h
      cases h
     cases h
    cases h
   cases h
  cases h
 cases h
theorem aUz {α:Type}{enc:α->List bR}{l:List α}{y' :α}{K:AV->List Nat->List (Nat × Rs)->Prop}(hT:mS P tb)(h:aUr tb sl rs d s (dT sl x) (dT sl y) enc l y' K): ∃v del new,bL P ⟨some d,.call { callee:= .builtin .append,args:= #[x,y],argTypes:= #[s,s] },ty,pos,aft,gd⟩ (mk sl rs) ⟨v,del,new⟩/\K v del new:=by
 unfold aUr at h;split at h
 ·rename_i e he;have he:=dG hT.sl he;split at h
  ·rename_i ag k bt z hq;have hq:=dG hT.ty hq;split at h
   ·rename_i hb;simp only[aCA] at hb;obtain rfl:=aFj hb.1.2;have hbt:0<bt:=by have:=hb.2;simpa [Nat.blt_eq] using this
    obtain⟨del,dp,xs,ht,h⟩:=aRc (sl:=sl) h;split at h
    ·split at h
     ·rename_i h2 hx;split at h
      ·rename_i e2 hp hr;split at h
       ·rename_i e3 k3 ys hh;split at h
        ·rename_i hn;obtain⟨rfl,h3,h4,h5⟩:=h;have hn:=List.nodup_cons.1 (qA hn);have h63:(l.length+1)*1<=(l.length+1)*bt:=Nat.mul_le_mul_left _ hbt;have:=aXv (d:=d) (ty:=ty) (pos:=pos) (aft:=aft) (gd:=gd) (v:=y) he hq ht hx hr hh hn.1 (by simpa using h4) (by simp only[aAH];unfold maxLen;omega) (zs:=(l++[y']).map enc) (by rw[aMQ,<-h3];rfl) hb.1.1;rw[aAH] at this;exact⟨_,_,_,this,h5⟩
        cases h
       cases h
      cases h
     cases h
    cases h
   cases h
  cases h
 cases h
theorem aVA {α:Type}{enc:α->List bR}{l:List α}{y' :α}{K:AV->List Nat->List (Nat × Rs)->Prop}(hT:mS P tb)(h:aUs tb sl rs d s (dT sl x) (dT sl y) enc l y' K): ∃v del new,bL P ⟨some d,.call { callee:= .builtin .append,args:= #[x,y],argTypes:= #[s,s] },ty,pos,aft,gd⟩ (mk sl rs) ⟨v,del,new⟩/\K v del new:=by
 unfold aUs at h;split at h
 ·rename_i e he;have he:=dG hT.sl he;split at h
  ·rename_i ag k bt z hq;have hq:=dG hT.ty hq;split at h
   ·rename_i hb;simp only[aCA] at hb;have hk:0<k:=by have:=hb.1.2;simpa [Nat.blt_eq] using this
    have hbt:0<bt:=by have:=hb.2;simpa [Nat.blt_eq] using this
    split at h
    ·rename_i h0 hs0;split at h
     ·rename_i e' k' xs i j hp hr0;split at h
      ·rename_i h2 hx;split at h
       ·rename_i e2 cs hr;split at h
        ·rename_i hc;simp only[aCA,Bool.not_eq_true'] at hc;obtain⟨⟨⟨⟨c1,c2⟩,c3⟩,c4⟩,c5⟩:=hc;obtain rfl:=aFj c1;obtain rfl:=aFj c2;have hn:=List.nodup_cons.1 (qA c3);have hne:hp≠100*d:=fun q=>by rw[q,Nat.beq_refl] at c4;cases c4
         obtain⟨rfl,h⟩:=h;obtain⟨q2,q4,q5⟩:=nQ (sl:=sl) h;have h63:(l.length+1)*1<=(l.length+1)*bt:=Nat.mul_le_mul_left _ hbt;exact⟨_,_,_,aXw he hq hk hs0 hr0 hx hr q2 (aFj c5) hn.2 hn.1 hne (by simpa using q4) (by simp only[aAH];unfold maxLen;omega) (by rw[aMQ];rfl) hb.1.1,q5⟩
        cases h
       cases h
      cases h
     cases h
    cases h
   cases h
  cases h
 cases h
theorem aYB {t:T}{K:AV->List Nat->List (Nat × Rs)->T->Prop}(hT:mS P tb)(h:aZq tb sl rs d s (dT sl x) (dT sl y) t K): ∃v del new t',bL P ⟨some d,.call { callee:= .builtin .append,args:= #[x,y],argTypes:= #[s,s] },ty,pos,aft,gd⟩ (mk sl rs) ⟨v,del,new⟩/\K v del new t' :=by
 unfold aZq at h;split at h
 ·obtain⟨v,del,new,h1,h2⟩:=aUz (ty:=ty) (pos:=pos) (aft:=aft) (gd:=gd) hT h;exact⟨v,del,new,_,h1,h2⟩
 ·obtain⟨v,del,new,h1,h2⟩:=aVA (ty:=ty) (pos:=pos) (aft:=aft) (gd:=gd) hT h;exact⟨v,del,new,_,h1,h2⟩
 exact aYA hT h
theorem aLW {K:Nat->Prop}{φ:iW}{A:Nat->Prop}{w0:xU}{N:Nat}{S:St}{a:Act}{w:World}(hG:G K φ A w0 N S a w): ∀{xs:List AV} {ys:List Ar} {vs:List Value},aH4 S xs ys->aT K φ w xs vs->pU (fun b=>b<w.heap.size) w ys vs
 | [],ys,vs,h,hm=>by unfold aT at hm;rw[hm,show ys= [] from h];exact rfl
 | x::xs,ys,vs,⟨y,ys',e,h1,h2⟩,hm=>by
   subst e;unfold aT at hm;obtain⟨v,vs',rfl,h3,h4⟩:=hm;exact⟨v,vs',rfl,aX9 hG h1 h3,aLW hG h2 h4⟩
theorem aHi {K:Nat->Prop}{φ:iW}{A:Nat->Prop}{w0:xU}{N:Nat}{S:St}{a:Act}{w:World}(hG:G K φ A w0 N S a w): ∀{xs:List AV} {ys:List Ar} {vs:List Value},rN xs=true->aH4 S xs ys->aT K φ w xs vs->pU K w ys vs
 | [],ys,vs,_,h,hm=>by unfold aT at hm;rw[hm,show ys= [] from h];exact rfl
 | x::xs,ys,vs,hs,⟨y,ys',e,h1,h2⟩,hm=>by
   subst e;simp only[rN,aCA] at hs;unfold aT at hm;obtain⟨v,vs',rfl,h3,h4⟩:=hm;exact⟨v,vs',rfl,aU8 hs.1 h1 h3,aHi hG hs.2 h2 h4⟩
theorem aEx {K:Nat->Prop}{φ:iW}{A:Nat->Prop}{w0:xU}{N:Nat}{a:Act}{w:World}(hG:G K φ A w0 N (mk sl rs) a w): ∀(xs:List Operand),aT K φ w (xs.map (dT sl)) (xs.map a.eval)
 | []=>by simp only[List.map_nil];unfold aT;rfl
 | x::xs=>by
   simp only[aLz];unfold aT;exact⟨_,_,rfl,by have:=hG.ev x;rw[cQ] at this;exact this,aEx hG xs⟩
theorem wJ {o:Oper}{c:Operand}{f:FuncId}{caps:List AV}{xs:List Operand}{ts:Array TypeId}(ho:o.op= .call { callee:= .value c,args:=⟨xs⟩,argTypes:=ts })(hc:kF P f=true)(hx:dT sl c= .fn f caps)(K:Nat->Prop)(φ:iW)(A:Nat->Prop)(w0:xU)(N:Nat)(a:Act)(w:World)(hG:G K φ A w0 N (mk sl rs) a w):
 ∃vs:Array Value,(execOp a.eval o).run P w= .ok (.enter f vs) w/\aT K φ w (xs.map (dT sl)++caps) vs.toList:=by
 have hev:=hG.ev c;rw[cQ,hx] at hev;unfold aJ at hev;obtain⟨cs,he,hm⟩:=hev;refine⟨(xs.map a.eval).toArray++cs,?_,?_⟩
 ·unfold kF at hc;split at hc
  ·rename_i fn hf;simp only[aCA,Bool.not_eq_true',beq_eq_false_iff_ne,ne_eq] at hc;obtain⟨cd,hb⟩:=Option.isSome_iff_exists.1 hc.2;simp[execOp,ho,resolve,he,Deferred.ofValue,invoke,callFunc,hf,hc.1,hb]
  cases hc
 have:=mI (aEx hG xs) hm;simpa using this
theorem aVB {o:Oper}{f:FuncId}{avs:List AV}{ys:List Ar}{rv:AV}{rr:List (Nat × Rs)}{hb:Nat}(hrun: ∀K φ A w0 N a w,G K φ A w0 N (mk sl rs) a w-> ∃vs:Array Value,(execOp a.eval o).run P w= .ok (.enter f vs) w/\aT K φ w avs vs.toList)(hx:aEs rs avs=some ys)(hC:rM P f ys rv rr)
 (hcl:(mL rv&&rr.all fun q=>aLE q.2)=true\/rN avs=true) (ha:(rr.all fun q=>aH2 q.2&&gW sl rs (hb+q.1))=true) (hmt:((cW rv).all fun h=>(bF rr h).isSome)=true):bL P o (mk sl rs) ⟨mP (hb+ ·) rv,[],rr.map fun q=>(hb+q.1,q.2)⟩:=by
 intro K φ A w0 N a w Q hd hG;have hx:=aLN (sl:=sl) hx;simp only[aI4,aCA] at ha hmt hcl;have hfr: ∀q∈rr,iI (mk sl rs) (hb+q.1):=fun q hq=>gA (ha q hq).2;have har: ∀q∈rr,aH2 q.2=true:=fun q hq=>(ha q hq).1;have hmt: ∀h∈cW rv,∃r,bF rr h=some r:=fun k hk=>Option.isSome_iff_exists.1 (hmt k hk);obtain⟨vs,hrn,hmv⟩:=hrun K φ A w0 N a w hG;unfold Oper.wp;rw[hrn,Oper.upon_enter];rcases hcl with ⟨hc1,hc2⟩ | hset
 ·refine(hC.2 (fun b=>b<w.heap.size) w _ (fun _ h=>h) (aLW hG hx hmv)).mono ?_;rintro e w' ⟨v,Kr,φr,rfl,h1,h2,h3,h4,h5,h6,h7,h8,h9⟩;obtain⟨φ',g1,g2⟩:=aLH (dst:=o.dst) (A' :=A) (K' :=K) (hb:=hb) hG hd h1 h3 h4 h5 h6 h7 h8 (aDl rv v hc1 h9) (fun h r pl hr hh=>Holds.deepK (hc2 _ (dA hr)) hh) (fun _ h=>h) (fun _ h=> .inl h) har hfr hmt;exact⟨K,φ',v,rfl,g1,g2⟩
 refine(hC.2 K w _ (fun b hb=>(hG.kin b hb).1) (aHi hG hset hx hmv)).mono ?_;rintro e w' ⟨v,Kr,φr,rfl,h1,h2,h3,h4,h5,h6,h7,h8,h9⟩
 have hKr: ∀b,Kr b->K b\/(Kr b/\w.heap.size<=b/\b<w'.heap.size):=fun b hb=>by
  rcases(h2 b hb).2 with h | h
  ·exact .inl h
  exact .inr ⟨hb,h,(h2 b hb).1⟩
 obtain⟨φ',g1,g2⟩:=aLH (dst:=o.dst) (A' :=A) (K' :=fun b=>K b\/(Kr b/\w.heap.size<=b/\b<w'.heap.size)) (hb:=hb) hG hd h1 h3 h4 h5 h6 h7 h8
  (aJ.mono (K:=Kr) (φ:=φr) (fun _ _=>rfl) hKr rv v (fun h pl _ e=>⟨e,fun _ _=>rfl⟩) h9)
  (fun h r pl hr hh=>Holds.mono (K:=Kr) (φ:=φr) (fun _ _=>rfl) hKr (fun _ _=>rfl) r (fun h pl _ e=>⟨e,fun _ _=>rfl⟩) hh) (fun _ h=> .inl h) (fun _ h=>h) har hfr hmt
 exact⟨_,φ',v,rfl,g1,g2⟩
theorem aVC {f:FuncId}{avs:List AV}{o:Oper}{t:T}{K:AV->List (Nat × Rs)->T->Prop}(hrun:kF P f=true-> ∀K φ A w0 N a w,G K φ A w0 N (mk sl rs) a w-> ∃vs:Array Value,(execOp a.eval o).run P w= .ok (.enter f vs) w/\aT K φ w avs vs.toList)(h:aUt P sl rs d f avs t K): ∃v new t',bL P o (mk sl rs) ⟨v,[],new⟩/\K v new t' :=by
 unfold aUt at h;split at h
 ·split at h
  ·rename_i ys hys;split at h
   ·rename_i hb;simp only[aCA,Bool.or_eq_true] at hb;obtain⟨hC,h⟩:=h;refine⟨_,_,_,aVB (hrun hC.1) hys hC ?_ hb.1.2 hb.2,h⟩;simpa using hb.1.1
   cases h
  cases h
 cases h
theorem aOR {f:FuncId}{captured:Array Operand}:bL P ⟨some d,.makeFunc (.func f) ⟨[]⟩ captured,ty,pos,aft,gd⟩ (mk sl rs) ⟨.fn f (captured.toList.map (dT sl)),[],[]⟩:=
 dS fun K φ A w0 N a w hG=>by
  refine⟨.func (.func f) #[] (captured.map a.eval),by simp[execOp,Instr.makeFunc],?_⟩;unfold aJ;exact⟨_,rfl,by simpa using aEx hG captured.toList⟩
theorem aYC {x:Operand}{s s' :TypeId}{ks k k' :IntKind}{n:Int}(hs:P.underlying s=some (.int ks))(ht:P.underlying s' =some (.int k))(hx:dT sl x= .p none (.int k' n)):bL P ⟨some d,.convert s s' x,ty,pos,aft,gd⟩ (mk sl rs) ⟨.p none (.int k (k.wrap n)),[],[]⟩:=
 mM rfl (fun e w he=>by
  have h1:=he x (.int k' n) (by rw[hx];rfl);simp[execOp,convert,h1,run_underlying hs,run_underlying ht,Conv.intToInt])
theorem aOS (l:List Int):oK (l.map byD) (l.map fun n=>[Value.int .u8 n]):=by
 induction l with
 | nil=>exact rfl
 | cons n l ih=>exact⟨_,_,rfl,rfl,ih⟩
theorem aQU (l:List Int):(l.map fun n=>[Value.int .u8 n]).flatten=l.map (Value.int .u8):=by
 induction l with
 | nil=>rfl
 | cons n l ih=>simp[ih]
theorem aVD {x:Operand}{s s' e:TypeId}{l:List Int}(hs:P.underlying s=some (.slice e))(he:P.underlying e=some (.int .u8))(ht:P.underlying s' =some .string)(hx:aBl (mk sl rs) (dT sl x) 1 (l.map byD)):bL P ⟨some d,.convert s s' x,ty,pos,aft,gd⟩ (mk sl rs) ⟨.p none (.str (zL l)),[],[]⟩:=
 dS fun K φ A w0 N a w hG=>by
  have hev:=hG.ev x;rw[cQ] at hev;obtain⟨hS,_⟩:=aCN hG (by omega) hx (aOS l) hev;rw[aQU,aAH] at hS;obtain⟨b,c,hv,h1,h2,h3⟩:=hS;refine⟨.string (zL l),?_,by unfold aJ iU;rfl⟩;cases b with
  | none=>
    have h0:=h2 rfl;have:l= []:=aKV h0;subst this;simp only[execOp,hv,Sem.run_bind,run_convert_bytes_string w s s' e _ _ c hs he ht];simp[Conv.bytesToString,zL,ByteArray.empty,ByteArray.emptyWithCapacity];rfl
  | some ad=>
    have hl:(loadCells ad l.length).run P w= .ok (l.map (Value.int .u8)).toArray w:=by
     have:=run_loadCells_list (P:=P) w ad (l.map (Value.int .u8)) (fun j v hj=>h3 ad rfl j v hj);simpa using this
    simp only[execOp,hv,Sem.run_bind,run_convert_bytes_string w s s' e _ _ c hs he ht,run_bytesToString w ad l.length c l hl];rw[foldl_push_bytes];simp[zL,ByteArray.empty,ByteArray.emptyWithCapacity];rfl
theorem bAB {x:Operand}{s s' :TypeId}{t:T}{K:AV->T->Prop}(hT:mS P tb)(h:cvW tb rs s s' (dT sl x) t K): ∃v t',bL P ⟨some d,.convert s s' x,ty,pos,aft,gd⟩ (mk sl rs) ⟨v,[],[]⟩/\K v t' :=by
 unfold cvW at h;split at h
 ·rename_i k hk;split at h
  ·rename_i ks hks;split at h
   ·rename_i k' n hx;obtain⟨t',h⟩:=aC9 h;exact⟨_,_,aYC (dG hT.nt hks) (dG hT.nt hk) hx,h⟩
   cases h
  cases h
 split at h
 ·rename_i hd;split at h
  ·rename_i e he;split at h
   ·rename_i hu;split at h
    ·rename_i l t';obtain⟨h1,h2⟩:=h;obtain⟨ys,q1,rfl⟩:=aRd (sl:=sl) h1;exact⟨_,_,aVD (dG hT.sl he) (dG hT.nt hu) (dG hT.st hd) q1,h2⟩
    cases h
   cases h
  cases h
 cases h
theorem aQV {m:ByteArray}{i:Nat}(h:i<m.size): ∃b:UInt8,m[i]? =some b/\yA m i=(b.toNat:Int):=by
 refine⟨m[i],by simp[h],?_⟩;unfold yA
 congr 2
 rw[aKU,aFZ (by simpa using h)];simp[ByteArray.getElem_eq_getElem_data]
theorem aYD {x y:Operand}{s:TypeId}{t:T}{K:AV->T->Prop}(hT:mS P tb)(h:aZr tb s (dT sl x) (dT sl y) t K): ∃v t',bL P ⟨some d,.index s x y,ty,pos,aft,gd⟩ (mk sl rs) ⟨v,[],[]⟩/\K v t' :=by
 unfold aZr at h;split at h
 ·rename_i hs;have hs:=dG hT.st hs;split at h
  ·rename_i m hx;split at h
   ·rename_i k n hy;obtain⟨h0,h1,h2⟩:=h;refine⟨_,_,mM rfl (fun e w he=>?_),h2⟩;have e1:=he x (.string m) (by rw[hx];rfl);have e2:=he y (.int k n) (by rw[hy];rfl);obtain⟨b,hb,hbb⟩:=aQV (m:=m) (i:=n.toNat) (by omega);simp[execOp,Instr.index,e1,e2,asIntOf,run_underlying hs,h0,hb,hbb]
   cases h
  cases h
 cases h
theorem aYE {x:Operand}{s:TypeId}{lo hi:Option Operand}{t:T}{K:AV->T->Prop}(hT:mS P tb)(h:aZs tb s (dT sl x) (lo.map (dT sl)) (hi.map (dT sl)) t K): ∃v t',bL P ⟨some d,.slice s x lo hi none,ty,pos,aft,gd⟩ (mk sl rs) ⟨v,[],[]⟩/\K v t' :=by
 unfold aZs at h;split at h
 ·rename_i hs;have hs:=dG hT.st hs;split at h
  ·rename_i m hx;cases lo with
   | none=>
     cases hi with
     | none=>simp at h
     | some hi=>
       simp only[Option.map_none,Option.map_some] at h;split at h
       ·cases h
       ·rename_i k b hb;injection hb with hb
        obtain⟨h0,h1,h2⟩:=h;refine⟨_,_,mM rfl (fun e w he=>?_),h2⟩;have e1:=he x (.string m) (by rw[hx];rfl);have e2:=he hi (.int k b) (by rw[hb];rfl);simp[execOp,Instr.sliceAt,Instr.slice,Instr.sliceBounds,Instr.sliceBound,e1,e2,asIntOf,run_underlying hs,h0,h1]
       cases h
   | some lo=>
     simp only[Option.map_some] at h;split at h
     ·rename_i hq;cases hq
     ·rename_i k a ha;injection ha with ha
      cases hi with
      | none=>
        simp only[Option.map_none] at h;obtain⟨h0,h1,h2⟩:=h;refine⟨_,_,mM rfl (fun e w he=>?_),h2⟩;have e1:=he x (.string m) (by rw[hx];rfl);have e2:=he lo (.int k a) (by rw[ha];rfl);simp[execOp,Instr.sliceAt,Instr.slice,Instr.sliceBounds,Instr.sliceBound,e1,e2,asIntOf,run_underlying hs,h0,h1]
      | some hi=>
        simp only[Option.map_some] at h;split at h
        ·rename_i hq;cases hq
        ·rename_i k' b hb;injection hb with hb
         obtain⟨h0,h1,h2,h3⟩:=h;refine⟨_,_,mM rfl (fun e w he=>?_),h3⟩;have e1:=he x (.string m) (by rw[hx];rfl);have e2:=he lo (.int k a) (by rw[ha];rfl);have e3:=he hi (.int k' b) (by rw[hb];rfl);have q1:0<=b:=by omega
         have q2:a<=(b.toNat:Int):=by omega
         simp[execOp,Instr.sliceAt,Instr.slice,Instr.sliceBounds,Instr.sliceBound,e1,e2,e3,asIntOf,run_underlying hs,h0,q1,h2];intro hq;exfalso;omega
        cases h
     cases h
  cases h
 cases h
theorem gV.take' {B:Nat->Prop}{w:World}{k:Nat}{a:Option Addr}: ∀(n:Nat) {xs:List (List bR)} {o:Nat},gV B w k xs a o->gV B w k (xs.take n) a o
 | 0,xs,o,_=>by rw[List.take_zero];unfold gV;trivial
 | n+1,[],o,_=>by rw[List.take_nil];unfold gV;trivial
 | n+1,x::xs,o,h=>by
   rw[List.take_succ_cons];unfold gV at*;exact⟨h.1,h.2.1,gV.take' n h.2.2⟩
theorem gV.drop' {B:Nat->Prop}{w:World}{k:Nat}{a:Option Addr}: ∀(n:Nat) {xs:List (List bR)} {o:Nat},gV B w k xs a o->gV B w k (xs.drop n) a (o+n*k)
 | 0,xs,o,h=>by simpa using h
 | n+1,[],o,_=>by rw[List.drop_nil];unfold gV;trivial
 | n+1,x::xs,o,h=>by
   rw[List.drop_succ_cons];unfold gV at h;have:=gV.drop' n h.2.2;rw[show o+(n+1)*k=o+k+n*k by rw[Nat.add_mul];omega];exact this
theorem kN.shift {B:Nat->Prop}{w:World}{b off s o:Nat}{x:List bR}(h:kN B w x (some ⟨b,off,none⟩) (o+s)):kN B w x (some ⟨b,off+s,none⟩) o:=by
 obtain⟨b',off',vs,e,hb,hl,hc⟩:=h.vals;simp only[Option.some.injEq,Addr.mk.injEq,and_true] at e;obtain⟨rfl,rfl⟩:=e;refine kN.mk hb hl fun j v hv=>?_;have:=hc j v hv;rw[show off+s+o+j=off+(o+s)+j by omega];exact this
theorem gV.shift {B:Nat->Prop}{w:World}{k b off s:Nat}: ∀{xs:List (List bR)} {o:Nat},gV B w k xs (some ⟨b,off,none⟩) (o+s)->gV B w k xs (some ⟨b,off+s,none⟩) o
 | [],o,_=>by unfold gV;trivial
 | x::xs,o,h=>by
   unfold gV at*;refine⟨h.1,h.2.1.shift,gV.shift ?_⟩;rw[show o+k+s=o+s+k by omega];exact h.2.2
theorem bAC {B:Nat->Prop}{w:World}{e k len c l h:Nat}{xs:List (List bR)}{a:Option Addr}(hr:iU B w (.sl e k xs) (.slice a len c))(hlh:l<=h)(hh:h<=xs.length):
 len=xs.length/\len<=c/\iU B w (.sl e k ((xs.take h).drop l)) (.slice (if c=l then a else a.map (·.add (l*k))) (h - l) (c - l)):=by
 unfold iU at*;obtain⟨a',c',e1,h1,h2,h3⟩:=hr;simp only[Value.slice.injEq] at e1;obtain⟨rfl,rfl,rfl⟩:=e1;have hlen:((xs.take h).drop l).length=h - l:=by simp;omega
 refine⟨rfl,h1,_,_,by rw[hlen],by omega,by omega,?_⟩;cases hys:(xs.take h).drop l with
 | nil=>unfold gV;trivial
 | cons y ys=>
   have hlt:l<h:=by
    have:=congrArg List.length hys;simp only[aQP] at this;omega
   rw[if_neg (by omega)];cases xs with
   | nil=>simp at hys
   | cons x xs' =>
     have h4:=h3;unfold gV at h4;obtain⟨b,off,vs,rfl,_⟩:=h4.2.1.vals;have h5:=gV.drop' l (gV.take' h h3);rw[hys] at h5;simp only[Option.map_some,nN];exact h5.shift
theorem aYF {P:Program}{t e:TypeId}{k bt:Nat}{ag:Bool}{z:Value}(ht:P.underlying t=some (.slice e))(hk:gU P e=some (ag,k,bt,z))(w:World)(a:Option Addr)(len c:Nat)(lo hi:Option Value)(l h:Nat)
 (hlo:(lo=none/\l=0)\/ ∃ik,lo=some (.int ik l)) (hhi:(hi=none/\h=len)\/ ∃ik,hi=some (.int ik h)) (hlh:l<=h) (hh:h<=len) (hc:len<=c):
 (Instr.sliceAt t (.slice a len c) lo hi none).run P w= .ok (.slice (if c=l then a else a.map (·.add (l*k))) (h - l) (c - l)) w:=by
 have hs:=(gP hk w).2.1;have q1:h<=c:=by omega
 rcases hlo with ⟨rfl,rfl⟩ | ⟨i1,rfl⟩<;>rcases hhi with ⟨rfl,rfl⟩ | ⟨i2,rfl⟩<;>
  simp[Instr.sliceAt,Instr.slice,Instr.sliceBounds,Instr.sliceBound,asIntOf,run_underlying ht,hs,hlh,q1]
theorem aMo {x:Operand}{s e e' k bt:Nat}{ag:Bool}{z:Value}{lo hi:Option Operand}{ob:Option Nat}{xs:List (List bR)}{l h:Nat}(ht:P.underlying s=some (.slice e))(hk:gU P e=some (ag,k,bt,z))(hx:dT sl x= .p ob (.sl e' k xs))(hl:pS (mk sl rs) ob)
 (hlo:(lo=none/\l=0)\/ ∃y ik,lo=some y/\dT sl y= .p none (.int ik l)) (hhi:(hi=none/\h=xs.length)\/ ∃y ik,hi=some y/\dT sl y= .p none (.int ik h)) (hlh:l<=h) (hh:h<=xs.length):
 bL P ⟨some d,.slice s x lo hi none,ty,pos,aft,gd⟩ (mk sl rs) ⟨.p ob (.sl e' k ((xs.take h).drop l)),[],[]⟩:=
 dS fun K φ A w0 N a w hG=>by
  obtain⟨B,hB,_⟩:=hG.inO hl;have h1:=hG.ev x;rw[cQ,hx,hB] at h1;have h1' :=h1;unfold iU at h1';obtain⟨b,c,he,_,_,_⟩:=h1';rw[he] at h1;obtain⟨_,hc,h2⟩:=bAC h1 hlh hh;refine⟨_,?_,(hB _ _).2 h2⟩
  have hr:=aYF ht hk w b xs.length c (lo.map a.eval) (hi.map a.eval) l h
   (by rcases hlo with ⟨rfl,rfl⟩ | ⟨y,ik,rfl,hy⟩
       ·exact .inl ⟨rfl,rfl⟩
       exact .inr ⟨ik,by rw[Option.map_some,kO (x:=(mk sl rs).ev y) (by rw[cQ,hy];rfl) (hG.ev y)]⟩)
   (by rcases hhi with ⟨rfl,rfl⟩ | ⟨y,ik,rfl,hy⟩
       ·exact .inl ⟨rfl,rfl⟩
       exact .inr ⟨ik,by rw[Option.map_some,kO (x:=(mk sl rs).ev y) (by rw[cQ,hy];rfl) (hG.ev y)]⟩) hlh hh hc
  simp only[execOp,he,Option.map_none];simp[hr]
theorem aYG {x:Operand}{s:TypeId}{lo hi:Option Operand}{t:T}{K:AV->T->Prop}(hT:mS P tb)(h:aZt tb rs s (dT sl x) (lo.map (dT sl)) (hi.map (dT sl)) t K): ∃v t',bL P ⟨some d,.slice s x lo hi none,ty,pos,aft,gd⟩ (mk sl rs) ⟨v,[],[]⟩/\K v t' :=by
 unfold aZt at h;split at h
 ·rename_i e hs;have hs:=dG hT.sl hs;split at h
  ·rename_i ag k bt z hk;have hk:=dG hT.ty hk;split at h
   ·rename_i o e' k' xs hx;split at h
    ·rename_i hb;rw[aCA] at hb;have:=aFj hb.2;subst this;have hl:=yB (sl:=sl) hb.1;split at h
     ·rename_i α enc l t';cases lo with
      | none=>
        cases hi with
        | none=>simp at h
        | some hi=>
          simp only[Option.map_none,Option.map_some] at h;split at h
          ·rename_i k2 b hb2;injection hb2 with hb2
           obtain⟨rfl,h0,h1,h2⟩:=h;refine⟨_,_,?_,h2⟩;have:=aMo (d:=d) (ty:=ty) (pos:=pos) (aft:=aft) (gd:=gd) (lo:=none) (hi:=some hi) (l:=0) (h:=b.toNat) hs hk hx hl (.inl ⟨rfl,rfl⟩) (.inr ⟨hi,k2,rfl,by rw[hb2,Int.toNat_of_nonneg h0]⟩) (aDB _) (by rw[aAH];omega);rw[List.drop_zero,<-List.map_take] at this;exact this
          cases h
      | some lo=>
        simp only[Option.map_some] at h;split at h
        ·rename_i hq;cases hq
        ·rename_i k1 a ha;injection ha with ha
         cases hi with
         | none=>
           simp only[Option.map_none] at h;obtain⟨rfl,h0,h1,h2⟩:=h;refine⟨_,_,?_,h2⟩;have:=aMo (d:=d) (ty:=ty) (pos:=pos) (aft:=aft) (gd:=gd) (lo:=some lo) (hi:=none) (l:=a.toNat) (h:=(l.map enc).length) hs hk hx hl (.inr ⟨lo,k1,rfl,by rw[ha,Int.toNat_of_nonneg h0]⟩) (.inl ⟨rfl,rfl⟩) (by rw[aAH];omega) (aUX _);rw[aU0,<-List.map_drop] at this;exact this
         | some hi=>
           simp only[Option.map_some] at h;split at h
           ·rename_i hq;cases hq
           ·rename_i k2 b hb2;injection hb2 with hb2
            obtain⟨rfl,h0,h1,h2,h3⟩:=h;refine⟨_,_,?_,h3⟩;have:=aMo (d:=d) (ty:=ty) (pos:=pos) (aft:=aft) (gd:=gd) (lo:=some lo) (hi:=some hi) (l:=a.toNat) (h:=b.toNat) hs hk hx hl (.inr ⟨lo,k1,rfl,by rw[ha,Int.toNat_of_nonneg h0]⟩) (.inr ⟨hi,k2,rfl,by rw[hb2,Int.toNat_of_nonneg (by omega)]⟩) (by omega) (by rw[aAH];omega);rw[<-List.map_take,<-List.map_drop] at this;exact this
           cases h
        cases h
     cases h
    cases h
   cases h
  cases h
 obtain⟨v,t',h1,h2⟩:=aYE (d:=d) (ty:=ty) (pos:=pos) (aft:=aft) (gd:=gd) (sl:=sl) (rs:=rs) hT h;exact⟨v,t',h1,h2⟩
section
variable {K:Nat->Prop} {φ:iW} {A:Nat->Prop} {w0:xU} {N:Nat} {S:St} {a:Act} {w:World}
theorem G.rdOwnF (hG:G K φ A w0 N S a w){h:Nat}{e k:Nat}{dp:Bool}{xs:List (List bR)}{v:Value}(hr:S.res h=some (.arr e k dp xs))(hm:aJ K φ w (.own h) v){B:Nat->Prop}(hB: ∀b,K b->B b)(hB' : ∀pl,φ h=some pl-> ∀b∈pl.F,B b):iU B w (.sl e k xs) v:=by
 obtain⟨pl,css,hp,ho,hcl,hck,htop,hrow⟩:=hG.owned hr;unfold aJ at hm;rw[hm pl hp];obtain⟨b,c,e1,h1,h2,h3,h4⟩:=nY ho hck hcl;unfold iU;refine⟨b,c,e1,h1,h2,?_⟩;by_cases hn:0<xs.length
 ·obtain⟨g,rfl,hg⟩:=h3 hn;have hlt:B g:=hB' pl hp g (aL6 _ (by rw[htop,hg];simp));refine aBh hlt hcl (fun i x c hx hc=>⟨(hrow i x c hx hc).1,jR.mono (fun _ _=>rfl) (fun b hb=>?_) x c (hrow i x c hx hc).2.1⟩) fun i c hc j u hu=>?_
  ·rcases hb with hb | hb
   ·exact hB b hb
   exact hB' pl hp b (aKS _ hb)
  obtain⟨g',e2,_,hcell⟩:=h4 i c hc;simp only[Option.some.injEq,Addr.mk.injEq,and_true] at e2;subst e2;rw[Nat.zero_add];exact hcell j u hu
 have:xs= []:=aKV (by omega);subst this;unfold gV;trivial
theorem aRe (hG:G K φ A w0 N (mk sl rs) a w){x y:AV}{hs:List Nat}{v:Value}{K' :Nat->Prop}{φ' :iW}(h:aXk rs x=some (y,hs))(hK: ∀b,K b->K' b)(hF: ∀b,gS φ (· ∈hs) b->K' b)(hm:aJ K φ w x v):aJ K' φ' w y v:=by
 unfold aXk at h;split at h
 ·rename_i h0;split at h
  ·rename_i e k dp xs hr;simp only[Option.some.injEq,Prod.mk.injEq] at h;obtain⟨rfl,rfl⟩:=h;have:=hG.rdOwnF (B:=K') (h:=h0) hr hm hK (fun pl hp b hb=>hF b ⟨h0,pl,by simp,hp,hb⟩);unfold aJ;exact this
  cases h
 ·simp only[Option.some.injEq,Prod.mk.injEq] at h;obtain⟨rfl,rfl⟩:=h;unfold aJ at*;exact iU.mono (fun _ _=>rfl) hK _ _ hm
 ·simp only[Option.some.injEq,Prod.mk.injEq] at h;obtain⟨rfl,rfl⟩:=h;unfold aJ at*;exact hm
 cases h
theorem aMp (hG:G K φ A w0 N (mk sl rs) a w){K' :Nat->Prop}{φ' :iW}(hK: ∀b,K b->K' b): ∀{xs ys:List AV} {hs:List Nat} {vs:List Value},aQR rs xs=some (ys,hs)->(∀b,gS φ (· ∈hs) b->K' b)->aT K φ w xs vs->aT K' φ' w ys vs
 | [],ys,hs,vs,h,_,hm=>by
   simp only[aQR,Option.some.injEq,Prod.mk.injEq] at h;obtain⟨rfl,rfl⟩:=h;unfold aT at*;exact hm
 | c::cs,ys,hs,vs,h,hF,hm=>by
   unfold aQR at h;split at h
   ·rename_i q hq;split at h
    ·rename_i r hr;simp only[Option.some.injEq,Prod.mk.injEq] at h;obtain⟨rfl,rfl⟩:=h;unfold aT at hm;obtain⟨v,vs',rfl,h1,h2⟩:=hm;unfold aT;exact⟨v,vs',rfl,aRe hG hq hK (fun b ⟨h,pl,q1,q2,q3⟩=>hF b ⟨h,pl,aL6 _ q1,q2,q3⟩) h1,aMp hG hK hr (fun b ⟨h,pl,q1,q2,q3⟩=>hF b ⟨h,pl,aKS _ q1,q2,q3⟩) h2⟩
    cases h
   cases h
theorem aRf (hG:G K φ A w0 N (mk sl rs) a w){x y:AV}{hs:List Nat}{v:Value}{K' :Nat->Prop}{φ' :iW}(h:aSl rs x=some (y,hs))(hK: ∀b,K b->K' b)(hF: ∀b,gS φ (· ∈hs) b->K' b)(hm:aJ K φ w x v):aJ K' φ' w y v:=by
 unfold aSl at h;split at h
 ·split at h
  ·rename_i q hq;simp only[Option.some.injEq,Prod.mk.injEq] at h;obtain⟨rfl,rfl⟩:=h;unfold aJ at*;obtain⟨vs,e,h1,h2⟩:=hm;exact⟨vs,e,h1,aMp hG hK hq hF h2⟩
  cases h
 exact aRe hG h hK hF hm
end
theorem aSq {o:Oper}{x:Operand}{v:AV}{hs:List Nat}(ho:o.op= .move x\/o.op= .assign x)(h:aSl rs (dT sl x)=some (v,hs)):bL P o (mk sl rs) ⟨v,hs,[]⟩:=by
 intro K φ A w0 N a w Q hd hG;have hr:(execOp a.eval o).run P w= .ok (.value (a.eval x)) w:=by rcases ho with ho | ho<;>simp[execOp,ho]
 have hm:=hG.ev x;rw[cQ] at hm
 have hst:=hG.step (C:=(· ∈hs)) (φr:=fun _=>none) (ρ:=bF []) (K' :=fun b=>K b\/gS φ (· ∈hs) b) (w' :=w)
  ⟨rfl,rfl,rfl,aUX _,fun _ _ _=>rfl⟩
  (fun _ _ hp=>by cases hp) (fun _ _ _ _ _ hp=>by cases hp) (fun _ _ hp=>by simp[bF] at hp) (fun _ _=>rfl) (fun _ hb=> .inl hb)
  (fun b hb=>by
   rcases hb with hb | hb
   ·exact .inl hb
   refine .inr ⟨?_,.inr hb,fun _ _ hp=>by cases hp⟩;obtain⟨h0,pl,_,hp,hb'⟩:=hb;exact(hG.ge h0 pl hp b hb').2)
  (fun _ _ _ _ hp=>by cases hp) (fun _ _ _ _ _ _ _ hp=>by cases hp) (fun _ _ hp=>by cases hp)
 have hmv:aJ (fun b=>K b\/gS φ (· ∈hs) b) (dD (· ∈hs) (fun _=>none) φ) w v (a.eval x):=aRf hG h (fun _ hb=> .inl hb) (fun _ hb=> .inr hb) hm;unfold Oper.wp;rw[hr,Oper.upon_value];refine⟨_,_,a.eval x,rfl,hst.put hd hmv,⟨⟨rfl,rfl,rfl,aUX _,fun _ _ _=>rfl⟩,fun _ hb=> .inl hb,fun b hb=>?_,fun h1 pl hp=>?_,fun _ _ _ _ _ _=>rfl⟩⟩
 ·rcases hb with hb | hb
  ·exact .inl hb
  exact .inr (.inr hb)
 simp only[dD] at hp;split at hp
 ·cases hp
 exact .inl hp
theorem aVE {K:Nat->Prop}{φ:iW}{w:World}{pl:Pl}{e k:Nat}{dp:Bool}{xs:List (List bR)}(hh:Holds K φ w pl (.arr e k dp xs)){B:Nat->Prop}(hB: ∀b,K b->B b)(hB' : ∀b∈pl.F,B b):iU B w (.sl e k xs) pl.val:=by
 have hx: ∃css:List (List Value),w.ownsRow 0 e k pl.val xs.length css.flatten/\css.length=xs.length/\(∀c∈css,c.length=k)/\pl.top=pl.val.ownBlock.toList/\ ∀(i:Nat) x c,xs[i]? =some x->css[i]? =some c->x.length=k/\jR B w x c:=by
  cases dp with
  | true=>
    obtain⟨css,Fs,h1,h2,h3,h4⟩:=hh;have hl:=h4.len;exact⟨css,h1,hl.1,hl.2,h2,fun i x c hx hc=>cV.rd (A:=B) k xs css Fs i x c (fun g hg=>hB' g (aKS _ (by rw[h3];exact hg))) h4 hx hc⟩
  | false=>
    obtain⟨css,h1,h2,h3,h4⟩:=hh;have hl:=h4.len;exact⟨css,h1,hl.1,hl.2,h2,fun i x c hx hc=>⟨(h4.at_ hx hc).1,jR.mono (fun _ _=>rfl) hB x c (h4.at_ hx hc).2⟩⟩
 obtain⟨css,ho,hcl,hck,htop,hrow⟩:=hx;obtain⟨b,c,e1,h1,h2,h3,h4⟩:=nY ho hck hcl;unfold iU;refine⟨b,c,e1,h1,h2,?_⟩;by_cases hn:0<xs.length
 ·obtain⟨g,rfl,hg⟩:=h3 hn;have hlt:B g:=hB' g (aL6 _ (by rw[htop,hg];simp));refine aBh hlt hcl (fun i x c hx hc=>hrow i x c hx hc) fun i c hc j u hu=>?_;obtain⟨g',e2,_,hcell⟩:=h4 i c hc;simp only[Option.some.injEq,Addr.mk.injEq,and_true] at e2;subst e2;rw[Nat.zero_add];exact hcell j u hu
 have:xs= []:=aKV (by omega);subst this;unfold gV;trivial
mutual
def aCa (rr:List (Nat × Rs)):AV->Option AV
 | .own h=>(match bF rr h with | some (.arr e k _ xs)=>some (.p none (.sl e k xs)) | _=>none)
 | .p none x=>some (.p none x)
 | .nil=>some .nil
 | .no=>some .no
 | .agg cs=>(match aLX rr cs with | some xs=>some (.agg xs) | none=>none)
 | .tup cs=>(match aLX rr cs with | some xs=>some (.tup xs) | none=>none)
 | _=>none
def aLX (rr:List (Nat × Rs)):List AV->Option (List AV)
 | []=>some []
 | c::cs=>(match aCa rr c with | some x=>(match aLX rr cs with | some xs=>some (x::xs) | none=>none) | none=>none)
end
section
variable {K K' :Nat->Prop} {φ φ' :iW} {w:World} {rr:List (Nat × Rs)}
mutual
theorem aRg (hd: ∀h r,bF rr h=some r-> ∃pl,φ h=some pl/\Holds K φ w pl r)(hK: ∀b,K b->K' b)(hF: ∀h pl,φ h=some pl-> ∀b∈pl.F,K' b): ∀(x:AV) {y:AV} {v:Value},aCa rr x=some y->aJ K φ w x v->aJ K' φ' w y v
 | .own h,y,v,h1,hm=>by
   unfold aCa at h1;split at h1
   ·rename_i e k dp xs hr;injection h1 with h1
    subst h1;obtain⟨pl,hp,hh⟩:=hd h _ hr;unfold aJ at*;rw[hm pl hp];exact aVE hh hK (hF h pl hp)
   cases h1
 | .p none x,y,v,h1,hm=>by
   unfold aCa at h1;injection h1 with h1
   subst h1;unfold aJ at*;exact iU.mono (fun _ _=>rfl) hK _ _ hm
 | .p (some _) x,y,v,h1,hm=>by unfold aCa at h1;cases h1
 | .nil,y,v,h1,hm=>by
   unfold aCa at h1;injection h1 with h1
   subst h1;unfold aJ at*;exact hm
 | .no,y,v,h1,hm=>by
   unfold aCa at h1;injection h1 with h1
   subst h1;unfold aJ;trivial
 | .agg cs,y,v,h1,hm=>by
   unfold aCa at h1;split at h1
   ·rename_i xs hx;injection h1 with h1
    subst h1;unfold aJ at*;obtain⟨vs,e,q1,q2⟩:=hm;exact⟨vs,e,q1,aHj hd hK hF cs hx q2⟩
   cases h1
 | .tup cs,y,v,h1,hm=>by
   unfold aCa at h1;split at h1
   ·rename_i xs hx;injection h1 with h1
    subst h1;unfold aJ at*;obtain⟨vs,e,q2⟩:=hm;exact⟨vs,e,aHj hd hK hF cs hx q2⟩
   cases h1
 | .ptr _ _,y,v,h1,hm=>by unfold aCa at h1;cases h1
 | .ep _ _ _ _,y,v,h1,hm=>by unfold aCa at h1;cases h1
 | .rp _ _,y,v,h1,hm=>by unfold aCa at h1;cases h1
 | .fn _ _,y,v,h1,hm=>by unfold aCa at h1;cases h1
 | .bsl _ _,y,v,h1,hm=>by unfold aCa at h1;cases h1
theorem aHj (hd: ∀h r,bF rr h=some r-> ∃pl,φ h=some pl/\Holds K φ w pl r)(hK: ∀b,K b->K' b)(hF: ∀h pl,φ h=some pl-> ∀b∈pl.F,K' b): ∀(xs:List AV) {ys:List AV} {vs:List Value},aLX rr xs=some ys->aT K φ w xs vs->aT K' φ' w ys vs
 | [],ys,vs,h1,hm=>by
   unfold aLX at h1;injection h1 with h1
   subst h1;unfold aT at*;exact hm
 | c::cs,ys,vs,h1,hm=>by
   unfold aLX at h1;split at h1
   ·rename_i x hx;split at h1
    ·rename_i xs hxs;injection h1 with h1
     subst h1;unfold aT at*;obtain⟨v,vs',rfl,q1,q2⟩:=hm;exact⟨v,vs',rfl,aRg hd hK hF c hx q1,aHj hd hK hF cs hxs q2⟩
    cases h1
   cases h1
end
end
theorem kX {f:FuncId}{ys:List Ar}{rv v:AV}{rr:List (Nat × Rs)}(hC:rM P f ys rv rr)(h:aCa rr rv=some v):rM P f ys v []:=
 ⟨hC.1,fun A w vs hA hv=>(hC.2 A w vs hA hv).mono fun e w' ⟨u,K,φ,he,hb,h1,h2,h3,h4,h5,h6,h7,h8⟩=>
  ⟨u,fun b=>K b\/ ∃h pl,φ h=some pl/\b∈pl.F,fun _=>none,he,hb,fun b hb' =>by
   rcases hb' with q | ⟨h0,pl,hp,hm⟩
   ·exact h1 b q
   ·exact⟨(h7 h0 pl hp b hm).2,.inr (h7 h0 pl hp b hm).1⟩,fun _ _ _ _ hp=>(by cases hp),fun h0 r hr=>(by simp[bF] at hr),fun _ _=>rfl,fun _ _ _ _ _ hp=>(by cases hp),fun _ _ hp=>(by cases hp),fun _ _ hp=>(by cases hp),
   aRg h3 (fun _ hb=> .inl hb) (fun h0 pl hp b hm=> .inr ⟨h0,pl,hp,hm⟩) rv h h8⟩⟩
theorem aOT {x:Operand}{d:Nat}{t:T}{K:AV->List Nat->T->Prop}(h:aRb rs d (dT sl x) t K): ∃v del t',(∀o:Oper,o.op= .move x\/o.op= .assign x->bL P o (mk sl rs) ⟨v,del,[]⟩)/\K v del t' :=by
 unfold aRb at h;split at h
 ·split at h
  ·split at h
   ·rename_i q hq;exact⟨_,_,_,fun o ho=>aSq ho hq,h⟩
   cases h
  exact⟨_,_,_,fun o ho=>by rw[<-cQ sl rs];exact aC3 ho,h⟩
 exact⟨_,_,_,fun o ho=>by rw[<-cQ sl rs];exact aC3 ho,h⟩
theorem aHk {S:St}{o:Oper}{x:Operand}{h off:Nat}(ho:o.op= .nilCheck x)(hx:S.ev x= .ptr h off):bL P o S ⟨.ptr h off,[],[]⟩:=
 dS fun K φ A w0 N a w hG=>by
  have h1:=hG.ev x;rw[hx] at h1;have h2:=h1;unfold aJ at h2;obtain⟨g,e,_⟩:=h2;exact⟨a.eval x,by simp[execOp,ho,e],h1⟩
theorem aYH {o:Op}{t:T}{K:AV->List Nat->List (Nat × Rs)->T->Prop}(hT:mS P tb)(h:aZu P tb sl rs d o t K): ∃v del new t',bL P ⟨some d,o,ty,pos,aft,gd⟩ (mk sl rs) ⟨v,del,new⟩/\K v del new t' :=by
 unfold aZu at h;split at h
 ·obtain⟨v,del,t',h1,h2⟩:=aOT (P:=P) h;exact⟨v,del,[],t',h1 _ (.inl rfl),h2⟩
 ·obtain⟨v,del,t',h1,h2⟩:=aOT (P:=P) h;exact⟨v,del,[],t',h1 _ (.inr rfl),h2⟩
 ·obtain⟨v,t',h1,h2⟩:=aUv h;exact⟨_,_,_,_,h1,h2⟩
 ·split at h
  ·rename_i vs hx;split at h
   ·rename_i v hv;exact⟨_,_,_,_,aQL hx hv,h⟩
   cases h
  cases h
 ·obtain⟨v,t',h1,h2⟩:=aXo hT h;exact⟨_,_,_,_,h1,h2⟩
 ·obtain⟨v,t',h1,h2⟩:=aZv h;exact⟨_,_,_,_,h1,h2⟩
 ·obtain⟨v,h1,h2⟩:=aXq hT h;exact⟨_,_,_,_,h1,h2⟩
 ·obtain⟨v,h1,h2⟩:=aSm hT h;exact⟨_,_,_,_,h1,h2⟩
 ·split at h
  ·rename_i hx;exact⟨_,_,_,_,aHk rfl (by rw[cQ];exact hx),h⟩
  cases h
 ·obtain⟨v,t',h1,h2⟩:=aXp hT h;exact⟨_,_,_,_,h1,h2⟩
 ·obtain⟨v,t',h1,h2⟩:=aUw hT h;exact⟨_,_,_,_,h1,h2⟩
 ·split at h
  ·rename_i hq;have hq:=dG hT.ty hq;split at h
   ·rename_i hf;exact⟨_,_,_,_,aUx hq hf,h⟩
   cases h
  cases h
 ·split at h
  ·rename_i hb;rw[aCA] at hb;exact⟨_,_,_,_,aZw (aDs hb.1) hb.2,h⟩
  cases h
 ·obtain⟨v,h1,h2⟩:=aSp hT h;exact⟨_,_,_,_,h1,h2⟩
 ·split at h
  ·obtain⟨v,del,new,h1,h2⟩:=aXz hT h;exact⟨_,_,_,_,h1,h2⟩
  obtain⟨v,new,h1,h2⟩:=aXx hT h;exact⟨_,_,_,_,h1,h2⟩
 ·obtain⟨v,new,t',h1,h2⟩:=aZz hT h;exact⟨_,_,_,_,h1,h2⟩
 ·split at h
  ·split at h
   ·split at h
    ·split at h
     ·rename_i he;obtain⟨v,t',h1,h2⟩:=aXy (dG hT.sl he) h;exact⟨_,_,_,_,h1,h2⟩
     split at h
     ·rename_i x s _ _ _ _ he;have he:=dG hT.st he;split at h
      ·rename_i m hx;refine⟨_,_,_,_,mM (x:= .int .i64 m.size) rfl (fun e w hee=>?_),h⟩;have e1:=hee x (.string m) (by rw[hx];rfl);simp[execOp,resolve,invoke,builtin,Builtin.len_,run_underlying he,e1,goInt]
      cases h
     cases h
    cases h
   ·split at h
    ·rename_i x y;split at h
     ·rename_i k m hx;split at h
      ·rename_i k' n hy;refine⟨_,_,_,_,mM (x:= .int k (if n<m then n else m)) rfl (fun e w hee=>?_),h⟩;have e1:=hee x (.int k m) (by rw[hx];rfl);have e2:=hee y (.int k' n) (by rw[hy];rfl);simp[execOp,resolve,invoke,builtin,Builtin.min_,Builtin.min2,e1,e2]
      cases h
     cases h
    cases h
   ·split at h
    ·rename_i x y;split at h
     ·rename_i k m hx;split at h
      ·rename_i k' n hy;refine⟨_,_,_,_,mM (x:= .int k (if m<n then n else m)) rfl (fun e w hee=>?_),h⟩;have e1:=hee x (.int k m) (by rw[hx];rfl);have e2:=hee y (.int k' n) (by rw[hy];rfl);simp[execOp,resolve,invoke,builtin,Builtin.max_,Builtin.max2,e1,e2]
      cases h
     cases h
    cases h
   ·split at h
    ·obtain⟨e,h⟩:=h.eq;subst e;exact aYB hT h
    cases h
   cases h
  ·split at h
   ·rename_i hx;obtain⟨v,new,t',h1,h2⟩:=aVC (o:=⟨some d,.call ⟨.value _,⟨_⟩,_⟩,ty,pos,aft,gd⟩) (fun hc=>wJ rfl hc hx) h;exact⟨_,_,_,_,h1,h2⟩
   cases h
  cases h
 ·obtain⟨v,t',h1,h2⟩:=bAB hT h;exact⟨_,_,_,_,h1,h2⟩
 ·obtain⟨v,t',h1,h2⟩:=aYD hT h;exact⟨_,_,_,_,h1,h2⟩
 ·obtain⟨v,t',h1,h2⟩:=aYG hT h;exact⟨_,_,_,_,h1,h2⟩
 ·exact⟨_,_,_,_,aOR,h⟩
 cases h
end
theorem aVF {o:Oper}{t:T}{K:AV->List Nat->List (Nat × Rs)->T->Prop}(hT:mS P tb)(h:opW P tb sl rs o.dst o.op t K): ∃v del new t',bL P o (mk sl rs) ⟨v,del,new⟩/\K v del new t' :=by
 obtain⟨dst,op,ty,pos,aft,gd⟩:=o;unfold opW at h
 dsimp only at h
 split at h
 ·exact aYH hT h
 split at h
 ·obtain⟨del,new,t',h1,h2⟩:=aZy hT h;exact⟨_,_,_,_,h1,h2⟩
 cases h
end
end Go.Proofs.YtlidmoeecphbmaaGreat
