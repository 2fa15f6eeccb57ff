/-
  Contracts and plain laws, joined: part 3.
-/
import Derived.Test.YtgamjlgfnmpcjaaGreatep1
import Derived.Laws.Strings
import Derived.BigRegion
import Derived.Deep.LoopGhost
import Derived.Shelf.SlSortCmp.Insertion
import Derived.Shelf.SlSortCmp.Whole1
import Derived.Shelf.SlSortCmp.NoneTotal
import Derived.Ground.SlsfProg
import Derived.Shelf.RegionOpenPlain
import Derived.Lib.SlicesCompact
import Derived.Lib.SliceRun
import Derived.Sort.WalkB12
import Derived.Lib.Walk
import Derived.Shelf.SlicesE.Kit
namespace Go.Proofs.YtgamjlgfnmpcjaaGreat
open Go.ChangeShapes Go.WideShapes Go.ChangeAt Go.RowKit
set_option linter.all false
mutual
def vY:AV->List Nat
 | .p (some h) _=>[h]
 | .rp (some h) _=>[h]
 | .agg cs=>Aw cs
 | .tup cs=>Aw cs
 | .fn _ cs=>Aw cs
 | _=>[]
def Aw:List AV->List Nat
 | []=>[]
 | x::xs=>vY x++Aw xs
end
def Fx:Rs->List Nat
 | .box _ cs=>Aw cs
 | .arr _ _ _ _=>[]
 | .hole _ _ _ _ _ _=>[]
def Ax (φ:jS)(w w' :World)(h:Nat)(pl:Pl)(V:Prop):Prop:= ∃pl0,φ h=some pl0/\pl.val=pl0.val/\pl.top=pl0.top/\(V->pl=pl0/\fC (· ∈pl.sub) w w')
def Ax.of {φ:jS}{w w' :World}{h:Nat}{pl:Pl}{V:Prop}(h1:φ h=some pl)(h2:V->fC (· ∈pl.sub) w w'):Ax φ w w' h pl V:=⟨pl,h1,rfl,rfl,fun v=>⟨rfl,h2 v⟩⟩
def Ax.imp {φ:jS}{w w' :World}{h:Nat}{pl:Pl}{V V' :Prop}(h1:Ax φ w w' h pl V)(f:V' ->V):Ax φ w w' h pl V' :=by
 obtain⟨pl0,a,b,c,d⟩:=h1;exact⟨pl0,a,b,c,fun v=>d (f v)⟩
mutual
theorem aH.monoV {K K' :Nat->Prop}{φ φ' :jS}{w w' :World}(hs:fC K w w')(hK: ∀b,K b->K' b):
 ∀(x:AV) (v:Value),(∀h pl,h∈cZ x->φ' h=some pl->Ax φ w w' h pl (h∈vY x))->aH K φ w x v->aH K' φ' w' x v
 | .p none x,v,_,hx=>by unfold aH at*;exact jX.mono hs hK x v hx
 | .p (some h) x,v,hm,hx=>by
   unfold aH at*;intro pl hp;obtain⟨pl0,h1,_,_,hq⟩:=hm h pl (by simp[cZ]) hp;obtain⟨rfl,h2⟩:=hq (by simp[vY]);exact jX.mono (fun b hb=>by rcases hb with hb | hb;exact hs b hb;exact h2 b hb) (fun b hb=>by rcases hb with hb | hb;exact .inl (hK b hb);exact .inr hb) x v (hx pl h1)
 | .own h,v,hm,hx=>by
   unfold aH at*;intro pl hp;obtain⟨pl0,h1,h2,_⟩:=hm h pl (by simp[cZ]) hp;rw[h2];exact hx pl0 h1
 | .ptr h off,v,hm,hx=>by
   unfold aH at*;obtain⟨g,e,q⟩:=hx;refine⟨g,e,fun pl hp=>?_⟩;obtain⟨pl0,h1,_,h3,_⟩:=hm h pl (by simp[cZ]) hp;rw[h3];exact q pl0 h1
 | .ep h k i off,v,hm,hx=>by
   unfold aH at*;intro pl hp;obtain⟨pl0,h1,_,h3,_⟩:=hm h pl (by simp[cZ]) hp;rw[h3];exact hx pl0 h1
 | .rp none x,v,_,hx=>by
   unfold aH at*;obtain⟨a,e,hr⟩:=hx;exact⟨a,e,lN.mono hs hK x a 0 hr⟩
 | .rp (some h) x,v,hm,hx=>by
   unfold aH at*;intro pl hp;obtain⟨pl0,h1,_,_,hq⟩:=hm h pl (by simp[cZ]) hp;obtain⟨rfl,h2⟩:=hq (by simp[vY]);obtain⟨a,e,hr⟩:=hx pl h1;exact⟨a,e,lN.mono (fun b hb=>by rcases hb with hb | hb;exact hs b hb;exact h2 b hb) (fun b hb=>by rcases hb with hb | hb;exact .inl (hK b hb);exact .inr hb) x a 0 hr⟩
 | .agg cs,v,hm,hx=>by
   unfold aH at*;obtain⟨vs,e,h1,hl⟩:=hx;exact⟨vs,e,h1,aS.monoV hs hK cs _ (fun h pl hh e=>(hm h pl (by simpa [cZ] using hh) e).imp fun hv=>by simpa [vY] using hv) hl⟩
 | .tup cs,v,hm,hx=>by
   unfold aH at*;obtain⟨vs,e,hl⟩:=hx;exact⟨vs,e,aS.monoV hs hK cs _ (fun h pl hh e=>(hm h pl (by simpa [cZ] using hh) e).imp fun hv=>by simpa [vY] using hv) hl⟩
 | .fn f cs,v,hm,hx=>by
   unfold aH at*;obtain⟨vs,e,hl⟩:=hx;exact⟨vs,e,aS.monoV hs hK cs _ (fun h pl hh e=>(hm h pl (by simpa [cZ] using hh) e).imp fun hv=>by simpa [vY] using hv) hl⟩
 | .nil,v,_,hx=>by unfold aH at*;exact hx
 | .bsl h n,v,hm,hx=>by
   unfold aH at*;intro pl hp;obtain⟨pl0,h1,_,h3,_⟩:=hm h pl (by simp[cZ]) hp;rw[h3];exact hx pl0 h1
 | .no,_,_,_=>by unfold aH;trivial
theorem aS.monoV {K K' :Nat->Prop}{φ φ' :jS}{w w' :World}(hs:fC K w w')(hK: ∀b,K b->K' b):
 ∀(xs:List AV) (vs:List Value),(∀h pl,h∈gY xs->φ' h=some pl->Ax φ w w' h pl (h∈Aw xs))->aS K φ w xs vs->aS K' φ' w' xs vs
 | [],_,_,hx=>by unfold aS at*;exact hx
 | x::xs,vs,hm,hx=>by
   unfold aS at*;obtain⟨v,vs',e,h1,h2⟩:=hx;exact⟨v,vs',e,aH.monoV hs hK x v (fun h pl hh e=>(hm h pl (by simp[gY,hh]) e).imp fun hv=>by simp[Aw,hv]) h1,aS.monoV hs hK xs vs' (fun h pl hh e=>(hm h pl (by simp[gY,hh]) e).imp fun hv=>by simp[Aw,hv]) h2⟩
end
theorem Holds.monoV {K K' :Nat->Prop}{φ φ' :jS}{w w' :World}{pl:Pl}(hs:fC K w w')(hK: ∀b,K b->K' b)(hk:lM pl.F w w'):
 ∀(r:Rs),(∀h pl,h∈kG r->φ' h=some pl->Ax φ w w' h pl (h∈Fx r))->Holds K φ w pl r->Holds K' φ' w' pl r
 | .box t cs,hm,⟨g,vs,e,hb,h1,hl⟩=>by
   subst e;exact⟨g,vs,rfl,(hk g (by simp[Pl.F])).trans hb,h1,aS.monoV hs hK cs _ hm hl⟩
 | .arr e k true xs,_,⟨css,Fs,h1,h2,h3,h4⟩=>
   ⟨css,Fs,kZ h1 (hk.mono fun g hg=>by unfold Pl.F;rw[h2];exact aDG _ hg),h2,h3,dB.kept k xs css Fs (hk.mono fun g hg=>by unfold Pl.F;rw[h3];exact aCX _ hg) h4⟩
 | .arr e k false xs,_,⟨css,h1,h2,h3,h4⟩=>
   ⟨css,kZ h1 (hk.mono fun g hg=>by unfold Pl.F;rw[h2];exact aDG _ hg),h2,h3,h4.mono hs hK⟩
 | .hole e k xs i j h,hm,⟨xs1,x1,d,x2,xs2,css1,c1,v,c2,css2,Fs1,F1,F2,Fs2,e0,e1,e2,e3,h1,h2,h3,h4,h5,h6,h7,h8⟩=>
   ⟨xs1,x1,d,x2,xs2,css1,c1,v,c2,css2,Fs1,F1,F2,Fs2,e0,e1,e2,e3,kZ h1 (hk.mono fun g hg=>by unfold Pl.F;rw[h2];exact aDG _ hg),h2,h3,
    dB.kept k xs1 css1 Fs1 (hk.mono fun g hg=>by unfold Pl.F;rw[h3];simp only[aCy];exact .inr (.inl hg)) h4,dW.kept x1 c1 F1 (hk.mono fun g hg=>by unfold Pl.F;rw[h3];simp only[aCy];exact .inr (.inr (.inl (.inl hg)))) h5,
    dW.kept x2 c2 F2 (hk.mono fun g hg=>by unfold Pl.F;rw[h3];simp only[aCy];exact .inr (.inr (.inl (.inr hg)))) h6,dB.kept k xs2 css2 Fs2 (hk.mono fun g hg=>by unfold Pl.F;rw[h3];simp only[aCy];exact .inr (.inr (.inr hg))) h7,⟨h8.1,fun pl' e' =>by obtain⟨pl0,q1,q2,_⟩:=hm h pl' (by simp[kG]) e';rw[q2];exact h8.2 pl0 q1⟩⟩
section
variable {K:Nat->Prop} {φ:jS} {A:Nat->Prop} {w0:Aa} {N:Nat} {S:St} {a:Act} {w:World}
theorem G.stepV (hG:G K φ A w0 N S a w){C:Nat->Prop}[DecidablePred C]{φr:jS}{ρ:Nat->Option Rs}{K' :Nat->Prop}{w' :World}
 (hU:Ag (jD φ C) w w')
 (hR: ∀h pl,φr h=some pl->pl.F.Nodup/\ ∀g∈pl.F,g<w'.heap.size/\(w.heap.size<=g\/jD φ C g))
 (hD: ∀h h' pl pl',h≠h' ->φr h=some pl->φr h' =some pl' -> ∀g∈pl.F,g ∉ pl'.F)
 (hρ: ∀h r,ρ h=some r-> ∃pl,φr h=some pl/\Holds K' (dM C φr φ) w' pl r)
 (hρn: ∀h,ρ h= .none->φr h= .none)
 (hK: ∀b,K b->K' b)
 (hK' : ∀b,K' b->K b\/(b<w'.heap.size/\(w.heap.size<=b\/jD φ C b)/\ ∀h pl,φr h=some pl->b ∉ pl.F))
 (hM: ∀t h pl,h∈cZ (S.slots t)->φr h=some pl->Ax φ w w' h pl (h∈vY (S.slots t)))
 (hMr: ∀h' r h pl,¬C h' ->S.res h' =some r->h∈kG r->φr h=some pl->Ax φ w w' h pl (h∈Fx r))
 (hP: ∀h pl,φr h=some pl->(∃pl0,φ h=some pl0/\pl.val=pl0.val/\pl.top=pl0.top)\/100<=h):
 G K' (dM C φr φ) A w0 N { S with res:=iI C ρ S.res } a w' :=by
 have hF: ∀b,jD φ C b->w0.mine b/\b<w.heap.size:=fun b ⟨h,pl,_,hp,hb⟩=>hG.ge h pl hp b hb;have hsz:w0.w.heap.size<=w.heap.size:=hG.bel.size;have hsame:fC K w w' :=fun b hb=>hU.block b (hG.kin b hb).1 (fun ⟨h,pl,_,hp,hm⟩=>hG.kout b hb h pl hp hm)
 have hkeep: ∀h pl,¬C h->φ h=some pl->lM pl.F w w' :=fun h pl hc hp g hg=>
  hU.block g (hG.ge h pl hp g hg).2 (fun ⟨h',pl',hc',hp',hm⟩=>by
   by_cases e:h=h'
   ·subst e;exact hc hc'
   exact hG.disj h h' pl pl' e hp hp' g hg hm)
 have hsub: ∀h pl,¬C h->φ h=some pl->fC (· ∈pl.sub) w w' :=fun h pl hc hp g hg=>hkeep h pl hc hp g (aCX _ hg)
 have hslot: ∀x v,(∀h pl,h∈cZ x->φr h=some pl->Ax φ w w' h pl (h∈vY x))->aH K φ w x v->aH K' (dM C φr φ) w' x v:=fun x v hm hx=>
  aH.monoV hsame hK x v (fun h pl hh e=>by
   rcases cF e with e | ⟨_,hc,e⟩
   ·exact hm h pl hh e
   exact .of e fun _=>hsub h pl hc e) hx
 refine⟨?_,?_,?_,?_,?_,?_,?_,fun b hb=>hK b (hG.aK b hb),fun t=>hslot _ _ (hM t) (hG.slots t),Ag.more hG.bel hU (fun b hb=>(hF b hb).1),hG.nd,hG.size,fun h pl pl0 e e0=>?_⟩
 ·intro h r hr;simp only[iI] at hr;split at hr
  ·rename_i r' hr';injection hr with hr
   subst hr;obtain⟨pl,hp,hh⟩:=hρ h _ hr';exact⟨pl,by simp[dM,hp],hh⟩
  rename_i hn;split at hr
  ·cases hr
  rename_i hc;obtain⟨pl,hp,hh⟩:=hG.dom h r hr;refine⟨pl,by simp[dM,hρn h hn,hc,hp],Holds.monoV hsame hK (hkeep h pl hc hp) r (fun h2 pl2 hm e=>?_) hh⟩;rcases cF e with e | ⟨_,hc2,e⟩
  ·exact hMr h r h2 pl2 hc hr hm e
  exact .of e fun _=>hsub h2 pl2 hc2 e
 ·intro h hr;simp only[iI] at hr;split at hr
  ·cases hr
  rename_i hn;simp only[dM,hρn h hn];split at hr
  ·rename_i hc;simp[hc]
  rename_i hc;simp[hc,hG.non h hr]
 ·intro h h' pl pl' hne e e' g hg hg';rcases cF e with e | ⟨_,hc,e⟩<;>rcases cF e' with e' | ⟨_,hc',e'⟩
  ·exact hD h h' pl pl' hne e e' g hg hg'
  ·rcases((hR h pl e).2 g hg).2 with h1 | ⟨h2,pl2,hc2,e2,hm⟩
   ·have:=(hG.ge h' pl' e' g hg').2;omega
   exact hG.disj h2 h' pl2 pl' (fun e=>by subst e;exact hc' hc2) e2 e' g hm hg'
  ·rcases((hR h' pl' e').2 g hg').2 with h1 | ⟨h2,pl2,hc2,e2,hm⟩
   ·have:=(hG.ge h pl e g hg).2;omega
   exact hG.disj h2 h pl2 pl (fun e=>by subst e;exact hc hc2) e2 e g hm hg
  exact hG.disj h h' pl pl' hne e e' g hg hg'
 ·intro h pl e;rcases cF e with e | ⟨_,_,e⟩
  ·exact(hR h pl e).1
  exact hG.nodup h pl e
 ·intro h pl e g hg;rcases cF e with e | ⟨_,_,e⟩
  ·obtain⟨h1,h2⟩:=(hR h pl e).2 g hg;refine⟨?_,h1⟩;rcases h2 with h2 | h2
   ·exact .inl aGR
   exact(hF g h2).1
  have:=hG.ge h pl e g hg;exact⟨this.1,aFD this.2 hU.size⟩
 ·intro b hb;rcases hK' b hb with hb | ⟨h1,h2,_⟩
  ·have:=hG.kin b hb;exact⟨aFD this.1 hU.size,this.2⟩
  refine⟨h1,.inr ?_⟩;rcases h2 with h2 | h2
  ·exact .inl aGR
  exact(hF b h2).1
 ·intro b hb h pl e hm;rcases hK' b hb with hb | ⟨_,h2,h3⟩
  ·rcases cF e with e | ⟨_,_,e⟩
   ·rcases((hR h pl e).2 b hm).2 with h1 | ⟨h2,pl2,hc2,e2,hm2⟩
    ·have:=(hG.kin b hb).1;omega
    exact hG.kout b hb h2 pl2 e2 hm2
   exact hG.kout b hb h pl e hm
  rcases cF e with e | ⟨_,hc,e⟩
  ·exact h3 h pl e hm
  rcases h2 with h2 | ⟨h4,pl4,hc4,e4,hm4⟩
  ·have:=(hG.ge h pl e b hm).2;omega
  exact hG.disj h4 h pl4 pl (fun e=>by subst e;exact hc hc4) e4 e b hm4 hm
 rcases cF e with e | ⟨_,_,e⟩
 ·rcases hP h pl e with ⟨pl1,q,q1,q2⟩ | q
  ·have:=hG.pin h pl1 pl0 q e0;exact⟨q1.trans this.1,q2.trans this.2⟩
  have:=w0.dom h pl0 e0;omega
 exact hG.pin h pl pl0 e e0
end
def YQ (ren:aGM)(h:Nat):Nat:=match dK ren h with | some g=>g | none=>h
def JG {ren:aGM}(hn:qI (ren.map (·.2))=true){h h' g:Nat}(e:dK ren h=some g)(e' :dK ren h' =some g):h=h' :=by
 have mem: ∀{l:aGM} {h g:Nat},dK l h=some g->g∈l.map (·.2):=by
  intro l
  induction l with
  | nil=>intro h g e;simp[dK] at e
  | cons q l ih=>
    obtain⟨k,v⟩:=q;intro h g e;unfold dK at e;split at e
    ·injection e with e;simp[e]
    simp only[aDH,aDr];exact .inr (ih e)
 induction ren with
 | nil=>simp[dK] at e
 | cons q l ih=>
   obtain⟨k,v⟩:=q;simp only[aDH,qI,aBB,Bool.not_eq_true',List.contains_eq_mem,decide_eq_false_iff_not] at hn;unfold dK at e e';split at e<;>split at e'
   ·rename_i _ a _ b;rw[aBQ a,aBQ b]
   ·injection e with e;subst e;exact absurd (mem e') hn.1
   ·injection e' with e';subst e';exact absurd (mem e) hn.1
   exact ih hn.2 e e'
def kH:Pl:=⟨.slice none 0 0,[],[]⟩
mutual
def pF (gm:Nat->Option Nat):AV->AV->Prop->Prop
 | .no,_,K=>K
 | .nil,x,K=>(match x with | .nil=>K | _=>False)
 | .own h,x,K=>(match x with
   | .nil=>(match gm h with | none=>K | some _=>False)
   | .own g=>(match gm h with | some g' =>Lr g g' K | none=>False)
   | _=>False)
 | .ptr h o,x,K=>(match x with
   | .ptr g o' =>(match gm h with | some g' =>Lr g g' (Lr o' o K) | none=>False)
   | _=>False)
 | .p none y,x,K=>(match x with
   | .p none z=>SZ z y/\K
   | .nil=>(match y with | .sl _ _ xs=>[]=xs/\K | _=>False)
   | _=>False)
 | .agg ys,x,K=>(match x with | .agg xs=>xO gm ys xs K | _=>False)
 | .tup ys,x,K=>(match x with | .tup xs=>xO gm ys xs K | _=>False)
 | _,_,_=>False
def xO (gm:Nat->Option Nat):List AV->List AV->Prop->Prop
 | [],xs,K=>(match xs with | []=>K | _=>False)
 | y::ys,xs,K=>(match xs with | x::xs=>pF gm y x (xO gm ys xs K) | []=>False)
end
mutual
theorem Oc {gm:Nat->Option Nat}{K:Nat->Prop}{φ φ' :jS}{w:World}(h1: ∀h g pl,gm h=some g->φ' h=some pl->φ g=some pl)(h2: ∀h pl,gm h=none->φ' h=some pl->pl=kH): ∀(y x:AV) (Q:Prop) (v:Value),pF gm y x Q->aH K φ w x v->aH K φ' w y v/\Q
 | .no,x,Q,v,h,hm=>by unfold pF at h;exact⟨by unfold aH;trivial,h⟩
 | .nil,x,Q,v,h,hm=>by
   unfold pF at h;split at h
   ·unfold aH at*;exact⟨hm,h⟩
   cases h
 | .own k,x,Q,v,h,hm=>by
   unfold pF at h;split at h
   ·split at h
    ·rename_i hl;refine⟨?_,h⟩;unfold aH at*;intro pl hp;rw[h2 _ pl hl hp,hm];rfl
    cases h
   ·split at h
    ·rename_i g' hl;obtain⟨e,hQ⟩:=h.eq;subst e;refine⟨?_,hQ⟩;unfold aH at*;intro pl hp;exact hm pl (h1 _ _ pl hl hp)
    cases h
   cases h
 | .ptr k o,x,Q,v,h,hm=>by
   unfold pF at h;split at h
   ·split at h
    ·rename_i g' hl;obtain⟨e,hQ1⟩:=h.eq;obtain⟨e2,hQ⟩:=hQ1.eq;subst e;subst e2;refine⟨?_,hQ⟩;unfold aH at*;obtain⟨g2,e3,q⟩:=hm;exact⟨g2,e3,fun pl hp=>q pl (h1 _ _ pl hl hp)⟩
    cases h
   cases h
 | .p none y,x,Q,v,h,hm=>by
   unfold pF at h;split at h
   ·refine⟨?_,h.2⟩;unfold aH at*;rw[<-h.1.eq];exact hm
   ·split at h
    ·refine⟨?_,h.2⟩;unfold aH at*;rw[hm,<-h.1];exact yR
    cases h
   cases h
 | .p (some _) y,x,Q,v,h,hm=>by unfold pF at h;cases h
 | .agg ys,x,Q,v,h,hm=>by
   unfold pF at h;split at h
   ·unfold aH at hm;obtain⟨vs,rfl,q1,q2⟩:=hm;obtain⟨q3,q4⟩:=Ay h1 h2 ys _ Q _ h q2;refine⟨?_,q4⟩;unfold aH;exact⟨vs,rfl,q1,q3⟩
   cases h
 | .tup ys,x,Q,v,h,hm=>by
   unfold pF at h;split at h
   ·unfold aH at hm;obtain⟨vs,rfl,q2⟩:=hm;obtain⟨q3,q4⟩:=Ay h1 h2 ys _ Q _ h q2;refine⟨?_,q4⟩;unfold aH;exact⟨vs,rfl,q3⟩
   cases h
 | .ep _ _ _ _,x,Q,v,h,hm=>by unfold pF at h;cases h
 | .rp _ _,x,Q,v,h,hm=>by unfold pF at h;cases h
 | .fn _ _,x,Q,v,h,hm=>by unfold pF at h;cases h
 | .bsl _ _,x,Q,v,h,hm=>by unfold pF at h;cases h
theorem Ay {gm:Nat->Option Nat}{K:Nat->Prop}{φ φ' :jS}{w:World}(h1: ∀h g pl,gm h=some g->φ' h=some pl->φ g=some pl)(h2: ∀h pl,gm h=none->φ' h=some pl->pl=kH): ∀(ys xs:List AV) (Q:Prop) (vs:List Value),xO gm ys xs Q->aS K φ w xs vs->aS K φ' w ys vs/\Q
 | [],xs,Q,vs,h,hm=>by
   unfold xO at h;split at h
   ·unfold aS at*;exact⟨hm,h⟩
   cases h
 | y::ys,xs,Q,vs,h,hm=>by
   unfold xO at h;split at h
   ·unfold aS at hm;obtain⟨v,vs',rfl,q1,q2⟩:=hm;obtain⟨q3,q4⟩:=Oc h1 h2 y _ _ v h q1;obtain⟨q5,q6⟩:=Ay h1 h2 ys _ Q vs' q4 q2;refine⟨?_,q6⟩;unfold aS;exact⟨v,vs',rfl,q3,q5⟩
   cases h
end
mutual
theorem QH {gm:Nat->Option Nat}: ∀(y x:AV) (Q:Prop),pF gm y x Q->Q
 | .no,x,Q,h=>by unfold pF at h;exact h
 | .nil,x,Q,h=>by
   unfold pF at h;split at h
   ·exact h
   cases h
 | .own k,x,Q,h=>by
   unfold pF at h;split at h
   ·split at h
    ·exact h
    cases h
   ·split at h
    ·exact h.eq.2
    cases h
   cases h
 | .ptr k o,x,Q,h=>by
   unfold pF at h;split at h
   ·split at h
    ·exact h.eq.2.eq.2
    cases h
   cases h
 | .p none y,x,Q,h=>by
   unfold pF at h;split at h
   ·exact h.2
   ·split at h
    ·exact h.2
    cases h
   cases h
 | .p (some _) y,x,Q,h=>by unfold pF at h;cases h
 | .agg ys,x,Q,h=>by
   unfold pF at h;split at h
   ·exact xP ys _ Q h
   cases h
 | .tup ys,x,Q,h=>by
   unfold pF at h;split at h
   ·exact xP ys _ Q h
   cases h
 | .ep _ _ _ _,x,Q,h=>by unfold pF at h;cases h
 | .rp _ _,x,Q,h=>by unfold pF at h;cases h
 | .fn _ _,x,Q,h=>by unfold pF at h;cases h
 | .bsl _ _,x,Q,h=>by unfold pF at h;cases h
theorem xP {gm:Nat->Option Nat}: ∀(ys xs:List AV) (Q:Prop),xO gm ys xs Q->Q
 | [],xs,Q,h=>by
   unfold xO at h;split at h
   ·exact h
   cases h
 | y::ys,xs,Q,h=>by
   unfold xO at h;split at h
   ·exact xP ys _ Q (QH y _ _ h)
   cases h
end
abbrev Oe (φ:jS):Nat->Prop:=jD φ (fun _=>True)
structure In2 (A:Nat->Prop) (φ:jS) (w:World) (ri:aGJ):Prop where
 lt: ∀b,A b->b<w.heap.size
 dom: ∀h r,bF ri h=some r-> ∃pl,φ h=some pl/\Holds A φ w pl r
 non: ∀h,bF ri h=none->φ h=none
 disj: ∀h h' pl pl',h≠h' ->φ h=some pl->φ h' =some pl' -> ∀g∈pl.F,g ∉ pl'.F
 nodup: ∀h pl,φ h=some pl->pl.F.Nodup
 ge: ∀h pl,φ h=some pl-> ∀g∈pl.F,g<w.heap.size
 out: ∀b,A b-> ∀h pl,φ h=some pl->b ∉ pl.F
structure WA (A:Nat->Prop) (φ0:jS) (w:World) (ro:aGJ) (K:Nat->Prop) (φ:jS) (w' :World):Prop where
 chg:Ag (Oe φ0) w w'
 kk: ∀b,A b->K b
 kin: ∀b,K b->b<w'.heap.size/\(A b\/w.heap.size<=b\/Oe φ0 b)
 kout: ∀b,K b-> ∀h pl,φ h=some pl->b ∉ pl.F
 dom: ∀h r,bF ro h=some r-> ∃pl,φ h=some pl/\Holds K φ w' pl r
 non: ∀h,bF ro h=none->φ h=none
 disj: ∀h h' pl pl',h≠h' ->φ h=some pl->φ h' =some pl' -> ∀g∈pl.F,g ∉ pl'.F
 nodup: ∀h pl,φ h=some pl->pl.F.Nodup
 ge: ∀h pl,φ h=some pl-> ∀g∈pl.F,(w.heap.size<=g\/Oe φ0 g)/\g<w'.heap.size
 pin: ∀h pl pl0,φ h=some pl->φ0 h=some pl0->pl.val=pl0.val/\pl.top=pl0.top
def xB (P:Program)(f:FuncId)(args:List AV)(ri:aGJ)(rv:AV)(ro:aGJ):Prop:=
 lB P f=true/\(∀q∈ri,q.1<100)/\ ∀(A:Nat->Prop) (φ:jS) (w:World) (vs:Array Value),In2 A φ w ri->aS A φ w args vs.toList->
  Calls P f vs w (fun e w' => ∃v K φ',e= .returned v/\WA A φ w ro K φ' w' /\aH K φ' w' rv v)
def xC (K:Nat->Prop)(φ:jS)(w:World)(C:Nat->Prop):Nat->Prop:=fun b=>b<w.heap.size/\ ¬jD φ C b
section
variable {K:Nat->Prop} {φ:jS} {A:Nat->Prop} {w0:Aa} {N:Nat} {S:St} {a:Act} {w:World} {P:Program}
theorem uL (hG:G K φ A w0 N S a w)(C:Nat->Prop): ∀b,K b->xC K φ w C b:=fun b hb=>⟨(hG.kin b hb).1,fun ⟨h,pl,_,hp,hm⟩=>hG.kout b hb h pl hp hm⟩
theorem Az (hG:G K φ A w0 N S a w){C:Nat->Prop}{h:Nat}{pl:Pl}(hp:φ h=some pl)(hc: ¬C h): ∀b∈pl.F,xC K φ w C b:=fun b hb=>⟨(hG.ge h pl hp b hb).2,fun ⟨h',pl',hc',hp',hm⟩=>by
 by_cases e:h=h'
 ·subst e;exact hc hc'
 exact hG.disj h h' pl pl' e hp hp' b hb hm⟩
theorem G.rdOwnB (hG:G K φ A w0 N S a w){C:Nat->Prop}{h:Nat}{e k:Nat}{d:Bool}{xs:List (List bX)}{v:Value}(hr:S.res h=some (.arr e k d xs))(hc: ¬C h)(hm:aH K φ w (.own h) v):jX (xC K φ w C) w (.sl e k xs) v:=by
 obtain⟨pl,css,hp,ho,hcl,hck,htop,hrow⟩:=hG.owned hr;unfold aH at hm;rw[hm pl hp];obtain⟨b,c,e1,h1,h2,h3,h4⟩:=pD ho hck hcl;unfold jX;refine⟨b,c,e1,h1,h2,?_⟩;by_cases hn:0<xs.length
 ·obtain⟨g,rfl,hg⟩:=h3 hn;have hlt:xC K φ w C g:=Az hG hp hc g (aDG _ (by rw[htop,hg];simp));refine CI hlt hcl (fun i x c hx hc' =>⟨(hrow i x c hx hc').1,oL.mono (fun _ _=>rfl) (fun b hb=>?_) x c (hrow i x c hx hc').2.1⟩) fun i c hc' j u hu=>?_
  ·rcases hb with hb | hb
   ·exact uL hG C b hb
   exact Az hG hp hc b (aCX _ hb)
  obtain⟨g',e2,_,hcell⟩:=h4 i c hc';simp only[Option.some.injEq,Addr.mk.injEq,and_true] at e2;subst e2;rw[Nat.zero_add];exact hcell j u hu
 have:xs= []:=aDE aGR;subst this;unfold iH;trivial
end
def WB (ren:aGM)(g:Nat):Bool:=ren.all fun q=> !Nat.beq q.2 g
def WC (rs:Rl)(ren:aGM)(y:bX)(x:AV)(Q:Prop):Prop:=match x with
 | .p none z=>SZ z y/\Q
 | .p (some g) z=>(match sT rs (some g)&&WB ren g with | true=>SZ z y/\Q | false=>False)
 | .own g=>(match bL rs g with
   | some (.arr e k _ xs)=>(match WB ren g with | true=>SZ (.sl e k xs) y/\Q | false=>False)
   | _=>False)
 | .nil=>(match y with | .sl _ _ xs=>[]=xs/\Q | _=>False)
 | _=>False
def Gv (rs:Rl)(ren:aGM):List bX->List AV->Prop->Prop
 | [],_,Q=>Q
 | y::ys,xs,Q=>(match xs with | x::xs=>WC rs ren y x (Gv rs ren ys xs Q) | []=>False)
def En:List bX->List bX->Prop->Prop
 | [],xs,Q=>(match xs with | []=>Q | _=>False)
 | y::ys,xs,Q=>(match xs with | x::xs=>SZ x y/\En ys xs Q | []=>False)
def S4 (rs:Rl)(ren:aGM)(ys:List bX)(x:AV)(Q:Prop):Prop:=match x with
 | .rp none zs=>En ys zs Q
 | .ptr g off=>(match bL rs g with
   | some (.box _ cs)=>(match WB ren g with | true=>Gv rs ren ys (cs.drop off) Q | false=>False)
   | _=>False)
 | _=>False
mutual
def kQ (rs:Rl)(ren:aGM):AV->AV->Prop->Prop
 | .no,_,Q=>Q
 | .nil,x,Q=>(match x with | .nil=>Q | _=>False)
 | .own h,x,Q=>(match x with | .own g=>(match dK ren h with | some g' =>Lr g g' Q | none=>False) | _=>False)
 | .ptr h o,x,Q=>(match x with | .ptr g o' =>(match dK ren h with | some g' =>Lr g g' (Lr o' o Q) | none=>False) | _=>False)
 | .p none y,x,Q=>(match x with
   | .p none z=>SZ z y/\Q
   | .p (some g) z=>(match sT rs (some g)&&WB ren g with | true=>SZ z y/\Q | false=>False)
   | .own g=>(match bL rs g with
     | some (.arr e k _ xs)=>(match WB ren g with | true=>SZ (.sl e k xs) y/\Q | false=>False)
     | _=>False)
   | .nil=>(match y with | .sl _ _ xs=>[]=xs/\Q | _=>False)
   | _=>False)
 | .agg ys,x,Q=>(match x with | .agg xs=>sV rs ren ys xs Q | _=>False)
 | .rp none ys,x,Q=>S4 rs ren ys x Q
 | .fn f [],x,Q=>(match x with | .fn g []=>Lr g f Q | _=>False)
 | _,_,_=>False
def sV (rs:Rl)(ren:aGM):List AV->List AV->Prop->Prop
 | [],xs,Q=>(match xs with | []=>Q | _=>False)
 | y::ys,xs,Q=>(match xs with | x::xs=>kQ rs ren y x (sV rs ren ys xs Q) | []=>False)
end
section
variable {K:Nat->Prop} {φ:jS} {A:Nat->Prop} {w0:Aa} {N:Nat} {sl:Sl} {rs:Rl} {a:Act} {w:World} {P:Program} {ren:aGM}
theorem JH {g:Nat}(h:WB ren g=true): ¬g∈ren.map (·.2):=fun hm=>by
 obtain⟨q,hq,e⟩:=aE9.1 hm;have:=aCS.1 h q hq;rw[e,Nat.beq_refl] at this;cases this
theorem aBi (hG:G K φ A w0 N (mk sl rs) a w){y:bX}{x:AV}{Q:Prop}{v:Value}(h:WC rs ren y x Q)(hm:aH K φ w x v):jX (xC K φ w (· ∈ren.map (·.2))) w y v/\Q:=by
 unfold WC at h;split at h
 ·refine⟨?_,h.2⟩;unfold aH at hm;rw[<-h.1.eq];exact jX.mono (fun _ _=>rfl) (uL hG _) _ _ hm
 ·rename_i g z;split at h
  ·rename_i hb;rw[aBB] at hb;refine⟨?_,h.2⟩;obtain⟨r,hr⟩:=CP hb.1;obtain⟨pl,hp,_⟩:=hG.dom g r hr;unfold aH at hm;rw[<-h.1.eq]
   exact jX.mono (fun _ _=>rfl) (fun b hb' =>by
    rcases hb' with hb' | hb'
    ·exact uL hG _ b hb'
    exact Az hG hp (JH hb.2) b (aCX _ hb')) _ _ (hm pl hp)
  cases h
 ·rename_i g;split at h
  ·rename_i e k d xs hr;split at h
   ·rename_i hb;refine⟨?_,h.2⟩;rw[<-h.1.eq];have:=hG.rdOwnB (C:=(· ∈ren.map (·.2))) hr (JH hb) hm;exact this
   cases h
  cases h
 ·split at h
  ·refine⟨?_,h.2⟩;unfold aH at hm;rw[hm,<-h.1];exact yR
  cases h
 cases h
theorem QJ (hG:G K φ A w0 N (mk sl rs) a w){Q:Prop}: ∀{ys:List bX} {xs:List AV} {vs:List Value},Gv rs ren ys xs Q->aS K φ w xs vs->(∃us ws,vs=us++ws/\oL (xC K φ w (· ∈ren.map (·.2))) w ys us)/\Q
 | [],xs,vs,h,hm=>⟨⟨[],vs,rfl,rfl⟩,h⟩
 | y::ys,xs,vs,h,hm=>by
   unfold Gv at h;split at h
   ·unfold aS at hm;obtain⟨v,vs',rfl,q1,q2⟩:=hm;obtain⟨q3,q4⟩:=aBi hG h q1;obtain⟨⟨us,ws,rfl,q5⟩,q6⟩:=QJ hG q4 q2;exact⟨⟨v::us,ws,rfl,v,us,rfl,q3,q5⟩,q6⟩
   cases h
theorem JI {Q:Prop}: ∀{ys zs:List bX},En ys zs Q->zs=ys/\Q
 | [],zs,h=>by
   unfold En at h;split at h
   ·exact⟨rfl,h⟩
   cases h
 | y::ys,zs,h=>by
   unfold En at h;split at h
   ·obtain⟨q1,q2⟩:=JI h.2;exact⟨by rw[h.1.eq,q1],q2⟩
   cases h
theorem aBj (hG:G K φ A w0 N (mk sl rs) a w){ys:List bX}{x:AV}{Q:Prop}{v:Value}(h:S4 rs ren ys x Q)(hm:aH K φ w x v):UN (xC K φ w (· ∈ren.map (·.2))) w ys v/\Q:=by
 unfold S4 at h;split at h
 ·obtain⟨rfl,hQ⟩:=JI h;unfold aH at hm;obtain⟨a,e,hr⟩:=hm;exact⟨⟨a,e,lN.mono (fun _ _=>rfl) (uL hG _) _ _ _ hr⟩,hQ⟩
 ·rename_i g0 off;split at h
  ·rename_i t cs hr;split at h
   ·rename_i hb;obtain⟨g,vs,hp,hB,h1,hl⟩:=hG.boxed hr;unfold aH at hm;obtain⟨g',rfl,hg⟩:=hm;have hgg:=hg _ hp;simp only[List.cons.injEq,and_true] at hgg;subst hgg;obtain⟨⟨us,ws,e,q1⟩,hQ⟩:=QJ hG h (yS off hl);refine⟨⟨_,rfl,lN.mk (fun _=>Az hG hp (JH hb) g (by simp[Pl.F])) q1 fun j u hu=>?_⟩,hQ⟩
    have hu' :(vs.toList.drop off)[j]? =some u:=by
     rw[e,aFG (aCO.1 hu).1];exact hu
    rw[List.getElem?_drop] at hu';rw[Nat.add_zero,hB.cell (off+j)];simpa using hu'
   cases h
  cases h
 cases h
mutual
theorem aBk (hG:G K φ A w0 N (mk sl rs) a w){φi:jS}(hi: ∀h pl,φi h=some pl-> ∃g,dK ren h=some g/\φ g=some pl): ∀(y x:AV) (Q:Prop) (v:Value),kQ rs ren y x Q->aH K φ w x v->aH (xC K φ w (· ∈ren.map (·.2))) φi w y v/\Q
 | .no,x,Q,v,h,hm=>by unfold kQ at h;exact⟨by unfold aH;trivial,h⟩
 | .nil,x,Q,v,h,hm=>by
   unfold kQ at h;split at h
   ·unfold aH at*;exact⟨hm,h⟩
   cases h
 | .own k,x,Q,v,h,hm=>by
   unfold kQ at h;split at h
   ·split at h
    ·rename_i g' hl;obtain⟨e,hQ⟩:=h.eq;subst e;refine⟨?_,hQ⟩;unfold aH at*;intro pl hp;obtain⟨g2,e1,e2⟩:=hi _ pl hp;rw[hl] at e1;injection e1 with e1;subst e1
     exact hm pl e2
    cases h
   cases h
 | .ptr k o,x,Q,v,h,hm=>by
   unfold kQ at h;split at h
   ·split at h
    ·rename_i g' hl;obtain⟨e,hQ1⟩:=h.eq;obtain⟨e2,hQ⟩:=hQ1.eq;subst e;subst e2;refine⟨?_,hQ⟩;unfold aH at*;obtain⟨g3,e3,q⟩:=hm;refine⟨g3,e3,fun pl hp=>?_⟩;obtain⟨g2,e1,e2⟩:=hi _ pl hp;rw[hl] at e1;injection e1 with e1;subst e1
     exact q pl e2
    cases h
   cases h
 | .p none y,x,Q,v,h,hm=>by
   unfold kQ at h;split at h
   ·refine⟨?_,h.2⟩;unfold aH at*;rw[<-h.1.eq];exact jX.mono (fun _ _=>rfl) (uL hG _) _ _ hm
   ·rename_i g z;split at h
    ·rename_i hb;rw[aBB] at hb;refine⟨?_,h.2⟩;obtain⟨r,hr⟩:=CP hb.1;obtain⟨pl,hp,_⟩:=hG.dom g r hr;unfold aH at*;rw[<-h.1.eq]
     exact jX.mono (fun _ _=>rfl) (fun b hb' =>by
      rcases hb' with hb' | hb'
      ·exact uL hG _ b hb'
      exact Az hG hp (JH hb.2) b (aCX _ hb')) _ _ (hm pl hp)
    cases h
   ·rename_i g;split at h
    ·rename_i e k d xs hr;split at h
     ·rename_i hb;refine⟨?_,h.2⟩;rw[<-h.1.eq];have:=hG.rdOwnB (C:=(· ∈ren.map (·.2))) hr (JH hb) hm;unfold aH;exact this
     cases h
    cases h
   ·split at h
    ·refine⟨?_,h.2⟩;unfold aH at*;rw[hm,<-h.1];exact yR
    cases h
   cases h
 | .p (some _) y,x,Q,v,h,hm=>by unfold kQ at h;cases h
 | .agg ys,x,Q,v,h,hm=>by
   unfold kQ at h;split at h
   ·unfold aH at hm;obtain⟨vs,rfl,q1,q2⟩:=hm;obtain⟨q3,q4⟩:=JJ hG hi ys _ Q _ h q2;refine⟨?_,q4⟩;unfold aH;exact⟨vs,rfl,q1,q3⟩
   cases h
 | .tup ys,x,Q,v,h,hm=>by unfold kQ at h;cases h
 | .ep _ _ _ _,x,Q,v,h,hm=>by unfold kQ at h;cases h
 | .rp none ys,x,Q,v,h,hm=>by
   unfold kQ at h;obtain⟨q1,q2⟩:=aBj hG h hm;refine⟨?_,q2⟩;unfold aH;exact q1
 | .rp (some _) _,x,Q,v,h,hm=>by unfold kQ at h;cases h
 | .fn f [],x,Q,v,h,hm=>by
   unfold kQ at h;split at h
   ·obtain⟨rfl,hQ⟩:=h.eq;refine⟨?_,hQ⟩;unfold aH at hm ⊢;obtain⟨vs',e1,e2⟩:=hm;refine⟨vs',e1,?_⟩;unfold aS at e2 ⊢;exact e2
   cases h
 | .fn _ (_::_),x,Q,v,h,hm=>by unfold kQ at h;cases h
 | .bsl _ _,x,Q,v,h,hm=>by unfold kQ at h;cases h
theorem JJ (hG:G K φ A w0 N (mk sl rs) a w){φi:jS}(hi: ∀h pl,φi h=some pl-> ∃g,dK ren h=some g/\φ g=some pl): ∀(ys xs:List AV) (Q:Prop) (vs:List Value),sV rs ren ys xs Q->aS K φ w xs vs->aS (xC K φ w (· ∈ren.map (·.2))) φi w ys vs/\Q
 | [],xs,Q,vs,h,hm=>by
   unfold sV at h;split at h
   ·unfold aS at*;exact⟨hm,h⟩
   cases h
 | y::ys,xs,Q,vs,h,hm=>by
   unfold sV at h;split at h
   ·unfold aS at hm;obtain⟨v,vs',rfl,q1,q2⟩:=hm;obtain⟨q3,q4⟩:=aBk hG hi y _ _ v h q1;obtain⟨q5,q6⟩:=JJ hG hi ys _ Q vs' q4 q2;refine⟨?_,q6⟩;unfold aS;exact⟨v,vs',rfl,q3,q5⟩
   cases h
end
end
def YR {rs:Rl}{ren:aGM}{Q Q' :Prop}{y:bX}{x:AV}(h:WC rs ren y x Q):Q/\(Q' ->WC rs ren y x Q'):=by
 unfold WC at*;split at h
 ·exact⟨h.2,fun q=>⟨h.1,q⟩⟩
 ·split at h
  ·exact⟨h.2,fun q=>⟨h.1,q⟩⟩
  cases h
 ·split at h
  ·split at h
   ·exact⟨h.2,fun q=>⟨h.1,q⟩⟩
   cases h
  cases h
 ·split at h
  ·exact⟨h.2,fun q=>⟨h.1,q⟩⟩
  cases h
 cases h
theorem Mo {rs:Rl}{ren:aGM}{Q Q' :Prop}: ∀{ys:List bX} {xs:List AV},Gv rs ren ys xs Q->Q/\(Q' ->Gv rs ren ys xs Q')
 | [],xs,h=>⟨h,id⟩
 | y::ys,xs,h=>by
   unfold Gv at*;split at h
   ·obtain⟨q1,q2⟩:=YR (Q' :=Gv rs ren ys _ Q') h;obtain⟨q3,q4⟩:=Mo (Q' :=Q') q1;exact⟨q3,fun q=>q2 (q4 q)⟩
   cases h
theorem Mp {Q Q' :Prop}: ∀{ys zs:List bX},En ys zs Q->Q/\(Q' ->En ys zs Q')
 | [],zs,h=>by
   unfold En at*;split at h
   ·exact⟨h,id⟩
   cases h
 | y::ys,zs,h=>by
   unfold En at*;split at h
   ·obtain⟨q1,q2⟩:=Mp (Q' :=Q') h.2;exact⟨q1,fun q=>⟨h.1,q2 q⟩⟩
   cases h
def YS {rs:Rl}{ren:aGM}{Q Q' :Prop}{ys:List bX}{x:AV}(h:S4 rs ren ys x Q):Q/\(Q' ->S4 rs ren ys x Q'):=by
 unfold S4 at*;split at h
 ·exact Mp h
 ·split at h
  ·split at h
   ·exact Mo h
   cases h
  cases h
 cases h
mutual
theorem QK {rs:Rl}{ren:aGM}{Q' :Prop}: ∀(y x:AV) (Q:Prop),kQ rs ren y x Q->Q/\(Q' ->kQ rs ren y x Q')
 | .no,x,Q,h=>by unfold kQ at*;exact⟨h,id⟩
 | .nil,x,Q,h=>by
   unfold kQ at*;split at h
   ·exact⟨h,id⟩
   cases h
 | .own k,x,Q,h=>by
   unfold kQ at*;split at h
   ·split at h
    ·refine⟨h.eq.2,fun q=>?_⟩;have:=h.eq.1;subst this;simp only[Lr,Nat.beq_refl];exact q
    cases h
   cases h
 | .ptr k o,x,Q,h=>by
   unfold kQ at*;split at h
   ·split at h
    ·refine⟨h.eq.2.eq.2,fun q=>?_⟩;have e1:=h.eq.1;have e2:=h.eq.2.eq.1;subst e1;subst e2;simp only[Lr,Nat.beq_refl];exact q
    cases h
   cases h
 | .p none y,x,Q,h=>by
   unfold kQ at*;split at h
   ·exact⟨h.2,fun q=>⟨h.1,q⟩⟩
   ·split at h
    ·exact⟨h.2,fun q=>⟨h.1,q⟩⟩
    cases h
   ·split at h
    ·split at h
     ·exact⟨h.2,fun q=>⟨h.1,q⟩⟩
     cases h
    cases h
   ·split at h
    ·exact⟨h.2,fun q=>⟨h.1,q⟩⟩
    cases h
   cases h
 | .p (some _) y,x,Q,h=>by unfold kQ at h;cases h
 | .agg ys,x,Q,h=>by
   unfold kQ at*;split at h
   ·exact Fy ys _ Q h
   cases h
 | .tup ys,x,Q,h=>by unfold kQ at h;cases h
 | .ep _ _ _ _,x,Q,h=>by unfold kQ at h;cases h
 | .rp none ys,x,Q,h=>by
   unfold kQ at*;exact YS h
 | .rp (some _) _,x,Q,h=>by unfold kQ at h;cases h
 | .fn f [],x,Q,h=>by
   unfold kQ at*;split at h
   ·obtain⟨rfl,hQ⟩:=h.eq;exact⟨hQ,fun q=>by simp only[Lr,Nat.beq_refl];exact q⟩
   cases h
 | .fn _ (_::_),x,Q,h=>by unfold kQ at h;cases h
 | .bsl _ _,x,Q,h=>by unfold kQ at h;cases h
theorem Fy {rs:Rl}{ren:aGM}{Q' :Prop}: ∀(ys xs:List AV) (Q:Prop),sV rs ren ys xs Q->Q/\(Q' ->sV rs ren ys xs Q')
 | [],xs,Q,h=>by
   unfold sV at*;split at h
   ·exact⟨h,id⟩
   cases h
 | y::ys,xs,Q,h=>by
   unfold sV at*;split at h
   ·obtain⟨q1,q2⟩:=QK (Q' :=sV rs ren ys _ Q') y _ _ h;obtain⟨q3,q4⟩:=Fy (Q' :=Q') ys _ Q q1;exact⟨q3,fun q=>q2 (q4 q)⟩
   cases h
end
mutual
def YT:AV->AV->Bool
 | .p none _,x=>(match x with | .p none _=>true | .nil=>true | _=>false)
 | .agg ys,x=>(match x with | .agg xs=>JK ys xs | _=>false)
 | .rp none _,x=>(match x with | .rp none _=>true | _=>false)
 | _,_=>true
def JK:List AV->List AV->Bool
 | [],_=>true
 | y::ys,xs=>(match xs with | x::xs=>YT y x&&JK ys xs | []=>true)
end
section
variable {K:Nat->Prop} {φ:jS} {w:World} {rs:Rl} {ren:aGM}
mutual
theorem YU {φi:jS}(hi: ∀h pl,φi h=some pl-> ∃g,dK ren h=some g/\φ g=some pl): ∀(y x:AV) (Q:Prop) (v:Value),YT y x=true->kQ rs ren y x Q->aH K φ w x v->aH K φi w y v
 | .no,x,Q,v,_,h,hm=>by unfold aH;trivial
 | .nil,x,Q,v,_,h,hm=>by
   unfold kQ at h;split at h
   ·unfold aH at*;exact hm
   cases h
 | .own k,x,Q,v,_,h,hm=>by
   unfold kQ at h;split at h
   ·split at h
    ·rename_i g' hl;obtain⟨e,hQ⟩:=h.eq;subst e;unfold aH at*;intro pl hp;obtain⟨g2,e1,e2⟩:=hi _ pl hp;rw[hl] at e1;injection e1 with e1;subst e1
     exact hm pl e2
    cases h
   cases h
 | .ptr k o,x,Q,v,_,h,hm=>by
   unfold kQ at h;split at h
   ·split at h
    ·rename_i g' hl;obtain⟨e,hQ1⟩:=h.eq;obtain⟨e2,hQ⟩:=hQ1.eq;subst e;subst e2;unfold aH at*;obtain⟨g3,e3,q⟩:=hm;refine⟨g3,e3,fun pl hp=>?_⟩;obtain⟨g2,e1,e2⟩:=hi _ pl hp;rw[hl] at e1;injection e1 with e1;subst e1
     exact q pl e2
    cases h
   cases h
 | .p none y,x,Q,v,hs,h,hm=>by
   unfold YT at hs;unfold kQ at h;split at h
   ·unfold aH at*;rw[<-h.1.eq];exact hm
   ·cases hs
   ·cases hs
   ·split at h
    ·unfold aH at*;rw[hm,<-h.1];exact yR
    cases h
   cases h
 | .p (some _) y,x,Q,v,_,h,hm=>by unfold kQ at h;cases h
 | .agg ys,x,Q,v,hs,h,hm=>by
   unfold YT at hs;unfold kQ at h;split at h
   ·unfold aH at hm;obtain⟨vs,rfl,q1,q2⟩:=hm;unfold aH;exact⟨vs,rfl,q1,Fz hi ys _ Q _ hs h q2⟩
   cases h
 | .tup ys,x,Q,v,_,h,hm=>by unfold kQ at h;cases h
 | .ep _ _ _ _,x,Q,v,_,h,hm=>by unfold kQ at h;cases h
 | .rp none ys,x,Q,v,hs,h,hm=>by
   unfold YT at hs;unfold kQ at h;split at hs
   ·unfold S4 at h;obtain⟨rfl,hQ⟩:=JI h;unfold aH at*;exact hm
   cases hs
 | .rp (some _) _,x,Q,v,_,h,hm=>by unfold kQ at h;cases h
 | .fn f [],x,Q,v,_,h,hm=>by
   unfold kQ at h;split at h
   ·obtain⟨rfl,hQ⟩:=h.eq;unfold aH at hm ⊢;obtain⟨vs',e1,e2⟩:=hm;refine⟨vs',e1,?_⟩;unfold aS at e2 ⊢;exact e2
   cases h
 | .fn _ (_::_),x,Q,v,_,h,hm=>by unfold kQ at h;cases h
 | .bsl _ _,x,Q,v,_,h,hm=>by unfold kQ at h;cases h
theorem Fz {φi:jS}(hi: ∀h pl,φi h=some pl-> ∃g,dK ren h=some g/\φ g=some pl): ∀(ys xs:List AV) (Q:Prop) (vs:List Value),JK ys xs=true->sV rs ren ys xs Q->aS K φ w xs vs->aS K φi w ys vs
 | [],xs,Q,vs,_,h,hm=>by
   unfold sV at h;split at h
   ·unfold aS at*;exact hm
   cases h
 | y::ys,xs,Q,vs,hs,h,hm=>by
   unfold JK at hs;unfold sV at h;split at h
   ·simp only[aBB] at hs;unfold aS at hm;obtain⟨v,vs',rfl,q1,q2⟩:=hm;unfold aS;exact⟨v,vs',rfl,YU hi y _ _ v hs.1 h q1,Fz hi ys _ Q vs' hs.2 (QK (Q' :=True) _ _ _ h).1 q2⟩
   cases h
end
end
def yV (ren:aGM)(hb h:Nat):Nat:=match dK ren h with | some g=>g | none=>hb+h
mutual
def qJ:AV->Bool
 | .p none x=>x.val?.isSome
 | .own _=>true
 | .ptr _ _=>true
 | .nil=>true
 | .no=>true
 | .agg cs=>uM cs
 | .tup cs=>uM cs
 | _=>false
def uM:List AV->Bool
 | []=>true
 | x::xs=>qJ x&&uM xs
end
mutual
theorem C9 {K K' :Nat->Prop}{φ:jS}{w:World}: ∀(x:AV) (v:Value),qJ x=true->aH K φ w x v->aH K' φ w x v
 | .p none x,v,hc,h=>by
   unfold qJ at hc;unfold aH at*;cases hx:x.val? with
   | none=>simp[hx] at hc
   | some u=>exact(jX.scalar hx).2 ((jX.scalar hx).1 h)
 | .p (some k) x,v,hc,h=>by simp[qJ] at hc
 | .own k,v,_,h=>by unfold aH at*;exact h
 | .ptr k o,v,_,h=>by unfold aH at*;exact h
 | .ep k _ _ _,v,hc,_=>by simp[qJ] at hc
 | .rp _ x,v,hc,h=>by simp[qJ] at hc
 | .fn _ _,v,hc,h=>by simp[qJ] at hc
 | .bsl _ _,v,hc,h=>by simp[qJ] at hc
 | .nil,v,_,h=>by unfold aH at*;exact h
 | .no,v,_,_=>by unfold aH;trivial
 | .agg cs,v,hc,h=>by
   unfold qJ at hc;unfold aH at*;obtain⟨vs,e,h1,h2⟩:=h;exact⟨vs,e,h1,qK cs _ hc h2⟩
 | .tup cs,v,hc,h=>by
   unfold qJ at hc;unfold aH at*;obtain⟨vs,e,h2⟩:=h;exact⟨vs,e,qK cs _ hc h2⟩
theorem qK {K K' :Nat->Prop}{φ:jS}{w:World}: ∀(xs:List AV) (vs:List Value),uM xs=true->aS K φ w xs vs->aS K' φ w xs vs
 | [],vs,_,h=>by unfold aS at*;exact h
 | x::xs,vs,hc,h=>by
   unfold uM at hc;simp only[aBB] at hc;unfold aS at*;obtain⟨v,vs',e,h1,h2⟩:=h;exact⟨v,vs',e,C9 x v hc.1 h1,qK xs vs' hc.2 h2⟩
end
def Eo (on:Nat->Nat):aGJ->Nat->Option Nat
 | [],_=>none
 | (h,_)::l,g=>if on h=g then some h else Eo on l g
theorem A0 {on:Nat->Nat}: ∀{ro:aGJ} {g h:Nat},Eo on ro g=some h->on h=g/\ ∃r,bF ro h=some r
 | [],_,_,e=>by simp[Eo] at e
 | (k,r)::l,g,h,e=>by
   simp only[Eo] at e;split at e
   ·injection e with e;subst e;rename_i q;exact⟨q,r,by simp[bF]⟩
   obtain⟨h1,r',h2⟩:=A0 e;refine⟨h1,?_⟩;simp only[bF];split
   ·exact⟨r,rfl⟩
   exact⟨r',h2⟩
def YV {on:Nat->Nat}{h:Nat}: ∀{ro:aGJ} {r:Rs},(∀h' r',bF ro h' =some r' ->on h' =on h->h' =h)->bF ro h=some r->Eo on ro (on h)=some h:=by
 intro ro r hi hr;cases hv:Eo on ro (on h) with
 | some h' =>
   obtain⟨e,r',hr'⟩:=A0 hv;rw[hi h' r' hr' e]
 | none=>
   exfalso
   have: ∀(l:aGJ),Eo on l (on h)=none->bF l h=none:=by
    intro l
    induction l with
    | nil=>intro _;rfl
    | cons q l ih=>
      obtain⟨k,r0⟩:=q;intro e;simp only[Eo] at e;split at e
      ·cases e
      rename_i hne;simp only[bF];rw[if_neg (fun e' =>hne (by rw[e']))];exact ih e
   rw[this ro hv] at hr;cases hr
theorem QL {on:Nat->Nat}{m:Rs->Rs}: ∀{ro:aGJ} {g:Nat} {r:Rs},bF (ro.map fun q=>(on q.1,m q.2)) g=some r-> ∃h r0,Eo on ro g=some h/\bF ro h=some r0/\r=m r0
 | [],g,r,e=>by simp[bF] at e
 | (k,r1)::l,g,r,e=>by
   simp only[aDH,bF] at e;split at e
   ·rename_i q;injection e with e
    exact⟨k,r1,by simp[Eo,q],by simp[bF],e.symm⟩
   rename_i q;obtain⟨h,r0,h1,h2,h3⟩:=QL e;refine⟨h,r0,by simp only[Eo];rw[if_neg (fun e=>q e.symm)];exact h1,?_,h3⟩;simp only[bF];rw[if_neg (fun e=>by subst e;exact q (A0 h1).1.symm)];exact h2
theorem xD {on:Nat->Nat}{m:Rs->Rs}: ∀{ro:aGJ} {g:Nat},bF (ro.map fun q=>(on q.1,m q.2)) g=none->Eo on ro g=none
 | [],g,e=>rfl
 | (k,r1)::l,g,e=>by
   simp only[aDH,bF] at e;split at e
   ·cases e
   rename_i q;simp only[Eo];rw[if_neg (fun e=>q e.symm)];exact xD e
def QM {ren:aGM}{h g:Nat}(e:dK ren h=some g):g∈ren.map (·.2):=by
 induction ren with
 | nil=>simp[dK] at e
 | cons q l ih=>
   obtain⟨k,v⟩:=q;unfold dK at e;split at e
   ·injection e with e;simp[e]
   simp only[aDH,aDr];exact .inr (ih e)
def H9 (st:Bool)(x:AV):Bool:=st || qJ x
def JL (st:Bool):Rs->Bool
 | .box _ cs=>st || uM cs
 | .arr _ _ d _=>st || d
 | .hole _ _ _ _ _ _=>false
section
variable {P:Program} {sl:Sl} {rs:Rl}
def Mq:Rs->Bool
 | .box _ _=>true
 | _=>false
def S5 (ri:aGJ)(ren:aGM)(ro:aGJ):Bool:=ro.all fun q=>match dK ren q.1 with | some _=>Mq q.2&&(match bF ri q.1 with | some r=>Mq r | none=>false) | none=>true
def DR (P:Program)(o:Oper)(S:St)(e:Eff)(B:Prop):Prop:=
 ∀(K:Nat->Prop) (φ:jS) (A:Nat->Prop) (w0:Aa) (N:Nat) (a:Act) (w:World) (Q:Exit->Act->World->Prop),(∀d,o.dst=some d->d<N)->G K φ A w0 N S a w->
  o.wp P a w (fun a' w' => ∃K' φ' v,a' =a.put o.dst v/\G K' φ' A w0 N (S.apply o.dst e) a' w' /\(B->Tr K φ w (· ∈e.del) (bF e.new) K' φ' w')) Q
theorem DR.to0 {P:Program}{S:St}{o:Oper}{e:Eff}{B:Prop}(h:DR P o S e B):Ah P o S e:=fun K φ A w0 N a w Q hd hG=>Oper.wp_mono (fun a' w' ⟨K',φ',v,h1,h2,_⟩=>⟨K',φ',v,h1,h2⟩) (h K φ A w0 N a w Q hd hG)
theorem DR.full {P:Program}{S:St}{o:Oper}{e:Eff}{B:Prop}(h:DR P o S e B)(b:B):bP P o S e:=fun K φ A w0 N a w Q hd hG=>Oper.wp_mono (fun a' w' ⟨K',φ',v,h1,h2,h3⟩=>⟨K',φ',v,h1,h2,h3 b⟩) (h K φ A w0 N a w Q hd hG)
theorem QN {o:Oper}{f:FuncId}{avs fs:List AV}{ri ro:aGJ}{ren:aGM}{rv:AV}{hb:Nat}{st:Bool}(hset:st=true->JK fs avs=true)
 (hrun: ∀K φ A w0 N a w,G K φ A w0 N (mk sl rs) a w-> ∃vs:Array Value,(execOp a.eval o).run P w= .ok (.enter f vs) w/\aS K φ w avs vs.toList)
 (hC:xB P f fs ri rv ro) (ha:sV rs ren fs avs True)
 (hres: ∀h r,bF ri h=some r-> ∃g,dK ren h=some g/\bL rs g=some (MB (YQ ren) r)) (hkey: ∀h g,dK ren h=some g-> ∃r,bF ri h=some r) (hinj:qI (ren.map (·.2))=true)
 (hcl:H9 st rv=true) (hclr: ∀q∈ro,JL st q.2=true) (hfr: ∀q∈ro,dK ren q.1=none->jP (mk sl rs) (hb+q.1))
 (hmt: ∀h∈cZ rv,∃r,bF ro h=some r) (hmr: ∀q∈ro,∀h∈kG q.2,∃r,bF ro h=some r)
 (hon: ∀h h' r r',bF ro h=some r->bF ro h' =some r' ->yV ren hb h=yV ren hb h' ->h=h')
 (hvw: ∀q∈ro,∀g,dK ren q.1=some g->(∀t,g ∉ vY (cM sl t))/\ ∀h' r,bL rs h' =some r->g ∉ Fx r):
 DR P o (mk sl rs) ⟨nI (yV ren hb) rv,ren.map (·.2),ro.map fun q=>(yV ren hb q.1,MB (yV ren hb) q.2)⟩ (S5 ri ren ro=true):=by
 intro K φ A w0 N a w Q hd hG;obtain⟨vs,hrn,hmv⟩:=hrun K φ A w0 N a w hG;unfold Oper.wp;rw[hrn,Oper.upon_enter]
 let φi:jS:=fun h=>match dK ren h with | some g=>φ g | none=>none
 have hi: ∀h pl,φi h=some pl-> ∃g,dK ren h=some g/\φ g=some pl:=fun h pl e=>by
  simp only[φi] at e;split at e
  ·rename_i g hg;exact⟨g,hg,e⟩
  cases e
 have hren: ∀h g,dK ren h=some g->YQ ren h=g:=fun h g e=>by unfold YQ;rw[e]
 have hBx: ∃B:Nat->Prop,(∀b,K b->B b)/\(∀b,B b->b<w.heap.size/\ ¬jD φ (· ∈ren.map (·.2)) b)/\aS B φi w fs vs.toList/\(st=true-> ∀b,B b->K b):=by
  cases hst:st with
  | false=>exact⟨xC K φ w (· ∈ren.map (·.2)),uL hG _,(by intro b h;exact h),(JJ hG hi fs avs True vs.toList ha hmv).1,fun e=>by cases e⟩
  | true=>exact⟨K,fun _ h=>h,fun b hb=>⟨(hG.kin b hb).1,fun ⟨h,pl,_,hp,hm⟩=>hG.kout b hb h pl hp hm⟩,Fz hi fs avs True vs.toList (hset hst) ha hmv,fun _ _ h=>h⟩
 obtain⟨B,hKB,hBB,hargs,hBK⟩:=hBx
 have hI:In2 B φi w ri:=by
  refine⟨fun b hb=>(hBB b hb).1,fun h r hr=>?_,fun h hr=>?_,fun h h' pl pl' hne e e' =>?_,fun h pl e=>?_,fun h pl e g hg=>?_,fun b hb' h pl e hm=>?_⟩
  ·obtain⟨g,hg,hf⟩:=hres h r hr;obtain⟨pl,hp,hh⟩:=hG.dom g _ hf;refine⟨pl,by simp only[φi,hg];exact hp,?_⟩;cases r with
   | box t cs=>
     obtain⟨g',vs',e1,e2,e3,e4⟩:=hh;refine⟨g',vs',e1,e2,e3,?_⟩;have:=aS.unmap (φ' :=φi) cs _ (fun k pl' _ e=>by obtain⟨g2,q1,q2⟩:=hi k pl' e;rw[hren k g2 q1];exact q2) e4;exact aS.mono (fun _ _=>rfl) hKB cs _ (fun _ _ _ e=>⟨e,fun _ _=>rfl⟩) this
   | hole e k xs i j q=>
     obtain⟨xs1,x1,d,x2,xs2,css1,c1,v,c2,css2,Fs1,F1,F2,Fs2,e0,e1,e2,e3,h1,h2,h3,h4,h5,h6,h7,h8⟩:=hh;exact⟨xs1,x1,d,x2,xs2,css1,c1,v,c2,css2,Fs1,F1,F2,Fs2,e0,e1,e2,e3,h1,h2,h3,h4,h5,h6,h7,⟨h8.1,fun pl' e' =>by obtain⟨g2,q1,q2⟩:=hi q pl' e';exact h8.2 pl' (by rw[hren q g2 q1];exact q2)⟩⟩
   | arr e k d xs=>
     have:=Holds.mono (K' :=B) (φ' :=φi) (w' :=w) (pl:=pl) (fun _ _=>rfl) hKB (fun _ _=>rfl) (.arr e k d xs) (fun _ _ hm _=>by simp[kG] at hm) hh;exact this
  ·simp only[φi];cases hl:dK ren h with
   | none=>rfl
   | some g=>
     obtain⟨r,hr'⟩:=hkey h g hl;rw[hr] at hr';cases hr'
  ·obtain⟨g,q1,q2⟩:=hi h pl e;obtain⟨g',q1',q2'⟩:=hi h' pl' e';exact hG.disj g g' pl pl' (fun x=>by subst x;exact hne (JG hinj q1 q1')) q2 q2'
  ·obtain⟨g,_,q2⟩:=hi h pl e;exact hG.nodup g pl q2
  ·obtain⟨g',_,q2⟩:=hi h pl e;exact(hG.ge g' pl q2 g hg).2
  obtain⟨g,q1,q2⟩:=hi h pl e;exact(hBB b hb').2 ⟨g,pl,QM q1,q2,hm⟩
 refine(hC.2.2 _ φi w vs hI hargs).mono ?_;rintro e w' ⟨v,Kr,φ',rfl,hO,hmr'⟩
 have hfoot: ∀b,Oe φi b->jD φ (· ∈ren.map (·.2)) b:=fun b ⟨h,pl,_,e,hb⟩=>by
  obtain⟨g,q1,q2⟩:=hi h pl e;exact⟨g,pl,QM q1,q2,hb⟩
 let on:=yV ren hb
 have hou: ∀h g,dK ren h=some g->on h=g:=fun h g e=>by simp only[on,yV,e]
 have hou' : ∀h,dK ren h=none->on h=hb+h:=fun h e=>by simp only[on,yV,e]
 let φr:jS:=fun g=>match Eo on ro g with | some h=>φ' h | none=>none
 have r1: ∀g pl,φr g=some pl-> ∃h r,on h=g/\bF ro h=some r/\φ' h=some pl:=fun g pl e=>by
  simp only[φr] at e;split at e
  ·rename_i h hh;obtain⟨q1,r,q2⟩:=A0 hh;exact⟨h,r,q1,q2,e⟩
  cases e
 have r2: ∀h r,bF ro h=some r->φr (on h)=φ' h:=fun h r hr=>by
  simp only[φr];rw[YV (on:=on) (fun h' r' hr' e=>hon h' h r' r hr' hr e) hr]
 have r3: ∀g pl,φr g=some pl->((∃pl0,φ g=some pl0/\pl.val=pl0.val/\pl.top=pl0.top)/\(∀t,g ∉ vY (cM sl t))/\ ∀h' r,bL rs h' =some r->g ∉ Fx r)\/jP (mk sl rs) g:=fun g pl e=>by
  obtain⟨h,r,e1,e2,e3⟩:=r1 g pl e;cases hl:dK ren h with
  | some g' =>
    rw[hou h g' hl] at e1;subst e1;obtain⟨r0,hr0⟩:=hkey h _ hl;obtain⟨pl0,hp0,_⟩:=hI.dom h r0 hr0;have hpn:=hO.pin h pl pl0 e3 hp0;have hp:φ g' =some pl0:=by simp only[φi,hl] at hp0;exact hp0
    have:=hvw _ (dF e2) g' hl;exact .inl ⟨⟨pl0,hp,hpn⟩,this⟩
  | none=>
    rw[hou' h hl] at e1;rw[<-e1];exact .inr (hfr _ (dF e2) hl)
 have hKx: ∃K' :Nat->Prop,(∀b,K b->K' b)/\(∀b,K' b->K b\/(b<w'.heap.size/\(w.heap.size<=b\/jD φ (· ∈ren.map (·.2)) b)/\ ∀h pl,φr h=some pl->b ∉ pl.F))/\(H9 st rv=true->aH Kr φ' w' rv v->aH K' φ' w' rv v)/\(∀cs vs',(st || uM cs)=true->aS Kr φ' w' cs vs' ->aS K' φ' w' cs vs')/\(∀e k d xs pl,(st || d)=true->Holds Kr φ' w' pl (.arr e k d xs)->Holds K' φ' w' pl (.arr e k d xs)):=by
  cases hst:st with
  | false=>
    refine⟨K,fun _ h=>h,fun _ h=> .inl h,fun hc hm=>?_,fun cs vs' hc hm=>?_,fun e k d xs pl hc hm=>?_⟩
    ·exact C9 rv v (by simpa [H9] using hc) hm
    ·exact qK cs vs' (by simpa using hc) hm
    have hd' :d=true:=by simpa using hc
    subst hd';exact hm
  | true=>
    refine⟨Kr,fun b hb=>hO.kk b (hKB b hb),fun b hb=>?_,fun _ hm=>hm,fun _ _ _ hm=>hm,fun _ _ _ _ _ _ hm=>hm⟩;obtain⟨q1,q2⟩:=hO.kin b hb;rcases q2 with q2 | q2 | q2
    ·exact .inl (hBK hst b q2)
    ·exact .inr ⟨q1,.inl q2,fun h pl e=>by obtain⟨h',r,_,_,e3⟩:=r1 h pl e;exact hO.kout b hb h' pl e3⟩
    exact .inr ⟨q1,.inr (hfoot b q2),fun h pl e=>by obtain⟨h',r,_,_,e3⟩:=r1 h pl e;exact hO.kout b hb h' pl e3⟩
 obtain⟨K',kx1,kx2,kx3,kx4,kx5⟩:=hKx
 have hst:=hG.stepV (C:=(· ∈ren.map (·.2))) (φr:=φr) (ρ:=bF (ro.map fun q=>(on q.1,MB on q.2))) (K' :=K') (w' :=w')
  (hO.chg.mono hfoot)
  (fun g pl e=>by
   obtain⟨h,r,_,_,e3⟩:=r1 g pl e;refine⟨hO.nodup h pl e3,fun b hb=>⟨(hO.ge h pl e3 b hb).2,(hO.ge h pl e3 b hb).1.imp id (hfoot b)⟩⟩)
  (fun g g' pl pl' hne e e' =>by
   obtain⟨h,r,q1,_,e3⟩:=r1 g pl e;obtain⟨h',r',q1',_,e3'⟩:=r1 g' pl' e';exact hO.disj h h' pl pl' (fun x=>by subst x;exact hne (q1.symm.trans q1')) e3 e3')
  (fun g r hr=>by
   obtain⟨h,r0,q1,q2,q3⟩:=QL hr;subst q3;obtain⟨pl,hp,hh⟩:=hO.dom h r0 q2;have hin:=(A0 q1).1;refine⟨pl,by rw[<-hin,r2 h r0 q2];exact hp,?_⟩;cases r0 with
   | box t cs=>
     obtain⟨g',vs',e1,e2,e3,e4⟩:=hh;refine⟨g',vs',e1,e2,e3,?_⟩;refine aS.map cs _ (fun k pl' hk e=>?_) (kx4 cs _ (hclr _ (dF q2)) e4);obtain⟨rk,hrk⟩:=hmr _ (dF q2) k hk;obtain⟨plk,hpk,_⟩:=hO.dom k rk hrk;have:dM (· ∈ren.map (·.2)) φr φ (on k)=some plk:=by simp only[dM,r2 k rk hrk,hpk]
     rw[this] at e;injection e with e
     subst e;exact hpk
   | hole e k xs i j q=>
     have hd' :=hclr _ (dF q2);simp[JL] at hd'
   | arr e k d xs=>
     have hk5:=kx5 e k d xs pl (hclr _ (dF q2)) hh;cases d<;>exact hk5)
  (fun g hr=>by simp only[φr];rw[xD hr])
  kx1 kx2
  (fun t g pl hm' e=>by
   rcases r3 g pl e with ⟨⟨pl0,q1,q3,q4⟩,q2,_⟩ | q
   ·exact⟨pl0,q1,q3,q4,fun hv=>absurd hv (q2 t)⟩
   exact absurd hm' (q.1 t))
  (fun h' r g pl _ hr hm' e=>by
   rcases r3 g pl e with ⟨⟨pl0,q1,q3,q4⟩,_,q2⟩ | q
   ·exact⟨pl0,q1,q3,q4,fun hv=>absurd hv (q2 h' r hr)⟩
   exact absurd hm' (q.2.1 h' r hr))
  (fun g pl e=>by
   rcases r3 g pl e with ⟨q1,_⟩ | q
   ·exact .inl q1
   exact .inr q.2.2.2)
 have hTr:S5 ri ren ro=true->Tr K φ w (· ∈ren.map (·.2)) (bF (ro.map fun q=>(on q.1,MB on q.2))) K' (dM (· ∈ren.map (·.2)) φr φ) w' :=fun hB=>by
  have same: ∀g pl,φr g=some pl->(φ g=some pl/\pl.sub= [])\/(jP (mk sl rs) g/\ ∃h r,on h=g/\bF ro h=some r/\φ' h=some pl):=fun g pl e=>by
   obtain⟨h,r,e1,e2,e3⟩:=r1 g pl e;cases hl:dK ren h with
   | some g' =>
     rw[hou h g' hl] at e1;subst e1;obtain⟨r0,hr0⟩:=hkey h _ hl;obtain⟨pl0,hp0,hh0⟩:=hI.dom h r0 hr0;obtain⟨pl1,hp1,hh1⟩:=hO.dom h r e2;have hpn:=hO.pin h pl pl0 e3 hp0;have hp:φ g' =some pl0:=by simp only[φi,hl] at hp0;exact hp0
     rw[e3] at hp1;injection hp1 with hp1
     subst hp1;have hb1:=aCS.1 hB _ (dF e2);simp only[hl,hr0,aBB] at hb1;obtain⟨c1,c2⟩:=hb1;cases r with
     | box t cs=>
       cases r0 with
       | box t0 cs0=>
         obtain⟨ga,_,ea,_⟩:=hh1;obtain⟨gb,_,eb,_⟩:=hh0;have hv:=hpn.1;rw[ea,eb] at hv;simp only[Value.pointer.injEq,Option.some.injEq] at hv;injection hv with hv
         subst hv;exact .inl ⟨by rw[hp,ea,eb],by rw[ea]⟩
       | arr _ _ _ _=>simp[Mq] at c2
       | hole _ _ _ _ _ _=>simp[Mq] at c2
     | arr _ _ _ _=>simp[Mq] at c1
     | hole _ _ _ _ _ _=>simp[Mq] at c1
   | none=>
     rw[hou' h hl] at e1;refine .inr ⟨by rw[<-e1];exact hfr _ (dF e2) hl,h,r,by rw[hou' h hl];exact e1,e2,e3⟩
  refine⟨hO.chg.mono hfoot,kx1,fun b h=>(kx2 b h).imp id (fun q=>q.2.1),fun g pl e=>?_,fun g pl e e' b hb=>?_⟩
  ·rcases cF e with q | ⟨_,_,q⟩
   ·rcases same g pl q with ⟨q1,_⟩ | ⟨q1,h,r,q2,q3,q4⟩
    ·exact .inl q1
    refine .inr ⟨hG.non g q1.2.2.1,?_,fun b hb=>(hO.ge h pl q4 b hb).1.imp id (hfoot b)⟩;cases hf:bF (ro.map fun q=>(on q.1,MB on q.2)) g with
    | some r' =>exact⟨r',rfl⟩
    | none=>
      have:=xD hf;rw[<-q2,YV (on:=on) (fun h' r' hr' e=>hon h' h r' r hr' q3 e) q3] at this;cases this
   exact .inl q
  rcases cF e with q | ⟨_,hc,_⟩
  ·rcases same g pl q with ⟨_,q1⟩ | ⟨q1,_⟩
   ·rw[q1] at hb;cases hb
   rw[hG.non g q1.2.2.1] at e';cases e'
  refine hO.chg.block b (hG.ge g pl e' b (aCX _ hb)).2 (fun hm=>?_);obtain⟨g2,pl2,hc2,hp2,hb2⟩:=hfoot b hm;by_cases ex:g=g2
  ·subst ex;exact hc hc2
  exact hG.disj g g2 pl pl2 ex e' hp2 b (aCX _ hb) hb2
 refine⟨K',dM (· ∈ren.map (·.2)) φr φ,v,rfl,hst.put hd (aH.map rv v (fun k pl hk e=>?_) (kx3 hcl hmr')),hTr⟩;obtain⟨rk,hrk⟩:=hmt k hk;obtain⟨plk,hpk,_⟩:=hO.dom k rk hrk;have:dM (· ∈ren.map (·.2)) φr φ (on k)=some plk:=by simp only[dM,r2 k rk hrk,hpk]
 rw[this] at e;injection e with e
 subst e;exact hpk
end
def riW (rs:Rl)(ren:aGM):aGJ->Prop->Prop
 | [],K=>K
 | (h,r)::l,K=>(match dK ren h with
   | some g=>(match bL rs g with | some r' =>EqR r' (MB (YQ ren) r) (riW rs ren l K) | none=>False)
   | none=>False)
theorem YW {rs:Rl}{ren:aGM}{K:Prop}: ∀{l:aGJ},riW rs ren l K->(∀h r,bF l h=some r-> ∃g,dK ren h=some g/\bL rs g=some (MB (YQ ren) r))/\K
 | [],h=>⟨by simp[bF],h⟩
 | (k,r0)::l,hw=>by
   unfold riW at hw;split at hw
   ·rename_i g hg;split at hw
    ·rename_i r' hr';obtain⟨e1,hw1⟩:=hw.eq;obtain⟨q1,q2⟩:=YW hw1;refine⟨fun h r e=>?_,q2⟩;simp only[bF] at e;split at e
     ·rename_i ek;subst ek;injection e with e
      subst e;exact⟨g,hg,by rw[hr',e1]⟩
     exact q1 h r e
    cases hw
   cases hw
def AP (sl:Sl)(rs:Rl)(g:Nat):Bool:=sl.all (fun p=> !(vY (cM sl p.1)).contains g)&&rs.all (fun p=>match bL rs p.1 with | some r=> !(Fx r).contains g | none=>true)
def Of (st:Bool)(sl:Sl)(rs:Rl)(hb:Nat)(ri:aGJ)(ren:aGM)(rv:AV)(ro:aGJ):Bool:=
 ren.all (fun q=>(bF ri q.1).isSome)&&qI (ren.map (·.2))&&H9 st rv&&(ro.all fun q=>JL st q.2)&&(ro.all fun q=>match dK ren q.1 with | some g=>AP sl rs g | none=>iT sl rs (hb+q.1))&&
 ((cZ rv).all fun h=>(bF ro h).isSome)&&(ro.all fun q=>(kG q.2).all fun h=>(bF ro h).isSome)&&(ro.all fun q=>ro.all fun q' =>Nat.beq q.1 q'.1 || !Nat.beq (yV ren hb q.1) (yV ren hb q'.1))
def A1 (P:Program)(sl:Sl)(rs:Rl)(d:Nat)(f:FuncId)(avs:List AV)(t:T)(K:AV->List Nat->aGJ->T->Prop):Prop:=match t with
 | .callx fs ri ren rv ro t=>(match Of false sl rs (100*d) ri ren rv ro with
   | true=>xB P f fs ri rv ro/\sV rs ren fs avs (riW rs ren ri (K (nI (yV ren (100*d)) rv) (ren.map (·.2)) (ro.map fun q=>(yV ren (100*d) q.1,MB (yV ren (100*d)) q.2)) t))
   | false=>False)
 | .callxs fs ri ren rv ro t=>(match Of true sl rs (100*d) ri ren rv ro&&JK fs avs with
   | true=>xB P f fs ri rv ro/\sV rs ren fs avs (riW rs ren ri (K (nI (yV ren (100*d)) rv) (ren.map (·.2)) (ro.map fun q=>(yV ren (100*d) q.1,MB (yV ren (100*d)) q.2)) t))
   | false=>False)
 | _=>False
def aBl {ren:aGM}{h g:Nat}(e:dK ren h=some g):(h,g)∈ren:=by
 induction ren with
 | nil=>simp[dK] at e
 | cons q l ih=>
   obtain⟨k,v⟩:=q;unfold dK at e;split at e
   ·rename_i hb;injection e with e;have:=aBQ hb;subst this;subst e;simp
   exact aFR _ (ih e)
def A2 {sl:Sl}{rs:Rl}{g:Nat}(h:AP sl rs g=true):(∀t,g ∉ vY (cM sl t))/\ ∀h' r,bL rs h' =some r->g ∉ Fx r:=by
 unfold AP at h;simp only[aBB,aCS] at h;refine⟨fun t ht=>?_,fun h' r hr hm=>?_⟩
 ·have hk: ∀(l:Sl),cM l t≠ .no->t∈l.map (·.1):=by
   intro l
   induction l with
   | nil=>intro h;simp[cM] at h
   | cons q l ih=>
     obtain⟨k,v⟩:=q;intro h;simp only[cM] at h;by_cases e:t=k
     ·simp[e]
     rw[if_neg e] at h;simp[ih h]
  have hne:cM sl t≠ .no:=fun e=>by rw[e] at ht;simp[vY] at ht
  obtain⟨q,hq,rfl⟩:=aE9.1 (hk sl hne);have:=h.1 q hq;simp only[Bool.not_eq_true',List.contains_eq_mem,decide_eq_false_iff_not] at this;exact this ht
 have hk: ∀(l:Rl),bL l h' =some r->h' ∈l.map (·.1):=by
  intro l
  induction l with
  | nil=>intro h;simp[bL] at h
  | cons q l ih=>
    obtain⟨k,v⟩:=q;intro h;simp only[bL] at h;by_cases e:h' =k
    ·simp[e]
    rw[if_neg e] at h;simp[ih h]
 obtain⟨q,hq,rfl⟩:=aE9.1 (hk rs hr);have:=h.2 q hq;rw[hr] at this;simp only[Bool.not_eq_true',List.contains_eq_mem,decide_eq_false_iff_not] at this;exact this hm
def aFP:T->Bool
 | .callx _ ri ren _ ro _=>S5 ri ren ro
 | .callxs _ ri ren _ ro _=>S5 ri ren ro
 | _=>false
theorem Mr {P:Program}{sl:Sl}{rs:Rl}{d:Nat}{f:FuncId}{avs fs:List AV}{ri ro:aGJ}{ren:aGM}{rv:AV}{o:Oper}{t:T}{st:Bool}{K:AV->List Nat->aGJ->T->Prop}(hrun:lB P f=true-> ∀K φ A w0 N a w,G K φ A w0 N (mk sl rs) a w-> ∃vs:Array Value,(execOp a.eval o).run P w= .ok (.enter f vs) w/\aS K φ w avs vs.toList)(hset:st=true->JK fs avs=true)(hb:Of st sl rs (100*d) ri ren rv ro=true)
 (h:xB P f fs ri rv ro/\sV rs ren fs avs (riW rs ren ri (K (nI (yV ren (100*d)) rv) (ren.map (·.2)) (ro.map fun q=>(yV ren (100*d) q.1,MB (yV ren (100*d)) q.2)) t))): ∃v del new t',DR P o (mk sl rs) ⟨v,del,new⟩ (S5 ri ren ro=true)/\K v del new t' :=by
 unfold Of at hb;simp only[aBB,aCS] at hb;obtain⟨⟨⟨⟨⟨⟨⟨b1,b2⟩,b3⟩,b4⟩,b5⟩,b6⟩,b7⟩,b8⟩:=hb;obtain⟨hC,h⟩:=h;obtain⟨h1,h2⟩:=Fy (Q' :=True) _ _ _ h;obtain⟨h3,h4⟩:=YW h1;refine⟨_,_,_,_,QN hset (hrun hC.1) hC (h2 trivial) h3 (fun h g e=>Option.isSome_iff_exists.1 (b1 _ (aBl e))) b2 b3 b4 (fun q hq hn=>?_) (fun k hk=>Option.isSome_iff_exists.1 (b6 k hk)) (fun q hq k hk=>Option.isSome_iff_exists.1 (b7 q hq k hk)) (fun k k' r r' e e' ex=>?_) (fun q hq g hg=>?_),h4⟩
 ·have:=b5 q hq;rw[hn] at this;exact iF this
 ·have:=b8 _ (dF e) _ (dF e');simp only[Bool.or_eq_true,Bool.not_eq_true'] at this;rcases this with q | q
  ·exact aBQ q
  rw[ex,Nat.beq_refl] at q;cases q
 have:=b5 q hq;rw[hg] at this;exact A2 this
def JM {P:Program}{sl:Sl}{rs:Rl}{d:Nat}{f:FuncId}{avs:List AV}{o:Oper}{t:T}{K:AV->List Nat->aGJ->T->Prop}(hrun:lB P f=true-> ∀K φ A w0 N a w,G K φ A w0 N (mk sl rs) a w-> ∃vs:Array Value,(execOp a.eval o).run P w= .ok (.enter f vs) w/\aS K φ w avs vs.toList)(h:A1 P sl rs d f avs t K): ∃v del new t',DR P o (mk sl rs) ⟨v,del,new⟩ (aFP t=true)/\K v del new t' :=by
 unfold A1 at h;split at h
 ·split at h
  ·rename_i hb;obtain⟨v,del,new,t',h1,h2⟩:=Mr (st:=false) hrun (fun e=>by cases e) hb h;exact⟨v,del,new,t',h1,h2⟩
  cases h
 ·split at h
  ·rename_i hb;rw[aBB] at hb;obtain⟨v,del,new,t',h1,h2⟩:=Mr (st:=true) hrun (fun _=>hb.2) hb.1 h;exact⟨v,del,new,t',h1,h2⟩
  cases h
 cases h
def Ms {P:Program}{sl:Sl}{rs:Rl}{d:Nat}{f:FuncId}{avs:List AV}{o:Oper}{t:T}{K:AV->List Nat->aGJ->T->Prop}(hrun:lB P f=true-> ∀K φ A w0 N a w,G K φ A w0 N (mk sl rs) a w-> ∃vs:Array Value,(execOp a.eval o).run P w= .ok (.enter f vs) w/\aS K φ w avs vs.toList)(h:A1 P sl rs d f avs t K): ∃v del new t',Ah P o (mk sl rs) ⟨v,del,new⟩/\K v del new t' :=by
 obtain⟨v,del,new,t',h1,h2⟩:=JM hrun h;exact⟨v,del,new,t',h1.to0,h2⟩
def JN {P:Program}{sl:Sl}{rs:Rl}{d:Nat}{f:FuncId}{avs:List AV}{o:Oper}{t:T}{K:AV->List Nat->aGJ->T->Prop}(hrun:lB P f=true-> ∀K φ A w0 N a w,G K φ A w0 N (mk sl rs) a w-> ∃vs:Array Value,(execOp a.eval o).run P w= .ok (.enter f vs) w/\aS K φ w avs vs.toList)(h:A1 P sl rs d f avs t K)(hb:aFP t=true): ∃v del new t',bP P o (mk sl rs) ⟨v,del,new⟩/\K v del new t' :=by
 obtain⟨v,del,new,t',h1,h2⟩:=JM hrun h;exact⟨v,del,new,t',h1.full hb,h2⟩
def bE {α:Type}{l:List α}{k:Nat}{x y:α}(h:l[k]? =some x)(h' :l[k]? =some y):y=x:=by rw[h] at h';injection h' with e;exact e.symm
theorem dB.split {w:World}{k:Nat}: ∀{xs:List (List bX)} {css:List (List Value)} {Fs:List (List Nat)} {i:Nat} {x:List bX},dB w k xs css Fs->xs[i]? =some x->
 ∃xs1 xs2 css1 c css2 Fs1 F Fs2,xs=xs1++x::xs2/\css=css1++c::css2/\Fs=Fs1++F::Fs2/\xs1.length=i/\dB w k xs1 css1 Fs1/\x.length=k/\dW w x c F/\dB w k xs2 css2 Fs2
 | [],_,_,_,_,_,h=>by simp at h
 | y::xs,css,Fs,0,x,ho,h=>by
   unfold dB at ho;obtain⟨c,css',F,Fs',rfl,rfl,h1,h2,h3⟩:=ho;simp at h;subst h;exact⟨[],xs,[],c,css',[],F,Fs',rfl,rfl,rfl,rfl,by unfold dB;exact⟨rfl,rfl⟩,h1,h2,h3⟩
 | y::xs,css,Fs,i+1,x,ho,h=>by
   unfold dB at ho;obtain⟨c,css',F,Fs',rfl,rfl,h1,h2,h3⟩:=ho;simp at h;obtain⟨xs1,xs2,css1,c',css2,Fs1,F',Fs2,rfl,rfl,rfl,e,q1,q2,q3,q4⟩:=dB.split h3 h;exact⟨y::xs1,xs2,c::css1,c',css2,F::Fs1,F',Fs2,rfl,rfl,rfl,by simp[e],by unfold dB;exact⟨c,css1,F,Fs1,rfl,rfl,h1,h2,q1⟩,q2,q3,q4⟩
theorem dW.split {w:World}: ∀{x1 x2:List bX} {c:List Value} {F:List Nat},dW w (x1++x2) c F-> ∃c1 c2 F1 F2,c=c1++c2/\F=F1++F2/\dW w x1 c1 F1/\dW w x2 c2 F2
 | [],x2,c,F,h=>⟨[],c,[],F,rfl,rfl,by unfold dW;exact⟨rfl,rfl⟩,h⟩
 | p::x1,x2,c,F,h=>by
   rw[List.cons_append] at h;unfold dW at h;obtain⟨v,cs',F1,F2,rfl,rfl,h1,h2⟩:=h;obtain⟨c1,c2,G1,G2,rfl,rfl,q1,q2⟩:=dW.split h2;exact⟨v::c1,c2,F1++G1,G2,rfl,by simp,by unfold dW;exact⟨v,c1,F1,G1,rfl,rfl,h1,q1⟩,q2⟩
theorem dW.join {w:World}: ∀{x1 x2:List bX} {c1 c2:List Value} {F1 F2:List Nat},dW w x1 c1 F1->dW w x2 c2 F2->dW w (x1++x2) (c1++c2) (F1++F2)
 | [],x2,c1,c2,F1,F2,h,h' =>by unfold dW at h;rw[h.1,h.2];exact h'
 | p::x1,x2,c1,c2,F1,F2,h,h' =>by
   unfold dW at h;obtain⟨v,cs',G1,G2,rfl,rfl,h1,h2⟩:=h;rw[List.cons_append];unfold dW;exact⟨v,cs' ++c2,G1,G2++F2,rfl,by simp,h1,dW.join h2 h'⟩
def YX {α:Type}{l:List α}{j:Nat}{y:α}(h:l[j]? =some y):l=l.take j++y::l.drop (j+1):=by
 obtain⟨hj,rfl⟩:=aCO.1 h;rw[List.getElem_cons_drop,List.take_append_drop]
section
variable {A:Nat->Prop} {w0:Aa} {N:Nat} {sl:Sl} {rs:Rl} {a:Act} {w:World} {P:Program}
theorem Mt {h i j h' e k e' k' :Nat}{xs:List (List bX)}{row:List bX}{ys:List (List bX)}(hr:bL rs h=some (.arr e k true xs))(hx:xs[i]? =some row)(hj:row[j]? =some (.sl e' k' ys))(hfr:jP (mk sl rs) h')(hv:AP sl rs h=true)
 (hg:Aq A w0 N (mk sl rs) a w):Aq A w0 N ((mk sl rs).apply none ⟨.no,[h],[(h,.hole e k xs i j h'),(h',.arr e' k' true ys)]⟩) a w:=by
 obtain⟨K,φ,hG⟩:=hg;obtain⟨pl,hp,css,Fs,q1,q2,q3,q4⟩:=hG.dom h _ hr;obtain⟨xs1,xs2,css1,c,css2,Fs1,F,Fs2,e1,e2,e3,e4,r1,r2,r3,r4⟩:=q4.split hx;have er:=YX hj;rw[er] at r3;obtain⟨c1,c',F1,F',rfl,rfl,s1,s2⟩:=r3.split;unfold dW at s2;obtain⟨v,c2,Fd,F2,rfl,rfl,s3,s4⟩:=s2;have hvone:v.oneCell' =true:=OQ (sG.rd (A:=fun _=>True) _ _ _ (fun _ _=>trivial) s3);unfold sG at s3;obtain⟨css',Fs',t1,t2,t3⟩:=s3;have hjl:j<row.length:=(aCO.1 hj).1;have hne:h≠h' :=fun q=>by subst q;have:=hfr.2.2.1;rw[show (mk sl rs).res h=_ from hr] at this;cases this
 have hsub:pl.sub=Fs1.flatten++((F1++((v.ownBlock.toList++Fs'.flatten)++F2))++Fs2.flatten):=by rw[q3,e3,<-t2];simp
 have hnd:=hG.nodup h pl hp;unfold Pl.F at hnd;rw[hsub] at hnd
 let p1:Pl:=⟨pl.val,pl.top,Fs1.flatten++((F1++F2)++Fs2.flatten)⟩
 let p2:Pl:=⟨v,v.ownBlock.toList,Fs'.flatten⟩
 have hin1: ∀g∈p1.F,g∈pl.F:=fun g hg=>by
  simp only[p1,Pl.F,aCy] at hg;unfold Pl.F;rw[hsub];simp only[aCy];rcases hg with q | q | (q | q) | q
  ·exact .inl q
  ·exact .inr (.inl q)
  ·exact .inr (.inr (.inl (.inl q)))
  ·exact .inr (.inr (.inl (.inr (.inr q))))
  exact .inr (.inr (.inr q))
 have hin2: ∀g∈p2.F,g∈pl.F:=fun g hg=>by
  simp only[p2,Pl.F,aCy] at hg;unfold Pl.F;rw[hsub];simp only[aCy];rcases hg with q | q
  ·exact .inr (.inr (.inl (.inr (.inl (.inl q)))))
  exact .inr (.inr (.inl (.inr (.inl (.inr q)))))
 have hperm:(pl.top++(Fs1.flatten++((F1++((v.ownBlock.toList++Fs'.flatten)++F2))++Fs2.flatten))).Perm (p1.F++p2.F):=by
  simp only[p1,p2,Pl.F];generalize v.ownBlock.toList++Fs'.flatten=M;refine(List.perm_iff_count).2 fun x=>?_;simp only[List.count_append];omega
 have hnd2:=hperm.nodup_iff.1 hnd;have hnd3:=aFH.1 hnd2;obtain⟨hv1,hv2⟩:=A2 hv
 have hst:=hG.stepV (C:=(· ∈[h])) (φr:=fun x=>if x=h then some p1 else if x=h' then some p2 else none) (ρ:=bF [(h,.hole e k xs i j h'),(h',.arr e' k' true ys)]) (K' :=K) (w' :=w)
  ⟨rfl,rfl,rfl,aFC _,fun _ _ _=>rfl⟩
  (fun x p hp' =>by
   split at hp'
   ·injection hp' with hp';subst hp'
    exact⟨hnd3.1,fun g hg=>⟨(hG.ge h pl hp g (hin1 g hg)).2,.inr ⟨h,pl,by simp,hp,hin1 g hg⟩⟩⟩
   split at hp'
   ·injection hp' with hp';subst hp'
    exact⟨hnd3.2.1,fun g hg=>⟨(hG.ge h pl hp g (hin2 g hg)).2,.inr ⟨h,pl,by simp,hp,hin2 g hg⟩⟩⟩
   cases hp')
  (fun x x' p p' hne' hp1 hp2 g hg hg' =>by
   split at hp1
   ·injection hp1 with hp1;subst hp1
    split at hp2
    ·rename_i a b;exact hne' (a.trans b.symm)
    split at hp2
    ·injection hp2 with hp2;subst hp2
     exact hnd3.2.2 g hg g hg' rfl
    cases hp2
   split at hp1
   ·injection hp1 with hp1;subst hp1
    split at hp2
    ·injection hp2 with hp2;subst hp2
     exact hnd3.2.2 g hg' g hg rfl
    split at hp2
    ·rename_i a _ b;exact hne' (a.trans b.symm)
    cases hp2
   cases hp1)
  (fun x r hr' =>by
   simp only[bF] at hr';split at hr'
   ·rename_i ex;injection hr' with hr';subst hr'
    refine⟨p1,by simp[ex],xs1,row.take j,.sl e' k' ys,row.drop (j+1),xs2,css1,c1,v,c2,css2,Fs1,F1,F2,Fs2,by rw[<-er];exact e1,e4,by simp;omega,by rw[<-er];exact r2,by rw[<-e2];exact q1,q2,rfl,r1,s1,s4,r4,hvone,fun pl' e'' =>?_⟩;simp only[dM] at e'';rw[if_neg (Ne.symm hne)] at e'';simp only[if_true,Option.some.injEq] at e'';subst e'';rfl
   rename_i ex;split at hr'
   ·rename_i ex';injection hr' with hr';subst hr'
    exact⟨p2,by rw[if_neg ex,if_pos ex'],css',Fs',t1,rfl,rfl,t3⟩
   cases hr')
  (fun x hr' =>by
   simp only[bF] at hr';split at hr'
   ·cases hr'
   rename_i ex;split at hr'
   ·cases hr'
   rename_i ex';rw[if_neg ex,if_neg ex'])
  (fun _ h=>h) (fun _ h=> .inl h)
  (fun t x p hm hp' =>by
   split at hp'
   ·rename_i ex;injection hp' with hp';subst hp';subst ex
    exact⟨pl,hp,rfl,rfl,fun q=>absurd q (hv1 t)⟩
   split at hp'
   ·rename_i ex;subst ex;exact absurd hm (hfr.1 t)
   cases hp')
  (fun h2 r x p _ hr' hm hp' =>by
   split at hp'
   ·rename_i ex;injection hp' with hp';subst hp';subst ex
    exact⟨pl,hp,rfl,rfl,fun q=>absurd q (hv2 h2 r hr')⟩
   split at hp'
   ·rename_i ex;subst ex;exact absurd hm (hfr.2.1 h2 r hr')
   cases hp')
  (fun x p hp' =>by
   split at hp'
   ·rename_i ex;injection hp' with hp';subst hp';subst ex
    exact .inl ⟨pl,hp,rfl,rfl⟩
   split at hp'
   ·rename_i ex;subst ex;exact .inr hfr.2.2.2
   cases hp')
 exact⟨K,_,hst⟩
theorem YY {h i j h' e k e' k' :Nat}{xs:List (List bX)}{row:List bX}{ys:List (List bX)}(hr:bL rs h=some (.hole e k xs i j h'))(hr' :bL rs h' =some (.arr e' k' true ys))(hx:xs[i]? =some row)(hv:AP sl rs h=true)
 (hg:Aq A w0 N (mk sl rs) a w):Aq A w0 N ((mk sl rs).apply none ⟨.no,[h,h'],[(h,.arr e k true (xs.set i (row.take j++ .sl e' k' ys::row.drop (j+1))))]⟩) a w:=by
 obtain⟨K,φ,hG⟩:=hg;obtain⟨pl,hp,xs1,x1,d,x2,xs2,css1,c1,v,c2,css2,Fs1,F1,F2,Fs2,e0,e1,e2,e3,h1,h2,h3,h4,h5,h6,h7,h8⟩:=hG.dom h _ hr;obtain⟨pl',hp',css',Fs',q1,q2,q3,q4⟩:=hG.dom h' _ hr';have hvv:=h8.2 pl' hp';have hne:h≠h' :=fun q=>by subst q;rw[hr] at hr';cases hr'
 have erow:row=x1++d::x2:=by
  rw[e0,aD8 aGR] at hx;simp[e1] at hx;exact hx.symm
 have eset:xs.set i (row.take j++ .sl e' k' ys::row.drop (j+1))=xs1++(x1++ .sl e' k' ys::x2)::xs2:=by
  rw[e0,List.set_append_right _ _ aGR,erow,<-e2];simp[e1]
 have hdis:=hG.disj h h' pl pl' hne hp hp'
 let p1:Pl:=⟨pl.val,pl.top,Fs1.flatten++((F1++(pl'.F++F2))++Fs2.flatten)⟩
 have hperm:p1.F.Perm (pl.F++pl'.F):=by
  simp only[p1,Pl.F,h3];refine(List.perm_iff_count).2 fun x=>?_;simp only[List.count_append];omega
 have hmem: ∀g,g∈p1.F->g∈pl.F\/g∈pl'.F:=fun g hg=>by
  have:=hperm.mem_iff.1 hg;simpa using this
 have hnd:p1.F.Nodup:=hperm.nodup_iff.2 (by
  rw[aFH];exact⟨hG.nodup h pl hp,hG.nodup h' pl' hp',fun x hx y hy exy=>by subst exy;exact hdis x hx hy⟩)
 obtain⟨hv1,hv2⟩:=A2 hv
 have hst:=hG.stepV (C:=(· ∈[h,h'])) (φr:=fun x=>if x=h then some p1 else none) (ρ:=bF [(h,.arr e k true (xs.set i (row.take j++ .sl e' k' ys::row.drop (j+1))))]) (K' :=K) (w' :=w)
  ⟨rfl,rfl,rfl,aFC _,fun _ _ _=>rfl⟩
  (fun x p hp1=>by
   split at hp1
   ·injection hp1 with hp1;subst hp1
    refine⟨hnd,fun g hg=>?_⟩;rcases hmem g hg with q | q
    ·exact⟨(hG.ge h pl hp g q).2,.inr ⟨h,pl,by simp,hp,q⟩⟩
    exact⟨(hG.ge h' pl' hp' g q).2,.inr ⟨h',pl',by simp,hp',q⟩⟩
   cases hp1)
  (fun x x' p p' hne' hp1 hp2 g hg hg' =>by
   split at hp1
   ·split at hp2
    ·rename_i a b;exact hne' (a.trans b.symm)
    cases hp2
   cases hp1)
  (fun x r hr2=>by
   simp only[bF] at hr2;split at hr2
   ·rename_i ex;injection hr2 with hr2;subst hr2
    rw[eset];refine⟨p1,by simp[ex],css1++(c1++v::c2)::css2,Fs1++(F1++(pl'.F++F2))::Fs2,?_,h2,by simp[p1],h4.append ?_⟩
    ·have:(xs1++(x1++bX.sl e' k' ys::x2)::xs2).length=xs.length:=by rw[e0];simp
     rw[this];exact h1
    unfold dB;refine⟨_,_,_,_,rfl,rfl,by rw[<-e3];simp,h5.join ?_,h7⟩;unfold dW;refine⟨v,c2,pl'.F,F2,rfl,rfl,?_,h6⟩;unfold sG;exact⟨css',Fs',by rw[hvv];exact q1,by rw[hvv];unfold Pl.F;rw[q2,q3],q4⟩
   cases hr2)
  (fun x hr2=>by
   simp only[bF] at hr2;split at hr2
   ·cases hr2
   rename_i ex;rw[if_neg ex])
  (fun _ h=>h) (fun _ h=> .inl h)
  (fun t x p hm hp1=>by
   split at hp1
   ·rename_i ex;injection hp1 with hp1;subst hp1;subst ex
    exact⟨pl,hp,rfl,rfl,fun q=>absurd q (hv1 t)⟩
   cases hp1)
  (fun h2 r x p _ hr2 hm hp1=>by
   split at hp1
   ·rename_i ex;injection hp1 with hp1;subst hp1;subst ex
    exact⟨pl,hp,rfl,rfl,fun q=>absurd q (hv2 h2 r hr2)⟩
   cases hp1)
  (fun x p hp1=>by
   split at hp1
   ·rename_i ex;injection hp1 with hp1;subst hp1;subst ex
    exact .inl ⟨pl,hp,rfl,rfl⟩
   cases hp1)
 exact⟨K,_,hst⟩
theorem WD {h i h' e k:Nat}{xs pre post:List (List bX)}{d0:bX}(hr:bL rs h=some (.hole e k xs i 0 h'))(hxs:xs=pre++[d0]::post)(hi:pre.length=i)(hv:AP sl rs h=true)
 (hg:Aq A w0 N (mk sl rs) a w):Aq A w0 N ((mk sl rs).apply none ⟨.no,[h],[(h,.arr e k true (pre++[.gone]::post))]⟩) a w:=by
 obtain⟨K,φ,hG⟩:=hg;obtain⟨pl,hp,xs1,x1,d,x2,xs2,css1,c1,v,c2,css2,Fs1,F1,F2,Fs2,e0,e1,e2,e3,h1,h2,h3,h4,h5,h6,h7,h8⟩:=hG.dom h _ hr;have ex1:x1= []:=aDE e2;subst ex1
 have epre:xs1=pre/\(([]:List bX)++d::x2)= [d0]/\xs2=post:=by
  rw[e0] at hxs;have hl:xs1.length=pre.length:=aGR
  have:=List.append_inj hxs hl;simp only[List.cons.injEq] at this;exact⟨this.1,this.2.1,this.2.2⟩
 obtain⟨rfl,er,rfl⟩:=epre;have ex2:x2= []:=by simpa using (List.cons.inj er).2
 subst ex2;unfold dW at h5 h6;obtain⟨rfl,rfl⟩:=h5;obtain⟨rfl,rfl⟩:=h6;have hcell:v.oneCell' =true:=h8.1;obtain⟨hv1,hv2⟩:=A2 hv
 have hst:=hG.stepV (C:=(· ∈[h])) (φr:=fun x=>if x=h then some pl else none) (ρ:=bF [(h,.arr e k true (xs1++[.gone]::xs2))]) (K' :=K) (w' :=w)
  ⟨rfl,rfl,rfl,aFC _,fun _ _ _=>rfl⟩
  (fun x p hp1=>by
   split at hp1
   ·injection hp1 with hp1;subst hp1
    exact⟨hG.nodup h pl hp,fun g hg=>⟨(hG.ge h pl hp g hg).2,.inr ⟨h,pl,by simp,hp,hg⟩⟩⟩
   cases hp1)
  (fun x x' p p' hne' hp1 hp2 g hg hg' =>by
   split at hp1
   ·split at hp2
    ·rename_i a b;exact hne' (a.trans b.symm)
    cases hp2
   cases hp1)
  (fun x r hr2=>by
   simp only[bF] at hr2;split at hr2
   ·rename_i ex;injection hr2 with hr2;subst hr2
    refine⟨pl,by simp[ex],css1++([]++v::[])::css2,Fs1++([]:List Nat)::Fs2,?_,h2,by rw[h3];simp,h4.append ?_⟩
    ·have:(xs1++[bX.gone]::xs2).length=xs.length:=by rw[e0];simp
     rw[this];exact h1
    unfold dB;refine⟨_,_,_,_,rfl,rfl,by rw[<-e3];simp,?_,h7⟩;unfold dW;refine⟨v,[],[],[],rfl,rfl,?_,?_⟩
    ·unfold sG;exact⟨hcell,rfl⟩
    unfold dW;exact⟨rfl,rfl⟩
   cases hr2)
  (fun x hr2=>by
   simp only[bF] at hr2;split at hr2
   ·cases hr2
   rename_i ex;rw[if_neg ex])
  (fun _ h=>h) (fun _ h=> .inl h)
  (fun t x p hm hp1=>by
   split at hp1
   ·rename_i ex;injection hp1 with hp1;subst hp1;subst ex
    exact⟨pl,hp,rfl,rfl,fun q=>absurd q (hv1 t)⟩
   cases hp1)
  (fun h2 r x p _ hr2 hm hp1=>by
   split at hp1
   ·rename_i ex;injection hp1 with hp1;subst hp1;subst ex
    exact⟨pl,hp,rfl,rfl,fun q=>absurd q (hv2 h2 r hr2)⟩
   cases hp1)
  (fun x p hp1=>by
   split at hp1
   ·rename_i ex;injection hp1 with hp1;subst hp1;subst ex
    exact .inl ⟨pl,hp,rfl,rfl⟩
   cases hp1)
 exact⟨K,_,hst⟩
theorem dB.rdRows {K:Nat->Prop}{w:World}{k:Nat}: ∀{xs:List (List bX)} {css:List (List Value)} {Fs:List (List Nat)},(∀g∈Fs.flatten,K g)->dB w k xs css Fs->fM K w k xs css
 | [],_,_,_,h=>by unfold dB at h;exact h.1
 | x::xs,_,_,hF,h=>by
   unfold dB at h;obtain⟨c,css',F,Fs',rfl,rfl,h1,h2,h3⟩:=h;exact⟨c,css',rfl,h1,dW.rd x c F (fun g hg=>hF g (by simp[hg])) h2,dB.rdRows (fun g hg=>hF g (by simp only[aE8,aCy];exact .inr hg)) h3⟩
theorem YZ {h e k:Nat}{xs:List (List bX)}(hr:bL rs h=some (.arr e k true xs))(hv:AP sl rs h=true)
 (hg:Aq A w0 N (mk sl rs) a w):Aq A w0 N ((mk sl rs).apply none ⟨.no,[h],[(h,.arr e k false xs)]⟩) a w:=by
 obtain⟨K,φ,hG⟩:=hg;obtain⟨pl,hp,css,Fs,q1,q2,q3,q4⟩:=hG.dom h _ hr;obtain⟨hv1,hv2⟩:=A2 hv
 let p1:Pl:=⟨pl.val,pl.top,[]⟩
 have hnd:=aFH.1 (hG.nodup h pl hp);have hF1: ∀g∈p1.F,g∈pl.top:=fun g hg=>by simpa [p1,Pl.F] using hg
 have hst:=hG.stepV (C:=(· ∈[h])) (φr:=fun x=>if x=h then some p1 else none) (ρ:=bF [(h,.arr e k false xs)]) (K' :=fun b=>K b\/b∈pl.sub) (w' :=w)
  ⟨rfl,rfl,rfl,aFC _,fun _ _ _=>rfl⟩
  (fun x p hp1=>by
   split at hp1
   ·injection hp1 with hp1;subst hp1
    refine⟨by simpa [p1,Pl.F] using hnd.1,fun g hg=>?_⟩;have hm:g∈pl.F:=aDG _ (hF1 g hg);exact⟨(hG.ge h pl hp g hm).2,.inr ⟨h,pl,by simp,hp,hm⟩⟩
   cases hp1)
  (fun x x' p p' hne' hp1 hp2 g hg hg' =>by
   split at hp1
   ·split at hp2
    ·rename_i a b;exact hne' (a.trans b.symm)
    cases hp2
   cases hp1)
  (fun x r hr2=>by
   simp only[bF] at hr2;split at hr2
   ·rename_i ex;injection hr2 with hr2;subst hr2
    exact⟨p1,by simp[ex],css,q1,q2,rfl,q4.rdRows fun g hg=> .inr (by rw[q3];exact hg)⟩
   cases hr2)
  (fun x hr2=>by
   simp only[bF] at hr2;split at hr2
   ·cases hr2
   rename_i ex;rw[if_neg ex])
  (fun _ hb=> .inl hb)
  (fun b hb=>by
   rcases hb with hb | hb
   ·exact .inl hb
   have hm:b∈pl.F:=aCX _ hb;refine .inr ⟨(hG.ge h pl hp b hm).2,.inr ⟨h,pl,by simp,hp,hm⟩,fun x p hp1 hb1=>?_⟩;split at hp1
   ·injection hp1 with hp1;subst hp1
    exact hnd.2.2 b (hF1 b hb1) b hb rfl
   cases hp1)
  (fun t x p hm hp1=>by
   split at hp1
   ·rename_i ex;injection hp1 with hp1;subst hp1;subst ex
    exact⟨pl,hp,rfl,rfl,fun q=>absurd q (hv1 t)⟩
   cases hp1)
  (fun h2 r x p _ hr2 hm hp1=>by
   split at hp1
   ·rename_i ex;injection hp1 with hp1;subst hp1;subst ex
    exact⟨pl,hp,rfl,rfl,fun q=>absurd q (hv2 h2 r hr2)⟩
   cases hp1)
  (fun x p hp1=>by
   split at hp1
   ·rename_i ex;injection hp1 with hp1;subst hp1;subst ex
    exact .inl ⟨pl,hp,rfl,rfl⟩
   cases hp1)
 exact⟨_,_,hst⟩
end
def Ya {A:Nat->Prop}{w0:Aa}{N:Nat}{sl:Sl}{rs:Rl}{a:Act}{w:World}{h ty:Nat}{cs ys:List AV}{hs:List Nat}(hr:bL rs h=some (.box ty cs))(hq:Sy rs cs=some (ys,hs))(hnd:(h::hs).Nodup)(hg:Aq A w0 N (mk sl rs) a w):Aq A w0 N ((mk sl rs).apply none ⟨.no,h::hs,[(h,.box ty ys)]⟩) a w:=by
 obtain⟨K,φ,hG⟩:=hg;obtain⟨pl,hp,g,vs,q1,q2,q3,q4⟩:=hG.dom h _ hr;have hne: ∀h0∈hs,h0≠h:=fun h0 hm e=>(List.nodup_cons.1 hnd).1 (e▸hm)
 have hst:=hG.step (C:=(· ∈h::hs)) (φr:=fun x=>if x=h then some pl else none) (ρ:=bF [(h,.box ty ys)]) (K' :=fun b=>K b\/jD φ (· ∈hs) b) (w' :=w)
  ⟨rfl,rfl,rfl,aFC _,fun _ _ _=>rfl⟩
  (fun x pl' e=>by
   split at e
   ·rename_i ex;injection e with e
    subst e;subst ex;exact⟨hG.nodup _ _ hp,fun b hb=>⟨(hG.ge _ _ hp b hb).2,.inr ⟨_,_,aFQ,hp,hb⟩⟩⟩
   cases e)
  (fun x x' pl1 pl2 hx e e' =>by
   split at e
   ·split at e'
    ·subst_vars;exact absurd rfl hx
    cases e'
   cases e)
  (fun x r e=>by
   simp only[bF] at e;split at e
   ·rename_i ex;injection e with e
    subst e;subst ex;exact⟨pl,by simp,g,vs,q1,q2,q3,Ob hG (fun _ hb=> .inl hb) hq (fun _ hb=> .inr hb) q4⟩
   cases e)
  (fun x e=>by
   simp only[bF] at e;split at e
   ·cases e
   rename_i ex;rw[if_neg ex])
  (fun _ hb=> .inl hb)
  (fun b hb=>by
   rcases hb with hb | hb
   ·exact .inl hb
   obtain⟨h0,pl0,hm,hp0,hb'⟩:=hb;refine .inr ⟨(hG.ge h0 pl0 hp0 b hb').2,.inr ⟨h0,pl0,aFR _ hm,hp0,hb'⟩,fun x pl' e=>?_⟩;split at e
   ·rename_i ex;injection e with e
    subst e;subst ex;exact hG.disj h0 x pl0 pl (hne h0 hm) hp0 hp b hb'
   cases e)
  (fun _ x pl' _ e=>by
   split at e
   ·rename_i ex;injection e with e
    subst e;subst ex;exact⟨hp,fun _ _=>rfl⟩
   cases e)
  (fun _ _ x pl' _ _ _ e=>by
   split at e
   ·rename_i ex;injection e with e
    subst e;subst ex;exact⟨hp,fun _ _=>rfl⟩
   cases e)
  (fun x pl' e=>by
   split at e
   ·rename_i ex;injection e with e
    subst e;subst ex;exact .inl hp
   cases e)
 exact⟨_,_,hst⟩
def gh1 (id:Nat)(sl:Sl)(rs:Rl)(t:T)(K:Rl->T->Prop):Prop:=match t with
 | .split rid h i j h' α enc l t=>(match Nat.beq rid id with
  | false=>K [] (.split rid h i j h' α enc l t)
  | true=>(match bL rs h with
   | some (.arr e k true xs)=>(match iT sl rs h' &&AP sl rs h with
     | true=>xs=l.map enc/\i<l.length/\ ∀x,l[i]? =some x->(match (enc x)[j]? with
       | some (.sl e' k' ys)=>K (rE [(h,.hole e k (l.map enc) i j h'),(h',.arr e' k' true ys)]++nL [h]) (t x)
       | _=>False)
     | false=>False)
   | _=>False))
 | .join rid h h' α enc l y t=>(match Nat.beq rid id with
  | false=>K [] (.join rid h h' α enc l y t)
  | true=>(match bL rs h with
   | some (.hole e k xs i j h2)=>(match bL rs h' with
     | some (.arr e' k' true ys)=>(match Nat.beq h2 h' &&AP sl rs h with
       | true=>xs=l.map enc/\i<l.length/\ ∀x,l[i]? =some x->(enc x).take j++ .sl e' k' ys::(enc x).drop (j+1)=enc (y x)/\K (rE [(h,.arr e k true ((l.set i (y x)).map enc))]++nL [h,h']) (t x)
       | false=>False)
     | _=>False)
   | _=>False))
 | .takeg rid h n h' α enc l t=>(match Nat.beq rid id with
  | false=>K [] (.takeg rid h n h' α enc l t)
  | true=>(match bL rs h with
   | some (.arr e k true xs)=>(match iT sl rs h' &&AP sl rs h with
     | true=>xs=List.replicate n [.gone]++l.map enc/\l≠[]/\ ∀x l',l=x::l' ->(match enc x with
       | .sl e' k' ys::[]=>K (rE [(h,.hole e k (List.replicate n [.gone]++(x::l').map enc) n 0 h'),(h',.arr e' k' true ys)]++nL [h]) (t x l')
       | _=>False)
     | false=>False)
   | _=>False))
 | .leave rid h n h' α enc x l t=>(match Nat.beq rid id with
  | false=>K [] (.leave rid h n h' α enc x l t)
  | true=>(match bL rs h with
   | some (.hole e k xs i j h2)=>(match Nat.beq j 0&&AP sl rs h with
     | true=>(match enc x with
       | _::[]=>xs=List.replicate n [.gone]++(x::l).map enc/\i=n/\K (rE [(h,.arr e k true (List.replicate (n+1) [.gone]++l.map enc))]++nL [h]) t
       | _=>False)
     | false=>False)
   | _=>False))
 | .shal rid h t=>(match Nat.beq rid id with
  | false=>K [] (.shal rid h t)
  | true=>(match bL rs h with
   | some (.arr e k true xs)=>(match AP sl rs h with
     | true=>K (rE [(h,.arr e k false xs)]++nL [h]) t
     | false=>False)
   | _=>False))
 | .stlb rid h t=>(match Nat.beq rid id with
  | false=>K [] (.stlb rid h t)
  | true=>(match bL rs h with
   | some (.box ty cs)=>(match Sy rs cs with
     | some q=>(match qI (h::q.2) with
       | true=>K (rE [(h,.box ty q.1)]++nL (h::q.2)) t
       | false=>False)
     | none=>False)
   | _=>False))
 | t=>K [] t
def QO {α β:Type}(f:α->β)(l:List α)(i:Nat)(x:α):(l.set i x).map f=(l.map f).set i (f x):=by rw[List.map_set]
def Yc {id:Nat}{sl:Sl}{rs:Rl}{t:T}{K:Rl->T->Prop}(h:gh1 id sl rs t K): ∃new t',(∀A w0 N a w,Aq A w0 N (mk sl rs) a w->Aq A w0 N (mk sl (new++rs)) a w)/\K new t' :=by
 unfold gh1 at h;split at h
 ·rename_i rid h0 i j h' α enc l t';split at h
  ·exact⟨[],_,fun _ _ _ _ _ h=>h,h⟩
  split at h
  ·rename_i e k xs hr;split at h
   ·rename_i hb;rw[aBB] at hb;obtain⟨rfl,hi,h⟩:=h;have hx:=aBP hi;have h:=h _ hx;split at h
    ·rename_i e' k' ys hj;refine⟨_,_,fun A w0 N a w hg=>?_,h⟩;have:=Mt hr (I8 hx) hj (iF hb.1) hb.2 hg;rw[nB] at this;rw[aD2];exact this
    cases h
   cases h
  cases h
 ·rename_i rid h0 h' α enc l y t';split at h
  ·exact⟨[],_,fun _ _ _ _ _ h=>h,h⟩
  split at h
  ·rename_i e k xs i j h2 hr;split at h
   ·rename_i e' k' ys hr';split at h
    ·rename_i hb;rw[aBB] at hb;have:=aBQ hb.1;subst this;obtain⟨rfl,hi,h⟩:=h;have hx:=aBP hi;obtain⟨h3,h4⟩:=h _ hx;refine⟨_,_,fun A w0 N a w hg=>?_,h4⟩;have:=YY hr hr' (I8 hx) hb.2 hg;rw[nB,h3,<-QO] at this;rw[aD2];exact this
    cases h
   cases h
  cases h
 ·rename_i rid h0 n h' α enc l t';split at h
  ·exact⟨[],_,fun _ _ _ _ _ h=>h,h⟩
  split at h
  ·rename_i e k xs hr;split at h
   ·rename_i hb;rw[aBB] at hb;obtain⟨rfl,hne,h⟩:=h;cases l with
    | nil=>exact absurd rfl hne
    | cons x l' =>
      have h:=h x l' rfl;split at h
      ·rename_i e' k' ys hj;refine⟨_,_,fun A w0 N a w hg=>?_,h⟩
       have hx:(List.replicate n [bX.gone]++(x::l').map enc)[n]? =some (enc x):=by
        rw[aD8 (by simp)];simp
       have:=Mt (j:=0) hr hx (by rw[hj];rfl) (iF hb.1) hb.2 hg;rw[nB] at this;rw[aD2];exact this
      cases h
   cases h
  cases h
 ·rename_i rid h0 n h' α enc x l t';split at h
  ·exact⟨[],_,fun _ _ _ _ _ h=>h,h⟩
  split at h
  ·rename_i e k xs i j h2 hr;split at h
   ·rename_i hb;simp only[aBB] at hb;have:=aBQ hb.1;subst this;split at h
    ·rename_i d0 hd;obtain⟨rfl,rfl,h4⟩:=h;refine⟨_,_,fun A w0 N a w hg=>?_,h4⟩;have:=WD (pre:=List.replicate i [bX.gone]) (post:=l.map enc) (d0:=d0) hr (by rw[aDH,hd]) (by simp) hb.2 hg;rw[nB] at this;rw[aD2]
     have e2:List.replicate (i+1) [bX.gone]++l.map enc=List.replicate i [bX.gone]++[bX.gone]::l.map enc:=by
      rw[List.replicate_succ',aD2];rfl
     rw[e2];exact this
    cases h
   cases h
  cases h
 ·rename_i rid h0 t';split at h
  ·exact⟨[],_,fun _ _ _ _ _ h=>h,h⟩
  split at h
  ·rename_i e k xs hr;split at h
   ·rename_i hb;refine⟨_,_,fun A w0 N a w hg=>?_,h⟩;have:=YZ hr hb hg;rw[nB] at this;rw[aD2];exact this
   cases h
  cases h
 ·rename_i rid h0 t';split at h
  ·exact⟨[],_,fun _ _ _ _ _ h=>h,h⟩
  split at h
  ·rename_i ty cs hr;split at h
   ·rename_i q hq;split at h
    ·rename_i hn;refine⟨_,_,fun A w0 N a w hg=>?_,h⟩;have:=Ya hr (ys:=q.1) (hs:=q.2) (by rw[hq]) (xM hn) hg;rw[nB] at this;rw[aD2];exact this
    cases h
   cases h
  cases h
 exact⟨[],t,fun _ _ _ _ _ h=>h,h⟩
def gsW (id:Nat)(sl:Sl)(rs:Rl)(t:T)(K:Sl->Rl->T->Prop):Prop:=match t with
 | t=>K [] [] t
def aEQ {id:Nat}{sl:Sl}{rs:Rl}{t:T}{K:Sl->Rl->T->Prop}(h:gsW id sl rs t K): ∃n1 n2 t',(∀A w0 N a w,Aq A w0 N (mk sl rs) a w->Aq A w0 N (mk (n1++sl) (n2++rs)) a w)/\K n1 n2 t' :=by
 unfold gsW at h;exact⟨[],[],_,fun _ _ _ _ _ h=>h,h⟩
def ghW (id:Nat)(sl:Sl)(rs:Rl)(t:T)(K:Rl->T->Prop):Prop:=gh1 id sl rs t fun n1 t=>gh1 id sl (n1++rs) t fun n2 t=>K (n2++n1) t
def aER {id:Nat}{sl:Sl}{rs:Rl}{t:T}{K:Rl->T->Prop}(h:ghW id sl rs t K): ∃new t',(∀A w0 N a w,Aq A w0 N (mk sl rs) a w->Aq A w0 N (mk sl (new++rs)) a w)/\K new t' :=by
 unfold ghW at h;obtain⟨n1,t1,h1,h⟩:=Yc h;obtain⟨n2,t2,h2,h⟩:=Yc h;exact⟨n2++n1,t2,fun A w0 N a w hg=>by rw[aD2];exact h2 A w0 N a w (h1 A w0 N a w hg),h⟩
def roP:List AV->List bX->Prop->Prop
 | [],row,K=>(match row with | []=>K | _=>False)
 | c::cs,row,K=>(match row with
   | []=>False
   | x::row=>(match c with
     | .p none y=>SZ y x/\roP cs row K
     | .nil=>(match x with | .sl _ _ ys=>ys= []/\roP cs row K | _=>False)
     | _=>False))
theorem S6 {K:Prop}: ∀{cs:List AV} {row:List bX},roP cs row K->L9 cs row/\row.length=cs.length/\K
 | [],row,h=>by
   unfold roP at h;split at h
   ·exact⟨by unfold L9;rfl,rfl,h⟩
   cases h
 | c::cs,row,h=>by
   unfold roP at h;split at h
   ·cases h
   split at h
   ·obtain⟨h1,h2⟩:=h;obtain⟨q1,q2,q3⟩:=S6 h2;exact⟨by unfold L9;exact⟨_,by rw[h1.eq],q1⟩,by simp[q2],q3⟩
   ·split at h
    ·obtain⟨rfl,h2⟩:=h;obtain⟨q1,q2,q3⟩:=S6 h2;exact⟨by unfold L9;exact⟨_,_,_,rfl,q1⟩,by simp[q2],q3⟩
    cases h
   cases h
def UZ (tb:Tb)(rs:Rl)(ty:TypeId)(x y:AV)(t:T)(K:AV->List Nat->aGJ->T->Prop):Prop:=match dK tb.ty ty with
 | some (_,n,_,_)=>(match x with
   | .ep h k i off=>(match bL rs h with
     | some (.arr e k' false xs)=>(match Nat.beq k k' &&Au rs y&&Nat.beq (gJ y).length n with
       | true=>(match t with
         | .setr _ enc l f t=>xs=l.map enc/\i<l.length/\ ∀x,l[i]? =some x->off+n<=(enc x).length/\(enc x).take off++((enc (f x)).drop off).take n++(enc x).drop (off+n)=enc (f x)/\roP (gJ y) (((enc (f x)).drop off).take n) (K .no [h] [(h,.arr e k false ((l.set i (f x)).map enc))] (t x))
         | _=>False)
       | false=>False)
     | _=>False)
   | _=>False)
 | none=>False
def QP {P:Program}{tb:Tb}{sl:Sl}{rs:Rl}{o:Oper}{ty:TypeId}{x y:Operand}{t:T}{K:AV->List Nat->aGJ->T->Prop}(hT:oC P tb)(ho:o.op= .store ty x y)(h:UZ tb rs ty (eA sl x) (eA sl y) t K): ∃v del new t',bP P o (mk sl rs) ⟨v,del,new⟩/\K v del new t' :=by
 unfold UZ at h;split at h
 ·rename_i ag n bt z hq;have hq:=dY hT.ty hq;split at h
  ·rename_i h0 k i off hx;split at h
   ·rename_i e k' xs hr;split at h
    ·rename_i hb;simp only[aBB] at hb;obtain⟨⟨b1,b2⟩,b5⟩:=hb;have b1:=aBQ b1;subst b1;split at h
     ·rename_i enc l f t';obtain⟨rfl,hi,h⟩:=h;have hx' :=aBP hi;obtain⟨h1,h2,h3⟩:=h _ hx';obtain⟨h4,h5,h6⟩:=S6 h3;have hs:=Ir (P:=P) (o:=o) (S:=mk sl rs) ho hq (by rw[cU];exact hx) hr (I8 hx') (by rw[cU];exact Ek b2) (by rw[cU];exact h4) (h5.trans (aBQ b5)) h1;rw[h2,<-QO] at hs;exact⟨_,_,_,_,hs,h6⟩
     cases h
    cases h
   cases h
  cases h
 cases h
def aBm (N:Nat):Option Nat->Bool
 | none=>true
 | some d=>Nat.blt d N
theorem Ua {N:Nat}: ∀{o:Option Nat},aBm N o=true-> ∀d,o=some d->d<N
 | some d,h,_,rfl=>by simpa [aBm,Nat.blt_eq] using h
def brW (b:Bool)(t:T)(K:Bool->T->Prop):Prop:=match t with
 | .br t1 t2=>(b=true->K true t1)/\(b=false->K false t2)
 | .lit t=>(match b with | true=>K true t | false=>K false t)
 | .yes t=>b=true/\K true t
 | .no t=>b=false/\K false t
 | t=>(match b with | true=>K true t | false=>K false t)
def S7 {b:Bool}{t:T}{K:Bool->T->Prop}(h:brW b t K): ∃t',K b t' :=by
 unfold brW at h;split at h
 ·cases b with
  | true=>exact⟨_,h.1 rfl⟩
  | false=>exact⟨_,h.2 rfl⟩
 ·cases b with
  | true=>exact⟨_,h⟩
  | false=>exact⟨_,h⟩
 ·obtain⟨rfl,h⟩:=h;exact⟨_,h⟩
 ·obtain⟨rfl,h⟩:=h;exact⟨_,h⟩
 cases b with
 | true=>exact⟨_,h⟩
 | false=>exact⟨_,h⟩
def qL (pre:Sl)(s:Option Nat)(b:Bool):Sl:=match s with | some s=>(s,vB b)::pre | none=>pre
def gdW (N:Nat)(all:List Oper)(sl:Sl)(j:Nat)(want:Bool)(t:T)(K:Option Nat->Bool->T->Prop):Prop:=match all[j]? with
 | some o=>(match o.dst with
   | some dj=>(match Nat.blt dj N with
     | true=>(match cM sl dj with
       | .p none (.bool b)=>brW b t (fun b t=>K (some dj) b t)
       | .tup []=>K none (!want) t
       | _=>False)
     | false=>False)
   | none=>False)
 | none=>False
def JO {sl:Sl}{d:Nat}{v:AV}(h:cM sl d=v):cM ((d,v)::sl)=cM sl:=by
 funext t;simp only[cM];split
 ·rename_i e;rw[e,h]
 rfl
def aBn {sl:Sl}{rs:Rl}{d:Nat}{v:AV}(h:cM sl d=v):mk ((d,v)::sl) rs=mk sl rs:=by
 unfold mk;rw[JO h]
def Yd {N:Nat}{all:List Oper}{sl:Sl}{j:Nat}{want:Bool}{t:T}{K:Option Nat->Bool->T->Prop}(h:gdW N all sl j want t K): ∃dj y b s t',(all.toArray[j]?).bind (·.dst)=some dj/\dj<N/\Xt (cM sl dj)=some y/\(b==want)=(y==some want)/\cM (qL sl s b)=cM sl/\K s b t' :=by
 unfold gdW at h;split at h
 ·rename_i o ho;split at h
  ·rename_i dj hd;split at h
   ·rename_i hN;split at h
    ·rename_i b hb;obtain⟨t',h⟩:=S7 h;exact⟨dj,some b,b,some dj,t',by simp[ho,hd],by simpa [Nat.blt_eq] using hN,Xu hb,rfl,JO hb,h⟩
    ·rename_i hb;exact⟨dj,none,!want,none,t,by simp[ho,hd],by simpa [Nat.blt_eq] using hN,by rw[hb];rfl,by cases want<;>rfl,rfl,h⟩
    cases h
   cases h
  cases h
 cases h
def rI (pre bs:Sl)(s:Option Nat)(b:Bool):qL (pre++bs) s b=qL pre s b++bs:=by cases s<;>rfl
def sW (pre bs:Sl)(d:Option Nat)(v:AV):sR pre d v++bs=sR (pre++bs) d v:=by cases d<;>rfl
def Ub (tb:Tb)(sl:Sl)(rs:Rl)(dst:Option Nat)(o:Op):Option (AV × Rl):=match dst with
 | some _=>(match o with
   | .fieldAddr s (.tmp t) f=>(match cM sl t with
     | .ptr h o' =>(match dK tb.fl s with | some l=>(match dK l f with | some q=>some (.ptr h (o' +q.1),[]) | none=>none) | none=>none)
     | _=>none)
   | .load ty (.tmp t)=>(match cM sl t with
     | .ptr h off=>(match Nat.beq h 99 with
       | true=>none
       | false=>(match bL rs h with
         | some (.box bt cs)=>(match dK tb.ty ty with
           | some (ag,n,_,_)=>(match ag with
             | true=>(match Nat.ble (off+n) cs.length with | true=>some (.agg ((cs.drop off).take n),[(h,some (.box bt cs))]) | false=>none)
             | false=>(match cs[off]? with | some v=>some (v,[(h,some (.box bt cs))]) | none=>none))
           | none=>none)
         | _=>none))
     | _=>none)
   | .move (.tmp t)=>(match cM sl t with
     | .ptr h o' =>some (.ptr h o',[])
     | _=>none)
   | _=>none)
 | none=>none
def JP {P:Program}{tb:Tb}{sl:Sl}{rs:Rl}{o:Oper}{v:AV}{b:Rl}{i:Nat}(hT:oC P tb)(h:Ub tb sl rs o.dst o.op=some (v,b)):DN P (oR i o sl v b)/\ ∀k∈b.map (·.1),bL rs k=bL ((99,none)::b) k:=by
 obtain⟨dst,op,ty,pos,aft,gd⟩:=o;unfold Ub at h
 dsimp only at h
 split at h
 ·split at h
  ·rename_i s t f;split at h
   ·rename_i hh o' hx;split at h
    ·rename_i l hl;split at h
     ·rename_i q hq;injection h with h
      injection h with h1 h2
      subst h1;subst h2;refine⟨⟨fun e=>by simp[jF.fr,oR] at e,fun _ S hS _=>?_⟩,by simp⟩;have hf:=dY (dY hT.fl hl) hq;have hs:=hS t (by simp[oR,pP,tM,opL]);refine xI rfl hf ?_;show S.slots t=_;rw[hs];simp only[oR,pP,opL,tM,cM,if_true];exact hx
     cases h
    cases h
   cases h
  ·rename_i ty' t;split at h
   ·rename_i hh off hx;split at h
    ·cases h
    rename_i h99;have h99: ¬hh=99:=fun e=>by rw[e] at h99;cases h99
    have fnd: ∀r:Option Rs,bL [(99,none),(hh,r)] hh=r:=fun r=>by
     simp only[bL];simp[h99]
    have key: ∀S:St,(∀u∈(pP (.load ty' (.tmp t)) sl).map (·.1),S.slots u=cM (pP (.load ty' (.tmp t)) sl) u)->S.slots t= .ptr hh off:=fun S hS=>by
     rw[hS t (by simp[pP,tM,opL])];simp only[pP,opL,tM,cM,if_true];exact hx
    split at h
    ·rename_i bt cs hr;split at h
     ·rename_i ag n bt' z hq;have hq:=dY hT.ty hq;split at h
      ·split at h
       ·rename_i hn;injection h with h
        injection h with h1 h2
        subst h1;subst h2;refine⟨⟨fun e=>by simp[jF.fr,oR] at e,fun _ S hS hR=>?_⟩,fun k hk=>?_⟩
        ·exact Ak rfl hq (key S hS) (by rw[hR hh (by simp[oR,jF.T,jF.fr])];exact fnd _) (aBF hn)
        simp only[aDH,List.map_nil,aFU] at hk;rw[hk,fnd,hr]
       cases h
      split at h
      ·rename_i y hy;injection h with h
       injection h with h1 h2
       subst h1;subst h2;refine⟨⟨fun e=>by simp[jF.fr,oR] at e,fun _ S hS hR=>?_⟩,fun k hk=>?_⟩
       ·exact AN rfl hq (key S hS) (by rw[hR hh (by simp[oR,jF.T,jF.fr])];exact fnd _) hy
       simp only[aDH,List.map_nil,aFU] at hk;rw[hk,fnd,hr]
      cases h
     cases h
    cases h
   cases h
  ·rename_i t;split at h
   ·rename_i hh o' hx;injection h with h
    injection h with h1 h2
    subst h1;subst h2;refine⟨⟨fun e=>by simp[jF.fr,oR] at e,fun _ S hS _=>?_⟩,by simp⟩;have hs:=hS t (by simp[oR,pP,tM,opL])
    have hv:S.slots t= .ptr hh o' :=by
     rw[hs];simp only[oR,pP,opL,tM,cM,if_true];exact hx
    show bP P _ S ⟨.ptr hh o',[],[]⟩;rw[<-hv];exact DJ (x:= .tmp t) (.inl rfl)
   cases h
  cases h
 cases h
def opX (P:Program)(tb:Tb)(sl:Sl)(rs:Rl)(dst:Option Nat)(o:Op)(t:T)(K:AV->List Nat->aGJ->T->Prop):Prop:=match t with
 | .callx fs ri ren rv ro t=>(match dst with
   | some d=>(match o with
     | .call ⟨.value x,⟨args⟩,_⟩=>(match eA sl x with
       | .fn f caps=>A1 P sl rs d f (args.map (eA sl)++caps) (.callx fs ri ren rv ro t) K
       | _=>False)
     | o=>Sa P tb sl rs (some d) o (.callx fs ri ren rv ro t) K)
   | none=>Sa P tb sl rs none o (.callx fs ri ren rv ro t) K)
 | .callxs fs ri ren rv ro t=>(match dst with
   | some d=>(match o with
     | .call ⟨.value x,⟨args⟩,_⟩=>(match eA sl x with
       | .fn f caps=>A1 P sl rs d f (args.map (eA sl)++caps) (.callxs fs ri ren rv ro t) K
       | _=>False)
     | o=>Sa P tb sl rs (some d) o (.callxs fs ri ren rv ro t) K)
   | none=>Sa P tb sl rs none o (.callxs fs ri ren rv ro t) K)
 | .setr α enc l y t=>(match dst with
   | none=>(match o with
     | .store ty x z=>UZ tb rs ty (eA sl x) (eA sl z) (.setr α enc l y t) K
     | _=>False)
   | some d=>Sa P tb sl rs (some d) o (.setr α enc l y t) K)
 | t=>Sa P tb sl rs dst o t K
def Ye {P:Program}{tb:Tb}{sl:Sl}{rs:Rl}{o:Oper}{t:T}{K:AV->List Nat->aGJ->T->Prop}(hT:oC P tb)(h:opX P tb sl rs o.dst o.op t K): ∃v del new t',Ah P o (mk sl rs) ⟨v,del,new⟩/\K v del new t' :=by
 have plain: ∀t,Sa P tb sl rs o.dst o.op t K-> ∃v del new t',Ah P o (mk sl rs) ⟨v,del,new⟩/\K v del new t' :=fun t h=>by
  obtain⟨v,del,new,t',h1,h2⟩:=YP hT h;exact⟨v,del,new,t',h1.to0,h2⟩
 obtain⟨dst,op,ty,pos,aft,gd⟩:=o;unfold opX at h
 dsimp only at h plain
 split at h
 ·split at h
  ·split at h
   ·split at h
    ·rename_i hx;exact Ms (fun hc=>xN rfl hc hx) h
    cases h
   exact plain _ h
  exact plain _ h
 ·split at h
  ·split at h
   ·split at h
    ·rename_i hx;exact Ms (fun hc=>xN rfl hc hx) h
    cases h
   exact plain _ h
  exact plain _ h
 ·split at h
  ·split at h
   ·obtain⟨v,del,new,t',h1,h2⟩:=QP (P:=P) (sl:=sl) (o:=⟨none,.store _ _ _,ty,pos,aft,gd⟩) hT rfl h;exact⟨v,del,new,t',h1.to0,h2⟩
   cases h
  exact plain _ h
 exact plain _ h
def opD (P:Program)(tb:Tb)(sl:Sl)(rs:Rl)(dst:Option Nat)(o:Op)(t:T)(K:AV->List Nat->aGJ->T->Prop):Prop:=match t with
 | .callx fs ri ren rv ro t=>(match dst with
   | some d=>(match o with
     | .call ⟨.value x,⟨args⟩,_⟩=>(match eA sl x with
       | .fn f caps=>(match S5 ri ren ro with
         | true=>A1 P sl rs d f (args.map (eA sl)++caps) (.callx fs ri ren rv ro t) K
         | false=>False)
       | _=>False)
     | o=>Sa P tb sl rs (some d) o (.callx fs ri ren rv ro t) K)
   | none=>Sa P tb sl rs none o (.callx fs ri ren rv ro t) K)
 | .callxs fs ri ren rv ro t=>(match dst with
   | some d=>(match o with
     | .call ⟨.value x,⟨args⟩,_⟩=>(match eA sl x with
       | .fn f caps=>(match S5 ri ren ro with
         | true=>A1 P sl rs d f (args.map (eA sl)++caps) (.callxs fs ri ren rv ro t) K
         | false=>False)
       | _=>False)
     | o=>Sa P tb sl rs (some d) o (.callxs fs ri ren rv ro t) K)
   | none=>Sa P tb sl rs none o (.callxs fs ri ren rv ro t) K)
 | .setr α enc l y t=>(match dst with
   | none=>(match o with
     | .store ty x z=>UZ tb rs ty (eA sl x) (eA sl z) (.setr α enc l y t) K
     | _=>False)
   | some d=>Sa P tb sl rs (some d) o (.setr α enc l y t) K)
 | t=>Sa P tb sl rs dst o t K
def Yf {P:Program}{tb:Tb}{sl:Sl}{rs:Rl}{o:Oper}{t:T}{K:AV->List Nat->aGJ->T->Prop}(hT:oC P tb)(h:opD P tb sl rs o.dst o.op t K): ∃v del new t',bP P o (mk sl rs) ⟨v,del,new⟩/\K v del new t' :=by
 have plain: ∀t,Sa P tb sl rs o.dst o.op t K-> ∃v del new t',bP P o (mk sl rs) ⟨v,del,new⟩/\K v del new t' :=fun t h=>YP hT h;obtain⟨dst,op,ty,pos,aft,gd⟩:=o;unfold opD at h
 dsimp only at h plain
 split at h
 ·split at h
  ·split at h
   ·split at h
    ·rename_i hx;split at h
     ·rename_i hb;exact JN (fun hc=>xN rfl hc hx) h hb
     cases h
    cases h
   exact plain _ h
  exact plain _ h
 ·split at h
  ·split at h
   ·split at h
    ·rename_i hx;split at h
     ·rename_i hb;exact JN (fun hc=>xN rfl hc hx) h hb
     cases h
    cases h
   exact plain _ h
  exact plain _ h
 ·split at h
  ·split at h
   ·exact QP hT rfl h
   cases h
  exact plain _ h
 exact plain _ h
section
variable (P:Program) (tb:Tb) (N:Nat)
def S8 (all:List Oper)(bs:Sl)(br:Rl):List Oper->Sl->Rl->T->(Sl->Rl->T->Prop)->Prop
 | [],pre,prr,t,K=>K pre prr t
 | o::rest,pre,prr,t,K=>(match aBm N o.dst with
   | false=>False
   | true=>(match o.guard with
     | none=>opX P tb (pre++bs) (prr++br) o.dst o.op t (fun v del new t=>S8 all bs br rest (sR pre o.dst v) (rE new++(nL del++prr)) t K)
     | some (j,want)=>gdW N all (pre++bs) j want t (fun dj b t=>(match b==want with
       | true=>opX P tb (qL (pre++bs) dj b) (prr++br) o.dst o.op t (fun v del new t=>S8 all bs br rest (sR (qL pre dj b) o.dst v) (rE new++(nL del++prr)) t K)
       | false=>S8 all bs br rest (sR (qL pre dj b) o.dst (.tup [])) prr t K))))
def Ep (all:List Oper)(bs:Sl)(br:Rl):Nat->List Oper->Sl->Rl->List jF->T->(Sl->Rl->List jF->T->Prop)->Prop
 | _,[],pre,prr,acc,t,K=>K pre prr acc t
 | i,o::rest,pre,prr,acc,t,K=>(match aBm N o.dst with
   | false=>False
   | true=>(match o.guard with
     | none=>(match Ub tb (pre++bs) (prr++br) o.dst o.op with
      | some (v,b)=>Ep all bs br (i+1) rest (sR pre o.dst v) prr (oR i o (pre++bs) v b::acc) t K
      | none=>opD P tb (pP o.op (pre++bs)) (AO o.op (pre++bs) (prr++br)) o.dst o.op t (fun v del new t=>(match tOk (nM i o (pre++bs) (prr++br) v del new) (prr++br) with
       | true=>Ep all bs br (i+1) rest (sR pre o.dst v) (rE new++(nL del++prr)) (nM i o (pre++bs) (prr++br) v del new::acc) t K
       | false=>False)))
     | some (j,want)=>gdW N all (pre++bs) j want t (fun dj b t=>(match b==want with
       | true=>(match Ub tb (qL (pre++bs) dj b) (prr++br) o.dst o.op with
        | some (v,b')=>Ep all bs br (i+1) rest (sR (qL pre dj b) o.dst v) prr (oR i o (qL (pre++bs) dj b) v b' ::acc) t K
        | none=>opD P tb (pP o.op (qL (pre++bs) dj b)) (AO o.op (qL (pre++bs) dj b) (prr++br)) o.dst o.op t (fun v del new t=>(match tOk (nM i o (qL (pre++bs) dj b) (prr++br) v del new) (prr++br) with
         | true=>Ep all bs br (i+1) rest (sR (qL pre dj b) o.dst v) (rE new++(nL del++prr)) (nM i o (qL (pre++bs) dj b) (prr++br) v del new::acc) t K
         | false=>False)))
       | false=>Ep all bs br (i+1) rest (sR (qL pre dj b) o.dst (.tup [])) prr (⟨i,o,true,[],[],⟨.no,[],[]⟩⟩::acc) t K))))
end
section
variable {P:Program} {tb:Tb} {N:Nat} {all:List Oper} {bs:Sl} {br:Rl}
theorem IA (new:aGJ)(del:List Nat)(prr br:Rl):rE new++(nL del++(prr++br))=(rE new++(nL del++prr))++br:=by simp
theorem IB (hT:oC P tb){K:Sl->Rl->T->Prop}: ∀(l:List Oper) (pre:Sl) (prr:Rl) (t:T),S8 P tb N all bs br l pre prr t K->Xv P N all.toArray l (mk (pre++bs) (prr++br)) (fun S=> ∃pre' prr' t',S=mk (pre' ++bs) (prr' ++br)/\K pre' prr' t')
 | [],pre,prr,t,h=>by unfold Xv;unfold S8 at h;exact⟨pre,prr,t,rfl,h⟩
 | o::rest,pre,prr,t,h=>by
   unfold S8 at h;split at h
   ·cases h
   rename_i hd;have hd:=Ua hd;unfold Xv;refine⟨hd,?_⟩;split at h
   ·rename_i hg;rw[hg];obtain⟨v,del,new,t',hs,h⟩:=Ye hT h;refine⟨_,hs,?_⟩;rw[nB,<-sW,IA];exact IB hT rest _ _ _ h
   rename_i j want hg;rw[hg];obtain⟨dj,y,b,s,t',h1,h2,h3,h4,h5,h⟩:=Yd h;have h6:mk (qL (pre++bs) s b) (prr++br)=mk (pre++bs) (prr++br):=by unfold mk;rw[h5]
   refine⟨dj,y,h1,h2,h3,fun e=>?_,fun e=>?_⟩
   ·rw[e] at h4;split at h
    ·obtain⟨v,del,new,t',hs,h⟩:=Ye hT h;rw[h6] at hs;refine⟨_,hs,?_⟩;rw[<-h6,nB,rI,<-sW,IA];exact IB hT rest _ _ _ h
    rename_i hb;rw[hb] at h4;simp at h4
   split at h
   ·rename_i hb;rw[hb] at h4;exact absurd (by simpa using h4.symm) e
   rw[<-h6,UR,rI,<-sW];exact IB hT rest _ _ _ h
theorem sX {sl sl' :Sl}(h:cM sl=cM sl'): ∀(l:List Operand),tM sl l=tM sl' l
 | []=>rfl
 | .tmp t::l=>by simp only[tM,h,sX h l]
 | .const _::l=>sX h l
 | .func _::l=>sX h l
 | .global _::l=>sX h l
theorem sY {sl sl' :Sl}(h:cM sl=cM sl')(o:Op):pP o sl=pP o sl' :=sX h _
theorem A3 {sl sl' :Sl}(h:cM sl=cM sl')(o:Op)(rs:Rl):AO o sl rs=AO o sl' rs:=by unfold AO;rw[sY h]
theorem A4 {sl sl' :Sl}(h:cM sl=cM sl')(i:Nat)(o:Oper)(rs:Rl)(v:AV)(del:List Nat)(new:aGJ):nM i o sl rs v del new=nM i o sl' rs v del new:=by unfold nM;rw[sY h,A3 h]
theorem JQ {sl sl' :Sl}(h:cM sl=cM sl')(i:Nat)(o:Oper)(v:AV)(b:Rl):oR i o sl v b=oR i o sl' v b:=by unfold oR;rw[sY h]
theorem rJ {sl sl' :Sl}(h:cM sl=cM sl')(d:Option Nat)(v:AV):cM (sR sl d v)=cM (sR sl' d v):=by
 cases d with
 | none=>exact h
 | some d=>funext t;simp only[sR,cM,h]
theorem rK {A:Array Oper}{K:St->List jF->Prop}: ∀(l:List Oper) (i:Nat) (sl sl' :Sl) (rs:Rl) (acc:List jF),cM sl=cM sl' ->sS P N A i l sl rs acc K->sS P N A i l sl' rs acc K
 | [],i,sl,sl',rs,acc,h,hd=>by unfold sS at*;unfold mk at*;rw[<-h];exact hd
 | o::rest,i,sl,sl',rs,acc,h,hd=>by
   unfold sS at*;obtain⟨h1,h2,h3⟩:=hd;refine⟨h1,h2,?_⟩
   have execF:(∃v b,DN P (oR i o sl v b)/\(∀k∈b.map (·.1),bL rs k=bL ((99,none)::b) k)/\sS P N A (i+1) rest (sR sl o.dst v) rs (oR i o sl v b::acc) K)-> ∃v b,DN P (oR i o sl' v b)/\(∀k∈b.map (·.1),bL rs k=bL ((99,none)::b) k)/\sS P N A (i+1) rest (sR sl' o.dst v) rs (oR i o sl' v b::acc) K:=fun ⟨v,b,q1,q0,q2⟩=>by
    rw[JQ h] at q1 q2;exact⟨v,b,q1,q0,rK rest _ _ _ _ _ (rJ h _ _) q2⟩
   have exec:(∃v del new,bP P o (mk (pP o.op sl) (AO o.op sl rs)) ⟨v,del,new⟩/\tOk (nM i o sl rs v del new) rs=true/\sS P N A (i+1) rest (sR sl o.dst v) (rE new++(nL del++rs)) (nM i o sl rs v del new::acc) K)->
    ∃v del new,bP P o (mk (pP o.op sl') (AO o.op sl' rs)) ⟨v,del,new⟩/\tOk (nM i o sl' rs v del new) rs=true/\sS P N A (i+1) rest (sR sl' o.dst v) (rE new++(nL del++rs)) (nM i o sl' rs v del new::acc) K:=fun ⟨v,del,new,q1,q2,q3⟩=>by
    refine⟨v,del,new,by rw[<-sY h,<-A3 h];exact q1,by rw[<-A4 h];exact q2,?_⟩;rw[<-A4 h];exact rK rest _ _ _ _ _ (rJ h _ _) q3
   split
   ·rename_i hg;rw[hg] at h3;exact h3.imp exec execF
   rename_i j want hg;rw[hg] at h3;obtain⟨d,b,q1,q2,q3,q4,q5⟩:=h3;exact⟨d,b,q1,q2,by rw[<-h];exact q3,fun e=>(q4 e).imp exec execF,fun e=>rK rest _ _ _ _ _ (rJ h _ _) (q5 e)⟩
theorem tW {A:Array Oper}{K K' :St->List jF->Prop}(hK: ∀S recs,K S recs->K' S recs): ∀(l:List Oper) (i:Nat) (sl:Sl) (rs:Rl) (acc:List jF),sS P N A i l sl rs acc K->sS P N A i l sl rs acc K'
 | [],i,sl,rs,acc,hd=>by unfold sS at*;exact hK _ _ hd
 | o::rest,i,sl,rs,acc,hd=>by
   unfold sS at*;obtain⟨h1,h2,h3⟩:=hd;refine⟨h1,h2,?_⟩;split
   ·rename_i hg;rw[hg] at h3;rcases h3 with ⟨v,del,new,q1,q2,q3⟩ | ⟨v,b,q1,q0,q2⟩
    ·exact .inl ⟨v,del,new,q1,q2,tW hK rest _ _ _ _ q3⟩
    exact .inr ⟨v,b,q1,q0,tW hK rest _ _ _ _ q2⟩
   rename_i j want hg;rw[hg] at h3;obtain⟨d,b,q1,q2,q3,q4,q5⟩:=h3;refine⟨d,b,q1,q2,q3,fun e=>?_,fun e=>tW hK rest _ _ _ _ (q5 e)⟩;rcases q4 e with ⟨v,del,new,p1,p2,p3⟩ | ⟨v,b',p1,p0,p2⟩
   ·exact .inl ⟨v,del,new,p1,p2,tW hK rest _ _ _ _ p3⟩
   exact .inr ⟨v,b',p1,p0,tW hK rest _ _ _ _ p2⟩
theorem QQ (hT:oC P tb){K:Sl->Rl->List jF->T->Prop}: ∀(l done:List Oper) (pre:Sl) (prr:Rl) (acc:List jF) (t:T),all=done++l->Ep P tb N all bs br done.length l pre prr acc t K->sS P N all.toArray done.length l (pre++bs) (prr++br) acc (fun S recs=> ∃pre' prr' acc' t',S=mk (pre' ++bs) (prr' ++br)/\recs=acc'.reverse/\K pre' prr' acc' t')
 | [],done,pre,prr,acc,t,e,h=>by unfold sS;unfold Ep at h;exact⟨pre,prr,acc,t,rfl,rfl,h⟩
 | o::rest,done,pre,prr,acc,t,e,h=>by
   unfold Ep at h;split at h
   ·cases h
   rename_i hd;have hd:=Ua hd;have hi:all.toArray[done.length]? =some o:=by rw[e];simp
   have e' :all=(done++[o])++rest:=by rw[e];simp
   have el:(done++[o]).length=done.length+1:=by simp
   have ih:=fun pre prr acc t=>QQ hT (K:=K) rest (done++[o]) pre prr acc t e';rw[el] at ih;unfold sS;refine⟨hi,hd,?_⟩;split at h
   ·rename_i hg;rw[hg];split at h
    ·rename_i v b' hv;refine .inr ⟨v,b',(JP hT hv).1,(JP (i:=0) hT hv).2,?_⟩;rw[<-sW];exact ih _ _ _ _ h
    obtain⟨v,del,new,t',hs,h⟩:=Yf hT h;split at h
    ·rename_i ht;refine .inl ⟨v,del,new,hs,ht,?_⟩;rw[<-sW,IA];exact ih _ _ _ _ h
    cases h
   rename_i j want hg;rw[hg];obtain⟨dj,y,b,s,t',h1,h2,h3,h4,hp,h⟩:=Yd h;refine⟨dj,y,h1,h2,h3,fun e=>?_,fun e=>?_⟩
   ·rw[e] at h4;split at h
    ·split at h
     ·rename_i v b' hv;have hs:=JP (i:=done.length) hT hv;rw[JQ hp] at hs h;refine .inr ⟨v,b',hs.1,hs.2,?_⟩;have:=ih _ _ _ _ h;rw[sW,<-rI] at this;exact rK _ _ _ _ _ _ (rJ hp _ _) this
     obtain⟨v,del,new,t',hs,h⟩:=Yf hT h;split at h
     ·rename_i ht;rw[sY hp,A3 hp] at hs;rw[A4 hp] at ht h;refine .inl ⟨v,del,new,hs,ht,?_⟩;have:=ih _ _ _ _ h;rw[sW,<-IA,<-rI] at this;exact rK _ _ _ _ _ _ (rJ hp _ _) this
     cases h
    rename_i hb;rw[hb] at h4;simp at h4
   split at h
   ·rename_i hb;rw[hb] at h4;exact absurd (by simpa using h4.symm) e
   have:=ih _ _ _ _ h;rw[sW,<-rI] at this;exact rK _ _ _ _ _ _ (rJ hp _ _) this
end
def sZ (W:List Nat):Sl:=W.map fun t=>(t,AV.no)
def oS (V:List Nat):Rl:=V.map fun h=>(h,none)
def gmF (ren:aGM)(hd:List Nat)(h:Nat):Option Nat:=match dK ren h with | some g=>some g | none=>(match hd.contains h with | true=>none | false=>some h)
def EqS (sl:Sl)(gm:Nat->Option Nat):Sl->Prop->Prop
 | [],K=>K
 | (t,x)::l,K=>pF gm x (cM sl t) (EqS sl gm l K)
def ME (rs:Rl)(gm:Nat->Option Nat):Rl->Prop->Prop
 | [],K=>K
 | (h,some r)::l,K=>(match gm h with
   | some g=>(match bL rs g with
     | some r' =>(match r with
       | .box t cs=>(match r' with | .box t' cs' =>Lr t' t (xO gm cs cs' (ME rs gm l K)) | _=>False)
       | .arr e k d xs=>EqR r' (.arr e k d xs) (ME rs gm l K)
       | .hole e k xs i j hp=>(match r' with | .hole e' k' xs' i' j' hp' =>(match Nat.beq e' e&&Nat.beq k' k&&Nat.beq j' j&&(match gm hp with | some q=>Nat.beq q hp' | none=>false) with | true=>xs' =xs/\i' =i/\ME rs gm l K | false=>False) | _=>False))
     | none=>False)
   | none=>(match r with | .arr _ _ _ xs=>[]=xs/\ME rs gm l K | _=>False))
 | (_,none)::_,_=>False
def Og (gm:Nat->Option Nat)(h:Nat):Bool:=match gm h with | some g=>Nat.beq g h | none=>false
def S9 (gm:Nat->Option Nat)(l:List Nat):Bool:=l.all (Og gm)
def A5 (rs:Rl):List Nat:=(rs.map (·.1)).filter fun h=>(bL rs h).isSome
def aES (gm:Nat->Option Nat)(l:List Nat):Bool:=l.all fun h=>l.all fun h' =>Nat.beq h h' || (match gm h with | none=>true | some g=>(match gm h' with | none=>true | some g' => !Nat.beq g g'))
def Uc (W V:List Nat)(gm:Nat->Option Nat)(pre:Sl)(prr:Rl)(b1:Sl)(b2:Rl)(hd:Rl):Bool:=
 hd.all (fun q=>Nat.ble 100 q.1 || Og gm q.1)&&pre.all (fun q=>W.contains q.1)&&prr.all (fun q=>V.contains q.1)&&b1.all (fun q=>W.contains q.1 || S9 gm (cZ (cM b1 q.1)))&&
 b2.all (fun q=>V.contains q.1 || (match bL b2 q.1 with | some r=>Og gm q.1&&S9 gm (kG r) | none=>true))&&aES gm (A5 (hd++b2))
def IC {gm:Nat->Option Nat}{h:Nat}(hx:Og gm h=true):gm h=some h:=by
 unfold Og at hx;split at hx
 ·rename_i g hg;rw[hg,aBQ hx]
 cases hx
def Ud {gm:Nat->Option Nat}{l:List Nat}{h:Nat}(hx:S9 gm l=true)(hm:h∈l):gm h=some h:=IC (aCS.1 hx h hm)
theorem TA {sl:Sl}{gm:Nat->Option Nat}{K:Prop}: ∀{l:Sl},EqS sl gm l K->(∀t x,(t,x)∈l-> ∃Q,pF gm x (cM sl t) Q)/\K
 | [],h=>⟨by simp,h⟩
 | (t,x)::l,h=>by
   unfold EqS at h;obtain⟨h3,h4⟩:=TA (QH _ _ _ h);refine⟨fun t' x' hm=>?_,h4⟩;rcases aDr.1 hm with e | hm
   ·injection e with e1 e2;subst e1;subst e2;exact⟨_,h⟩
   exact h3 t' x' hm
def aBo (rs:Rl)(gm:Nat->Option Nat)(h:Nat)(r:Rs):Prop:=
 (∀g,gm h=some g-> ∃r',bL rs g=some r' /\((r=r' /\Iv r=true)\/(∃t cs cs' Q,r= .box t cs/\r' = .box t cs' /\xO gm cs cs' Q)\/ ∃e k xs i j hp hp',r= .hole e k xs i j hp/\r' = .hole e k xs i j hp' /\gm hp=some hp'))/\(gm h=none-> ∃e k d,r= .arr e k d [])
theorem Oh {rs:Rl}{gm:Nat->Option Nat}{K:Prop}: ∀{l:Rl},ME rs gm l K->(∀h r,(h,r)∈l-> ∃r',r=some r' /\aBo rs gm h r')/\K
 | [],h=>⟨by simp,h⟩
 | (h,some r)::l,hh=>by
   unfold ME at hh
   have key:aBo rs gm h r->ME rs gm l K->(∀h' r0,(h',r0)∈(h,some r)::l-> ∃r',r0=some r' /\aBo rs gm h' r')/\K:=fun h1 h2=>by
    obtain⟨h3,h4⟩:=Oh h2;refine⟨fun t' x' hm=>?_,h4⟩;rcases aDr.1 hm with e | hm
    ·injection e with e1 e2;subst e1;subst e2;exact⟨r,rfl,h1⟩
    exact h3 t' x' hm
   split at hh
   ·rename_i g hg;split at hh
    ·rename_i r' hr;split at hh
     ·rename_i t cs;split at hh
      ·rename_i t' cs';obtain⟨e1,hq⟩:=hh.eq;refine key ⟨fun g' hg' =>?_,fun hn=>by rw[hg] at hn;cases hn⟩ (xP _ _ _ hq);rw[hg] at hg';injection hg' with hg';subst hg'
       exact⟨_,hr,.inr (.inl ⟨t,cs,cs',_,rfl,by rw[e1],hq⟩)⟩
      cases hh
     ·obtain⟨e1,hq⟩:=hh.eq;refine key ⟨fun g' hg' =>?_,fun hn=>by rw[hg] at hn;cases hn⟩ hq;rw[hg] at hg';injection hg' with hg';subst hg'
      exact⟨_,hr,.inl ⟨e1.symm,rfl⟩⟩
     split at hh
     ·rename_i e k xs i j hp _ e' k' xs' i' j' hp';split at hh
      ·rename_i hb;simp only[aBB] at hb;obtain⟨⟨⟨b1,b2⟩,b3⟩,b4⟩:=hb;split at b4
       ·rename_i q hq;obtain rfl:=aBQ b1;obtain rfl:=aBQ b2;obtain rfl:=aBQ b3;obtain rfl:=aBQ b4;obtain⟨rfl,rfl,hh⟩:=hh;refine key ⟨fun g' hg' =>?_,fun hn=>by rw[hg] at hn;cases hn⟩ hh;rw[hg] at hg';injection hg' with hg';subst hg'
        exact⟨_,hr,.inr (.inr ⟨_,_,_,_,_,_,_,rfl,rfl,hq⟩)⟩
       cases b4
      cases hh
     cases hh
    cases hh
   rename_i hg;split at hh
   ·obtain⟨e1,hq⟩:=hh;exact key ⟨fun g' hg' =>(by rw[hg] at hg';cases hg'),fun _=>⟨_,_,_,by rw[<-e1]⟩⟩ hq
   cases hh
 | (h,none)::l,hh=>by unfold ME at hh;cases hh
def Mu {o b:Sl}{t:Nat}:(∃x,(t,x)∈o/\cM (o++b) t=x)\/(t ∉ o.map (·.1)/\cM (o++b) t=cM b t):=by
 induction o with
 | nil=>exact .inr ⟨by simp,rfl⟩
 | cons q o ih=>
   obtain⟨k,v⟩:=q;simp only[List.cons_append,cM];by_cases e:t=k
   ·subst e;exact .inl ⟨v,by simp,by simp⟩
   rw[if_neg e];rcases ih with ⟨x,h1,h2⟩ | ⟨h1,h2⟩
   ·exact .inl ⟨x,by simp[h1],h2⟩
   exact .inr ⟨by simp only[aDH,aDr,not_or];exact⟨e,h1⟩,h2⟩
def F3 {o b:Rl}{t:Nat}:(∃x,(t,x)∈o/\bL (o++b) t=x)\/(t ∉ o.map (·.1)/\bL (o++b) t=bL b t):=by
 induction o with
 | nil=>exact .inr ⟨by simp,rfl⟩
 | cons q o ih=>
   obtain⟨k,v⟩:=q;simp only[List.cons_append,bL];by_cases e:t=k
   ·subst e;exact .inl ⟨v,by simp,by simp⟩
   rw[if_neg e];rcases ih with ⟨x,h1,h2⟩ | ⟨h1,h2⟩
   ·exact .inl ⟨x,by simp[h1],h2⟩
   exact .inr ⟨by simp only[aDH,aDr,not_or];exact⟨e,h1⟩,h2⟩
def JR {W:List Nat}{b:Sl}{t:Nat}:cM (sZ W++b) t=if t∈W then .no else cM b t:=by
 induction W with
 | nil=>simp[sZ]
 | cons w W ih=>
   simp only[sZ,aDH,List.cons_append,cM] at ih ⊢;rw[ih];by_cases e:t=w<;>simp[e]
def DT {W:List Nat}{b:Rl}{t:Nat}:bL (oS W++b) t=if t∈W then none else bL b t:=by
 induction W with
 | nil=>simp[oS]
 | cons w W ih=>
   simp only[oS,aDH,List.cons_append,bL] at ih ⊢;rw[ih];by_cases e:t=w<;>simp[e]
def WE {b:Sl}{t:Nat}(h:cM b t≠ .no):t∈b.map (·.1):=by
 induction b with
 | nil=>simp[cM] at h
 | cons q b ih=>
   obtain⟨k,v⟩:=q;simp only[cM] at h;by_cases e:t=k
   ·simp[e]
   rw[if_neg e] at h;simp[ih h]
def F4 {b:Rl}{t:Nat}{r:Rs}(h:bL b t=some r):t∈b.map (·.1):=by
 induction b with
 | nil=>simp[bL] at h
 | cons q b ih=>
   obtain⟨k,v⟩:=q;simp only[bL] at h;by_cases e:t=k
   ·simp[e]
   rw[if_neg e] at h;simp[ih h]
theorem QR {A:Nat->Prop}{w0:Aa}{N:Nat}{a:Act}{w:World}{W V:List Nat}{gm:Nat->Option Nat}{cur:Sl}{cur2:Rl}{b1:Sl}{b2:Rl}{o:Sl}{r:Rl}
 (k0: ∀q∈r,Nat.ble 100 q.1=true\/Og gm q.1=true) (k3: ∀q∈sZ W++b1,q.1∈W\/S9 gm (cZ (cM (sZ W++b1) q.1))=true) (k4: ∀q∈oS V++b2,q.1∈V\/ ∀r,bL (oS V++b2) q.1=some r->Og gm q.1=true/\S9 gm (kG r)=true)
 (k5:aES gm (A5 (r++(oS V++b2)))=true) (c1: ∀t,t ∉ W->cM cur t=cM (sZ W++b1) t) (c2: ∀h,h ∉ V->bL cur2 h=bL (oS V++b2) h)
 (h1: ∀t x,(t,x)∈o-> ∃Q,pF gm x (cM cur t) Q) (h2: ∀h x,(h,x)∈r-> ∃r',x=some r' /\aBo cur2 gm h r') (hG:Aq A w0 N (mk cur cur2) a w):Aq A w0 N (mk (o++(sZ W++b1)) (r++(oS V++b2))) a w:=by
 obtain⟨K,φ,hG⟩:=hG
 let S2:=r++(oS V++b2)
 let φ' :jS:=fun h=>match bL S2 h with | none=>none | some _=>(match gm h with | some g=>φ g | none=>some kH)
 have p1: ∀h g pl,gm h=some g->φ' h=some pl->φ g=some pl:=fun h g pl e e' =>by
  simp only[φ',e] at e';split at e'
  ·cases e'
  exact e'
 have p2: ∀h pl,gm h=none->φ' h=some pl->pl=kH:=fun h pl e e' =>by
  simp only[φ',e] at e';split at e'
  ·cases e'
  injection e' with e';exact e'.symm
 have p0: ∀h pl,φ' h=some pl-> ∃x,bL S2 h=some x:=fun h pl e=>by
  simp only[φ'] at e;split at e
  ·cases e
  rename_i x hx;exact⟨x,hx⟩
 have p3: ∀h pl,φ' h=some pl->(∃g,gm h=some g/\φ g=some pl)\/pl=kH:=fun h pl e=>by
  cases hl:gm h with
  | some g=>exact .inl ⟨g,rfl,p1 h g pl hl e⟩
  | none=>exact .inr (p2 h pl hl e)
 have live: ∀{h x},bL S2 h=some x->h∈A5 S2:=fun {h x} hx=>by
  unfold A5;rw[aGE];exact⟨F4 hx,by rw[hx];rfl⟩
 refine⟨K,φ',fun h x hx=>?_,fun h hx=>?_,fun h h' pl pl' hne e e' g hg=>?_,fun h pl e=>?_,fun h pl e=>?_,hG.kin,fun b hb h pl e=>?_,hG.aK,fun t=>?_,hG.bel,hG.nd,hG.size,fun h pl pl0 e e0=>?_⟩
 ·have hx' :bL S2 h=some x:=hx;rcases F3 (o:=r) (b:=oS V++b2) (t:=h) with ⟨y,q1,q2⟩ | ⟨_,q2⟩
  ·obtain⟨r',e1,q3,q4⟩:=h2 h y q1;have ex:r' =x:=by have:=hx';simp only[S2] at this;rw[q2,e1] at this;injection this
   subst ex;cases hl:gm h with
   | some g=>
     obtain⟨r2,hr2,q⟩:=q3 g hl;obtain⟨pl,hp,hh⟩:=hG.dom g r2 hr2;refine⟨pl,by simp only[φ',hx',hl];exact hp,?_⟩;rcases q with ⟨rfl,ha⟩ | ⟨t,cs,cs',Q,rfl,rfl,hq⟩ | ⟨e,k,xs,i,j,hp0,hp',rfl,rfl,hq⟩
     ·exact Holds.arrPhi ha hh
     ·obtain⟨g',vs',f1,f2,f3,f4⟩:=hh;exact⟨g',vs',f1,f2,f3,(Ay (φ' :=φ') p1 p2 _ _ _ _ hq f4).1⟩
     obtain⟨xs1,x1,d,x2,xs2,css1,c1,v,c2,css2,Fs1,F1,F2,Fs2,e0,e1,e2,e3,t1,t2,t3,t4,t5,t6,t7,t8⟩:=hh;exact⟨xs1,x1,d,x2,xs2,css1,c1,v,c2,css2,Fs1,F1,F2,Fs2,e0,e1,e2,e3,t1,t2,t3,t4,t5,t6,t7,t8.1,fun pl' e' =>t8.2 pl' (p1 hp0 hp' pl' hq e')⟩
   | none=>
     obtain⟨e,k,d,rfl⟩:=q4 hl;refine⟨kH,by simp only[φ',hx',hl],?_⟩;cases d with
     | true=>exact⟨[],[],World.ownsRow_nil w 0 e k,rfl,rfl,by unfold dB;exact⟨rfl,rfl⟩⟩
     | false=>exact⟨[],World.ownsRow_nil w 0 e k,rfl,rfl,rfl⟩
  have hb:bL (oS V++b2) h=some x:=by rw[<-q2];exact hx'
  obtain⟨q,hq,rfl⟩:=aE9.1 (F4 hb);have hv:q.1 ∉ V:=fun hv=>by rw[DT,if_pos hv] at hb;cases hb
  obtain⟨f1,f2⟩:=(k4 q hq).resolve_left hv x hb;obtain⟨pl,hp,hh⟩:=hG.dom q.1 x (by simp only[mk];rw[c2 _ hv];exact hb);refine⟨pl,by simp only[φ',hx',IC f1];exact hp,?_⟩;exact Holds.mono (fun _ _=>rfl) (fun _ h=>h) (fun _ _=>rfl) x (fun h3 pl3 hm3 e3=>⟨p1 h3 h3 pl3 (Ud f2 hm3) e3,fun _ _=>rfl⟩) hh
 ·have hx' :bL S2 h=none:=hx;simp only[φ',hx']
 ·rcases p3 h pl e with ⟨q,l1,e1⟩ | e1
  ·rcases p3 h' pl' e' with ⟨q',l1',e1'⟩ | e1'
   ·refine hG.disj q q' pl pl' (fun x=>?_) e1 e1' g hg;subst x;obtain⟨x,hx⟩:=p0 h pl e;obtain⟨x',hx'⟩:=p0 h' pl' e';have:=aCS.1 (aCS.1 k5 h (live hx)) h' (live hx');simp only[Bool.or_eq_true,l1,l1',Nat.beq_refl,Bool.not_true] at this;rcases this with q3 | q3
    ·exact hne (aBQ q3)
    cases q3
   rw[e1'];simp[kH,Pl.F]
  rw[e1] at hg;simp[kH,Pl.F] at hg
 ·rcases p3 h pl e with ⟨g,_,e⟩ | e
  ·exact hG.nodup g pl e
  rw[e];simp[kH,Pl.F]
 ·rcases p3 h pl e with ⟨g,_,e⟩ | e
  ·exact hG.ge g pl e
  rw[e];simp[kH,Pl.F]
 ·rcases p3 h pl e with ⟨g,_,e⟩ | e
  ·exact hG.kout b hb g pl e
  rw[e];simp[kH,Pl.F]
 ·simp only[mk];have hs:=hG.slots t;simp only[mk] at hs;rcases Mu (o:=o) (b:=sZ W++b1) (t:=t) with ⟨x,q1,q2⟩ | ⟨_,q2⟩
  ·rw[q2];obtain⟨Q,hQ⟩:=h1 t x q1;exact(Oc (φ' :=φ') p1 p2 _ _ _ _ hQ hs).1
  rw[q2];by_cases hn:cM (sZ W++b1) t= .no
  ·rw[hn];unfold aH;trivial
  obtain⟨q,hq,rfl⟩:=aE9.1 (WE hn);have hw:q.1 ∉ W:=fun hw=>hn (by rw[JR,if_pos hw]);have f:=(k3 q hq).resolve_left hw;rw[c1 _ hw] at hs;exact aH.mono (fun _ _=>rfl) (fun _ h=>h) _ _ (fun h3 pl3 hm3 e3=>⟨p1 h3 h3 pl3 (Ud f hm3) e3,fun _ _=>rfl⟩) hs
 obtain⟨x,hx⟩:=p0 h pl e;have hlt:=w0.dom h pl0 e0
 have hfx:gm h=some h:=by
  rcases F3 (o:=r) (b:=oS V++b2) (t:=h) with ⟨y,q1,q2⟩ | ⟨_,q2⟩
  ·rcases k0 _ q1 with q | q
   ·have:=aBF q;dsimp only at this;omega
   exact IC q
  have hb:bL (oS V++b2) h=some x:=by rw[<-q2];exact hx
  obtain⟨q,hq,rfl⟩:=aE9.1 (F4 hb);have hv:q.1 ∉ V:=fun hv=>by rw[DT,if_pos hv] at hb;cases hb
  exact IC ((k4 q hq).resolve_left hv x hb).1
 exact hG.pin h pl pl0 (p1 h h pl hfx e) e0
def Ue {W V:List Nat}{gm:Nat->Option Nat}{pre:Sl}{prr:Rl}{b1:Sl}{b2:Rl}{r:Rl}(hb:Uc W V gm pre prr b1 b2 r=true):(∀q∈r,Nat.ble 100 q.1=true\/Og gm q.1=true)/\(∀q∈pre,q.1∈W)/\(∀q∈prr,q.1∈V)/\(∀q∈b1,q.1∈W\/S9 gm (cZ (cM b1 q.1))=true)/\(∀q∈b2,q.1∈V\/ ∀r,bL b2 q.1=some r->Og gm q.1=true/\S9 gm (kG r)=true)/\aES gm (A5 (r++b2))=true:=by
 unfold Uc at hb;simp only[aBB,aCS,Bool.or_eq_true,List.contains_eq_mem,aFI] at hb;obtain⟨⟨⟨⟨⟨k0,k1⟩,k2⟩,k3⟩,k4⟩,k5⟩:=hb;refine⟨k0,k1,k2,k3,fun q hq=>(k4 q hq).imp id fun h r hr=>?_,k5⟩;rw[hr] at h;simpa using h
def Yg (rs:Rl)(hd:Rl):aGM:=(hd.filter fun q=>(bL rs q.1).isSome).map fun q=>(q.1,q.1)
def aET (sl:Sl)(c:Operand)(t:T)(K:Option Nat->Bool->T->Prop):Prop:=match c with
 | .tmp s=>(match cM sl s with | .p none (.bool b)=>brW b t (fun b t=>K (some s) b t) | _=>False)
 | .const (.bool b)=>brW b t (fun b t=>K none b t)
 | _=>False
def aBp {sl:Sl}{rs:Rl}{c:Operand}{t:T}{K:Option Nat->Bool->T->Prop}(h:aET sl c t K): ∃s b t',(mk sl rs).ev c= .p none (.bool b)/\(∀rs',mk (qL sl s b) rs' =mk sl rs')/\K s b t' :=by
 unfold aET at h;split at h
 ·rename_i s;split at h
  ·rename_i b hb;obtain⟨t',h⟩:=S7 h;exact⟨some s,b,t',hb,fun rs' =>aBn hb,h⟩
  cases h
 ·rename_i b;obtain⟨t',h⟩:=S7 h;exact⟨none,b,t',rfl,fun _=>rfl,h⟩
 cases h
def frc {α:Type}(n:Nat)(k:Nat->α):α:=match n with | 0=>k 0 | m+1=>k (m+1)
def aEU {α:Type}(n:Nat)(k:Nat->α):frc n k=k n:=by cases n<;>rfl
def bm:List Nat->Nat
 | []=>0
 | h::l=>Nat.lor (Nat.shiftLeft 1 h) (bm l)
def aBq (h:Nat):(Nat.shiftLeft 1 h).testBit h=true:=by
 show (1<<<h).testBit h=true;rw[Nat.testBit_shiftLeft];simp
def Yh {h j:Nat}(e:(Nat.shiftLeft 1 h).testBit j=true):j=h:=by
 have e:(1<<<h).testBit j=true:=e;rw[Nat.one_shiftLeft,Nat.testBit_two_pow] at e;simpa using (of_decide_eq_true e).symm
def ID (a b j:Nat):(Nat.lor a b).testBit j=(a.testBit j || b.testBit j):=Nat.testBit_or a b j
theorem A6: ∀{l:List Nat} {h:Nat},h∈l->(bm l).testBit h=true
 | a::l,h,hm=>by
   rw[bm,ID];rcases aDr.1 hm with rfl | q
   ·rw[aBq];rfl
   rw[A6 q];simp
structure Sm where
 d:Nat
 L:Nat
 W:Nat
 T:Nat
 M:Nat
 N:Nat
 R:Nat
def A7 (a b:Nat):Bool:=Nat.beq (Nat.land a b) 0
def aBr {a b:Nat}(h:A7 a b=true){j:Nat}(ha:a.testBit j=true):b.testBit j=false:=by
 have h1:a&&&b=0:=aBQ h;have h2:=Nat.testBit_and a b j;rw[h1,Nat.zero_testBit,ha,Bool.true_and] at h2;exact h2.symm
def CQ {a b:List Nat}{A B:Nat}(ha: ∀h∈a,A.testBit h=true)(hb: ∀h∈b,B.testBit h=true)(h:A7 A B=true):Ef a b=true:=by
 rw[Ef,aCS];intro x hx;have h1:=aBr h (ha x hx);rw[Bool.not_eq_true',List.contains_eq_mem,decide_eq_false_iff_not];intro hm;rw[hb x hm] at h1;cases h1
def Xh (acc:List Sm)(n:Nat):List Edge->Nat
 | []=>0
 | e::es=>(match Region.binds .any e with
   | true=>Nat.lor (Nat.shiftLeft 1 e.on) (Nat.lor (match acc[n - 1 - e.on]? with | some s=>s.R | none=>0) (Xh acc n es))
   | false=>Xh acc n es)
def aBs (y:Sm):Nat->List Sm->Bool
 | k+1,x::l=>(match A7 y.R (Nat.shiftLeft 1 k) with
  | false=>true
  | true=>A7 x.d (Nat.lor y.L y.d)&&A7 y.d x.L&&A7 x.W (Nat.lor y.T y.W)&&A7 y.W x.T&&A7 x.N y.M)&&A7 y.N x.M&&aBs y k l
 | _,_=>true
def aFS (n:Nat)(y:jF):Bool:=(y.o.after.toList.all fun e=> !Region.binds .any e || Nat.blt e.on n)&&(y.skip || y.e.new.all fun q=> !y.e.del.contains q.1 || (bL y.vr q.1).isSome)
def Uf (ops:Array Oper):Nat->List Sm->List jF->Bool
 | _,_,[]=>true
 | n,acc,y::l=>aFS n y&&frc (bm y.o.dst.toList) fun d=>frc (bm (y.looks ops)) fun L=>frc (bm y.W) fun W=>frc (bm y.T) fun T=>frc (Nat.lor (bm y.M) W) fun M=>frc (bm y.Nw) fun N=>frc (Xh acc n y.o.after.toList) fun R=>
  aBs ⟨d,L,W,T,M,N,R⟩ n acc&&Uf ops (n+1) (⟨d,L,W,T,M,N,R⟩::acc) l
structure aFT (ops:Array Oper) (s:Sm) (x:jF):Prop where
 d: ∀h∈x.o.dst.toList,s.d.testBit h=true
 L: ∀h∈x.looks ops,s.L.testBit h=true
 W: ∀h∈x.W,s.W.testBit h=true
 T: ∀h∈x.T,s.T.testBit h=true
 M: ∀h∈x.M++x.W,s.M.testBit h=true
 N: ∀h∈x.Nw,s.N.testBit h=true
 R: ∀j,s.R.testBit j=true->uH ops (x.i+1) j x.o.after=true
theorem DU {ops:Array Oper}: ∀{n m x:Nat} {es:Array Edge},n<=m->uH ops n x es=true->uH ops m x es=true
 | 0,_,_,_,_,h=>by simp[uH] at h
 | n+1,0,_,_,hm,_=>aGR
 | n+1,m+1,x,es,hm,h=>by
   rw[uH,Array.any_eq_true] at h ⊢;obtain⟨i,hi,h⟩:=h;refine⟨i,hi,?_⟩;rw[aBB,Bool.or_eq_true] at h ⊢;refine⟨h.1,h.2.imp id fun h=>?_⟩;split at h
   ·exact DU aGR h
   cases h
theorem Oi {acc:List Sm}{n j:Nat}: ∀{es:List Edge},(Xh acc n es).testBit j=true-> ∃e∈es,Region.binds .any e=true/\(e.on=j\/ ∃s,acc[n - 1 - e.on]? =some s/\s.R.testBit j=true)
 | [],h=>by simp[Xh] at h
 | e::es,h=>by
   rw[Xh] at h;split at h
   ·rename_i hb;rw[ID,ID,Bool.or_eq_true,Bool.or_eq_true] at h;rcases h with h | h | h
    ·exact⟨e,by simp,hb,.inl (Yh h).symm⟩
    ·split at h
     ·rename_i s hs;exact⟨e,by simp,hb,.inr ⟨s,hs,h⟩⟩
     simp at h
    obtain⟨e',he,h⟩:=Oi h;exact⟨e',by simp[he],h⟩
   obtain⟨e',he,h⟩:=Oi h;exact⟨e',by simp[he],h⟩
theorem Ug {y:Sm}: ∀{k:Nat} {l:List Sm},k=l.length->aBs y k l=true-> ∀j x,j<k->l[k - 1 - j]? =some x->((A7 y.R (Nat.shiftLeft 1 j)=false)\/(A7 x.d (Nat.lor y.L y.d)=true/\A7 y.d x.L=true/\A7 x.W (Nat.lor y.T y.W)=true/\A7 y.W x.T=true/\A7 x.N y.M=true))/\A7 y.N x.M=true
 | 0,l,_,_,j,x,hj,_=>aGR
 | k+1,[],hk,_,_,_,_,_=>by simp at hk
 | k+1,z::l,hk,h,j,x,hj,hx=>by
   rw[aBs,aBB,aBB] at h;obtain⟨⟨h1,h2⟩,h3⟩:=h;by_cases e:j=k
   ·subst e;rw[show j+1 - 1 - j=0 by omega] at hx;simp only[List.getElem?_cons_zero,Option.some.injEq] at hx;subst hx;refine⟨?_,h2⟩;split at h1
    ·rename_i q;exact .inl q
    simp only[aBB] at h1;exact .inr ⟨h1.1.1.1.1,h1.1.1.1.2,h1.1.1.2,h1.1.2,h1.2⟩
   rw[show k+1 - 1 - j=(k - 1 - j)+1 by omega,List.getElem?_cons_succ] at hx;exact Ug (by simpa using hk) h3 j x aGR hx
def Yi (y:jF):Prop:=(y.o.after.all (fun e=> !Region.binds .any e || decide (e.on<y.i))&&(y.skip || y.e.new.all fun q=> !y.e.del.contains q.1 || (bL y.vr q.1).isSome))=true
theorem QT {ops:Array Oper}: ∀{l:List jF},l.Pairwise (fun x y=>x.i<y.i/\As ops x y=true)->(∀y∈l,Yi y)->uI ops l=true
 | [],_,_=>rfl
 | x::l,h,ho=>by
   obtain⟨h1,h2⟩:=List.pairwise_cons.1 h;have h3:=ho x (by simp);rw[Yi,aBB] at h3;rw[uI,QT h2 fun y hy=>ho y (by simp[hy]),h3.1,h3.2,Bool.and_true,Bool.and_true,Bool.and_true,aCS];intro y hy;rw[(h1 y hy).2,decide_eq_true (h1 y hy).1];rfl
def aEV {A B:Nat}{l m:List Nat}(h1: ∀h∈l,A.testBit h=true)(h2: ∀h∈m,B.testBit h=true): ∀h∈l++m,(Nat.lor A B).testBit h=true:=fun h hm=>by
 rw[ID,Bool.or_eq_true];rcases aCy.1 hm with q | q
 ·exact .inl (h1 h q)
 exact .inr (h2 h q)
theorem Uh {ops:Array Oper}: ∀(l done:List jF) (acc:List Sm),acc.length=done.length->(∀k x,done[k]? =some x->x.i=k/\ ∃s,acc[done.length - 1 - k]? =some s/\aFT ops s x)->(∀k x,l[k]? =some x->x.i=done.length+k)->(∀x∈done++l,ops[x.i]? =some x.o)->done.length+l.length<=ops.size->Uf ops done.length acc l=true->
 (∀y∈l,Yi y)/\(∀x∈done,∀y∈l,x.i<y.i/\As ops x y=true)/\l.Pairwise (fun x y=>x.i<y.i/\As ops x y=true)
 | [],done,acc,_,_,_,_,_,_=>⟨by simp,by simp,List.Pairwise.nil⟩
 | y::l,done,acc,hal,hd,hl,ho,hs,h=>by
   rw[Uf] at h;simp only[aEU] at h;rw[aBB,aBB] at h;obtain⟨hown,hall,hrest⟩:=h;have hyi:y.i=done.length:=by have:=hl 0 y rfl;omega
   rw[aFS,aBB] at hown;have hafter:=aCS.1 hown.1
   have hsm:aFT ops ⟨bm y.o.dst.toList,bm (y.looks ops),bm y.W,bm y.T,Nat.lor (bm y.M) (bm y.W),bm y.Nw,Xh acc done.length y.o.after.toList⟩ y:=by
    refine⟨fun h hm=>A6 hm,fun h hm=>A6 hm,fun h hm=>A6 hm,fun h hm=>A6 hm,aEV (fun h hm=>A6 hm) (fun h hm=>A6 hm),fun h hm=>A6 hm,fun j hj=>?_⟩;obtain⟨e,he,hb,hq⟩:=Oi hj
    have hlt:e.on<done.length:=by
     have:=hafter e he;rw[hb] at this;simpa [Nat.blt_eq] using this
    rw[hyi,uH,Array.any_eq_true];obtain⟨i,hi,hie⟩:=List.mem_iff_getElem.1 he;refine⟨i,by simpa using hi,?_⟩;rw[show y.o.after[i]'(by simpa using hi)=e by simpa using hie,hb,Bool.true_and,Bool.or_eq_true];rcases hq with q | ⟨s,hs1,hs2⟩
    ·left;rw[q];exact Nat.beq_refl j
    right;have hx:done[e.on]? =some (done[e.on]'hlt):=aBP hlt;obtain⟨x1,s',x2,x3⟩:=hd e.on _ hx;rw[x2] at hs1;injection hs1 with hs1
    subst hs1;have h4:=x3.R j hs2;rw[x1] at h4;have h5:=ho (done[e.on]'hlt) (aDG _ (aGF hlt));rw[x1] at h5;rw[h5];exact DU aGR h4
   have hpair: ∀x∈done,x.i<y.i/\As ops x y=true:=fun x hx=>by
    obtain⟨k,hk,hkx⟩:=List.mem_iff_getElem.1 hx;obtain⟨x1,s,x2,x3⟩:=hd k x (by rw[aBP hk,hkx]);refine⟨aGR,?_⟩;have h1:=Ug hal.symm hall k s hk x2;rw[As,aBB];refine⟨?_,CQ hsm.N x3.M h1.2⟩;rw[Bool.or_eq_true];rcases h1.1 with q | ⟨q1,q2,q3,q4,q5⟩
    ·left
     have hbit:(Xh acc done.length y.o.after.toList).testBit k=true:=by
      cases hb:(Xh acc done.length y.o.after.toList).testBit k with
      | true=>rfl
      | false=>
        exfalso
        have hz:(Xh acc done.length y.o.after.toList)&&&(1<<<k)=0:=by
         apply Nat.eq_of_testBit_eq;intro j;rw[Nat.testBit_and,Nat.zero_testBit];by_cases e:j=k
         ·subst e;rw[hb];rfl
         rw[Nat.one_shiftLeft,Nat.testBit_two_pow,decide_eq_false (fun q=>e q.symm),Bool.and_false]
        have:A7 (Xh acc done.length y.o.after.toList) (Nat.shiftLeft 1 k)=true:=by
         show Nat.beq ((Xh acc done.length y.o.after.toList)&&&(1<<<k)) 0=true;rw[hz];rfl
        rw[this] at q;cases q
     have:=hsm.R k hbit;rw[OY,x1];simp only[aEb] at hs;exact DU aGR this
    right;rw[aBB,I7];simp only[aBB];exact⟨⟨⟨⟨CQ x3.d (aEV hsm.L hsm.d) q1,CQ hsm.d x3.L q2⟩,CQ x3.W (aEV hsm.T hsm.W) q3⟩,CQ hsm.W x3.T q4⟩,CQ x3.N hsm.M q5⟩
   have hownP:Yi y:=by
    rw[Yi,aBB];refine⟨?_,hown.2⟩;rw[<-Array.all_toList,aCS];intro e he;have:=hafter e he;rw[hyi]
    rwa [show Nat.blt e.on done.length=decide (e.on<done.length) from Bool.eq_iff_iff.2 (by rw[Nat.blt_eq,aFI])] at this
   have hlen:(done++[y]).length=done.length+1:=by simp
   have ih:=Uh (ops:=ops) l (done++[y]) (_::acc) (by simp[hal]) (fun k x hk=>by
    by_cases e:k=done.length
    ·subst e;rw[aD8 (aFC _),Nat.sub_self] at hk;simp only[List.getElem?_cons_zero,Option.some.injEq] at hk;subst hk;exact⟨hyi,_,by rw[hlen,show done.length+1 - 1 - done.length=0 by omega];rfl,hsm⟩
    ·have hk' :k<done.length:=by
      have:=(aCO.1 hk).1;omega
     rw[aFG hk'] at hk;obtain⟨x1,s,x2,x3⟩:=hd k x hk;exact⟨x1,s,by rw[hlen,show done.length+1 - 1 - k=(done.length - 1 - k)+1 by omega,List.getElem?_cons_succ];exact x2,x3⟩)
    (fun k x hk=>by have:=hl (k+1) x (by simpa using hk);rw[hlen];omega) (fun x hx=>ho x (by simpa using hx)) (by simp only[aEb] at hs;rw[hlen];omega) (by rw[hlen];exact hrest)
   obtain⟨i1,i2,i3⟩:=ih;refine⟨fun z hz=>?_,fun x hx z hz=>?_,List.pairwise_cons.2 ⟨fun z hz=>i2 y (by simp) z hz,i3⟩⟩
   ·rcases aDr.1 hz with rfl | q
    ·exact hownP
    exact i1 z q
   rcases aDr.1 hz with rfl | q
   ·exact hpair x hx
   exact i2 x (by simp[hx]) z q
theorem QU {P:Program}{N:Nat}{ops:Array Oper}{K:St->Prop}: ∀{l:List jF} {S:St},DO P N ops l S K-> ∀x∈l,ops[x.i]? =some x.o
 | [],_,_,x,hx=>by simp at hx
 | r::l,S,h,x,hx=>by
   obtain⟨h1,h2⟩:=h;rcases aDr.1 hx with rfl | q
   ·exact h1.1
   exact QU h2 x q
def aEW (all:Array Oper)(sl:Sl)(rs:Rl)(recs:List jF):Bool:=Uf all 0 [] recs&&recs.all fun r=>r.Nw.all fun k=>iT sl rs k
def WF {P:Program}{N:Nat}{id:Nat}{l:List Oper}{sl:Sl}{rs:Rl}{Q:Exit->St->Prop}(hm:P.follows .mixedOrders=true)(h:sS P N l.toArray 0 l sl rs [] (fun S recs=>aEW l.toArray sl rs recs=true/\Q .normal S)):VC P N (.region id l.toArray true) (mk sl rs) Q:=by
 intro A w0 a w hG;obtain⟨recs,S',h1,⟨h2,h3⟩,h4⟩:=CO l 0 sl rs [] h;simp only[List.reverse_nil,aFy] at h2;unfold aEW at h2;rw[aBB,aCS] at h2
 have hmem: ∀i,(∃r∈recs,r.i=i)↔i<l.length:=fun i=>by
  have:(∃r∈recs,r.i=i)↔i∈recs.map (·.i):=by simp
  rw[this,h4];simp[List.mem_range']
 have hsz:l.toArray.size=l.length:=by simp
 have hlen:recs.length=l.length:=by have:=congrArg List.length h4;simpa using this
 have hlk:uI l.toArray recs=true:=by
  obtain⟨q1,_,q3⟩:=Uh recs [] [] rfl (fun k x hk=>by simp at hk) (fun k x hk=>by
   have h5:(recs.map (·.i))[k]? =some x.i:=by rw[aGB,hk];rfl
   rw[h4] at h5;have:=(aCO.1 h5).2;simp only[List.getElem_range'] at this;simp only[List.length_nil];omega) (fun x hx=>QU h1 x (by simpa using hx)) (by simp[hlen]) h2.1
  exact QT q3 q1
 refine wp_region_any hm (V4 (Kn:=fun S=>S=S') (fun S a w hS hG=>⟨S,hG,by rw[hS];exact h3⟩) _ recs _ (mk sl rs) a _ (by rw[hsz,<-aAb (f:=fun r:jF=>r.i),h4];simp) h1 hlk (fun i hi=>?_) (fun i hi=>?_) (fun r hr=>?_) (fun r hr k hk=>iF (aCS.1 (h2.2 r hr) k hk)) (fun i o hi _ hl' =>by exfalso;rw[hsz] at hi;rw[Array.getD_eq_getD_getElem?] at hl';simp[hi] at hl') hG.drew)
 ·rw[hmem];rw[hsz] at hi;simp[hi]
 ·rw[hsz] at hi;simp[hi]
 rw[hsz];exact(hmem r.i).1 ⟨r,hr,rfl⟩
def VC.ghost {P:Program}{N:Nat}{c:Code}{S S' :St}{Q:Exit->St->Prop}(h:VC P N c S' Q)(hg: ∀A w0 N a w,Aq A w0 N S a w->Aq A w0 N S' a w):VC P N c S Q:=fun A w0 a w hG=>h A w0 a w (hg A w0 N a w hG)
section
variable (P:Program) (tb:Tb) (N:Nat)
def Mv:Code->Sl->Rl->Sl->Rl->T->(Exit->Sl->Rl->T->Prop)->Prop
 | .skip,_,_,pre,prr,t,K=>K .normal pre prr t
 | .ret,_,_,pre,prr,t,K=>K .ret pre prr t
 | .exit id,_,_,pre,prr,t,K=>K (.exit id) pre prr t
 | .region id ops draw,bs,br,pre,prr,t,K=>gsW id (pre++bs) (prr++br) t fun n1 n2 t=>ghW id ((n1++pre)++bs) ((n2++prr)++br) t fun new t=>(match ops with
   | ⟨l⟩=>(match draw with
     | false=>S8 P tb N l bs br l (n1++pre) (new++(n2++prr)) t (fun pre prr t=>K .normal pre prr t)
     | true=>Ep P tb N l bs br 0 l (n1++pre) (new++(n2++prr)) [] t (fun pre' prr' acc t=>(match aEW l.toArray ((n1++pre)++bs) ((new++(n2++prr))++br) acc.reverse with
       | true=>K .normal pre' prr' t
       | false=>False))))
 | .seq a b,bs,br,pre,prr,t,K=>Mv a bs br pre prr t (fun e pre prr t=>(match e with
   | .normal=>Mv b bs br pre prr t K
   | e=>K e pre prr t))
 | .cond c x y,bs,br,pre,prr,t,K=>aET (pre++bs) c t (fun s b t=>(match b with
   | true=>Mv x bs br (qL pre s true) prr t K
   | false=>Mv y bs br (qL pre s false) prr t K))
 | .block id c,bs,br,pre,prr,t,K=>Mv c bs br pre prr t (fun e pre prr t=>(match e with
   | .exit id' =>(match Nat.beq id' id with | true=>K .normal pre prr t | false=>K (.exit id') pre prr t)
   | e=>K e pre prr t))
 | .loop c,bs,br,pre,prr,t,K=>(match t with
   | .loop _ q W V osl ors inv m t=>
     (q.ex 0 fun y=>(match Uc W V (gmF (Yg (prr++br) (ors y)) ((ors y).map (·.1))) [] [] (sZ W++(pre++bs)) (oS V++(prr++br)) (ors y) with | true=>EqS (pre++bs) (gmF (Yg (prr++br) (ors y)) ((ors y).map (·.1))) (osl y) (ME (prr++br) (gmF (Yg (prr++br) (ors y)) ((ors y).map (·.1))) (ors y) (inv y)) | false=>False))/\
     q.all fun x=>inv x->Mv c (sZ W++(pre++bs)) (oS V++(prr++br)) (osl x) (ors x) (t x) (fun e pre' prr' t' =>(match e with
      | .normal=>(match t' with
        | .back ren n=>q.ex n fun y=>(match Uc W V (gmF ren ((ors y).map (·.1))) pre' prr' (sZ W++(pre++bs)) (oS V++(prr++br)) (ors y) with
          | true=>EqS (pre' ++(sZ W++(pre++bs))) (gmF ren ((ors y).map (·.1))) (osl y) (ME (prr' ++(oS V++(prr++br))) (gmF ren ((ors y).map (·.1))) (ors y) (inv y/\m y<m x))
          | false=>False)
        | _=>False)
      | e=>K e (pre' ++(sZ W++pre)) (prr' ++(oS V++prr)) t'))
   | _=>False)
 | _,_,_,_,_,_,_=>False
end
section
variable {P:Program} {tb:Tb} {N:Nat}
open Classical in
theorem Yj {S:St}{Q:Exit->St->Prop}{c:Code}(I:Nat->St->Prop)(n:Nat)(h0:I n S)(round: ∀n S,I n S->VC P N c S (aCx (fun S' => ∃m S'',m<n/\(∀A w0 a w,Aq A w0 N S' a w->Aq A w0 N S'' a w)/\I m S'') Q)):VC P N (.loop c) S Q:=fun A w0 a w hG=>by
 let J:Act->World->Nat->Prop:=fun a w n=> ∃S,I n S/\Aq A w0 N S a w
 refine wp_loop (fun a w=> ∃n,J a w n) (fun a w=>if h: ∃n,J a w n then Classical.choose (DM _ h) else 0) ⟨n,S,h0,hG⟩ fun a w hI=>?_;have hmin:=Classical.choose_spec (DM _ hI);obtain⟨⟨S1,hI1,hG1⟩,_⟩:=hmin;refine Code.wp_mono (fun e a' w' ⟨S',h1,h2⟩=>?_) (round _ S1 hI1 A w0 a w hG1);cases e with
 | normal=>
   obtain⟨m,S'',hm,hl,hI2⟩:=h2;have hex: ∃n,J a' w' n:=⟨m,S'',hI2,hl A w0 a' w' h1⟩;refine⟨hex,?_⟩;simp only[dif_pos hI,dif_pos hex];exact Nat.lt_of_le_of_lt ((Classical.choose_spec (DM _ hex)).2 m ⟨S'',hI2,hl A w0 a' w' h1⟩) hm
 | _=>exact⟨S',h1,h2⟩
theorem A8 (hT:oC P tb)(hm:P.follows .mixedOrders=true): ∀(c:Code) (bs:Sl) (br:Rl) (pre:Sl) (prr:Rl) (t:T) (K:Exit->Sl->Rl->T->Prop),Mv P tb N c bs br pre prr t K->VC P N c (mk (pre++bs) (prr++br)) (fun e S=> ∃pre' prr' t',S=mk (pre' ++bs) (prr' ++br)/\K e pre' prr' t')
 | .skip,bs,br,pre,prr,t,K,h=>aBI ⟨pre,prr,t,rfl,h⟩
 | .ret,bs,br,pre,prr,t,K,h=>aDa ⟨pre,prr,t,rfl,h⟩
 | .exit id,bs,br,pre,prr,t,K,h=>aBJ ⟨pre,prr,t,rfl,h⟩
 | .region id ops draw,bs,br,pre,prr,t,K,h=>by
   obtain⟨l⟩:=ops;simp only[Mv] at h;obtain⟨n1,n2,t,hst,h⟩:=aEQ h;rw[<-aD2,<-aD2] at hst;refine(?_:VC P N (.region id l.toArray draw) (mk ((n1++pre)++bs) ((n2++prr)++br)) _).ghost hst;generalize n1++pre=pre at h ⊢;generalize n2++prr=prr at h ⊢;obtain⟨new,t,hgh,h⟩:=aER h;rw[<-aD2] at hgh;refine(?_:VC P N (.region id l.toArray draw) (mk (pre++bs) ((new++prr)++br)) _).ghost hgh;cases draw with
   | false=>
     dsimp only at h
     exact aDq (IB hT l pre (new++prr) t h)
   | true=>
     dsimp only at h
     refine WF hm ?_;have:=QQ hT (all:=l) l [] pre (new++prr) [] t rfl h;refine tW ?_ l 0 _ _ _ this;rintro S recs ⟨pre',prr',acc',t',e1,e2,h⟩;split at h
     ·rename_i hk;exact⟨by rw[e2];exact hk,pre',prr',t',e1,h⟩
     cases h
 | .seq a b,bs,br,pre,prr,t,K,h=>by
   simp only[Mv] at h;refine aDb fun Kn hKn=>OX (A8 hT hm a bs br pre prr t _ h) ?_;rintro e S ⟨pre',prr',t',rfl,h⟩;cases e with
   | normal=>exact hKn _ (A8 hT hm b bs br pre' prr' t' K h)
   | _=>exact⟨pre',prr',t',rfl,h⟩
 | .cond c x y,bs,br,pre,prr,t,K,h=>by
   simp only[Mv] at h;obtain⟨s,b,t',h1,h2,h⟩:=aBp (rs:=prr++br) h;refine aBK h1 (fun e=>?_) (fun e=>?_)
   ·subst e;rw[<-h2,rI];exact A8 hT hm x bs br _ prr t' K h
   subst e;rw[<-h2,rI];exact A8 hT hm y bs br _ prr t' K h
 | .block id c,bs,br,pre,prr,t,K,h=>by
   simp only[Mv] at h;refine Xs (OX (A8 hT hm c bs br pre prr t _ h) ?_);rintro e S ⟨pre',prr',t',rfl,h⟩;cases e with
   | exit id' =>
     simp only[Sp]
     dsimp only at h
     split at h
     ·rename_i e;rw[if_pos (aBQ e)];exact⟨pre',prr',t',rfl,h⟩
     rename_i e;rw[if_neg (fun e' =>by rw[e',Nat.beq_refl] at e;cases e)];exact⟨pre',prr',t',rfl,h⟩
   | _=>exact⟨pre',prr',t',rfl,h⟩
 | .loop c,bs,br,pre,prr,t,K,h=>by
   simp only[Mv] at h;split at h
   ·rename_i τ q W V osl ors inv m t;obtain⟨hi,hr⟩:=h;obtain⟨y,hi⟩:=q.h2 _ _ hi;have hr:=q.h1 _ hr;split at hi
    ·rename_i hk;obtain⟨i1,i2⟩:=TA hi;obtain⟨i3,i4⟩:=Oh i2;obtain⟨g0,_,_,g3,g4,g5⟩:=Ue hk;refine fun A w0 a w hG=>?_;refine(?_:VC P N (.loop c) (mk (osl y++(sZ W++(pre++bs))) (ors y++(oS V++(prr++br)))) _) A w0 a w (QR g0 g3 g4 g5 (fun t ht=>by rw[JR,if_neg ht]) (fun h hh=>by rw[DT,if_neg hh]) i1 i3 hG);refine Yj (fun n S=> ∃x,S=mk (osl x++(sZ W++(pre++bs))) (ors x++(oS V++(prr++br)))/\n=m x/\inv x) (m y) ⟨y,rfl,rfl,i4⟩ ?_;rintro n S ⟨x,rfl,rfl,hx⟩;refine OX (A8 hT hm c _ _ _ _ _ _ (hr x hx)) ?_;rintro e S ⟨pre',prr',t',rfl,h⟩;cases e with
     | normal=>
       dsimp only at h
       split at h
       ·rename_i ren;obtain⟨y,h⟩:=q.h2 _ _ h;split at h
        ·rename_i hk2;obtain⟨j1,j2⟩:=TA h;obtain⟨j3,j4,j5⟩:=Oh j2;obtain⟨g0,g1,g2,g3,g4,g5⟩:=Ue hk2;refine⟨m y,_,j5,fun A w0 a w hG=>QR g0 g3 g4 g5 (fun t ht=>?_) (fun h hh=>?_) j1 j3 hG,y,rfl,rfl,j4⟩
         ·rcases Mu (o:=pre') (b:=sZ W++(pre++bs)) (t:=t) with ⟨x,q1,_⟩ | ⟨_,q2⟩
          ·exact absurd (g1 _ q1) ht
          exact q2
         rcases F3 (o:=prr') (b:=oS V++(prr++br)) (t:=h) with ⟨x,q1,_⟩ | ⟨_,q2⟩
         ·exact absurd (g2 _ q1) hh
         exact q2
        cases h
       cases h
     | _=>exact⟨_,_,_,by simp only[aD2],h⟩
    cases hi
   cases h
 | .rangeFunc _ _ _ _,bs,br,pre,prr,t,K,h=>by simp only[Mv] at h
 | .scope _,bs,br,pre,prr,t,K,h=>by simp only[Mv] at h
 | .label _,bs,br,pre,prr,t,K,h=>by simp only[Mv] at h
 | .goto _,bs,br,pre,prr,t,K,h=>by simp only[Mv] at h
 | .refuse _,bs,br,pre,prr,t,K,h=>by simp only[Mv] at h
end
def WG (tb:Tb)(sl:Sl)(rs:Rl):List ResultVar->Option (List AV)
 | []=>some []
 | r::l=>(match (match r with
  | .tmp t=>some (cM sl t)
  | .cell t ty=>(match cM sl t with
    | .ptr h 0=>(match bL rs h with
      | some (.box _ cs)=>(match dK tb.ty ty with
        | some (true,n,_,_)=>(match Nat.beq n cs.length with | true=>some (.agg cs) | false=>none)
        | some (false,_,_,_)=>cs[0]?
        | none=>none)
      | _=>none)
    | _=>none)) with
   | some x=>(match WG tb sl rs l with | some xs=>some (x::xs) | none=>none)
   | none=>none)
mutual
def DV (ren:aGM):AV->AV->Prop->Prop
 | .nil,y,K=>(match y with | .nil=>K | .own h=>(match dK ren h with | none=>K | some _=>False) | .p none (.sl _ _ xs)=>[]=xs/\K | _=>False)
 | .own g,y,K=>(match y with | .own h=>(match dK ren h with | some g' =>Lr g g' K | none=>False) | _=>False)
 | .p none x,y,K=>(match y with | .p none x' =>SZ x x' /\K | _=>False)
 | .agg cs,y,K=>(match y with | .agg cs' =>WH ren cs cs' K | _=>False)
 | .tup cs,y,K=>(match y with | .tup cs' =>WH ren cs cs' K | _=>False)
 | _,_,_=>False
def WH (ren:aGM):List AV->List AV->Prop->Prop
 | [],ys,K=>(match ys with | []=>K | _=>False)
 | x::xs,ys,K=>(match ys with | y::ys=>DV ren x y (WH ren xs ys K) | []=>False)
end
def rrW (rs:Rl)(ren:aGM):aGJ->Prop
 | []=>True
 | (h,r)::l=>(match dK ren h with
   | some g=>(match bL rs g with | some r' =>EqR r' r (rrW rs ren l) | none=>False)
   | none=>(match r with | .arr _ _ _ xs=>[]=xs/\rrW rs ren l | _=>False))
def aEX (tb:Tb)(res:List ResultVar)(rv:AV)(rr:aGJ)(e:Exit)(sl:Sl)(rs:Rl)(t:T):Prop:=
 (match (match e with | .normal=>true | .ret=>true | _=>false) with
 | true=>(match t with
   | .fin ren=>(match WG tb sl rs res with
     | some xs=>(match qI (ren.map (·.2))&&qI (rr.map (·.1))&&(rr.all fun q=>Iv q.2)&&((cZ rv).all fun h=>(bF rr h).isSome) with
       | true=>DV ren (MZ xs) rv (rrW rs ren rr)
       | false=>False)
     | none=>False)
   | _=>False)
 | false=>False)
theorem Oj {P:Program}{tb:Tb}(hT:oC P tb){sl:Sl}{rs:Rl}: ∀{l:List ResultVar} {xs:List AV},WG tb sl rs l=some xs->Xw P (mk sl rs) l xs
 | [],xs,h=>by simp only[WG,Option.some.injEq] at h;subst h;exact rfl
 | r::l,xs,h=>by
   unfold WG at h;split at h
   ·rename_i x hx;split at h
    ·rename_i xs' hxs;injection h with h
     subst h;refine⟨x,xs',rfl,?_,Oj hT hxs⟩;cases r with
     | tmp t=>dsimp only at hx;injection hx with hx;subst hx;rfl
     | cell t ty=>
       dsimp only at hx
       split at hx
       ·rename_i hh hs;split at hx
        ·rename_i tq cs hr;split at hx
         ·rename_i n bt z hq;split at hx
          ·rename_i hn;injection hx with hx
           subst hx;exact⟨_,_,_,_,_,_,_,hs,hr,dY hT.ty hq,.inl ⟨rfl,aBQ hn,rfl⟩⟩
          cases hx
         ·rename_i n bt z hq;exact⟨_,_,_,_,_,_,_,hs,hr,dY hT.ty hq,.inr ⟨rfl,hx⟩⟩
         cases hx
        cases hx
       cases hx
    cases h
   cases h
mutual
theorem Ui {ren:aGM}{K:Nat->Prop}{φ φ' :jS}{w:World}(h1: ∀h g pl,dK ren h=some g->φ' h=some pl->φ g=some pl)(h2: ∀h pl,dK ren h=none->φ' h=some pl->pl=kH): ∀(x y:AV) (Q:Prop) (v:Value),DV ren x y Q->aH K φ w x v->aH K φ' w y v/\Q
 | .nil,y,Q,v,h,hm=>by
   unfold DV at h;unfold aH at hm;split at h
   ·exact⟨by unfold aH;exact hm,h⟩
   ·split at h
    ·rename_i hl;refine⟨?_,h⟩;unfold aH;intro pl hp;rw[h2 _ pl hl hp,hm];rfl
    cases h
   ·refine⟨?_,h.2⟩;unfold aH;rw[hm,<-h.1];exact yR
   cases h
 | .own g,y,Q,v,h,hm=>by
   unfold DV at h;unfold aH at hm;split at h
   ·split at h
    ·rename_i g' hl;obtain⟨e,hQ⟩:=h.eq;subst e;refine⟨?_,hQ⟩;unfold aH;intro pl hp;exact hm pl (h1 _ _ pl hl hp)
    cases h
   cases h
 | .p none x,y,Q,v,h,hm=>by
   unfold DV at h;split at h
   ·refine⟨?_,h.2⟩;unfold aH at*;rw[<-h.1.eq];exact hm
   cases h
 | .p (some _) x,y,Q,v,h,hm=>by unfold DV at h;cases h
 | .agg cs,y,Q,v,h,hm=>by
   unfold DV at h;unfold aH at hm;obtain⟨vs,rfl,q1,q2⟩:=hm;split at h
   ·obtain⟨q3,q4⟩:=Ol h1 h2 cs _ Q _ h q2;refine⟨?_,q4⟩;unfold aH;exact⟨vs,rfl,q1,q3⟩
   cases h
 | .tup cs,y,Q,v,h,hm=>by
   unfold DV at h;unfold aH at hm;obtain⟨vs,rfl,q2⟩:=hm;split at h
   ·obtain⟨q3,q4⟩:=Ol h1 h2 cs _ Q _ h q2;refine⟨?_,q4⟩;unfold aH;exact⟨vs,rfl,q3⟩
   cases h
 | .ptr _ _,y,Q,v,h,hm=>by unfold DV at h;cases h
 | .ep _ _ _ _,y,Q,v,h,hm=>by unfold DV at h;cases h
 | .rp _ _,y,Q,v,h,hm=>by unfold DV at h;cases h
 | .fn _ _,y,Q,v,h,hm=>by unfold DV at h;cases h
 | .bsl _ _,y,Q,v,h,hm=>by unfold DV at h;cases h
 | .no,y,Q,v,h,hm=>by unfold DV at h;cases h
theorem Ol {ren:aGM}{K:Nat->Prop}{φ φ' :jS}{w:World}(h1: ∀h g pl,dK ren h=some g->φ' h=some pl->φ g=some pl)(h2: ∀h pl,dK ren h=none->φ' h=some pl->pl=kH): ∀(xs ys:List AV) (Q:Prop) (vs:List Value),WH ren xs ys Q->aS K φ w xs vs->aS K φ' w ys vs/\Q
 | [],ys,Q,vs,h,hm=>by
   unfold WH at h;split at h
   ·unfold aS at*;exact⟨hm,h⟩
   cases h
 | x::xs,ys,Q,vs,h,hm=>by
   unfold WH at h;unfold aS at hm;obtain⟨v,vs',rfl,q1,q2⟩:=hm;split at h
   ·obtain⟨q3,q4⟩:=Ui h1 h2 x _ _ v h q1;obtain⟨q5,q6⟩:=Ol h1 h2 xs _ Q vs' q4 q2;refine⟨?_,q6⟩;unfold aS;exact⟨v,vs',rfl,q5 |>fun _=>q3,q5⟩
   cases h
end
theorem TB {rs:Rl}{ren:aGM}: ∀{l:aGJ},rrW rs ren l-> ∀h r,bF l h=some r->(∀g,dK ren h=some g->bL rs g=some r)/\(dK ren h=none-> ∃e k d,r= .arr e k d [])
 | [],_,h,r,e=>by simp[bF] at e
 | (k,r0)::l,hw,h,r,e=>by
   unfold rrW at hw;simp only[bF] at e;split at hw
   ·rename_i g hg;split at hw
    ·rename_i r' hr';obtain⟨e1,hw⟩:=hw.eq;split at e
     ·rename_i ek;subst ek;injection e with e
      subst e;exact⟨fun g' hg' =>by rw[hg] at hg';injection hg' with hg';subst hg';rw[hr',e1],fun hn=>by rw[hg] at hn;cases hn⟩
     exact TB hw h r e
    cases hw
   rename_i hg;split at hw
   ·obtain⟨e1,hw⟩:=hw;split at e
    ·rename_i ek;subst ek;injection e with e
     subst e;exact⟨fun g' hg' =>(by rw[hg] at hg';cases hg'),fun _=>⟨_,_,_,by rw[<-e1]⟩⟩
    exact TB hw h r e
   cases hw
def aEY:bX->Prop->Prop
 | .sl _ _ xs,K=>xs.length<=9223372036854775807->K
 | _,K=>K
def aBt:List bX->Prop->Prop
 | [],K=>K
 | x::xs,K=>aEY x (aBt xs K)
def JS:List Ar->Prop->Prop
 | [],K=>K
 | .one x::l,K=>aEY x (JS l K)
 | .agg xs::l,K=>aBt xs (JS l K)
 | .ref xs::l,K=>aBt xs (JS l K)
 | .fn _ _::l,K=>JS l K
def Uj {A:Nat->Prop}{w:World}{x:bX}{v:Value}{K:Prop}(h:jX A w x v)(hk:aEY x K):K:=by
 cases x with
 | sl e k xs=>
   unfold jX at h;obtain⟨a,c,_,h1,h2,_⟩:=h;exact hk (by unfold maxLen at h2;omega)
 | _=>exact hk
theorem Om {A:Nat->Prop}{w:World}{K:Prop}: ∀{xs:List bX} {vs:List Value},oL A w xs vs->aBt xs K->K
 | [],_,_,hk=>hk
 | x::xs,_,⟨v,vs,_,h1,h2⟩,hk=>Om h2 (Uj h1 hk)
theorem A9 {A:Nat->Prop}{w:World}{K:Prop}: ∀{xs:List Ar} {vs:List Value},tL A w xs vs->JS xs K->K
 | [],_,_,hk=>hk
 | .one x::xs,_,⟨v,vs,_,h1,h2⟩,hk=>A9 h2 (Uj h1 hk)
 | .agg ys::xs,_,⟨v,vs,_,⟨us,_,h1⟩,h2⟩,hk=>A9 h2 (Om h1 hk)
 | .ref ys::xs,_,⟨v,vs,_,⟨a,_,h1⟩,h2⟩,hk=>by
   obtain⟨_,_,us,_,_,hl,_⟩:=h1.vals;exact A9 h2 (Om hl hk)
 | .fn _ _::xs,_,⟨v,vs,_,_,h2⟩,hk=>A9 h2 hk
theorem aFV {P : Program} {tb : Tb} (hT : oC P tb) (hm : P.follows .mixedOrders = true) {f : FuncId} {fn : Func} {c : Code} {args : List Ar} {rv : AV} {rr : List (Nat × Rs)} (hf : P.funcs[f]? = some fn) (hb : fn.body = some c) (hn : (fn.name == "runtime.NumGoroutine") = false) (hl : args.length ≤ fn.ntmps) (t : T)
 (h:JS args (Mv P tb fn.ntmps c [] [] (At 0 args) [] t (aEX tb fn.results.toList rv rr))):xK P f args rv rr:=by
 refine⟨by simp[lB,hf,hb,hn],fun A w vs hA hargs=>?_⟩;have h:=A9 hargs h;refine calls_of_wp hf hb ?_;have hlen:=Ma hargs;simp only[aGG] at hlen
 have hG0:Aq A ⟨w,fun _=>False,fun _=>none,by simp⟩ fn.ntmps (S0 args) { tmps:=vs++Array.replicate (fn.ntmps - vs.size) undef,defers:=[] } w:=by
  refine⟨A,fun _=>none,by simp[S0],by simp[S0],by simp,by simp,by simp,fun b hb=>⟨hA b hb,.inl hb⟩,by simp,fun _ h=>h,fun t=>?_,⟨rfl,rfl,rfl,aFC _,fun _ _ _=>rfl⟩,rfl,by simp;omega,by simp⟩;simp only[S0];split
  ·rename_i x hx;obtain⟨v,hv,hr⟩:=Pz hargs hx;have ht:t<vs.size:=by have:=(aCO.1 hv).1;simpa using this
   rw[Array.getD_eq_getD_getElem?,Array.getElem?_append_left ht,<-Array.getElem?_toList,hv];exact Sr hr
  unfold aH;trivial
 have hvc:=A8 hT hm c [] [] (At 0 args) [] t _ h;simp only[aFk] at hvc;rw[<-aFN] at hvc;refine Code.wp_mono (fun e a' w' ⟨S,⟨K,φ,hG⟩,pre,prr,t',hS,hfin⟩=>?_) (hvc A _ _ w hG0);subst hS;unfold aEX at hfin;split at hfin
 ·rename_i he;split at hfin
  ·rename_i ren;split at hfin
   ·rename_i xs hxs;split at hfin
    ·rename_i hb;simp only[aBB,aCS] at hb;obtain⟨⟨⟨b1,b2⟩,b3⟩,b4⟩:=hb;obtain⟨v,hrun,hmv⟩:=C8 hG (Oj hT hxs)
     let φ' :jS:=fun h=>match bF rr h with | some _=>(match dK ren h with | some g=>φ g | none=>some kH) | none=>none
     have p1: ∀h g pl,dK ren h=some g->φ' h=some pl->φ g=some pl:=fun h g pl e e' =>by
      simp only[φ',e] at e';split at e'
      ·exact e'
      cases e'
     have p2: ∀h pl,dK ren h=none->φ' h=some pl->pl=kH:=fun h pl e e' =>by
      simp only[φ',e] at e';split at e'
      ·injection e' with e';exact e'.symm
      cases e'
     have p3: ∀h pl,φ' h=some pl->(∃g,dK ren h=some g/\φ g=some pl)\/pl=kH:=fun h pl e=>by
      cases hl:dK ren h with
      | some g=>exact .inl ⟨g,rfl,p1 h g pl hl e⟩
      | none=>exact .inr (p2 h pl hl e)
     obtain⟨m1,m2⟩:=Ui (φ' :=φ') p1 p2 _ _ _ v hfin hmv
     have hR:aCw A w rv rr (.returned v) w' :=by
      refine⟨v,K,φ',rfl,Xx hG.bel,fun b hb=>⟨(hG.kin b hb).1,(hG.kin b hb).2.imp id UP⟩,fun b hb h pl e=>?_,fun h r hr=>?_,fun h hr=>by simp[φ',hr],fun h h' pl pl' hne e e' g hg=>?_,fun h pl e=>?_,fun h pl e=>?_,m1⟩
      ·rcases p3 h pl e with ⟨g,_,e⟩ | e
       ·exact hG.kout b hb g pl e
       rw[e];simp[kH,Pl.F]
      ·obtain⟨q1,q2⟩:=TB m2 h r hr;cases hl:dK ren h with
       | some g=>
         obtain⟨pl,hp,hh⟩:=hG.dom g r (q1 g hl);exact⟨pl,by simp[φ',hr,hl,hp],Holds.arrPhi (b3 _ (dF hr)) hh⟩
       | none=>
         obtain⟨e,k,d,rfl⟩:=q2 hl;refine⟨kH,by simp[φ',hr,hl],?_⟩;cases d with
         | true=>exact⟨[],[],World.ownsRow_nil w' 0 e k,rfl,rfl,by unfold dB;exact⟨rfl,rfl⟩⟩
         | false=>exact⟨[],World.ownsRow_nil w' 0 e k,rfl,rfl,rfl⟩
      ·rcases p3 h pl e with ⟨q,l1,e1⟩ | e1
       ·rcases p3 h' pl' e' with ⟨q',l1',e1'⟩ | e1'
        ·exact hG.disj q q' pl pl' (fun x=>by subst x;exact hne (JG b1 l1 l1')) e1 e1' g hg
        rw[e1'];simp[kH,Pl.F]
       rw[e1] at hg;simp[kH,Pl.F] at hg
      ·rcases p3 h pl e with ⟨g,_,e⟩ | e
       ·exact hG.nodup g pl e
       rw[e];simp[kH,Pl.F]
      rcases p3 h pl e with ⟨g,_,e⟩ | e
      ·exact fun q hq=>⟨UP (hG.ge g pl e q hq).1,(hG.ge g pl e q hq).2⟩
      rw[e];simp[kH,Pl.F]
     cases e with
     | normal=>exact⟨hG.nd,v,hrun,hR⟩
     | ret=>exact⟨hG.nd,v,hrun,hR⟩
     | _=>cases he
    cases hfin
   cases hfin
  cases hfin
 cases hfin
def MF (fn : Func) (n : Nat) : Bool := (!(fn.name == "runtime.NumGoroutine") && fn.body.isSome) && Nat.ble n fn.ntmps
def Uk (P:Program)(tb:Tb)(fn:Func)(args:List Ar)(rv:AV)(rr:aGJ)(t:T):Prop:=JS args (match fn.body with | some c=>Mv P tb fn.ntmps c [] [] (At 0 args) [] t (aEX tb fn.results.toList rv rr) | none=>False)
def aFW {P:Program}{tb:Tb}(hT:oC P tb)(hm:P.follows .mixedOrders=true){f:FuncId}{fn:Func}{args:List Ar}{rv:AV}{rr:aGJ}(hf:P.funcs[f]? =some fn)(hc:MF fn args.length=true)(t:T)(h:Uk P tb fn args rv rr t):xK P f args rv rr:=by
 unfold MF at hc;rw[aBB] at hc;have hl:=aBF hc.2;cases hb:fn.body with
 | some c=>
   rw[aBB] at hc;refine aFV hT hm hf hb (by simpa using hc.1.1) hl t ?_;unfold Uk at h;rw[hb] at h;exact h
 | none=>
   rw[hb] at hc;simp at hc
def aFX {P:Program}{tb:Tb}(hT:oC P tb)(hm:P.follows .mixedOrders=true){f:FuncId}{fn:Func}{args:List Ar}{rv:AV}{rr:aGJ}(hf:P.funcs[f]? =some fn)(hc:MF fn args.length=true)(t:T){p:Prop}(h:Uk P tb fn args rv rr t=p)(hp:p):xK P f args rv rr:=aFW hT hm hf hc t (Eq.mpr h hp)
def nt {b:Bool}(h:(!b)=true):b=false:=by cases b<;>simp_all
def nf {b:Bool}(h:(!b)=false):b=true:=by cases b<;>simp_all
def rrB (rs:Rl)(ren:aGM):aGJ->Prop
 | []=>True
 | (h,r)::l=>(match dK ren h with
   | some g=>(match bL rs g with
     | some r' =>(match r with
       | .box t cs=>(match r' with | .box t' cs' =>Lr t' t (xO (dK ren) cs cs' (rrB rs ren l)) | _=>False)
       | .arr e k d xs=>EqR r' (.arr e k d xs) (rrB rs ren l)
       | .hole _ _ _ _ _ _=>False)
     | none=>False)
   | none=>(match r with | .arr _ _ _ xs=>[]=xs/\rrB rs ren l | _=>False))
def aGT (rs:Rl)(ren:aGM)(h:Nat)(r:Rs):Prop:=
 (∀g,dK ren h=some g-> ∃r',bL rs g=some r' /\((r=r' /\Iv r=true)\/ ∃t cs cs' Q,r= .box t cs/\r' = .box t cs' /\xO (dK ren) cs cs' Q))/\(dK ren h=none-> ∃e k d,r= .arr e k d [])
theorem On {rs:Rl}{ren:aGM}: ∀{l:aGJ},rrB rs ren l-> ∀h r,bF l h=some r->aGT rs ren h r
 | [],_,h,r,e=>by simp[bF] at e
 | (k,r0)::l,hw,h,r,e=>by
   unfold rrB at hw;simp only[bF] at e;split at hw
   ·rename_i g hg;split at hw
    ·rename_i r' hr';split at hw
     ·rename_i t cs;split at hw
      ·rename_i t' cs';obtain⟨e1,hw1⟩:=hw.eq;split at e
       ·rename_i ek;subst ek;injection e with e
        subst e;exact⟨fun g' hg' =>by rw[hg] at hg';injection hg' with hg';subst hg';exact⟨_,hr',.inr ⟨_,cs,cs',_,rfl,by rw[e1],hw1⟩⟩,fun hn=>by rw[hg] at hn;cases hn⟩
       exact On (xP _ _ _ hw1) h r e
      cases hw
     ·obtain⟨e1,hw⟩:=hw.eq;split at e
      ·rename_i ek;subst ek;injection e with e
       subst e;exact⟨fun g' hg' =>by rw[hg] at hg';injection hg' with hg';subst hg';exact⟨_,hr',.inl ⟨e1.symm,rfl⟩⟩,fun hn=>by rw[hg] at hn;cases hn⟩
      exact On hw h r e
     cases hw
    cases hw
   rename_i hg;split at hw
   ·obtain⟨e1,hw⟩:=hw;split at e
    ·rename_i ek;subst ek;injection e with e
     subst e;exact⟨fun g' hg' =>(by rw[hg] at hg';cases hg'),fun _=>⟨_,_,_,by rw[<-e1]⟩⟩
    exact On hw h r e
   cases hw
def DW:Nat->List AV->Sl
 | _,[]=>[]
 | i,x::xs=>(i,x)::DW (i+1) xs
theorem Er: ∀(xs:List AV) (i t:Nat),cM (DW i xs) t=if i<=t then (match xs[t - i]? with | some x=>x | none=> .no) else .no
 | [],i,t=>by simp[DW,cM]
 | x::xs,i,t=>by
   simp only[DW,cM,Er xs (i+1) t];by_cases e:t=i
   ·subst e;simp
   by_cases h:i<=t
   ·have:t - i=(t - (i+1))+1:=aGR
    rw[if_neg e,if_pos aGR,if_pos h,this,List.getElem?_cons_succ]
   rw[if_neg e,if_neg aGR,if_neg h]
def aFY (tb:Tb)(res:List ResultVar)(ri:aGJ)(rv:AV)(ro:aGJ)(e:Exit)(sl:Sl)(rs:Rl)(t:T):Prop:=
 (match (match e with | .normal=>true | .ret=>true | _=>false) with
 | true=>(match t with
   | .fin ren=>(match WG tb sl rs res with
     | some xs=>(match qI (ren.map (·.2))&&(ro.all fun q=>match bF ri q.1 with | some _=>(match dK ren q.1 with | some g=>Nat.beq g q.1 | none=>false) | none=>true) with
       | true=>pF (dK ren) rv (MZ xs) (rrB rs ren ro)
       | false=>False)
     | none=>False)
   | _=>False)
 | false=>False)
def Ul (P:Program)(tb:Tb)(fn:Func)(args:List AV)(ri:aGJ)(rv:AV)(ro:aGJ)(t:T):Prop:=match fn.body with | some c=>Mv P tb fn.ntmps c [] [] (DW 0 args) (rE ri) t (aFY tb fn.results.toList ri rv ro) | none=>False
def aEZ {P:Program}{tb:Tb}(hT:oC P tb)(hm:P.follows .mixedOrders=true){f:FuncId}{fn:Func}{args:List AV}{ri:aGJ}{rv:AV}{ro:aGJ}(hf:P.funcs[f]? =some fn)(hc:MF fn args.length=true)(hlow:(ri.all fun q=>Nat.blt q.1 100)=true)(t:T)(h:Ul P tb fn args ri rv ro t):xB P f args ri rv ro:=by
 unfold MF at hc;simp only[aBB] at hc;obtain⟨⟨hn,hbs⟩,hl⟩:=hc;have hl:=aBF hl;obtain⟨c,hb⟩:=Option.isSome_iff_exists.1 hbs;unfold Ul at h;rw[hb] at h;have hlow' : ∀q∈ri,q.1<100:=fun q hq=>by have:=aCS.1 hlow q hq;simpa [Nat.blt_eq] using this
 refine⟨by simp only[lB,hf,hb];simpa using hn,hlow',fun A φ w vs hI hargs=>?_⟩;refine calls_of_wp hf hb ?_;have hlen:=mN hargs;simp only[aGG] at hlen
 have hres: ∀h,bL (rE ri) h=bF ri h:=fun h=>by
  have:=Fn ri [] h;rw[aFk] at this;rw[this];cases bF ri h<;>rfl
 have hdom: ∀h pl,φ h=some pl->h<100:=fun h pl e=>by
  cases hr:bF ri h with
  | none=>rw[hI.non h hr] at e;cases e
  | some r=>exact hlow' _ (dF hr)
 have hG0:Aq A ⟨w,Oe φ,φ,hdom⟩ fn.ntmps (mk (DW 0 args) (rE ri)) { tmps:=vs++Array.replicate (fn.ntmps - vs.size) undef,defers:=[] } w:=by
  refine⟨A,φ,fun h r hr=>?_,fun h hr=>?_,hI.disj,hI.nodup,fun h pl e g hg=>⟨.inr ⟨h,pl,trivial,e,hg⟩,hI.ge h pl e g hg⟩,fun b hb=>⟨hI.lt b hb,.inl hb⟩,hI.out,fun _ h=>h,fun t=>?_,⟨rfl,rfl,rfl,aFC _,fun _ _ _=>rfl⟩,rfl,by simp;omega,fun h pl pl0 e e0=>by dsimp only at e0;rw[e] at e0;injection e0 with q;subst q;exact⟨rfl,rfl⟩⟩
  ·simp only[mk,hres] at hr;exact hI.dom h r hr
  ·simp only[mk,hres] at hr;exact hI.non h hr
  simp only[mk,Er,aBC,if_true,Nat.sub_zero];split
  ·rename_i x hx;obtain⟨v,hv,hr⟩:=rC hargs hx;have ht:t<vs.size:=by have:=(aCO.1 hv).1;simpa using this
   rw[Array.getD_eq_getD_getElem?,Array.getElem?_append_left ht,<-Array.getElem?_toList,hv];exact hr
  unfold aH;trivial
 have hvc:=A8 hT hm c [] [] (DW 0 args) (rE ri) t _ h;simp only[aFk] at hvc;refine Code.wp_mono (fun e a' w' ⟨S,⟨K,φ1,hG⟩,pre,prr,t',hS,hfin⟩=>?_) (hvc A _ _ w hG0);subst hS;unfold aFY at hfin;split at hfin
 ·rename_i he;split at hfin
  ·rename_i ren;split at hfin
   ·rename_i xs hxs;split at hfin
    ·rename_i hbb;simp only[aBB,aCS] at hbb;obtain⟨b1,b3⟩:=hbb;obtain⟨v,hrun,hmv⟩:=C8 hG (Oj hT hxs)
     let φ' :jS:=fun h=>match bF ro h with | some _=>(match dK ren h with | some g=>φ1 g | none=>some kH) | none=>none
     have p1: ∀h g pl,dK ren h=some g->φ' h=some pl->φ1 g=some pl:=fun h g pl e e' =>by
      simp only[φ',e] at e';split at e'
      ·exact e'
      cases e'
     have p2: ∀h pl,dK ren h=none->φ' h=some pl->pl=kH:=fun h pl e e' =>by
      simp only[φ',e] at e';split at e'
      ·injection e' with e';exact e'.symm
      cases e'
     have p0: ∀h pl,φ' h=some pl-> ∃r,bF ro h=some r:=fun h pl e=>by
      simp only[φ'] at e;split at e
      ·rename_i r hr;exact⟨r,hr⟩
      cases e
     have p3: ∀h pl,φ' h=some pl->(∃g,dK ren h=some g/\φ1 g=some pl)\/pl=kH:=fun h pl e=>by
      cases hl:dK ren h with
      | some g=>exact .inl ⟨g,rfl,p1 h g pl hl e⟩
      | none=>exact .inr (p2 h pl hl e)
     obtain⟨m1,m2⟩:=Oc (φ' :=φ') p1 p2 _ _ _ v hfin hmv
     have hO:WA A φ w ro K φ' w' :=by
      refine⟨hG.bel,hG.aK,fun b hb=>⟨(hG.kin b hb).1,(hG.kin b hb).2⟩,fun b hb h pl e=>?_,fun h r hr=>?_,fun h hr=>by simp[φ',hr],fun h h' pl pl' hne e e' g hg=>?_,fun h pl e=>?_,fun h pl e g hg=>?_,fun h pl pl0 e e0=>?_⟩
      ·rcases p3 h pl e with ⟨g,_,e⟩ | e
       ·exact hG.kout b hb g pl e
       rw[e];simp[kH,Pl.F]
      ·obtain⟨q1,q2⟩:=On m2 h r hr;cases hl:dK ren h with
       | some g=>
         obtain⟨r',hr',q⟩:=q1 g hl;obtain⟨pl,hp,hh⟩:=hG.dom g r' hr';refine⟨pl,by simp[φ',hr,hl,hp],?_⟩;rcases q with ⟨rfl,ha⟩ | ⟨t,cs,cs',Q,rfl,rfl,hq⟩
         ·exact Holds.arrPhi ha hh
         obtain⟨g',vs',e1,e2,e3,e4⟩:=hh;exact⟨g',vs',e1,e2,e3,(Ay (φ' :=φ') p1 p2 _ _ _ _ hq e4).1⟩
       | none=>
         obtain⟨e,k,d,rfl⟩:=q2 hl;refine⟨kH,by simp[φ',hr,hl],?_⟩;cases d with
         | true=>exact⟨[],[],World.ownsRow_nil w' 0 e k,rfl,rfl,by unfold dB;exact⟨rfl,rfl⟩⟩
         | false=>exact⟨[],World.ownsRow_nil w' 0 e k,rfl,rfl,rfl⟩
      ·rcases p3 h pl e with ⟨q,l1,e1⟩ | e1
       ·rcases p3 h' pl' e' with ⟨q',l1',e1'⟩ | e1'
        ·exact hG.disj q q' pl pl' (fun x=>by subst x;exact hne (JG b1 l1 l1')) e1 e1' g hg
        rw[e1'];simp[kH,Pl.F]
       rw[e1] at hg;simp[kH,Pl.F] at hg
      ·rcases p3 h pl e with ⟨g,_,e⟩ | e
       ·exact hG.nodup g pl e
       rw[e];simp[kH,Pl.F]
      ·rcases p3 h pl e with ⟨q,_,e⟩ | e
       ·exact hG.ge q pl e g hg
       rw[e] at hg;simp[kH,Pl.F] at hg
      obtain⟨r,hr⟩:=p0 h pl e;have:=b3 _ (dF hr);cases hri:bF ri h with
      | none=>rw[hI.non h hri] at e0;cases e0
      | some r0=>
        simp only[hri] at this;cases hl:dK ren h with
        | none=>rw[hl] at this;cases this
        | some g=>
          rw[hl] at this;have hg:=aBQ this;subst hg;exact hG.pin _ pl pl0 (p1 _ _ pl hl e) e0
     cases e with
     | normal=>exact⟨hG.nd,v,hrun,v,K,φ',rfl,hO,m1⟩
     | ret=>exact⟨hG.nd,v,hrun,v,K,φ',rfl,hO,m1⟩
     | _=>cases he
    cases hfin
   cases hfin
  cases hfin
 cases hfin
def aE0 {P:Program}{tb:Tb}(hT:oC P tb)(hm:P.follows .mixedOrders=true){f:FuncId}{fn:Func}{args:List AV}{ri:aGJ}{rv:AV}{ro:aGJ}(hf:P.funcs[f]? =some fn)(hc:MF fn args.length=true)(hlow:(ri.all fun q=>Nat.blt q.1 100)=true)(t:T){p:Prop}(h:Ul P tb fn args ri rv ro t=p)(hp:p):xB P f args ri rv ro:=aEZ hT hm hf hc hlow t (Eq.mpr h hp)
set_option maxRecDepth 100000
set_option maxHeartbeats 4000000
def tb:Tb:=⟨[(2,(false,1,8,.int .i64 0)),(3,(false,1,8,.int .i64 0)),(4,(false,1,1,.bool false)),(5,(false,1,1,.int .u8 0)),(6,(false,1,1,.int .u8 0)),(7,(true,4,24,.agg #[.int .i64 0,.int .i64 0,.bool false,.int .u8 0])),(8,(true,4,24,.agg #[.int .i64 0,.int .i64 0,.bool false,.int .u8 0])),(9,(false,1,16,.string ByteArray.empty)),(10,(false,1,16,.string ByteArray.empty)),(11,(false,1,16,.string ByteArray.empty)),(12,(false,1,8,.int .u64 0)),(13,(true,2,24,.agg #[.string ByteArray.empty,.int .u64 0])),(14,(true,2,24,.agg #[.string ByteArray.empty,.int .u64 0])),(15,(false,1,8,.pointer none)),(16,(false,1,8,.pointer none)),(17,(false,1,8,.pointer none)),(21,(false,1,4,.int .i32 0)),(22,(false,1,24,.slice none 0 0)),(24,(false,1,24,.slice none 0 0)),(25,(true,1,24,.agg #[.slice none 0 0])),(26,(true,1,24,.agg #[.slice none 0 0])),(27,(false,1,24,.slice none 0 0)),(28,(true,2,32,.agg #[.int .i64 0,.slice none 0 0])),(29,(true,2,32,.agg #[.int .i64 0,.slice none 0 0])),(30,(false,1,24,.slice none 0 0)),(31,(false,1,24,.slice none 0 0)),(32,(true,5,104,.agg #[.slice none 0 0,.int .i64 0,.slice none 0 0,.slice none 0 0,.slice none 0 0])),(33,(true,5,104,.agg #[.slice none 0 0,.int .i64 0,.slice none 0 0,.slice none 0 0,.slice none 0 0])),(34,(false,1,24,.slice none 0 0)),(35,(true,2,32,.agg #[.int .i64 0,.slice none 0 0])),(36,(true,2,32,.agg #[.int .i64 0,.slice none 0 0])),(39,(true,2,16,.agg #[.int .i64 0,.int .i64 0])),(40,(true,2,16,.agg #[.int .i64 0,.int .i64 0])),(41,(false,1,24,.slice none 0 0)),(42,(true,4,64,.agg #[.int .i64 0,.int .i64 0,.slice none 0 0,.slice none 0 0])),(43,(true,4,64,.agg #[.int .i64 0,.int .i64 0,.slice none 0 0,.slice none 0 0])),(51,(false,1,24,.slice none 0 0)),(53,(false,1,24,.slice none 0 0)),(54,(true,3,72,.agg #[.slice none 0 0,.slice none 0 0,.slice none 0 0])),(55,(true,3,72,.agg #[.slice none 0 0,.slice none 0 0,.slice none 0 0])),(56,(false,1,24,.slice none 0 0)),(71,(false,1,8,.pointer none)),(81,(false,1,24,.slice none 0 0)),(82,(true,7,136,.agg #[.slice none 0 0,.slice none 0 0,.slice none 0 0,.slice none 0 0,.slice none 0 0,.int .i64 0,.int .i64 0])),(83,(true,7,136,.agg #[.slice none 0 0,.slice none 0 0,.slice none 0 0,.slice none 0 0,.slice none 0 0,.int .i64 0,.int .i64 0])),(101,(true,3,40,.agg #[.slice none 0 0,.int .i64 0,.int .i64 0])),(102,(true,3,40,.agg #[.slice none 0 0,.int .i64 0,.int .i64 0])),(110,(false,1,24,.slice none 0 0)),(111,(true,4,56,.agg #[.string ByteArray.empty,.int .i64 0,.int .i64 0,.slice none 0 0])),(112,(true,4,56,.agg #[.string ByteArray.empty,.int .i64 0,.int .i64 0,.slice none 0 0])),(115,(true,2,40,.agg #[.string ByteArray.empty,.slice none 0 0])),(116,(true,2,40,.agg #[.string ByteArray.empty,.slice none 0 0])),(118,(true,3,24,.agg #[.int .i64 0,.int .i64 0,.int .i64 0])),(119,(true,3,24,.agg #[.int .i64 0,.int .i64 0,.int .i64 0])),(120,(false,1,8,.pointer none)),(121,(true,1,1,.agg #[.bool false])),(122,(true,1,1,.agg #[.bool false])),(133,(true,3,48,.agg #[.string ByteArray.empty,.slice none 0 0,.int .i64 0])),(134,(true,3,48,.agg #[.string ByteArray.empty,.slice none 0 0,.int .i64 0])),(137,(true,4,48,.agg #[.string ByteArray.empty,.int .i64 0,.string ByteArray.empty,.int .i64 0])),(138,(true,4,48,.agg #[.string ByteArray.empty,.int .i64 0,.string ByteArray.empty,.int .i64 0])),(143,(false,1,24,.slice none 0 0)),(154,(true,3,48,.agg #[.string ByteArray.empty,.int .i64 0,.slice none 0 0])),(155,(true,3,48,.agg #[.string ByteArray.empty,.int .i64 0,.slice none 0 0])),(175,(false,1,8,.int .u64 0)),(180,(false,1,24,.slice none 0 0)),(186,(true,3,72,.agg #[.slice none 0 0,.slice none 0 0,.slice none 0 0])),(187,(true,3,72,.agg #[.slice none 0 0,.slice none 0 0,.slice none 0 0])),(212,(false,1,8,.int .i64 0)),(221,(false,1,4,.int .u32 0)),(223,(false,1,8,.int .u64 0)),(229,(false,1,8,.int .u64 0)),(233,(false,1,8,.pointer none)),(238,(false,1,8,.pointer none)),(246,(true,0,0,.agg #[])),(247,(true,0,0,.agg #[])),(249,(false,1,1,.int .u8 0)),(250,(false,1,1,.int .u8 0)),(252,(false,1,8,.pointer none)),(253,(false,1,4,.int .i32 0)),(254,(false,1,4,.int .i32 0))],
 [(22,5),(24,155),(27,112),(30,134),(31,138),(34,116),(41,40),(51,3),(53,51),(56,119),(81,41),(110,187),(143,9),(180,4)],
 [(7,[(0,(0,2)),(1,(1,3)),(2,(2,4)),(3,(3,6))]),(8,[(0,(0,2)),(1,(1,3)),(2,(2,4)),(3,(3,6))]),(13,[(0,(0,9)),(1,(1,12))]),(14,[(0,(0,9)),(1,(1,12))]),(25,[(0,(0,24))]),(26,[(0,(0,24))]),(28,[(0,(0,3)),(1,(1,27))]),(29,[(0,(0,3)),(1,(1,27))]),(32,[(0,(0,26)),(1,(1,29)),(2,(3,30)),(3,(4,31))]),(33,[(0,(0,26)),(1,(1,29)),(2,(3,30)),(3,(4,31))]),(35,[(0,(0,3)),(1,(1,34))]),(36,[(0,(0,3)),(1,(1,34))]),(39,[(0,(0,3)),(1,(1,3))]),(40,[(0,(0,3)),(1,(1,3))]),(42,[(0,(0,40)),(1,(2,41)),(2,(3,41))]),(43,[(0,(0,40)),(1,(2,41)),(2,(3,41))]),(54,[(0,(0,51)),(1,(1,53)),(2,(2,51))]),(55,[(0,(0,51)),(1,(1,53)),(2,(2,51))]),(82,[(0,(0,51)),(1,(1,51)),(2,(2,81)),(3,(3,41)),(4,(4,41)),(5,(5,40))]),(83,[(0,(0,51)),(1,(1,51)),(2,(2,81)),(3,(3,41)),(4,(4,41)),(5,(5,40))]),(101,[(0,(0,22)),(1,(1,3)),(2,(2,3))]),(102,[(0,(0,22)),(1,(1,3)),(2,(2,3))]),(111,[(0,(0,9)),(1,(1,3)),(2,(2,3)),(3,(3,110))]),(112,[(0,(0,9)),(1,(1,3)),(2,(2,3)),(3,(3,110))]),(115,[(0,(0,9)),(1,(1,51))]),(116,[(0,(0,9)),(1,(1,51))]),(118,[(0,(0,3)),(1,(1,3)),(2,(2,3))]),(119,[(0,(0,3)),(1,(1,3)),(2,(2,3))]),(121,[(0,(0,4))]),(122,[(0,(0,4))]),(133,[(0,(0,9)),(1,(1,51)),(2,(2,3))]),(134,[(0,(0,9)),(1,(1,51)),(2,(2,3))]),(137,[(0,(0,9)),(1,(1,3)),(2,(2,9)),(3,(3,3))]),(138,[(0,(0,9)),(1,(1,3)),(2,(2,9)),(3,(3,3))]),(154,[(0,(0,9)),(1,(1,3)),(2,(2,53))]),(155,[(0,(0,9)),(1,(1,3)),(2,(2,53))]),(186,[(0,(0,51)),(1,(1,53)),(2,(2,51))]),(187,[(0,(0,51)),(1,(1,53)),(2,(2,51))]),(246,[]),(247,[])],
 [(7,(.agg #[.int .i64 0,.int .i64 0,.bool false,.int .u8 0],[(0,1),(1,1),(2,1),(3,1)])),(8,(.agg #[.int .i64 0,.int .i64 0,.bool false,.int .u8 0],[(0,1),(1,1),(2,1),(3,1)])),(13,(.agg #[.string ByteArray.empty,.int .u64 0],[(0,1),(1,1)])),(14,(.agg #[.string ByteArray.empty,.int .u64 0],[(0,1),(1,1)])),(25,(.agg #[.slice none 0 0],[(0,1)])),(26,(.agg #[.slice none 0 0],[(0,1)])),(28,(.agg #[.int .i64 0,.slice none 0 0],[(0,1),(1,1)])),(29,(.agg #[.int .i64 0,.slice none 0 0],[(0,1),(1,1)])),(32,(.agg #[.slice none 0 0,.int .i64 0,.slice none 0 0,.slice none 0 0,.slice none 0 0],[(0,1),(1,2),(3,1),(4,1)])),(33,(.agg #[.slice none 0 0,.int .i64 0,.slice none 0 0,.slice none 0 0,.slice none 0 0],[(0,1),(1,2),(3,1),(4,1)])),(35,(.agg #[.int .i64 0,.slice none 0 0],[(0,1),(1,1)])),(36,(.agg #[.int .i64 0,.slice none 0 0],[(0,1),(1,1)])),(39,(.agg #[.int .i64 0,.int .i64 0],[(0,1),(1,1)])),(40,(.agg #[.int .i64 0,.int .i64 0],[(0,1),(1,1)])),(42,(.agg #[.int .i64 0,.int .i64 0,.slice none 0 0,.slice none 0 0],[(0,2),(2,1),(3,1)])),(43,(.agg #[.int .i64 0,.int .i64 0,.slice none 0 0,.slice none 0 0],[(0,2),(2,1),(3,1)])),(54,(.agg #[.slice none 0 0,.slice none 0 0,.slice none 0 0],[(0,1),(1,1),(2,1)])),(55,(.agg #[.slice none 0 0,.slice none 0 0,.slice none 0 0],[(0,1),(1,1),(2,1)])),(82,(.agg #[.slice none 0 0,.slice none 0 0,.slice none 0 0,.slice none 0 0,.slice none 0 0,.int .i64 0,.int .i64 0],[(0,1),(1,1),(2,1),(3,1),(4,1),(5,2)])),(83,(.agg #[.slice none 0 0,.slice none 0 0,.slice none 0 0,.slice none 0 0,.slice none 0 0,.int .i64 0,.int .i64 0],[(0,1),(1,1),(2,1),(3,1),(4,1),(5,2)])),(101,(.agg #[.slice none 0 0,.int .i64 0,.int .i64 0],[(0,1),(1,1),(2,1)])),(102,(.agg #[.slice none 0 0,.int .i64 0,.int .i64 0],[(0,1),(1,1),(2,1)])),(111,(.agg #[.string ByteArray.empty,.int .i64 0,.int .i64 0,.slice none 0 0],[(0,1),(1,1),(2,1),(3,1)])),(112,(.agg #[.string ByteArray.empty,.int .i64 0,.int .i64 0,.slice none 0 0],[(0,1),(1,1),(2,1),(3,1)])),(115,(.agg #[.string ByteArray.empty,.slice none 0 0],[(0,1),(1,1)])),(116,(.agg #[.string ByteArray.empty,.slice none 0 0],[(0,1),(1,1)])),(118,(.agg #[.int .i64 0,.int .i64 0,.int .i64 0],[(0,1),(1,1),(2,1)])),(119,(.agg #[.int .i64 0,.int .i64 0,.int .i64 0],[(0,1),(1,1),(2,1)])),(121,(.agg #[.bool false],[(0,1)])),(122,(.agg #[.bool false],[(0,1)])),(133,(.agg #[.string ByteArray.empty,.slice none 0 0,.int .i64 0],[(0,1),(1,1),(2,1)])),(134,(.agg #[.string ByteArray.empty,.slice none 0 0,.int .i64 0],[(0,1),(1,1),(2,1)])),(137,(.agg #[.string ByteArray.empty,.int .i64 0,.string ByteArray.empty,.int .i64 0],[(0,1),(1,1),(2,1),(3,1)])),(138,(.agg #[.string ByteArray.empty,.int .i64 0,.string ByteArray.empty,.int .i64 0],[(0,1),(1,1),(2,1),(3,1)])),(154,(.agg #[.string ByteArray.empty,.int .i64 0,.slice none 0 0],[(0,1),(1,1),(2,1)])),(155,(.agg #[.string ByteArray.empty,.int .i64 0,.slice none 0 0],[(0,1),(1,1),(2,1)])),(186,(.agg #[.slice none 0 0,.slice none 0 0,.slice none 0 0],[(0,1),(1,1),(2,1)])),(187,(.agg #[.slice none 0 0,.slice none 0 0,.slice none 0 0],[(0,1),(1,1),(2,1)])),(246,(.agg #[],[(0,0)])),(247,(.agg #[],[(0,0)]))],
 [(4,())],
 [(9,()),(10,()),(11,())],
 [(2,.i64),(3,.i64),(5,.u8),(6,.u8),(12,.u64),(21,.i32),(175,.u64),(212,.i64),(221,.u32),(223,.u64),(229,.u64),(249,.u8),(250,.u8),(253,.i32),(254,.i32)],
 [(40,[0,0]),(119,[0,0,0]),(122,[1]),(138,[2,0,2,0])]⟩
def fc {α:Type}{p:Nat->α->Prop}{k:Nat}{v:α}{l:List (Nat × α)}(h:p k v)(t:rG p l):rG p ((k,v)::l):=⟨h,t⟩
def Oo:Tryz.prog.follows .mixedOrders=true:=by kernel_rfl
set_option maxRecDepth 100000 in
theorem aFZ:oC Tryz.prog tb:=
 by
 refine⟨?_,?_,?_,?_,?_,?_,?_,?_⟩<;>repeat' (first|refine fc ?_ ?_|exact trivial|kernel_rfl)
abbrev bN (p:AV × aGJ)(t:T):T:= .call p.1 p.2 t
abbrev rL (p:List AV × aGJ × AV × aGJ)(r:aGM)(t:T):T:= .callx p.1 p.2.1 r p.2.2.1 p.2.2.2 t
abbrev bH (p:List AV × aGJ × AV × aGJ)(r:aGM)(t:T):T:= .callxs p.1 p.2.1 r p.2.2.1 p.2.2.2 t
abbrev rg (a n:Nat):List Nat:=List.range' a n
abbrev Br (p:Prop)[Decidable p](X Y:Prop):Prop:=(decide p=true->X)/\(decide p=false->Y)
abbrev Nb (p:Prop)[Decidable p](X Y:Prop):Prop:=((!decide p)=true->X)/\((!decide p)=false->Y)
abbrev Bb (b:Bool)(X Y:Prop):Prop:=(b=true->X)/\(b=false->Y)
abbrev Nr (b:Bool)(X Y:Prop):Prop:=((!b)=true->X)/\((!b)=false->Y)
def dd {p:Prop}[Decidable p]{X Y:Prop}(hx:p->X)(hy: ¬p->Y):Br p X Y:=⟨fun h=>hx (of_decide_eq_true h),fun h=>hy (of_decide_eq_false h)⟩
def dn {p:Prop}[Decidable p]{X Y:Prop}(hx: ¬p->X)(hy:p->Y):Nb p X Y:=⟨fun h=>hx (of_decide_eq_false (nt h)),fun h=>hy (of_decide_eq_true (nf h))⟩
def db {b:Bool}{X Y:Prop}(hx:b=true->X)(hy:b=false->Y):Bb b X Y:=⟨hx,hy⟩
def dm {b:Bool}{X Y:Prop}(hx:b=false->X)(hy:b=true->Y):Nr b X Y:=⟨fun h=>hx (nt h),fun h=>hy (nf h)⟩
abbrev Lx {α:Type}(l:List α)(A:Prop):Prop:=l.length<=9223372036854775807->A
def lx {α β:Type}{f:α->β}{l:List α}{A:Prop}(h:l.length<=9223372036854775807->A):Lx (l.map f) A:=fun q=>h (by simpa using q)
abbrev Cn (f:FuncId)(args:List Ar)(rv:AV)(rr:aGJ):Prop:=xK Tryz.prog f args rv rr
abbrev Cm (f:FuncId)(args:List AV)(ri:aGJ)(rv:AV)(ro:aGJ):Prop:=xB Tryz.prog f args ri rv ro
def cq {f:FuncId}{fn:Func}{args:List Ar}{rv:AV}{rr:aGJ}(hf:Tryz.prog.funcs[f]? =some fn)(t:T){p:Prop}(hp:p)(h:(match MF fn args.length with | true=>Uk Tryz.prog tb fn args rv rr t | false=>False)=p:=by kernel_rfl):xK Tryz.prog f args rv rr:=by
 cases hc:MF fn args.length with
 | true=>rw[hc] at h;exact aFX aFZ Oo hf hc t h hp
 | false=>rw[hc] at h;rw[<-h] at hp;exact hp.elim
def Ls {f:FuncId}{fn:Func}{args:List AV}{ri:aGJ}{rv:AV}{ro:aGJ}(hf:Tryz.prog.funcs[f]? =some fn)(t:T){p:Prop}(hp:p)(h:(match MF fn args.length&&ri.all fun q=>Nat.blt q.1 100 with | true=>Ul Tryz.prog tb fn args ri rv ro t | false=>False)=p:=by kernel_rfl):xB Tryz.prog f args ri rv ro:=by
 cases hc:(MF fn args.length&&ri.all fun q=>Nat.blt q.1 100) with
 | true=>rw[hc] at h;rw[aBB] at hc;exact aE0 aFZ Oo hf hc.1 hc.2 t h hp
 | false=>rw[hc] at h;rw[<-h] at hp;exact hp.elim
def nq {p:Prop}[Decidable p](h:decide p=false): ¬p:=of_decide_eq_false h
abbrev Em {α:Type}(enc:α->List bX)(l:List α)(i:Nat)(P:α->Prop):Prop:=l.map enc=l.map enc/\i<l.length/\ ∀x,l[i]? =some x->P x
abbrev Lm {α:Type}(enc:α->List bX)(l:List α):Prop:=(l.map enc).length=l.length
abbrev Ap {α:Type}(enc:α->List bX)(l m:List α)(n:Nat)(R:Prop):Prop:=l.map enc=l.map enc/\m.map enc=m.map enc/\(∀x,iU (enc x)=true)/\(l.length+m.length)*n<=140737488355328/\R
def ap {α:Type}{enc:α->List bX}{l m:List α}{n:Nat}{R:Prop}(r:R)(hf: ∀x,iU (enc x)=true)(h:(l.length+m.length)*n<=140737488355328):Ap enc l m n R:=⟨rfl,rfl,hf,h,r⟩
def iG (s:E):List bX:=[.str s]
def lS (b:Bool):List bX:=[.bool b]
def rdOne {A:Nat->Prop}{w:World}{d:bX}{v:Value}(h:oL A w [d] [v]):jX A w d v:=by
 obtain⟨u,us,e,h1,_⟩:=h;injection e with e1
 subst e1;exact h1
def aE1 {α:Type}{l:List α}{i:Nat}{x y:α}(h:(l.set i y)[i]? =some x):x=y:=by
 rw[List.getElem?_set_self'] at h;cases hl:l[i]? with
 | none=>simp[hl] at h
 | some z=>simp[hl] at h;exact h.symm
def fK {α:Type}{l:List α}{k:Nat}(h:k<l.length): ∃x,l[k]? =some x:=⟨_,aBP h⟩
def aD (l:Z):List bX:=[.sl 3 1 (l.map intD)]
def eL (l:Z):Nat:=l.length
def dG (l:List Z):Nat:=qG eL l
def gP (l:List Z):l.length<=dG l:=Af _ l
def F5 {l:List Z}{k:Nat}{y:Z}(h:l[k]? =some y):eL y<=dG l:=xH _ h
structure aX where
 name:E
 l:Int
 rows:List Z
 deriving DecidableEq
def aP (x:aX):List bX:=[.str x.name,.int .i64 x.l,.sl 51 1 (x.rows.map aD)]
def kT (x:aX):Nat:=ByteArray.size x.name+dG x.rows
def rM:aX:=⟨ByteArray.empty,(0:Int),[]⟩
def CR (l:List aX):Nat:=qG kT l
def QV (l:List aX):l.length<=CR l:=Af _ l
def DX {l:List aX}{k:Nat}{y:aX}(h:l[k]? =some y):kT y<=CR l:=xH _ h
structure aU where
 a:List aX
 deriving DecidableEq
def cC (x:aU):Nat:=CR x.a
def WI:aU:=⟨[]⟩
structure cT where
 name:E
 vars:Z
 deriving DecidableEq
def bA (x:cT):List bX:=[.str x.name,.sl 3 1 (x.vars.map intD)]
def pS (x:cT):Nat:=ByteArray.size x.name+eL x.vars
def oG:cT:=⟨ByteArray.empty,[]⟩
def jT (l:List cT):Nat:=qG pS l
def F6 {l:List cT}{k:Nat}{y:cT}(h:l[k]? =some y):pS y<=jT l:=xH _ h
structure aV where
 g:Int
 k:List cT
 deriving DecidableEq
def iN (x:aV):Nat:=jT x.k
def DY:aV:=⟨(0:Int),[]⟩
structure aY where
 C:Z
 values:List Z
 counts:Z
 deriving DecidableEq
def aL (x:aY):List bX:=[.sl 3 1 (x.C.map intD),.sl 51 1 (x.values.map aD),.sl 3 1 (x.counts.map intD)]
def iV (x:aY):Nat:=eL x.C+dG x.values+eL x.counts
def Gw:aY:=⟨[],[],[]⟩
def jU (l:List aY):Nat:=qG iV l
def lY (l:List aY):l.length<=jU l:=Af _ l
def kY {l:List aY}{k:Nat}{y:aY}(h:l[k]? =some y):iV y<=jU l:=xH _ h
structure aQ where
 name:E
 l:Int
 A:Int
 t:List aY
 deriving DecidableEq
def aJ (x:aQ):List bX:=[.str x.name,.int .i64 x.l,.int .i64 x.A,.sl 187 3 (x.t.map aL)]
def cP (x:aQ):Nat:=ByteArray.size x.name+jU x.t
def vZ:aQ:=⟨ByteArray.empty,(0:Int),(0:Int),[]⟩
def iS (l:List aQ):Nat:=qG cP l
def oW {l:List aQ}{k:Nat}{y:aQ}(h:l[k]? =some y):cP y<=iS l:=xH _ h
structure eO where
 D:Int
 a:List aQ
 deriving DecidableEq
def dA (x:eO):Nat:=iS x.a
def DZ:eO:=⟨(0:Int),[]⟩
structure bB where
 name:E
 src:Z
 dst:Int
 deriving DecidableEq
def aO (x:bB):List bX:=[.str x.name,.sl 3 1 (x.src.map intD),.int .i64 x.dst]
def jY (x:bB):Nat:=ByteArray.size x.name+eL x.src
def cE (l:List bB):Nat:=qG jY l
def xQ (l:List bB):l.length<=cE l:=Af _ l
def Hz {l:List bB}{k:Nat}{y:bB}(h:l[k]? =some y):jY y<=cE l:=xH _ h
structure bG where
 name:E
 H:Int
 I:E
 B:Int
 deriving DecidableEq
def aT (x:bG):List bX:=[.str x.name,.int .i64 x.H,.str x.I,.int .i64 x.B]
def nN (x:bG):Nat:=ByteArray.size x.name+ByteArray.size x.I
def cQ (l:List bG):Nat:=qG nN l
def dZ (l:List bG):l.length<=cQ l:=Af _ l
structure cA where
 z:aU
 j:eO
 y:List bB
 x:List bG
 deriving DecidableEq
def fD (x:cA):Nat:=cC x.z+dA x.j+cE x.y+cQ x.x
def Yk:cA:=⟨WI,DZ,[],[]⟩
structure aI where
 src:Int
 dst:Int
 bits:Int
 deriving DecidableEq
def aF (x:aI):List bX:=[.int .i64 x.src,.int .i64 x.dst,.int .i64 x.bits]
def H0 (x:aI):Prop:=Pk x.src/\Pk x.dst/\Pk x.bits
def rN (l:List aI):Prop:= ∀x∈l,H0 x
structure aB where
 num:Int
 den:Int
 deriving DecidableEq
def aA (x:aB):List bX:=[.int .i64 x.num,.int .i64 x.den]
def WJ:aB:=⟨(0:Int),(0:Int)⟩
def aG (l:List aB):List bX:=[.sl 40 2 (l.map aA)]
def JT (l:List aB):Nat:=l.length
structure bC where
 q:Z
 rows:List Z
 b:Z
 deriving DecidableEq
def uN (x:bC):Nat:=eL x.q+dG x.rows+eL x.b
def qM:bC:=⟨[],[],[]⟩
structure aE where
 c:Z
 r:Z
 u:List (List aB)
 b:List aB
 s:List aB
 value:aB
 deriving DecidableEq
structure tX where
 value:aB
 E:List aB
 G:List aB
 deriving DecidableEq
def F7 (x:tX):Nat:=JT x.E+JT x.G
def mO (s t:E):(s.toList==t.toList)=decide (s=t):=by
 rw[ByteArray.toList_eq,ByteArray.toList_eq];by_cases h:s=t
 ·simp[h]
 have: ¬s.data.toList=t.data.toList:=fun e=>h (by cases s;cases t;simp at e;simp[e]);simp only[h,decide_false,beq_eq_false_iff_ne];exact this
def pT {α:Type}{l m:List α}{k:Nat}{x:α}(h:l[k]? =some x)(h' :m[k]? =some x)(e:l.take k=m.take k):l.take (k+1)=m.take (k+1):=by rw[bW h,bW h',e]
def Um {α:Type}{l m:List α}{k:Nat}{x y:α}(h:l[k]? =some x)(h' :m[k]? =some y)(e: ¬x=y): ¬l=m:=by
 rintro rfl;rw[h] at h';exact e (by injection h')
def JU {α:Type}{l m:List α}(h: ¬(l.length:Int)=m.length): ¬l=m:=fun e=>h (by rw[e])
def pU {α:Type}{l m:List α}{k:Nat}(hk:l.length<=k)(hl:l.length=m.length)(e:l.take k=m.take k):l=m:=by rwa [aCR hk,aCR aGR] at e
abbrev tY (l:Z)(m:Z):Prop:=Cn 200 [.one (.sl 3 1 (l.map intD)),.one (.sl 3 1 (m.map intD))] (vB (decide (l=m))) []
def Es (l m:Z):tY l m:=by
 refine cq Tryz.func200 (.len l.length<| .len m.length<| .br (.fin []) (.len l.length<| .loop Nat (Q1 Nat) ([5]++rg 13 13) [] (fun k=>[(13,vI (k:Int))]) (fun k=>[]) (fun k=>k<=l.length/\l.take k=m.take k) (fun k=>l.length - k) (fun k=> .br (.elem _ intD l (fun e18=> .elem _ intD m (fun e22=> .br (.fin []) (.back [])))) (.fin [])))) (p:=Lx (l.map intD)<| Lx (m.map intD)<| Lm intD l/\(Lm intD m/\Nb ((l.length:Int)=(m.length:Int)) ((false)=(decide (l=m))/\True) (Lm intD l/\((∃(k:Nat),0=(k:Int)/\k<=l.length/\l.take k=m.take k)/\ ∀(k:Nat),(k<=l.length/\l.take k=m.take k)->Br ((k:Int)<(l.length:Int)) (0<=(k:Int)/\Em intD l k fun e18=>0<=(k:Int)/\Em intD m k fun e22=>Nb (e18=e22) ((false)=(decide (l=m))/\True) (bO ((k:Int)+1)/\ ∃(k' :Nat),((k:Int)+1)=(k' :Int)/\(k' <=l.length/\l.take k' =m.take k')/\l.length - k' <l.length - k)) ((true)=(decide (l=m))/\True))))) ?_;refine lx fun n0=>lx fun n1=>?_;refine⟨aAb _,aAb _,dn (fun c0=>?_) fun c0=>?_⟩
 ·apply et1
  ·(simp[JU c0];done)
 ·have hl:l.length=m.length:=aGR
  refine⟨aAb _,⟨0,rfl,aBC _,rfl⟩,fun k ⟨hk,ht⟩=>?_⟩;apply dd<;>intro c1
  ·obtain⟨x,hx⟩:=fK (l:=l) (k:=k) aGR;obtain⟨y,hy⟩:=fK (l:=m) (k:=k) aGR;refine⟨aGR,rfl,aGR,fun e18 h18=>?_⟩;obtain rfl:=(bE hx h18).symm;refine⟨aGR,rfl,aGR,fun e22 h22=>?_⟩;obtain rfl:=(bE hy h22).symm;apply dn<;>intro c2
   ·have hxy: ¬x=y:=by simpa using c2
    apply et1
    ·(simp[Um hx hy hxy];done)
   ·have hxy:x=y:=by simpa using c2
    refine⟨aGS,?_⟩;exact⟨k+1,rfl,⟨aGR,pT hx (by rw[hy,hxy]) ht⟩,aGR⟩
  ·apply et1
   ·(simp[pU aGR hl ht];done)
abbrev Yl (l:Z)(m:Z):Prop:=Cn 212 [.one (.sl 3 1 (l.map intD)),.one (.sl 3 1 (m.map intD))] (vB (decide (l=m))) []
def aGU (l m:Z):Yl l m:=by
 refine cq Tryz.func212 (.call (vB (decide (l=m))) []<| .fin []) (p:=Lx (l.map intD)<| Lx (m.map intD)<| tY l m/\(decide (l=m))=(decide (l=m))/\True) ?_;refine lx fun n0=>lx fun n1=>?_;refine⟨Es _ _,?_,trivial⟩
 ·rfl
abbrev Gx (l:List Z)(m:List Z):Prop:=Cn 211 [.one (.sl 51 1 (l.map aD)),.one (.sl 51 1 (m.map aD)),.fn 212 []] (vB (decide (l=m))) []
def WK (l m:List Z):Gx l m:=by
 refine cq Tryz.func211 (.len l.length<| .len m.length<| .br (.fin []) (.len l.length<| .loop Nat (Q1 Nat) ([7,8,9]++rg 17 15) [] (fun k=>[(17,vI (k:Int))]) (fun k=>[]) (fun k=>k<=l.length/\l.take k=m.take k) (fun k=>l.length - k) (fun k=> .br (.elem _ aD l (fun e20=> .elem _ aD m (fun e24=> .call (vB (decide (e20=e24))) []<| .br (.fin []) (.back [])))) (.fin [])))) (p:=Lx (l.map aD)<| Lx (m.map aD)<| Lm aD l/\(Lm aD m/\Nb ((l.length:Int)=(m.length:Int)) ((false)=(decide (l=m))/\True) (Lm aD l/\((∃(k:Nat),0=(k:Int)/\k<=l.length/\l.take k=m.take k)/\ ∀(k:Nat),(k<=l.length/\l.take k=m.take k)->Br ((k:Int)<(l.length:Int)) (0<=(k:Int)/\Em aD l k fun e20=>0<=(k:Int)/\Em aD m k fun e24=>Yl e20 e24/\Nb (e20=e24) ((false)=(decide (l=m))/\True) (bO ((k:Int)+1)/\ ∃(k' :Nat),((k:Int)+1)=(k' :Int)/\(k' <=l.length/\l.take k' =m.take k')/\l.length - k' <l.length - k)) ((true)=(decide (l=m))/\True))))) ?_;refine lx fun n0=>lx fun n1=>?_;refine⟨aAb _,aAb _,dn (fun c0=>?_) fun c0=>?_⟩
 ·apply et1
  ·(simp[JU c0];done)
 ·have hl:l.length=m.length:=aGR
  refine⟨aAb _,⟨0,rfl,aBC _,rfl⟩,fun k ⟨hk,ht⟩=>?_⟩;apply dd<;>intro c1
  ·obtain⟨x,hx⟩:=fK (l:=l) (k:=k) aGR;obtain⟨y,hy⟩:=fK (l:=m) (k:=k) aGR;refine⟨aGR,rfl,aGR,fun e20 h20=>?_⟩;obtain rfl:=(bE hx h20).symm;refine⟨aGR,rfl,aGR,fun e24 h24=>?_⟩;obtain rfl:=(bE hy h24).symm;refine⟨aGU _ _,dn (fun c2=>?_) fun c2=>?_⟩
   ·have hxy: ¬x=y:=by simpa using c2
    apply et1
    ·(simp[Um hx hy hxy];done)
   ·have hxy:x=y:=by simpa using c2
    refine⟨aGS,?_⟩;exact⟨k+1,rfl,⟨aGR,pT hx (by rw[hy,hxy]) ht⟩,aGR⟩
  ·apply et1
   ·(simp[pU aGR hl ht];done)
abbrev DA (l:List Z)(m:List Z):Prop:=Cn 201 [.one (.sl 51 1 (l.map aD)),.one (.sl 51 1 (m.map aD))] (vB (decide (l=m))) []
def QW (l m:List Z):DA l m:=by
 refine cq Tryz.func201 (.call (vB (decide (l=m))) []<| .fin []) (p:=Lx (l.map aD)<| Lx (m.map aD)<| Gx l m/\(decide (l=m))=(decide (l=m))/\True) ?_;refine lx fun n0=>lx fun n1=>?_;refine⟨WK _ _,?_,trivial⟩
 ·rfl
def uO (a b:aY):decide (a=b)=(decide (a.C=b.C)&&(decide (a.values=b.values)&&decide (a.counts=b.counts))):=by
 obtain⟨a0,a1,a2⟩:=a;obtain⟨b0,b1,b2⟩:=b;simp[Bool.and_assoc]
abbrev aHI(x:aY):Ar:=.agg [.sl 3 1 (x.C.map intD),.sl 51 1 (x.values.map aD),.sl 3 1 (x.counts.map intD)]
abbrev JV (a:aY)(b:aY):Prop:=Cn 184 [aHI a,aHI b] (vB (decide (a=b))) []
def Ym (a b:aY):JV a b:=by
 refine cq Tryz.func184 (.call (vB (decide (a.C=b.C))) []<| .br (.call (vB (decide (a.values=b.values))) []<| .lit<| .br (.call (vB (decide (a.counts=b.counts))) []<| .fin []) (.fin [])) (.fin [])) (p:=Lx (a.C.map intD)<| Lx (a.values.map aD)<| Lx (a.counts.map intD)<| Lx (b.C.map intD)<| Lx (b.values.map aD)<| Lx (b.counts.map intD)<| tY a.C b.C/\Br (a.C=b.C) (DA a.values b.values/\Br (a.values=b.values) (tY a.counts b.counts/\(decide (a.counts=b.counts))=(decide (a=b))/\True) ((false)=(decide (a=b))/\True)) ((false)=(decide (a=b))/\True)) ?_;refine lx fun n0=>lx fun n1=>lx fun n2=>lx fun n3=>lx fun n4=>lx fun n5=>?_;refine⟨Es _ _,dd (fun g10=>?_) fun g10=>?_⟩
 ·refine⟨QW _ _,dd (fun g17=>?_) fun g17=>?_⟩
  ·refine⟨Es _ _,?_,trivial⟩
   ·(rw[uO];simp_all [mO];done)
  ·apply et1
   ·(rw[uO];simp_all [mO];done)
 ·apply et1
  ·(rw[uO];simp_all [mO];done)
abbrev wA (l:List aY)(m:List aY):Prop:=Cn 183 [.one (.sl 187 3 (l.map aL)),.one (.sl 187 3 (m.map aL)),.fn 184 []] (vB (decide (l=m))) []
def H3 (l m:List aY):wA l m:=by
 refine cq Tryz.func183 (.len l.length<| .len m.length<| .br (.fin []) (.len l.length<| .loop Nat (Q1 Nat) ([7,8,9]++rg 17 15) [800,900] (fun k=>[(17,vI (k:Int))]) (fun k=>[]) (fun k=>k<=l.length/\l.take k=m.take k) (fun k=>l.length - k) (fun k=> .br (.elem _ aL l (fun e20=> .elem _ aL m (fun e24=> .call (vB (decide (e20=e24))) []<| .br (.fin []) (.back [])))) (.fin [])))) (p:=Lx (l.map aL)<| Lx (m.map aL)<| Lm aL l/\(Lm aL m/\Nb ((l.length:Int)=(m.length:Int)) ((false)=(decide (l=m))/\True) (Lm aL l/\((∃(k:Nat),0=(k:Int)/\k<=l.length/\l.take k=m.take k)/\ ∀(k:Nat),(k<=l.length/\l.take k=m.take k)->Br ((k:Int)<(l.length:Int)) (0<=(k:Int)/\Em aL l k fun e20=>0<=(k:Int)/\Em aL m k fun e24=>JV e20 e24/\Nb (e20=e24) ((false)=(decide (l=m))/\True) (bO ((k:Int)+1)/\ ∃(k' :Nat),((k:Int)+1)=(k' :Int)/\(k' <=l.length/\l.take k' =m.take k')/\l.length - k' <l.length - k)) ((true)=(decide (l=m))/\True))))) ?_;refine lx fun n0=>lx fun n1=>?_;refine⟨aAb _,aAb _,dn (fun c0=>?_) fun c0=>?_⟩
 ·apply et1
  ·(simp[JU c0];done)
 ·have hl:l.length=m.length:=aGR
  refine⟨aAb _,⟨0,rfl,aBC _,rfl⟩,fun k ⟨hk,ht⟩=>?_⟩;apply dd<;>intro c1
  ·obtain⟨x,hx⟩:=fK (l:=l) (k:=k) aGR;obtain⟨y,hy⟩:=fK (l:=m) (k:=k) aGR;refine⟨aGR,rfl,aGR,fun e20 h20=>?_⟩;obtain rfl:=(bE hx h20).symm;refine⟨aGR,rfl,aGR,fun e24 h24=>?_⟩;obtain rfl:=(bE hy h24).symm;refine⟨Ym _ _,dn (fun c2=>?_) fun c2=>?_⟩
   ·have hxy: ¬x=y:=by simpa using c2
    apply et1
    ·(simp[Um hx hy hxy];done)
   ·have hxy:x=y:=by simpa using c2
    refine⟨aGS,?_⟩;exact⟨k+1,rfl,⟨aGR,pT hx (by rw[hy,hxy]) ht⟩,aGR⟩
  ·apply et1
   ·(simp[pU aGR hl ht];done)
def iW (a b:aQ):decide (a=b)=(decide (a.name=b.name)&&(decide (a.l=b.l)&&(decide (a.A=b.A)&&decide (a.t=b.t)))):=by
 obtain⟨a0,a1,a2,a3⟩:=a;obtain⟨b0,b1,b2,b3⟩:=b;simp[Bool.and_assoc]
abbrev aGZ(x:aQ):Ar:=.agg [.str x.name,.int .i64 x.l,.int .i64 x.A,.sl 187 3 (x.t.map aL)]
abbrev qN (a:aQ)(b:aQ):Prop:=Cn 154 [aGZ a,aGZ b] (vB (decide (a=b))) []
abbrev aGN(t:T):T:=.lit (.lit (.lit (.lit (.lit (t)))))
def yW (a b:aQ):qN a b:=by
 refine cq Tryz.func154 (.br (aGN<| .br (aGN<| .br (.call (vB (decide (a.t=b.t))) []<| .fin []) (.fin [])) (.fin [])) (.fin [])) (p:=Lx (a.t.map aL)<| Lx (b.t.map aL)<| Bb (a.name.toList==b.name.toList) (Br (a.l=b.l) (Br (a.A=b.A) (wA a.t b.t/\(decide (a.t=b.t))=(decide (a=b))/\True) ((false)=(decide (a=b))/\True)) ((false)=(decide (a=b))/\True)) ((false)=(decide (a=b))/\True)) ?_;refine lx fun n0=>lx fun n1=>?_;apply db<;>intro g10
 ·apply dd<;>intro g17
  ·apply dd<;>intro g24
   ·refine⟨H3 _ _,?_,trivial⟩
    ·(rw[iW];simp_all [mO];done)
   ·apply et1
    ·(rw[iW];simp_all [mO];done)
  ·apply et1
   ·(rw[iW];simp_all [mO];done)
 ·apply et1
  ·(rw[iW];simp_all [mO];done)
abbrev wB (l:List aQ)(m:List aQ):Prop:=Cn 153 [.one (.sl 112 4 (l.map aJ)),.one (.sl 112 4 (m.map aJ)),.fn 154 []] (vB (decide (l=m))) []
def H4 (l m:List aQ):wB l m:=by
 refine cq Tryz.func153 (.len l.length<| .len m.length<| .br (.fin []) (.len l.length<| .loop Nat (Q1 Nat) ([7,8,9]++rg 17 15) [800,900] (fun k=>[(17,vI (k:Int))]) (fun k=>[]) (fun k=>k<=l.length/\l.take k=m.take k) (fun k=>l.length - k) (fun k=> .br (.elem _ aJ l (fun e20=> .elem _ aJ m (fun e24=> .call (vB (decide (e20=e24))) []<| .br (.fin []) (.back [])))) (.fin [])))) (p:=Lx (l.map aJ)<| Lx (m.map aJ)<| Lm aJ l/\(Lm aJ m/\Nb ((l.length:Int)=(m.length:Int)) ((false)=(decide (l=m))/\True) (Lm aJ l/\((∃(k:Nat),0=(k:Int)/\k<=l.length/\l.take k=m.take k)/\ ∀(k:Nat),(k<=l.length/\l.take k=m.take k)->Br ((k:Int)<(l.length:Int)) (0<=(k:Int)/\Em aJ l k fun e20=>0<=(k:Int)/\Em aJ m k fun e24=>qN e20 e24/\Nb (e20=e24) ((false)=(decide (l=m))/\True) (bO ((k:Int)+1)/\ ∃(k' :Nat),((k:Int)+1)=(k' :Int)/\(k' <=l.length/\l.take k' =m.take k')/\l.length - k' <l.length - k)) ((true)=(decide (l=m))/\True))))) ?_;refine lx fun n0=>lx fun n1=>?_;refine⟨aAb _,aAb _,dn (fun c0=>?_) fun c0=>?_⟩
 ·apply et1
  ·(simp[JU c0];done)
 ·have hl:l.length=m.length:=aGR
  refine⟨aAb _,⟨0,rfl,aBC _,rfl⟩,fun k ⟨hk,ht⟩=>?_⟩;apply dd<;>intro c1
  ·obtain⟨x,hx⟩:=fK (l:=l) (k:=k) aGR;obtain⟨y,hy⟩:=fK (l:=m) (k:=k) aGR;refine⟨aGR,rfl,aGR,fun e20 h20=>?_⟩;obtain rfl:=(bE hx h20).symm;refine⟨aGR,rfl,aGR,fun e24 h24=>?_⟩;obtain rfl:=(bE hy h24).symm;refine⟨yW _ _,dn (fun c2=>?_) fun c2=>?_⟩
   ·have hxy: ¬x=y:=by simpa using c2
    apply et1
    ·(simp[Um hx hy hxy];done)
   ·have hxy:x=y:=by simpa using c2
    refine⟨aGS,?_⟩;exact⟨k+1,rfl,⟨aGR,pT hx (by rw[hy,hxy]) ht⟩,aGR⟩
  ·apply et1
   ·(simp[pU aGR hl ht];done)
def sH (a b:eO):decide (a=b)=(decide (a.D=b.D)&&decide (a.a=b.a)):=by
 obtain⟨a0,a1⟩:=a;obtain⟨b0,b1⟩:=b;simp[Bool.and_assoc]
abbrev aHG(x:eO):Ar:=.agg [.int .i64 x.D,.sl 112 4 (x.a.map aJ)]
abbrev Et (a:eO)(b:eO):Prop:=Cn 114 [aHG a,aHG b] (vB (decide (a=b))) []
def TC (a b:eO):Et a b:=by
 refine cq Tryz.func114 (.br (.call (vB (decide (a.a=b.a))) []<| .fin []) (.fin [])) (p:=Lx (a.a.map aJ)<| Lx (b.a.map aJ)<| Br (a.D=b.D) (wB a.a b.a/\(decide (a.a=b.a))=(decide (a=b))/\True) ((false)=(decide (a=b))/\True)) ?_;refine lx fun n0=>lx fun n1=>?_;apply dd<;>intro g10
 ·refine⟨H4 _ _,?_,trivial⟩
  ·(rw[sH];simp_all [mO];done)
 ·apply et1
  ·(rw[sH];simp_all [mO];done)
def cO:Z->Z->Int
 | [],[]=>0
 | [],_::_=> -1
 | _::_,[]=>1
 | a::l,b::m=>if a<b then -1 else if b<a then 1 else cO l m
theorem fW: ∀{l m:Z},cO l m=0↔l=m
 | [],[]=>by simp[cO]
 | [],_::_=>by simp[cO]
 | _::_,[]=>by simp[cO]
 | a::l,b::m=>by
   unfold cO;split
   ·simp;omega
   split
   ·simp;omega
   rw[fW];have:a=b:=aGR
   simp[this]
def oD {α:Type}{l:List α}{k:Nat}{x:α}(h:l[k]? =some x):l.drop k=x::l.drop (k+1):=by
 obtain⟨hk,rfl⟩:=aCO.1 h;exact List.drop_eq_getElem_cons hk
def BA {α:Type}{l:List α}{k:Nat}(h:l.length<=k):l.drop k= []:=List.drop_eq_nil_of_le h
def lZ {l m:Z}{k:Nat}(hk:k<=l.length/\k<=m.length)(hs: ¬k<l.length\/ ¬k<m.length):cO (l.drop k) (m.drop k)=if l.length<m.length then -1 else if m.length<l.length then 1 else 0:=by
 by_cases h1:k<l.length
 ·obtain⟨x,hx⟩:=fK h1;rw[oD hx,BA (l:=m) aGR,cO,if_neg aGR,if_pos aGR]
 rw[BA (l:=l) aGR];by_cases h2:k<m.length
 ·obtain⟨x,hx⟩:=fK h2;rw[oD hx,cO,if_pos aGR]
 rw[BA (l:=m) aGR,cO,if_neg aGR,if_neg aGR]
abbrev gZ (l:Z)(m:Z):Prop:=Cn 176 [.one (.sl 3 1 (l.map intD)),.one (.sl 3 1 (m.map intD))] (vI (cO l m)) []
abbrev aGQ(t:T):T:=.lit (.lit (t))
def lC (l m:Z):gZ l m:=by
 refine cq Tryz.func176 (.loop Nat (Q1 Nat) (rg 5 31) [] (fun k=>[(5,vI (k:Int))]) (fun k=>[]) (fun k=>(k<=l.length/\k<=m.length)/\cO (l.drop k) (m.drop k)=cO l m) (fun k=>l.length - k) (fun k=> .len l.length<| .br (.len m.length<| aGQ<| .br (.elem _ intD l (fun e20=> .elem _ intD m (fun e24=> .br (.fin []) (.elem _ intD l (fun e29=> .elem _ intD m (fun e33=> .br (.fin []) (.back []))))))) (.len l.length<| .len m.length<| .br (.fin []) (.len l.length<| .len m.length<| .br (.fin []) (.fin [])))) (.len l.length<| .len m.length<| .br (.fin []) (.len l.length<| .len m.length<| .br (.fin []) (.fin []))))) (p:=Lx (l.map intD)<| Lx (m.map intD)<| (∃(k:Nat),0=(k:Int)/\(k<=l.length/\k<=m.length)/\cO (l.drop k) (m.drop k)=cO l m)/\ ∀(k:Nat),((k<=l.length/\k<=m.length)/\cO (l.drop k) (m.drop k)=cO l m)->Lm intD l/\Br ((k:Int)<(l.length:Int)) (Lm intD m/\Br ((k:Int)<(m.length:Int)) (0<=(k:Int)/\Em intD l k fun e20=>0<=(k:Int)/\Em intD m k fun e24=>Br (e20<e24) ((-1:Int)=(cO l m)/\True) (0<=(k:Int)/\Em intD l k fun e29=>0<=(k:Int)/\Em intD m k fun e33=>Br (e33<e29) (1=(cO l m)/\True) (bO ((k:Int)+1)/\ ∃(k' :Nat),((k:Int)+1)=(k' :Int)/\((k' <=l.length/\k' <=m.length)/\cO (l.drop k') (m.drop k')=cO l m)/\l.length - k' <l.length - k))) (Lm intD l/\Lm intD m/\Br ((l.length:Int)<(m.length:Int)) ((-1:Int)=(cO l m)/\True) (Lm intD l/\Lm intD m/\Br ((m.length:Int)<(l.length:Int)) (1=(cO l m)/\True) (0=(cO l m)/\True)))) (Lm intD l/\Lm intD m/\Br ((l.length:Int)<(m.length:Int)) ((-1:Int)=(cO l m)/\True) (Lm intD l/\Lm intD m/\Br ((m.length:Int)<(l.length:Int)) (1=(cO l m)/\True) (0=(cO l m)/\True)))) ?_;refine lx fun n0=>lx fun n1=>?_;refine⟨⟨0,rfl,⟨aBC _,aBC _⟩,rfl⟩,fun k ⟨hk,hv⟩=>?_⟩;refine⟨aAb _,dd (fun g10=>?_) fun g10=>?_⟩
 ·refine⟨aAb _,dd (fun c0=>?_) fun c0=>?_⟩
  ·obtain⟨x,hx⟩:=fK (l:=l) (k:=k) aGR;obtain⟨y,hy⟩:=fK (l:=m) (k:=k) aGR;have hd:cO l m=if x<y then -1 else if y<x then 1 else cO (l.drop (k+1)) (m.drop (k+1)):=by rw[<-hv,oD hx,oD hy,cO]
   refine⟨aGR,rfl,aGR,fun e20 h20=>?_⟩;obtain rfl:=(bE hx h20).symm;refine⟨aGR,rfl,aGR,fun e24 h24=>?_⟩;obtain rfl:=(bE hy h24).symm;apply dd<;>intro c1
   ·apply et1
    ·(rw[hd,if_pos c1];done)
   ·refine⟨aGR,rfl,aGR,fun e29 h29=>?_⟩;obtain rfl:=(bE hx h29).symm;refine⟨aGR,rfl,aGR,fun e33 h33=>?_⟩;obtain rfl:=(bE hy h33).symm;apply dd<;>intro c2
    ·apply et1
     ·(rw[hd,if_neg c1,if_pos c2];done)
    ·refine⟨aGS,?_⟩;exact⟨k+1,rfl,⟨aGR,by rw[hd,if_neg c1,if_neg c2]⟩,aGR⟩
  ·refine⟨aAb _,aAb _,dd (fun c3=>?_) fun c3=>?_⟩
   ·apply et1
    ·(rw[<-hv,lZ hk aGR,if_pos aGR];done)
   ·refine⟨aAb _,aAb _,dd (fun c4=>?_) fun c4=>?_⟩
    ·apply et1
     ·(rw[<-hv,lZ hk aGR,if_neg aGR,if_pos aGR];done)
    ·apply et1
     ·(rw[<-hv,lZ hk aGR,if_neg aGR,if_neg aGR];done)
 ·refine⟨aAb _,aAb _,dd (fun c3=>?_) fun c3=>?_⟩
  ·apply et1
   ·(rw[<-hv,lZ hk aGR,if_pos aGR];done)
  ·refine⟨aAb _,aAb _,dd (fun c4=>?_) fun c4=>?_⟩
   ·apply et1
    ·(rw[<-hv,lZ hk aGR,if_neg aGR,if_pos aGR];done)
   ·apply et1
    ·(rw[<-hv,lZ hk aGR,if_neg aGR,if_neg aGR];done)
def aE2 {x y:aY}(h1:x.C=y.C)(h2:x.values=y.values)(h3:x.counts=y.counts):x=y:=by
 obtain⟨a,b,c⟩:=x;obtain⟨d,e,f⟩:=y;simp at h1 h2 h3;subst h1 h2 h3;rfl
abbrev uP (a:aQ)(b:aQ):Prop:=Cn 169 [aGZ a,aGZ b] (vB (decide (a=b))) []
def Eu (a b:aQ)(ha:cP a<=1048576):uP a b:=by
 refine cq Tryz.func169 (.br (.fin []) (aGN<| .br (.fin []) (aGN<| .br (.fin []) (.len a.t.length<| .len b.t.length<| aGQ<| .br (.fin []) (.loop Nat (Q1 Nat) ([5,6,7,8]++rg 37 59) [600,700] (fun i=>[(5,vI (i:Int))]) (fun i=>[]) (fun i=>i<=a.t.length/\a.t.take i=b.t.take i) (fun i=>a.t.length - i) (fun i=> .len a.t.length<| .br (.elem _ aL a.t (fun e47=> .elem _ aL b.t (fun e52=> .call (vI (cO e47.C e52.C)) []<| .br (.fin []) (.call (vI (cO e47.counts e52.counts)) []<| aGQ<| .br (.fin []) (.len e47.values.length<| .len e52.values.length<| aGQ<| .br (.fin []) (.loop Nat (Q1 Nat) ([8]++rg 77 19) [] (fun k=>[(8,vI (k:Int))]) (fun k=>[]) (fun k=>k<=e47.values.length/\e47.values.take k=e52.values.take k) (fun k=>e47.values.length - k) (fun k=> .len e47.values.length<| .br (.elem _ aD e47.values (fun e87=> .elem _ aD e52.values (fun e92=> .call (vI (cO e87 e92)) []<| .br (.fin []) (.back [])))) (.back [])))))))) (.fin []))))))) (p:=Lx (a.t.map aL)<| Lx (b.t.map aL)<| Nr (a.name.toList==b.name.toList) ((false)=(decide (a=b))/\True) (Nb (a.l=b.l) ((false)=(decide (a=b))/\True) (Nb (a.A=b.A) ((false)=(decide (a=b))/\True) (Lm aL a.t/\(Lm aL b.t/\Nb ((a.t.length:Int)=(b.t.length:Int)) ((false)=(decide (a=b))/\True) ((∃(i:Nat),0=(i:Int)/\i<=a.t.length/\a.t.take i=b.t.take i)/\ ∀(i:Nat),(i<=a.t.length/\a.t.take i=b.t.take i)->Lm aL a.t/\Br ((i:Int)<(a.t.length:Int)) (0<=(i:Int)/\Em aL a.t i fun e47=>0<=(i:Int)/\Em aL b.t i fun e52=>gZ e47.C e52.C/\Nb ((cO e47.C e52.C)=0) ((false)=(decide (a=b))/\True) (gZ e47.counts e52.counts/\Nb ((cO e47.counts e52.counts)=0) ((false)=(decide (a=b))/\True) (Lm aD e47.values/\(Lm aD e52.values/\Nb ((e47.values.length:Int)=(e52.values.length:Int)) ((false)=(decide (a=b))/\True) ((∃(k:Nat),0=(k:Int)/\k<=e47.values.length/\e47.values.take k=e52.values.take k)/\ ∀(k:Nat),(k<=e47.values.length/\e47.values.take k=e52.values.take k)->Lm aD e47.values/\Br ((k:Int)<(e47.values.length:Int)) (0<=(k:Int)/\Em aD e47.values k fun e87=>0<=(k:Int)/\Em aD e52.values k fun e92=>gZ e87 e92/\Nb ((cO e87 e92)=0) ((false)=(decide (a=b))/\True) (bO ((k:Int)+1)/\ ∃(k' :Nat),((k:Int)+1)=(k' :Int)/\(k' <=e47.values.length/\e47.values.take k' =e52.values.take k')/\e47.values.length - k' <e47.values.length - k)) (bO ((i:Int)+1)/\ ∃(i' :Nat),((i:Int)+1)=(i' :Int)/\(i' <=a.t.length/\a.t.take i' =b.t.take i')/\a.t.length - i' <a.t.length - i)))))) ((true)=(decide (a=b))/\True))))))) ?_;refine lx fun n0=>lx fun n1=>?_;apply dm<;>intro g14
 ·apply et1
  ·(rw[iW];simp_all [mO];done)
 ·apply dn<;>intro g21
  ·apply et1
   ·(rw[iW];simp_all [mO];done)
  ·apply dn<;>intro g28
   ·apply et1
    ·(rw[iW];simp_all [mO];done)
   ·refine⟨aAb _,aAb _,dn (fun c0=>?_) fun c0=>?_⟩
    ·have hne: ¬a=b:=fun e=>c0 (by rw[e]);apply et1
     ·(simp[hne];done)
    ·have hl:a.t.length=b.t.length:=aGR
     refine⟨⟨0,rfl,aBC _,rfl⟩,fun i ⟨hi,ht⟩=>?_⟩;refine⟨aAb _,dd (fun c1=>?_) fun c1=>?_⟩
     ·refine⟨aGR,rfl,aGR,fun e47 h47=>?_⟩;have q1:=kY h47;have q2:cP a=a.name.size+jU a.t:=rfl;have q3:iV e47=eL e47.C+dG e47.values+eL e47.counts:=rfl;have q4:=gP e47.values;refine⟨aGR,rfl,aGR,fun e52 h52=>?_⟩;refine⟨lC _ _,dn (fun g60=>?_) fun g60=>?_⟩
      ·have hne: ¬a=b:=fun e=>by subst e;have q:=bE h47 h52;subst q;exact g60 (fW.2 rfl)
       apply et1
       ·(simp[hne];done)
      ·refine⟨lC _ _,dn (fun g68=>?_) fun g68=>?_⟩
       ·have hne: ¬a=b:=fun e=>by subst e;have q:=bE h47 h52;subst q;exact g68 (fW.2 rfl)
        apply et1
        ·(simp[hne];done)
       ·refine⟨aAb _,aAb _,dn (fun c2=>?_) fun c2=>?_⟩
        ·have hne: ¬a=b:=fun e=>by subst e;have q:=bE h47 h52;subst q;exact c2 rfl
         apply et1
         ·(simp[hne];done)
        ·refine⟨⟨0,rfl,aBC _,rfl⟩,fun k ⟨hk,hv⟩=>?_⟩;refine⟨aAb _,dd (fun c3=>?_) fun c3=>?_⟩
         ·refine⟨aGR,rfl,aGR,fun e87 h87=>?_⟩;refine⟨aGR,rfl,aGR,fun e92 h92=>?_⟩;refine⟨lC _ _,dn (fun c4=>?_) fun c4=>?_⟩
          ·have hne: ¬a=b:=fun e=>by subst e;have q:=bE h47 h52;subst q;have q:=bE h87 h92;subst q;exact c4 (fW.2 rfl)
           apply et1
           ·(simp[hne];done)
          ·refine⟨aGS,?_⟩;exact⟨k+1,rfl,⟨aGR,pT h87 (by rw[h92,fW.1 c4]) hv⟩,aGR⟩
         ·have hxy:e52=e47:=(aE2 (fW.1 g60) (pU aGR aGR hv) (fW.1 g68)).symm;refine⟨aGS,?_⟩;exact⟨i+1,rfl,⟨aGR,pT h47 (by rw[h52,hxy]) ht⟩,aGR⟩
     ·have hg:=pU aGR hl ht;apply et1
      ·(rw[iW];simp_all [mO];done)
abbrev Ev (a:eO)(b:eO):Prop:=Cn 166 [aHG a,aHG b] (vB (decide (a=b))) []
def TD (a b:eO)(ha:dA a<=1048576):Ev a b:=by
 refine cq Tryz.func166 (.br (.fin []) (.len a.a.length<| .len b.a.length<| aGQ<| .br (.fin []) (.loop Nat (Q1 Nat) ([5]++rg 20 19) [] (fun k=>[(5,vI (k:Int))]) (fun k=>[]) (fun k=>k<=a.a.length/\a.a.take k=b.a.take k) (fun k=>a.a.length - k) (fun k=> .len a.a.length<| .br (.elem _ aJ a.a (fun e30=> .elem _ aJ b.a (fun e35=> .call (vB (decide (e30=e35))) []<| .br (.fin []) (.back [])))) (.fin []))))) (p:=Lx (a.a.map aJ)<| Lx (b.a.map aJ)<| Nb (a.D=b.D) ((false)=(decide (a=b))/\True) (Lm aJ a.a/\(Lm aJ b.a/\Nb ((a.a.length:Int)=(b.a.length:Int)) ((false)=(decide (a=b))/\True) ((∃(k:Nat),0=(k:Int)/\k<=a.a.length/\a.a.take k=b.a.take k)/\ ∀(k:Nat),(k<=a.a.length/\a.a.take k=b.a.take k)->Lm aJ a.a/\Br ((k:Int)<(a.a.length:Int)) (0<=(k:Int)/\Em aJ a.a k fun e30=>0<=(k:Int)/\Em aJ b.a k fun e35=>uP e30 e35/\Nb (e30=e35) ((false)=(decide (a=b))/\True) (bO ((k:Int)+1)/\ ∃(k' :Nat),((k:Int)+1)=(k' :Int)/\(k' <=a.a.length/\a.a.take k' =b.a.take k')/\a.a.length - k' <a.a.length - k)) ((true)=(decide (a=b))/\True))))) ?_;refine lx fun n0=>lx fun n1=>?_;have hS:dA a=iS a.a:=rfl;apply dn<;>intro g11
 ·apply et1
  ·(rw[sH];simp_all;done)
 ·refine⟨aAb _,aAb _,dn (fun c0=>?_) fun c0=>?_⟩
  ·have hne: ¬a=b:=fun e=>c0 (by rw[e]);apply et1
   ·(simp[hne];done)
  ·have hl:a.a.length=b.a.length:=aGR
   refine⟨⟨0,rfl,aBC _,rfl⟩,fun k ⟨hk,ht⟩=>?_⟩;refine⟨aAb _,dd (fun c1=>?_) fun c1=>?_⟩
   ·refine⟨aGR,rfl,aGR,fun e30 h30=>?_⟩;refine⟨aGR,rfl,aGR,fun e35 h35=>?_⟩;refine⟨Eu _ _ (by have:=oW h30;omega),dn (fun c2=>?_) fun c2=>?_⟩
    ·have hne: ¬a=b:=fun e=>by subst e;exact c2 (bE h35 h30)
     apply et1
     ·(simp[hne];done)
    ·refine⟨aGS,?_⟩;exact⟨k+1,rfl,⟨aGR,pT h30 (by rw[h35,c2]) ht⟩,aGR⟩
   ·have hg:=pU aGR hl ht;apply et1
    ·(rw[sH];simp_all;done)
abbrev fX (n:Int)(a:Int)(b:Int):Prop:=Cn 55 [.one (.int .i64 n),.one (.int .i64 a),.one (.int .i64 b)] (vB (eZ n a b)) []
def kP (n a b:Int):fX n a b:=by
 refine cq Tryz.func55 (.br (.fin []) (.fin [])) (p:=Br (a<=n) ((decide (n<=b))=(eZ n a b)/\True) ((false)=(eZ n a b)/\True)) ?_;apply dd<;>intro g10
 ·apply et1
  ·(simp[eZ,g10];done)
 ·apply et1
  ·(simp[eZ,g10];done)
abbrev fO (n:Int)(a:Int)(b:Int):Prop:=Cn 52 [.one (.int .i64 n),.one (.int .i64 a),.one (.int .i64 b)] (vB (eZ n a b)) []
def jV (n a b:Int):fO n a b:=by
 refine cq Tryz.func52 (.br (.fin []) (.fin [])) (p:=Br (a<=n) ((decide (n<=b))=(eZ n a b)/\True) ((false)=(eZ n a b)/\True)) ?_;apply dd<;>intro g10
 ·apply et1
  ·(simp[eZ,g10];done)
 ·apply et1
  ·(simp[eZ,g10];done)
def Ew (v:Int):Bool:=eZ v 0 9
def mA (n:Int)(r:Z):Bool:=r.all Ew&&decide ((r.length:Int)=n)
def hJ (s:E):Bool:=decide ((s.size:Int)=1)&&(decide (97<=rH s 0)&&decide (rH s 0<=122))
abbrev JW (r:Z)(n:Int):Prop:=Cn 196 [.one (.sl 3 1 (r.map intD)),.one (.int .i64 n)] (vB (mA n r)) []
def Yn (r:Z)(n:Int):JW r n:=by
 refine cq Tryz.func196 (.len r.length<| .loop Nat (Q1 Nat) ([6]++rg 9 8) [] (fun k=>[(9,vI (k:Int))]) (fun k=>[]) (fun k=>k<=r.length/\(r.take k).all Ew=true) (fun k=>r.length - k) (fun k=> .br (.elem _ intD r (fun e11=> .call (vB (eZ e11 (0:Int) (9:Int))) []<| .br (.fin []) (.back []))) (.len r.length<| .fin []))) (p:=Lx (r.map intD)<| Lm intD r/\((∃(k:Nat),0=(k:Int)/\k<=r.length/\(r.take k).all Ew=true)/\ ∀(k:Nat),(k<=r.length/\(r.take k).all Ew=true)->Br ((k:Int)<(r.length:Int)) (0<=(k:Int)/\Em intD r k fun e11=>fX e11 (0:Int) (9:Int)/\Nr (eZ e11 (0:Int) (9:Int)) ((false)=(mA n r)/\True) (bO ((k:Int)+1)/\ ∃(k' :Nat),((k:Int)+1)=(k' :Int)/\(k' <=r.length/\(r.take k').all Ew=true)/\r.length - k' <r.length - k)) (Lm intD r/\(decide ((r.length:Int)=n))=(mA n r)/\True))) ?_;refine lx fun n0=>?_;refine⟨aAb _,⟨0,rfl,aBC _,rfl⟩,fun k ⟨hk,ha⟩=>?_⟩;apply dd<;>intro c0
 ·refine⟨aGR,rfl,aGR,fun e11 h11=>?_⟩;refine⟨kP _ _ _,dm (fun c1=>?_) fun c1=>?_⟩
  ·apply et1
   ·(rw[mA,eT h11 c1];rfl)
  ·refine⟨aGS,?_⟩;exact⟨k+1,rfl,⟨aGR,cL h11 ha c1⟩,aGR⟩
 ·refine⟨aAb _,?_,trivial⟩
  ·(rw[mA,dD aGR ha];simp)
abbrev JX (r:Z)(n:Int):Prop:=Cn 205 [.one (.sl 3 1 (r.map intD)),.one (.int .i64 n)] (vB (mA n r)) []
def Yo (r:Z)(n:Int):JX r n:=by
 refine cq Tryz.func205 (.loop Nat (Q1 Nat) (rg 5 13) [] (fun k=>[(5,vI (k:Int))]) (fun k=>[]) (fun k=>k<=r.length/\(r.take k).all Ew=true) (fun k=>r.length - k) (fun k=> .len r.length<| .br (.elem _ intD r (fun e14=> .call (vB (eZ e14 (0:Int) (9:Int))) []<| .br (.fin []) (.back []))) (.len r.length<| .fin []))) (p:=Lx (r.map intD)<| (∃(k:Nat),0=(k:Int)/\k<=r.length/\(r.take k).all Ew=true)/\ ∀(k:Nat),(k<=r.length/\(r.take k).all Ew=true)->Lm intD r/\Br ((k:Int)<(r.length:Int)) (0<=(k:Int)/\Em intD r k fun e14=>fO e14 (0:Int) (9:Int)/\Nr (eZ e14 (0:Int) (9:Int)) ((false)=(mA n r)/\True) (bO ((k:Int)+1)/\ ∃(k' :Nat),((k:Int)+1)=(k' :Int)/\(k' <=r.length/\(r.take k').all Ew=true)/\r.length - k' <r.length - k)) (Lm intD r/\(decide ((r.length:Int)=n))=(mA n r)/\True)) ?_;refine lx fun n0=>?_;refine⟨⟨0,rfl,aBC _,rfl⟩,fun k ⟨hk,ha⟩=>?_⟩;refine⟨aAb _,dd (fun c0=>?_) fun c0=>?_⟩
 ·refine⟨aGR,rfl,aGR,fun e14 h14=>?_⟩;refine⟨jV _ _ _,dm (fun c1=>?_) fun c1=>?_⟩
  ·apply et1
   ·(rw[mA,eT h14 c1];rfl)
  ·refine⟨aGS,?_⟩;exact⟨k+1,rfl,⟨aGR,cL h14 ha c1⟩,aGR⟩
 ·refine⟨aAb _,?_,trivial⟩
  ·(rw[mA,dD aGR ha];simp)
abbrev BB (s:E):Prop:=Cn 157 [.one (.str s)] (vB (hJ s)) []
abbrev aGP(t:T):T:=.lit (.lit (.lit (t)))
def Mw (s:E):BB s:=by
 refine cq Tryz.func157 (.br (aGP<| .br (.fin []) (.fin [])) (.fin [])) (p:=Br ((s.size:Int)=1) (0<=(0:Int)/\0<(s.size:Int)/\Br (97<=(rH s 0)) (0<=(0:Int)/\0<(s.size:Int)/\(decide ((rH s 0)<=122))=(hJ s)/\True) ((false)=(hJ s)/\True)) ((false)=(hJ s)/\True)) ?_;apply dd<;>intro g6
 ·refine⟨aGR,aGR,dd (fun g11=>?_) fun g11=>?_⟩
  ·refine⟨aGR,aGR,?_,trivial⟩
   ·(simp[hJ,g6,g11];done)
  ·apply et1
   ·(simp[hJ,g6,g11];done)
 ·apply et1
  ·(simp[hJ,g6];done)
abbrev BC (s:E):Prop:=Cn 111 [.one (.str s)] (vB (hJ s)) []
def Mx (s:E):BC s:=by
 refine cq Tryz.func111 (.br (aGP<| .br (.fin []) (.fin [])) (.fin [])) (p:=Br ((s.size:Int)=1) (0<=(0:Int)/\0<(s.size:Int)/\Br (97<=(rH s 0)) (0<=(0:Int)/\0<(s.size:Int)/\(decide ((rH s 0)<=122))=(hJ s)/\True) ((false)=(hJ s)/\True)) ((false)=(hJ s)/\True)) ?_;apply dd<;>intro g6
 ·refine⟨aGR,aGR,dd (fun g11=>?_) fun g11=>?_⟩
  ·refine⟨aGR,aGR,?_,trivial⟩
   ·(simp[hJ,g6,g11];done)
  ·apply et1
   ·(simp[hJ,g6,g11];done)
 ·apply et1
  ·(simp[hJ,g6];done)
abbrev F8 (n:Int):Prop:=Cn 242 [.one (.int .i64 n)] (vB false) []
def Un (n:Int):F8 n:=by
 refine cq Tryz.func242 (.fin []) (p:=(!(decide (n=n)))=false/\True) ?_;apply et1
 ·simp
def xE (a b:Int):Int:=if a<b then -1 else if b<a then 1 else 0
abbrev My (a:Int)(b:Int):Prop:=Cn 228 [.one (.int .i64 a),.one (.int .i64 b)] (vI (xE a b)) []
def aBu (a b:Int):My a b:=by
 refine cq Tryz.func228 (.call (vB false) []<| .call (vB false) []<| aGQ<| .br (.fin []) (.br (.fin []) (.fin []))) (p:=F8 a/\F8 b/\Br (a<b) ((-1:Int)=(xE a b)/\True) (Br (b<a) (1=(xE a b)/\True) (0=(xE a b)/\True))) ?_;refine⟨Un _,Un _,dd (fun c3=>?_) fun c3=>?_⟩
 ·apply et1
  ·simp[xE, *];try omega
 ·apply dd<;>intro c4
  ·apply et1
   ·simp[xE, *];try omega
  ·apply et1
   ·simp[xE, *];try omega
def Mz (a b:Int)(l m:Z):cO (a::l) (b::m)=if xE a b=0 then cO l m else xE a b:=by
 unfold xE;rw[cO];by_cases h1:a<b
 ·simp[h1]
 by_cases h2:b<a
 ·simp[h1,h2]
 simp[h1,h2]
abbrev Yp (l:Z)(m:Z):Prop:=Cn 215 [.one (.sl 3 1 (l.map intD)),.one (.sl 3 1 (m.map intD))] (vI (cO l m)) []
def aGV (l m:Z):Yp l m:=by
 refine cq Tryz.func215 (.len l.length<| .loop Nat (Q1 Nat) ([5,6,7,8]++rg 11 18++[30]) [] (fun k=>[(11,vI (k:Int))]) (fun k=>[]) (fun k=>(k<=l.length/\k<=m.length)/\cO (l.drop k) (m.drop k)=cO l m) (fun k=>l.length - k) (fun k=> .br (.elem _ intD l (fun e14=> .len m.length<| .br (.fin []) (.elem _ intD m (fun e22=> .call (vI (xE e14 e22)) []<| .br (.fin []) (.back []))))) (.len l.length<| .len m.length<| .br (.fin []) (.fin [])))) (p:=Lx (l.map intD)<| Lx (m.map intD)<| Lm intD l/\((∃(k:Nat),0=(k:Int)/\(k<=l.length/\k<=m.length)/\cO (l.drop k) (m.drop k)=cO l m)/\ ∀(k:Nat),((k<=l.length/\k<=m.length)/\cO (l.drop k) (m.drop k)=cO l m)->Br ((k:Int)<(l.length:Int)) (0<=(k:Int)/\Em intD l k fun e14=>Lm intD m/\Br ((m.length:Int)<=(k:Int)) (1=(cO l m)/\True) (0<=(k:Int)/\Em intD m k fun e22=>My e14 e22/\Nb ((xE e14 e22)=0) ((xE e14 e22)=(cO l m)/\True) (bO ((k:Int)+1)/\ ∃(k' :Nat),((k:Int)+1)=(k' :Int)/\((k' <=l.length/\k' <=m.length)/\cO (l.drop k') (m.drop k')=cO l m)/\l.length - k' <l.length - k))) (Lm intD l/\Lm intD m/\Br ((l.length:Int)<(m.length:Int)) ((-1:Int)=(cO l m)/\True) (0=(cO l m)/\True)))) ?_;refine lx fun n0=>lx fun n1=>?_;refine⟨aAb _,⟨0,rfl,⟨aBC _,aBC _⟩,rfl⟩,fun k ⟨hk,hv⟩=>?_⟩;apply dd<;>intro c0
 ·obtain⟨x,hx⟩:=fK (l:=l) (k:=k) aGR;refine⟨aGR,rfl,aGR,fun e14 h14=>?_⟩;obtain rfl:=(bE hx h14).symm;refine⟨aAb _,dd (fun c1=>?_) fun c1=>?_⟩
  ·apply et1
   ·(rw[<-hv,lZ hk aGR,if_neg aGR,if_pos aGR];done)
  ·obtain⟨y,hy⟩:=fK (l:=m) (k:=k) aGR;have hd:cO l m=if xE x y=0 then cO (l.drop (k+1)) (m.drop (k+1)) else xE x y:=by rw[<-hv,oD hx,oD hy,Mz]
   refine⟨aGR,rfl,aGR,fun e22 h22=>?_⟩;obtain rfl:=(bE hy h22).symm;refine⟨aBu _ _,dn (fun c2=>?_) fun c2=>?_⟩
   ·apply et1
    ·(rw[hd,if_neg c2];done)
   ·refine⟨aGS,?_⟩;exact⟨k+1,rfl,⟨aGR,by rw[hd,if_pos c2]⟩,aGR⟩
 ·refine⟨aAb _,aAb _,dd (fun c3=>?_) fun c3=>?_⟩
  ·apply et1
   ·(rw[<-hv,lZ hk aGR,if_pos aGR];done)
  ·apply et1
   ·(rw[<-hv,lZ hk aGR,if_neg aGR,if_neg aGR];done)
abbrev BD (l:Z)(m:Z):Prop:=Cn 207 [.one (.sl 3 1 (l.map intD)),.one (.sl 3 1 (m.map intD))] (vI (cO l m)) []
def Oq (l m:Z):BD l m:=by
 refine cq Tryz.func207 (.call (vI (cO l m)) []<| .fin []) (p:=Lx (l.map intD)<| Lx (m.map intD)<| Yp l m/\(cO l m)=(cO l m)/\True) ?_;refine lx fun n0=>lx fun n1=>?_;refine⟨aGV _ _,?_⟩;exact⟨rfl,trivial⟩
def oT (l:List Z)(i:Nat):Bool:=decide (cO (l.getD i []) (l.getD (i+1) [])<0)
def F9 (l:List Z):Bool:=(List.range (l.length - 1)).all (oT l)
def aW (t:aX):Bool:=t.rows.all (mA t.l)&&(hJ t.name&&(eZ t.l 1 3&&(decide ((t.rows.length:Int)<=8)&&F9 t.rows)))
def lP {p:Nat->Bool}{k:Nat}(h:(List.range k).all p=true)(hk:p k=true):(List.range (k+1)).all p=true:=by
 rw[List.range_succ,List.all_append,h];simp[hk]
def jL {p:Nat->Bool}{n k:Nat}(hk:k<n)(h:p k=false):(List.range n).all p=false:=by
 rw[List.all_eq_false];exact⟨k,aEt.2 hk,by simp[h]⟩
def bK {α:Type}{l:List α}{k:Nat}{x y:α}(h:l[k]? =some x):l.getD k y=x:=by simp[aCz,h]
abbrev JY (l:List Z):Prop:=Cn 197 [.one (.sl 51 1 (l.map aD))] (vB (F9 l)) []
def Yq (l:List Z):JY l:=by
 refine cq Tryz.func197 (.loop Nat (Q1 Nat) (rg 3 18) [] (fun k=>[(3,vI ((k:Int)+1))]) (fun k=>[]) (fun k=>(k+1<=l.length\/k=0)/\(List.range k).all (oT l)=true) (fun k=>l.length - k) (fun k=> .len l.length<| .br (.elem _ aD l (fun e13=> .elem _ aD l (fun e17=> .call (vI (cO e13 e17)) []<| .br (.fin []) (.back [])))) (.fin []))) (p:=Lx (l.map aD)<| (∃(k:Nat),1=((k:Int)+1)/\(k+1<=l.length\/k=0)/\(List.range k).all (oT l)=true)/\ ∀(k:Nat),((k+1<=l.length\/k=0)/\(List.range k).all (oT l)=true)->Lm aD l/\Br (((k:Int)+1)<(l.length:Int)) (bO (((k:Int)+1) - 1)/\0<=(((k:Int)+1) - 1)/\Em aD l ((((k:Int)+1) - 1).toNat) fun e13=>0<=((k:Int)+1)/\Em aD l (k+1) fun e17=>BD e13 e17/\Br (0<=(cO e13 e17)) ((false)=(F9 l)/\True) (bO (((k:Int)+1)+1)/\ ∃(k' :Nat),(((k:Int)+1)+1)=(((k' :Nat):Int)+1)/\((k' +1<=l.length\/k' =0)/\(List.range k').all (oT l)=true)/\l.length - k' <l.length - k)) ((true)=(F9 l)/\True)) ?_;refine lx fun n0=>?_;refine⟨⟨0,rfl,.inr rfl,rfl⟩,fun k ⟨hk,ha⟩=>?_⟩;refine⟨aAb _,dd (fun c0=>?_) fun c0=>?_⟩
 ·refine⟨aGS,aGR,rfl,aGR,fun e13 h13=>?_⟩;have i13:l[k]? =some e13:=by rw[<-h13];congr 1;omega
  refine⟨aGR,rfl,aGR,fun e17 h17=>?_⟩;refine⟨Oq _ _,dd (fun c1=>?_) fun c1=>?_⟩
  ·have hp:oT l k=false:=by rw[oT,bK i13,bK h17];simp;omega
   apply et1
   ·(rw[F9,jL aGR hp];done)
  ·have hp:oT l k=true:=by rw[oT,bK i13,bK h17];simp;omega
   refine⟨aGS,?_⟩;exact⟨k+1,rfl,⟨aGR,lP ha hp⟩,aGR⟩
 ·apply et1
  ·(rw[F9,show l.length - 1=k by omega,ha];done)
abbrev aGz(x:aX):Ar:=.agg [.str x.name,.int .i64 x.l,.sl 51 1 (x.rows.map aD)]
abbrev uQ (t:aX):Prop:=Cn 180 [aGz t] (vB (aW t)) []
def BE (t:aX):uQ t:=by
 refine cq Tryz.func180 (.len t.rows.length<| .loop Nat (Q1 Nat) ([4]++rg 8 10) [] (fun k=>[(8,vI (k:Int))]) (fun k=>[]) (fun k=>k<=t.rows.length/\(t.rows.take k).all (mA t.l)=true) (fun k=>t.rows.length - k) (fun k=> .br (.elem _ aD t.rows (fun e10=> .call (vB (mA t.l e10)) []<| .br (.fin []) (.back []))) (.call (vB (hJ t.name)) []<| .br (.call (vB (eZ t.l (1:Int) (3:Int))) []<| .lit<| .br (.len t.rows.length<| aGQ<| .br (.call (vB (F9 t.rows)) []<| .fin []) (.fin [])) (.fin [])) (.fin [])))) (p:=Lx (t.rows.map aD)<| Lm aD t.rows/\((∃(k:Nat),0=(k:Int)/\k<=t.rows.length/\(t.rows.take k).all (mA t.l)=true)/\ ∀(k:Nat),(k<=t.rows.length/\(t.rows.take k).all (mA t.l)=true)->Br ((k:Int)<(t.rows.length:Int)) (0<=(k:Int)/\Em aD t.rows k fun e10=>JW e10 t.l/\Nr (mA t.l e10) ((false)=(aW t)/\True) (bO ((k:Int)+1)/\ ∃(k' :Nat),((k:Int)+1)=(k' :Int)/\(k' <=t.rows.length/\(t.rows.take k').all (mA t.l)=true)/\t.rows.length - k' <t.rows.length - k)) (BB t.name/\Bb (hJ t.name) (fX t.l (1:Int) (3:Int)/\Bb (eZ t.l (1:Int) (3:Int)) (Lm aD t.rows/\Br ((t.rows.length:Int)<=8) (JY t.rows/\(F9 t.rows)=(aW t)/\True) ((false)=(aW t)/\True)) ((false)=(aW t)/\True)) ((false)=(aW t)/\True)))) ?_;refine lx fun n0=>?_;refine⟨aAb _,⟨0,rfl,aBC _,rfl⟩,fun k ⟨hk,ha⟩=>?_⟩;apply dd<;>intro c0
 ·refine⟨aGR,rfl,aGR,fun e10 h10=>?_⟩;refine⟨Yn _ _,dm (fun c1=>?_) fun c1=>?_⟩
  ·apply et1
   ·(rw[aW,eT h10 c1];rfl)
  ·refine⟨aGS,?_⟩;exact⟨k+1,rfl,⟨aGR,cL h10 ha c1⟩,aGR⟩
 ·have hall:=dD aGR ha;refine⟨Mw _,db (fun g21=>?_) fun g21=>?_⟩
  ·refine⟨kP _ _ _,db (fun g26=>?_) fun g26=>?_⟩
   ·refine⟨aAb _,dd (fun g32=>?_) fun g32=>?_⟩
    ·refine⟨Yq _,?_,trivial⟩
     ·(simp[aW,hall, *];done)
    ·apply et1
     ·(simp[aW,hall, *];done)
   ·apply et1
    ·(simp[aW,hall, *];done)
  ·apply et1
   ·(simp[aW,hall, *];done)
abbrev rO (t:aX):Prop:=Cn 192 [aGz t] (vB (aW t)) []
abbrev aGO(t:T):T:=.lit (.lit (.lit (.lit (t))))
def BF (t:aX):rO t:=by
 refine cq Tryz.func192 (.call (vB (hJ t.name)) []<| .br (.fin []) (.call (vB (eZ t.l (1:Int) (3:Int))) []<| aGQ<| .br (.fin []) (.len t.rows.length<| aGQ<| .br (.fin []) (.loop Nat (Q1 Nat) ([3]++rg 20 35) [] (fun k=>[(3,vI (k:Int))]) (fun k=>[]) (fun k=>k<=t.rows.length/\(t.rows.take k).all (mA t.l)=true/\(List.range (k - 1)).all (oT t.rows)=true) (fun k=>t.rows.length - k) (fun k=> .len t.rows.length<| .br (.elem _ aD t.rows (fun e30=> .call (vB (mA t.l e30)) []<| .br (.fin []) (aGQ<| .br (.elem _ aD t.rows (fun e44=> .elem _ aD t.rows (fun e49=> .call (vI (cO e44 e49)) []<| aGO<| .br (.fin []) (.back [])))) (.back [])))) (.fin [])))))) (p:=Lx (t.rows.map aD)<| BC t.name/\Nr (hJ t.name) ((false)=(aW t)/\True) (fO t.l (1:Int) (3:Int)/\Nr (eZ t.l (1:Int) (3:Int)) ((false)=(aW t)/\True) (Lm aD t.rows/\Br (8<(t.rows.length:Int)) ((false)=(aW t)/\True) ((∃(k:Nat),0=(k:Int)/\k<=t.rows.length/\(t.rows.take k).all (mA t.l)=true/\(List.range (k - 1)).all (oT t.rows)=true)/\ ∀(k:Nat),(k<=t.rows.length/\(t.rows.take k).all (mA t.l)=true/\(List.range (k - 1)).all (oT t.rows)=true)->Lm aD t.rows/\Br ((k:Int)<(t.rows.length:Int)) (0<=(k:Int)/\Em aD t.rows k fun e30=>JX e30 t.l/\Nr (mA t.l e30) ((false)=(aW t)/\True) (Br (0<(k:Int)) (bO ((k:Int) - 1)/\0<=((k:Int) - 1)/\Em aD t.rows (((k:Int) - 1).toNat) fun e44=>0<=(k:Int)/\Em aD t.rows k fun e49=>gZ e44 e49/\Br (0<=(cO e44 e49)) ((false)=(aW t)/\True) (bO ((k:Int)+1)/\ ∃(k' :Nat),((k:Int)+1)=(k' :Int)/\(k' <=t.rows.length/\(t.rows.take k').all (mA t.l)=true/\(List.range (k' - 1)).all (oT t.rows)=true)/\t.rows.length - k' <t.rows.length - k)) (bO ((k:Int)+1)/\ ∃(k' :Nat),((k:Int)+1)=(k' :Int)/\(k' <=t.rows.length/\(t.rows.take k').all (mA t.l)=true/\(List.range (k' - 1)).all (oT t.rows)=true)/\t.rows.length - k' <t.rows.length - k))) ((true)=(aW t)/\True))))) ?_;refine lx fun n0=>?_;refine⟨Mx _,dm (fun g8=>?_) fun g8=>?_⟩
 ·apply et1
  ·(simp[aW, *];done)
 ·refine⟨jV _ _ _,dm (fun g14=>?_) fun g14=>?_⟩
  ·apply et1
   ·(simp[aW, *];done)
  ·refine⟨aAb _,dd (fun c0=>?_) fun c0=>?_⟩
   ·have h8:decide ((t.rows.length:Int)<=8)=false:=by simp;omega
    apply et1
    ·(rw[aW,h8];simp[*];done)
   ·have h8:decide ((t.rows.length:Int)<=8)=true:=by simp;omega
    refine⟨⟨0,rfl,aBC _,rfl,rfl⟩,fun k ⟨hk,ha,hs⟩=>?_⟩;refine⟨aAb _,dd (fun c1=>?_) fun c1=>?_⟩
    ·refine⟨aGR,rfl,aGR,fun e30 h30=>?_⟩;refine⟨Yo _ _,dm (fun g36=>?_) fun g36=>?_⟩
     ·apply et1
      ·(rw[aW,eT h30 g36];rfl)
     ·apply dd<;>intro g39
      ·refine⟨aGS,aGR,rfl,aGR,fun e44 h44=>?_⟩;have i44:t.rows[k - 1]? =some e44:=by rw[<-h44];congr 1;omega
       refine⟨aGR,rfl,aGR,fun e49 h49=>?_⟩;refine⟨lC _ _,dd (fun c2=>?_) fun c2=>?_⟩
       ·have hp:oT t.rows (k - 1)=false:=by rw[oT,bK i44,show k - 1+1=k by omega,bK h49];simp;omega
        have hz:F9 t.rows=false:=jL aGR hp;apply et1
        ·(rw[aW,h8,hz];simp[*];done)
       ·have hp:oT t.rows (k - 1)=true:=by rw[oT,bK i44,show k - 1+1=k by omega,bK h49];simp;omega
        have hs2:(List.range (k+1 - 1)).all (oT t.rows)=true:=by rw[show k+1 - 1=(k - 1)+1 by omega];exact lP hs hp
        refine⟨aGS,?_⟩;exact⟨k+1,rfl,⟨aGR,cL h30 ha g36,hs2⟩,aGR⟩
      ·have hs2:(List.range (k+1 - 1)).all (oT t.rows)=true:=by rw[show k=0 by omega];rfl
       refine⟨aGS,?_⟩;exact⟨k+1,rfl,⟨aGR,cL h30 ha g36,hs2⟩,aGR⟩
    ·have hall:=dD aGR ha;have hz:F9 t.rows=true:=by rw[F9,show t.rows.length - 1=k - 1 by omega,hs]
     apply et1
     ·(rw[aW,h8,hz];simp[*];done)
def QX (n:Int)(cols:Z):Bool:=cols.all fun c=>eZ c 0 (n - 1)
def wC (r:Z)(c:Int):Int:=r.getD c.toNat 0
def gT (r cols:Z):Z × Bool:=if QX r.length cols=true then (cols.map (wC r),true) else ([],false)
def Ex {r cols:Z}(h:cols.all (fun c=>eZ c 0 ((r.length:Int) - 1))=true):gT r cols=(cols.map (wC r),true):=by rw[gT,if_pos (show QX _ _=true from h)]
def Uo {r cols:Z}(h:cols.all (fun c=>eZ c 0 ((r.length:Int) - 1))=false):gT r cols=([],false):=by rw[gT,if_neg (by rw[show QX _ _=false from h];decide)]
def QY {r:Z}{c x:Int}(h:r[c.toNat]? =some x):wC r c=x:=bK h
def JZ (r cols:Z):(gT r cols).1.length<=cols.length:=by
 unfold gT;split<;>simp
def kI (b:Int)(cols:Z)(i:Nat):Bool:=eZ (cols.getD i 0) 0 b&&(decide (i=0) || decide (cols.getD (i - 1) 0<cols.getD i 0))
def eP (b:Int)(cols:Z):Bool:=(List.range cols.length).all (kI b cols)
abbrev rP (r:Z)(cols:Z):AV × aGJ:=(.tup [.own 0,vB ((gT r cols).2)],[(0,.arr 3 1 true ((gT r cols).1.map intD))])
abbrev uR (r:Z)(cols:Z):Prop:=Cn 121 [.one (.sl 3 1 (r.map intD)),.one (.sl 3 1 (cols.map intD))] (rP r cols).1 (rP r cols).2
def Ey (r cols:Z)(hl:cols.length<=1048576):uR r cols:=by
 refine cq Tryz.func121 (.len cols.length<| .loop (Nat × Z) (Q2 Nat Z) ([6,8,9]++rg 12 18) [900,2700,2800] (fun yy0=>[(12,vI (yy0.1:Int)),(6,.own 900)]) (fun yy0=>[(900,some (.arr 3 1 true (yy0.2.map intD)))]) (fun yy0=>yy0.1<=cols.length/\yy0.2=(cols.take yy0.1).map (wC r)/\(cols.take yy0.1).all (fun c=>eZ c 0 ((r.length:Int) - 1))=true) (fun yy0=>cols.length - yy0.1) (fun yy0=> .br (.elem _ intD cols (fun e14=> .len r.length<| .call (vB (eZ e14 (0:Int) ((r.length:Int) - 1))) []<| .br (.fin []) (.elem _ intD r (fun e25=> .app Int intD yy0.2 ([e25]:Z)<| .back [(900,2800)])))) (.fin [(0,900)]))) (p:=Lx (r.map intD)<| Lx (cols.map intD)<| Lm intD cols/\((∃(k:Nat) (out:Z),0=(k:Int)/\[]=out.map intD/\k<=cols.length/\out=(cols.take k).map (wC r)/\(cols.take k).all (fun c=>eZ c 0 ((r.length:Int) - 1))=true)/\ ∀(k:Nat) (out:Z),(k<=cols.length/\out=(cols.take k).map (wC r)/\(cols.take k).all (fun c=>eZ c 0 ((r.length:Int) - 1))=true)->Br ((k:Int)<(cols.length:Int)) (0<=(k:Int)/\Em intD cols k fun e14=>Lm intD r/\bO ((r.length:Int) - 1)/\fX e14 (0:Int) ((r.length:Int) - 1)/\Nr (eZ e14 (0:Int) ((r.length:Int) - 1)) ((false)=((gT r cols).2)/\[]=(gT r cols).1.map intD/\True) (0<=e14/\Em intD r ((e14).toNat) fun e25=>Ap intD out ([e25]:Z) 8 (bO ((k:Int)+1)/\ ∃(k' :Nat) (out' :Z),((k:Int)+1)=(k' :Int)/\(out++[e25]).map intD=out'.map intD/\(k' <=cols.length/\out' =(cols.take k').map (wC r)/\(cols.take k').all (fun c=>eZ c 0 ((r.length:Int) - 1))=true)/\cols.length - k' <cols.length - k))) ((true)=((gT r cols).2)/\out.map intD=(gT r cols).1.map intD/\True))) ?_;refine lx fun n0=>lx fun n1=>?_;refine⟨aAb _,⟨0,([]:Z),rfl,rfl,aBC _,rfl,rfl⟩,fun k out ⟨hk,ho,ha⟩=>?_⟩;apply dd<;>intro c0
 ·refine⟨aGR,rfl,aGR,fun e14 h14=>?_⟩;refine⟨aAb _,aGS,kP _ _ _,dm (fun c1=>?_) fun c1=>?_⟩
  ·apply et2<;>((rw[Uo (eT h14 c1)]<;>rfl))
  ·have hb:=eU c1;refine⟨aGR,rfl,aGR,fun e25 h25=>?_⟩;refine ap ?_ (fun _=>rfl) (by simp[ho];omega);refine⟨aGS,?_⟩;exact⟨k+1,_,rfl,rfl,⟨aGR,by rw[ho,bW h14,aDM,aDH,List.map_nil,QY h25],cL h14 ha c1⟩,aGR⟩
 ·apply et2<;>(first|(rw[Ex (dD aGR ha),ho,aCR aGR]<;>rfl)|(rw[Ex (dD aGR ha)]<;>rfl))
abbrev rQ (r:Z)(cols:Z):AV × aGJ:=(.tup [.own 0,vB ((gT r cols).2)],[(0,.arr 3 1 true ((gT r cols).1.map intD))])
abbrev uS (r:Z)(cols:Z):Prop:=Cn 175 [.one (.sl 3 1 (r.map intD)),.one (.sl 3 1 (cols.map intD))] (rQ r cols).1 (rQ r cols).2
def Ez (r cols:Z)(hl:cols.length<=1048576):uS r cols:=by
 refine cq Tryz.func175 (.loop (Nat × Z) (Q2 Nat Z) (rg 6 18++rg 25 10) [800,3300,3400] (fun yy0=>[(7,vI (yy0.1:Int)),(6,.own 800)]) (fun yy0=>[(800,some (.arr 3 1 true (yy0.2.map intD)))]) (fun yy0=>yy0.1<=cols.length/\yy0.2=(cols.take yy0.1).map (wC r)/\(cols.take yy0.1).all (fun c=>eZ c 0 ((r.length:Int) - 1))=true) (fun yy0=>cols.length - yy0.1) (fun yy0=> .len cols.length<| .br (.elem _ intD cols (fun e17=> .len r.length<| .call (vB (eZ e17 (0:Int) ((r.length:Int) - 1))) []<| .br (.fin [(0,2400)]) (.elem _ intD cols (fun e29=> .elem _ intD r (fun e31=> .app Int intD yy0.2 ([e31]:Z)<| .back [(800,3400)]))))) (.fin [(0,800)]))) (p:=Lx (r.map intD)<| Lx (cols.map intD)<| (∃(k:Nat) (out:Z),0=(k:Int)/\[]=out.map intD/\k<=cols.length/\out=(cols.take k).map (wC r)/\(cols.take k).all (fun c=>eZ c 0 ((r.length:Int) - 1))=true)/\ ∀(k:Nat) (out:Z),(k<=cols.length/\out=(cols.take k).map (wC r)/\(cols.take k).all (fun c=>eZ c 0 ((r.length:Int) - 1))=true)->Lm intD cols/\Br ((k:Int)<(cols.length:Int)) (0<=(k:Int)/\Em intD cols k fun e17=>Lm intD r/\bO ((r.length:Int) - 1)/\fO e17 (0:Int) ((r.length:Int) - 1)/\Nr (eZ e17 (0:Int) ((r.length:Int) - 1)) ((false)=((gT r cols).2)/\[]=(gT r cols).1.map intD/\True) (0<=(k:Int)/\Em intD cols k fun e29=>0<=e29/\Em intD r ((e29).toNat) fun e31=>Ap intD out ([e31]:Z) 8 (bO ((k:Int)+1)/\ ∃(k' :Nat) (out' :Z),((k:Int)+1)=(k' :Int)/\(out++[e31]).map intD=out'.map intD/\(k' <=cols.length/\out' =(cols.take k').map (wC r)/\(cols.take k').all (fun c=>eZ c 0 ((r.length:Int) - 1))=true)/\cols.length - k' <cols.length - k))) ((true)=((gT r cols).2)/\out.map intD=(gT r cols).1.map intD/\True)) ?_;refine lx fun n0=>lx fun n1=>?_;refine⟨⟨0,([]:Z),rfl,rfl,aBC _,rfl,rfl⟩,fun k out ⟨hk,ho,ha⟩=>?_⟩;refine⟨aAb _,dd (fun c0=>?_) fun c0=>?_⟩
 ·refine⟨aGR,rfl,aGR,fun e17 h17=>?_⟩;refine⟨aAb _,aGS,jV _ _ _,dm (fun c1=>?_) fun c1=>?_⟩
  ·apply et2<;>((rw[Uo (eT h17 c1)]<;>rfl))
  ·have hb:=eU c1;refine⟨aGR,rfl,aGR,fun e29 h29=>?_⟩;obtain rfl:=(bE h17 h29).symm;refine⟨aGR,rfl,aGR,fun e31 h31=>?_⟩;refine ap ?_ (fun _=>rfl) (by simp[ho];omega);refine⟨aGS,?_⟩;exact⟨k+1,_,rfl,rfl,⟨aGR,by rw[ho,bW h17,aDM,aDH,List.map_nil,QY h31],cL h17 ha c1⟩,aGR⟩
 ·apply et2<;>(first|(rw[Ex (dD aGR ha),ho,aCR aGR]<;>rfl)|(rw[Ex (dD aGR ha)]<;>rfl))
abbrev BG (cols:Z)(a:Int):Prop:=Cn 198 [.one (.sl 3 1 (cols.map intD)),.one (.int .i64 a)] (vB (eP (a - 1) cols)) []
def M0 (cols:Z)(a:Int)(ha:1<=a/\a<=3):BG cols a:=by
 refine cq Tryz.func198 (.len cols.length<| .loop Nat (Q1 Nat) ([5,6]++rg 9 24) [] (fun k=>[(9,vI (k:Int))]) (fun k=>[]) (fun k=>k<=cols.length/\(List.range k).all (kI (a - 1) cols)=true) (fun k=>cols.length - k) (fun k=> .br (.elem _ intD cols (fun e12=> .call (vB (eZ e12 (0:Int) (a - 1))) []<| .br (.fin []) (aGQ<| .br (.elem _ intD cols (fun e26=> aGN<| .lit<| .br (.fin []) (.back []))) (.back [])))) (.fin []))) (p:=Lx (cols.map intD)<| Lm intD cols/\((∃(k:Nat),0=(k:Int)/\k<=cols.length/\(List.range k).all (kI (a - 1) cols)=true)/\ ∀(k:Nat),(k<=cols.length/\(List.range k).all (kI (a - 1) cols)=true)->Br ((k:Int)<(cols.length:Int)) (0<=(k:Int)/\Em intD cols k fun e12=>bO (a - 1)/\fX e12 (0:Int) (a - 1)/\Nr (eZ e12 (0:Int) (a - 1)) ((false)=(eP (a - 1) cols)/\True) (Br (0<(k:Int)) (bO ((k:Int) - 1)/\0<=((k:Int) - 1)/\Em intD cols (((k:Int) - 1).toNat) fun e26=>Br (e12<=e26) ((false)=(eP (a - 1) cols)/\True) (bO ((k:Int)+1)/\ ∃(k' :Nat),((k:Int)+1)=(k' :Int)/\(k' <=cols.length/\(List.range k').all (kI (a - 1) cols)=true)/\cols.length - k' <cols.length - k)) (bO ((k:Int)+1)/\ ∃(k' :Nat),((k:Int)+1)=(k' :Int)/\(k' <=cols.length/\(List.range k').all (kI (a - 1) cols)=true)/\cols.length - k' <cols.length - k))) ((true)=(eP (a - 1) cols)/\True))) ?_;refine lx fun n0=>?_;refine⟨aAb _,⟨0,rfl,aBC _,rfl⟩,fun k ⟨hk,hv⟩=>?_⟩;apply dd<;>intro c0
 ·refine⟨aGR,rfl,aGR,fun e12 h12=>?_⟩;refine⟨aGS,kP _ _ _,dm (fun g19=>?_) fun g19=>?_⟩
  ·have hp:kI (a - 1) cols k=false:=by rw[kI,bK h12,g19];rfl
   apply et1
   ·(rw[eP,jL aGR hp];done)
  ·apply dd<;>intro g22
   ·refine⟨aGS,aGR,rfl,aGR,fun e26 h26=>?_⟩;have i26:cols[k - 1]? =some e26:=by rw[<-h26];congr 1;omega
    apply dd<;>intro c1
    ·have hp:kI (a - 1) cols k=false:=by rw[kI,bK h12,bK i26,show decide (e26<e12)=false by simp;omega,show decide (k=0)=false by simp;omega];simp
     apply et1
     ·(rw[eP,jL aGR hp];done)
    ·have hp:kI (a - 1) cols k=true:=by rw[kI,bK h12,g19,bK i26,show decide (e26<e12)=true by simp;omega];simp
     refine⟨aGS,?_⟩;exact⟨k+1,rfl,⟨aGR,lP hv hp⟩,aGR⟩
   ·have hp:kI (a - 1) cols k=true:=by rw[kI,bK h12,g19,show decide (k=0)=true by simp;omega];rfl
    refine⟨aGS,?_⟩;exact⟨k+1,rfl,⟨aGR,lP hv hp⟩,aGR⟩
 ·apply et1
  ·(rw[eP,show cols.length=k by omega,hv];done)
def cJ {t:aX}(h:aW t=true):1<=t.l/\t.l<=3/\t.rows.length<=8:=by
 simp only[aW,aBB,aFI] at h;have:=eU h.2.2.1;omega
def Ja {t:aX}(h:aW t=true):IntKind.i64.wrap (t.l - 1)=t.l - 1:=by
 have:=cJ h;exact IntWalk.i64_in _ aGS
def Yr {t:aX}{cols:Z}(h:eP (IntKind.i64.wrap (t.l - 1)) cols=false):(aW t&&eP (t.l - 1) cols)=false:=by
 cases e:aW t with
 | false=>rfl
 | true=>rw[Ja e] at h;rw[h];rfl
def aBv {t:aX}{cols:Z}(h:eP (IntKind.i64.wrap (t.l - 1)) cols=true):(aW t&&eP (t.l - 1) cols)=aW t:=by
 cases e:aW t with
 | false=>rfl
 | true=>rw[Ja e] at h;rw[h];rfl
abbrev BH (t:aX)(cols:Z):Prop:=Cn 174 [aGz t,.one (.sl 3 1 (cols.map intD))] (vB (aW t&&eP (t.l - 1) cols)) []
def M1 (t:aX)(cols:Z):BH t cols:=by
 refine cq Tryz.func174 (.loop Nat (Q1 Nat) (rg 5 32) [] (fun k=>[(5,vI (k:Int))]) (fun k=>[]) (fun k=>k<=cols.length/\(List.range k).all (kI (IntKind.i64.wrap (t.l - 1)) cols)=true) (fun k=>cols.length - k) (fun k=> .len cols.length<| .br (.elem _ intD cols (fun e14=> .raw<| .call (vB (eZ e14 (0:Int) (IntKind.i64.wrap (t.l - 1)))) []<| .br (.fin []) (aGQ<| .br (.elem _ intD cols (fun e28=> .elem _ intD cols (fun e32=> aGN<| .br (.fin []) (.back [])))) (.back [])))) (.call (vB (aW t)) []<| .fin []))) (p:=Lx (t.rows.map aD)<| Lx (cols.map intD)<| (∃(k:Nat),0=(k:Int)/\k<=cols.length/\(List.range k).all (kI (IntKind.i64.wrap (t.l - 1)) cols)=true)/\ ∀(k:Nat),(k<=cols.length/\(List.range k).all (kI (IntKind.i64.wrap (t.l - 1)) cols)=true)->Lm intD cols/\Br ((k:Int)<(cols.length:Int)) (0<=(k:Int)/\Em intD cols k fun e14=>fO e14 (0:Int) (IntKind.i64.wrap (t.l - 1))/\Nr (eZ e14 (0:Int) (IntKind.i64.wrap (t.l - 1))) ((false)=(aW t&&eP (t.l - 1) cols)/\True) (Br (0<(k:Int)) (bO ((k:Int) - 1)/\0<=((k:Int) - 1)/\Em intD cols (((k:Int) - 1).toNat) fun e28=>0<=(k:Int)/\Em intD cols k fun e32=>Br (e32<=e28) ((false)=(aW t&&eP (t.l - 1) cols)/\True) (bO ((k:Int)+1)/\ ∃(k' :Nat),((k:Int)+1)=(k' :Int)/\(k' <=cols.length/\(List.range k').all (kI (IntKind.i64.wrap (t.l - 1)) cols)=true)/\cols.length - k' <cols.length - k)) (bO ((k:Int)+1)/\ ∃(k' :Nat),((k:Int)+1)=(k' :Int)/\(k' <=cols.length/\(List.range k').all (kI (IntKind.i64.wrap (t.l - 1)) cols)=true)/\cols.length - k' <cols.length - k))) (rO t/\(aW t)=(aW t&&eP (t.l - 1) cols)/\True)) ?_;refine lx fun n0=>lx fun n1=>?_;refine⟨⟨0,rfl,aBC _,rfl⟩,fun k ⟨hk,hv⟩=>?_⟩;refine⟨aAb _,dd (fun c0=>?_) fun c0=>?_⟩
 ·refine⟨aGR,rfl,aGR,fun e14 h14=>?_⟩;refine⟨jV _ _ _,dm (fun g21=>?_) fun g21=>?_⟩
  ·have hp:kI (IntKind.i64.wrap (t.l - 1)) cols k=false:=by rw[kI,bK h14,g21];rfl
   apply et1
   ·(rw[Yr (by rw[eP,jL aGR hp])];done)
  ·apply dd<;>intro g24
   ·refine⟨aGS,aGR,rfl,aGR,fun e28 h28=>?_⟩;have i28:cols[k - 1]? =some e28:=by rw[<-h28];congr 1;omega
    refine⟨aGR,rfl,aGR,fun e32 h32=>?_⟩;obtain rfl:=(bE h14 h32).symm;apply dd<;>intro c1
    ·have hp:kI (IntKind.i64.wrap (t.l - 1)) cols k=false:=by rw[kI,bK h14,bK i28,show decide (e28<e14)=false by simp;omega,show decide (k=0)=false by simp;omega];simp
     apply et1
     ·(rw[Yr (by rw[eP,jL aGR hp])];done)
    ·have hp:kI (IntKind.i64.wrap (t.l - 1)) cols k=true:=by rw[kI,bK h14,g21,bK i28,show decide (e28<e14)=true by simp;omega];simp
     refine⟨aGS,?_⟩;exact⟨k+1,rfl,⟨aGR,lP hv hp⟩,aGR⟩
   ·have hp:kI (IntKind.i64.wrap (t.l - 1)) cols k=true:=by rw[kI,bK h14,g21,show decide (k=0)=true by simp;omega];rfl
    refine⟨aGS,?_⟩;exact⟨k+1,rfl,⟨aGR,lP hv hp⟩,aGR⟩
 ·refine⟨BF t,?_,trivial⟩
  ·(rw[aBv (by rw[eP,show cols.length=k by omega,hv])];done)
abbrev Gy (l:Z):AV × aGJ:=(.own 0,[(0,.arr 3 1 true (l.map intD))])
abbrev Jb (l:Z):Prop:=Cn 83 [.one (.sl 3 1 (l.map intD))] (Gy l).1 (Gy l).2
def cpI (l:Z)(hl:l.length<=1048576):Jb l:=by
 refine cq Tryz.func83 (.app Int intD ([]:Z) l<| .fin [(0,500)]) (p:=Lx (l.map intD)<| Ap intD ([]:Z) l 8 ((([]:Z)++l).map intD=l.map intD/\True)) ?_;refine lx fun n0=>?_;refine ap ?_ (fun _=>rfl) (by simp;omega);apply et1
 ·simp
abbrev M2 (l:List Z):AV × aGJ:=(.own 0,[(0,.arr 51 1 true (l.map aD))])
abbrev QZ (l:List Z):Prop:=Cn 163 [.one (.sl 51 1 (l.map aD))] (M2 l).1 (M2 l).2
def cpR (l:List Z)(hc:dG l<=1048576):QZ l:=by
 refine cq Tryz.func163 (.len l.length<| .loop (Nat × (List Z)) (Q2 Nat (List Z)) ([3,5,6]++rg 9 10) [600,1500,1600,1700] (fun yy0=>[(3,.own 600),(9,vI (yy0.1:Int))]) (fun yy0=>[(600,some (.arr 51 1 true (yy0.2.map aD)))]) (fun yy0=>yy0.1<=l.length/\yy0.2=l.take yy0.1) (fun yy0=>l.length - yy0.1) (fun yy0=> .br (.elem _ aD l (fun e11=>bN (Gy e11)<| .appx Z aD yy0.2 e11<| .back [(600,1700)])) (.fin [(0,600)]))) (p:=Lx (l.map aD)<| Lm aD l/\((∃(k:Nat) (out:List Z),0=(k:Int)/\[]=out.map aD/\k<=l.length/\out=l.take k)/\ ∀(k:Nat) (out:List Z),(k<=l.length/\out=l.take k)->Br ((k:Int)<(l.length:Int)) (0<=(k:Int)/\Em aD l k fun e11=>Jb e11/\out.map aD=out.map aD/\e11.map intD=e11.map intD/\(out.length+1)*24<=140737488355328/\bO ((k:Int)+1)/\ ∃(k' :Nat) (out' :List Z),((k:Int)+1)=(k' :Int)/\(out++[e11]).map aD=out'.map aD/\(k' <=l.length/\out' =l.take k')/\l.length - k' <l.length - k) (out.map aD=l.map aD/\True))) ?_;refine lx fun n0=>?_;have hlen:=gP l;refine⟨aAb _,⟨0,([]:List Z),rfl,rfl,aBC _,rfl⟩,fun k out ⟨hk,ho⟩=>?_⟩;apply dd<;>intro c0
 ·refine⟨aGR,rfl,aGR,fun e11 h11=>?_⟩;have h5:e11.length<=1048576:=by have:=F5 h11;have:eL e11=e11.length:=rfl;omega
  refine⟨cpI _ aGR,rfl,rfl,by simp[ho];have:=gP l;omega,aGS,?_⟩;exact⟨k+1,out++[e11],rfl,rfl,⟨aGR,by rw[ho,bW h11]⟩,aGR⟩
 ·apply et1
  ·rw[ho,aCR aGR]
def aBw (x:Int)(w:World):Calls Tryz.prog 242 #[.int .i64 x] w fun e w' =>e= .returned (.bool false)/\w' =w:=by
 go_enter Tryz.func242,Tryz.ntmps242
 go_wp2
 go_ret
 exact⟨by simp,rfl⟩
def Qa (x y:Int)(w:World):Calls Tryz.prog 228 #[.int .i64 x,.int .i64 y] w fun e w' =>e= .returned (.int .i64 (xE x y))/\w' =w:=by
 go_enter Tryz.func228,Tryz.ntmps228
 go_wp2_with (go_at_call 242;refine(aBw _ _).mono ?_;rintro e w' ⟨rfl,hw⟩;rw[hw])
 all_goals (go_ret;refine⟨?_,rfl⟩;unfold xE;(repeat' split)<;>first|rfl|(exfalso;omega))
def Da (w:World)(a:Option Addr)(l:Z):Prop:= ∀j x,l[j]? =some x-> ∃b o,a=some ⟨b,o,none⟩/\w.cell? ⟨b,o+j,none⟩=some (.int .i64 x)
set_option maxHeartbeats 1000000 in
theorem Qb (a1 a2:Option Addr)(c1 c2:Nat)(l m:Z)(w:World)(hl:l.length<=9223372036854775807)(hm:m.length<=9223372036854775807)(h1:Da w a1 l)(h2:Da w a2 m):
 Calls Tryz.prog 215 #[.slice a1 l.length c1,.slice a2 m.length c2] w fun e w' =>e= .returned (.int .i64 (cO l m))/\w' =w:=by
 have H1:=Lib.hid h1;have H2:=Lib.hid h2
 clear h1 h2
 go_enter Tryz.func215,Tryz.ntmps215
 go_wp2
 go_loop [5,6,7,8,11] (fun _ _ _ _ s=> ∃k:Nat,s= .int .i64 k/\k<=l.length/\k<=m.length/\cO (l.drop k) (m.drop k)=cO l m) (fun _ _ _ _ s=>l.length - (intOf s).toNat)
 case atStart=>exact⟨0,rfl,aBC _,aBC _,rfl⟩
 case round=>
  obtain⟨k,rfl,hk,hk2,hv⟩:=hrel;have HV:=Lib.hid hv
  clear hv
  by_cases hlt:k<l.length
  ·obtain⟨x,hx⟩:=fK hlt;obtain⟨b1,o1,rfl,g1⟩:=H1.out k x hx;by_cases hlt2:k<m.length
   ·obtain⟨y,hy⟩:=fK hlt2;obtain⟨b2,o2,rfl,g2⟩:=H2.out k y hy;have HD:=Lib.hid (show cO l m=if xE x y=0 then cO (l.drop (k+1)) (m.drop (k+1)) else xE x y by rw[<-HV.out,oD hx,oD hy,Mz]);by_cases hc:xE x y=0
    ·have HC:=Lib.hid hc
     clear hc
     go_wp2_with (go_at_call 228;refine(Qa _ _ _).mono ?_;rintro e w' ⟨rfl,hw⟩;rw[hw,HC.out])
     exact⟨⟨k+1,by simp,aGR,aGR,by rw[HD.out,if_pos HC.out]⟩,by simp[intOf];omega⟩
    have HC:=Lib.hid hc;have hcb:(xE x y !=0)=true:=by simpa using hc
    clear hc
    go_wp2_with (go_at_call 228;refine(Qa _ _ _).mono ?_;rintro e w' ⟨rfl,hw⟩;rw[hw])
    go_ret
    refine⟨?_,rfl⟩;rw[HD.out,if_neg HC.out];rfl
   have hge:m.length<=k:=aGR
   have HE:=Lib.hid (lZ (l:=l) (m:=m) (k:=k) ⟨hk,hk2⟩ (.inr hlt2))
   go_wp2
   go_ret
   refine⟨?_,rfl⟩;rw[<-HV.out,HE.out,if_neg aGR,if_pos aGR];rfl
  have HE:=Lib.hid (lZ (l:=l) (m:=m) (k:=k) ⟨hk,hk2⟩ (.inl hlt));by_cases hlm:l.length<m.length
  ·go_wp2
   go_ret
   refine⟨?_,rfl⟩;rw[<-HV.out,HE.out,if_pos hlm];rfl
  go_wp2
  go_ret
  refine⟨?_,rfl⟩;rw[<-HV.out,HE.out,if_neg hlm,if_neg aGR];rfl
theorem Ys (a1 a2:Option Addr)(c1 c2:Nat)(l m:Z)(w:World)(hl:l.length<=9223372036854775807)(hm:m.length<=9223372036854775807)(h1:Da w a1 l)(h2:Da w a2 m):
 Calls Tryz.prog 207 #[.slice a1 l.length c1,.slice a2 m.length c2] w fun e w' =>e= .returned (.int .i64 (cO l m))/\w' =w:=by
 have HC:=Lib.hid (Qb a1 a2 c1 c2 l m w hl hm h1 h2)
 clear h1 h2
 go_enter Tryz.func207,Tryz.ntmps207
 go_wp2_with (go_at_call 215;refine HC.out.mono ?_;rintro e w' ⟨rfl,hw⟩;rw[hw])
 go_ret
 exact⟨rfl,rfl⟩
def CT (l:Z):cO l l=0:=fW.2 rfl
theorem tZ: ∀{l m:Z},cO l m<0↔0<cO m l
 | [],[]=>by simp[cO]
 | [],_::_=>by simp[cO]
 | _::_,[]=>by simp[cO]
 | a::l,b::m=>by
   simp only[cO];by_cases h1:a<b
   ·simp[h1,show ¬b<a by omega]
   by_cases h2:b<a
   ·simp[h1,h2]
   simp only[h1,h2,if_false];exact tZ
theorem pG: ∀{l m n:Z},cO l m<0->cO m n<0->cO l n<0
 | [],[],n,h1,_=>by simp[cO] at h1
 | [],_::_,[],_,h2=>by simp[cO] at h2
 | [],_::_,_::_,_,_=>by simp[cO]
 | _::_,[],n,h1,_=>by simp[cO] at h1
 | a::l,b::m,[],_,h2=>by simp[cO] at h2
 | a::l,b::m,c::n,h1,h2=>by
   simp only[cO] at*;rcases Int.lt_trichotomy a b with ab | ab | ab
   ·rcases Int.lt_trichotomy b c with bc | bc | bc
    ·rw[if_pos aGR];decide
    ·subst bc;rw[if_pos ab];decide
    rw[if_neg aGR,if_pos bc] at h2;exact absurd h2 (by decide)
   ·subst ab;rcases Int.lt_trichotomy a c with bc | bc | bc
    ·rw[if_pos bc];decide
    ·subst bc;rw[if_neg aGR,if_neg aGR] at*;exact pG h1 h2
    rw[if_neg aGR,if_pos bc] at h2;exact absurd h2 (by decide)
   rw[if_neg aGR,if_pos ab] at h1;exact absurd h1 (by decide)
def Gz {l m n:Z}(h1: ¬cO l m<0)(h2: ¬cO m n<0): ¬cO l n<0:=by
 intro h;by_cases e:cO l m=0
 ·rw[fW.1 e] at h;exact h2 h
 exact h2 (pG (tZ.2 aGR) h)
def Qc (a b:Z):Bool:=decide (cO a b<=0)
def IE {a b:Z}:Qc a b=true↔ ¬cO b a<0:=by
 rw[Qc,aFI];constructor
 ·intro h q;have:=tZ.1 q;omega
 intro h;have: ¬0<cO a b:=fun q=>h (tZ.2 q);omega
def Ot {a b:Z}(h1:Qc a b=true)(h2:Qc b a=true):a=b:=by
 rw[IE] at h1 h2;have: ¬0<cO a b:=fun q=>h1 (tZ.2 q);exact fW.1 aGR
def dU (l:List Z):List Z:=l.mergeSort Qc
def Db (l:List Z):(dU l).Perm l:=List.mergeSort_perm l Qc
def Jc (l:List Z):(dU l).Pairwise (fun a b=>Qc a b=true):=
 List.pairwise_mergeSort (fun a b c h1 h2=>by rw[IE] at*;exact Gz h2 h1) (fun a b=>by
  by_cases h:cO b a<0
  ·have:Qc b a=true:=by rw[Qc,aFI];omega
   simp[this]
  have:Qc a b=true:=IE.2 h;simp[this]) l
def Yt {l m:List Z}(hp:m.Perm l)(hs:m.Pairwise (fun a b=>Qc a b=true)):m=dU l:=
 List.Perm.eq_of_pairwise (le:=fun a b=>Qc a b=true) (fun a b _ _ h1 h2=>Ot h1 h2) hs (Jc l) (hp.trans (Db l).symm)
def GA (l:List Z):(dU l).length=l.length:=(Db l).length_eq
end Go.Proofs.YtgamjlgfnmpcjaaGreat
namespace Go.Proofs.YtgamjlgfnmpcjaaGreat
open Go.ChangeShapes Go.WideShapes Go.ChangeAt Go.RowKit Go.Shelf Go.Lib
set_option linter.all false
theorem Jd {w:World}{k:Nat}{ι:Type}(f:ι->List bX)(g:ι->List Value)(h:ι->List Nat): ∀{L:List ι},(∀i∈L,(f i).length=k/\dW w (f i) (g i) (h i))->dB w k (L.map f) (L.map g) (L.map h)
 | [],_=>by simp only[List.map_nil];unfold dB;exact⟨rfl,rfl⟩
 | i::L,hL=>by
   simp only[aDH];unfold dB;exact⟨_,_,_,_,rfl,rfl,(hL i (by simp)).1,(hL i (by simp)).2,Jd f g h fun j hj=>hL j (by simp[hj])⟩
theorem CU {w:World}{k:Nat}: ∀{xs:List (List bX)} {css:List (List Value)} {Fs:List (List Nat)},dB w k xs css Fs->css.length=xs.length/\Fs.length=xs.length
 | [],_,_,h=>by unfold dB at h;rw[h.1,h.2];exact⟨rfl,rfl⟩
 | x::xs,_,_,h=>by
   unfold dB at h;obtain⟨c,css',F,Fs',rfl,rfl,_,_,h3⟩:=h;have:=CU h3;simp[this.1,this.2]
theorem BI {w:World}{k:Nat}: ∀{xs:List (List bX)} {css:List (List Value)} {Fs:List (List Nat)} {i:Nat} {x:List bX},dB w k xs css Fs->xs[i]? =some x-> ∃c F,css[i]? =some c/\Fs[i]? =some F/\x.length=k/\dW w x c F
 | [],_,_,_,_,_,hx=>by simp at hx
 | y::xs,_,_,0,x,h,hx=>by
   unfold dB at h;obtain⟨c,css',F,Fs',rfl,rfl,h1,h2,_⟩:=h;simp at hx;subst hx;exact⟨c,F,rfl,rfl,h1,h2⟩
 | y::xs,_,_,i+1,x,h,hx=>by
   unfold dB at h;obtain⟨c,css',F,Fs',rfl,rfl,_,_,h3⟩:=h;simp at hx;simpa using BI h3 hx
theorem tA: ∀(l:List (List Value)) (i:Nat) (v:Value),(∀d∈l,d.length=1)->l[i]? =some [v]->l.flatten[i]? =some v
 | [],i,v,_,h=>by simp at h
 | d::l,0,v,hd,h=>by simp at h;subst h;simp
 | d::l,i+1,v,hd,h=>by
   have h1:=hd d (by simp);rw[aE8,aD8 aGR,h1];exact tA l i v (fun d' hd' =>hd d' (by simp[hd'])) (by simpa using h)
theorem Je {ι:Type}(f:ι->Value): ∀L:List ι,(L.map fun i=>[f i]).flatten=L.map f
 | []=>rfl
 | i::L=>by rw[aDH,aE8,Je f L];rfl
theorem E0: ∀(l:List (List Value)),(∀d∈l,d.length=1)->l.flatten.length=l.length
 | [],_=>rfl
 | d::l,hd=>by
   rw[aE8,aEh,hd d (by simp),E0 l fun d' hd' =>hd d' (by simp[hd'])];simp;omega
def aDA {w:World}{e:Nat}{r:Z}{c:List Value}{F:List Nat}(h:dW w [.sl e 1 (r.map intD)] c F): ∃a cap,c= [.slice a r.length cap]/\Da w a r/\(∀x∈a,x.block∈F)/\r.length<=9223372036854775807:=by
 unfold dW at h;obtain⟨v,cs',F1,F2,rfl,rfl,h1,h2⟩:=h;unfold dW at h2;obtain⟨rfl,rfl⟩:=h2;unfold sG at h1;obtain⟨css,Fs,q1,q2,q3⟩:=h1;rcases q1.2 with ⟨rfl,hz⟩ | ⟨g,cap,cur,rfl,_,hb,hn,hcap2,hsz,htk⟩
 ·simp at hz;subst hz;exact⟨none,0,rfl,fun j x hx=>by simp at hx,by simp,by simp⟩
 refine⟨some ⟨g,0,none⟩,cap,by simp,fun j x hx=>⟨g,0,rfl,?_⟩,fun x hx=>?_,by have:cap<=maxLen:=hcap2;unfold maxLen at this;simp at hn;omega⟩
 ·obtain⟨c0,F0,g1,_,_,g4⟩:=BI q3 (show (r.map intD)[j]? =some (intD x) by rw[aGB,hx];rfl);unfold intD dW at g4;obtain⟨v0,cs0,_,_,rfl,_,g5,g6⟩:=g4;unfold dW at g6;obtain⟨rfl,_⟩:=g6;unfold sG at g5;obtain⟨rfl,_⟩:=g5
  have hlen: ∀d∈css,d.length=1:=fun d hd=>by
   obtain⟨i,hi⟩:=List.getElem?_of_mem hd
   have hil:i<(r.map intD).length:=by
    have:=(CU q3).1;have:=(aCO.1 hi).1;omega
   obtain⟨c1,F1,k1,_,k3,k4⟩:=BI q3 (aBP hil);rw[hi] at k1;injection k1 with k1;subst k1
   rw[List.getElem_map] at k4;unfold intD dW at k4;obtain⟨_,_,_,_,rfl,_,_,k6⟩:=k4;unfold dW at k6;rw[k6.1];rfl
  have hflat:css.flatten[j]? =some (.int .i64 x):=by
   exact tA css j _ hlen g1
  have hj:j<r.length:=(aCO.1 hx).1;simp only[World.cell?,hb,Nat.zero_add,Option.isSome_none,Bool.false_eq_true,if_false];rw[<-Array.getElem?_toList,<-hflat,<-htk,List.getElem?_take_of_lt (by simpa using hj)]
 simp at hx;subst hx;rw[q2];simp[Value.ownBlock]
theorem M3 {w:World}{enc:Nat->Value}{g n:Nat}{os:Array Obj}{cur:Array Value}{e:TypeId}{fr:Nat × Nat}(d:Array Nat)(hb:w.heap[g]? =some (.cells cur e fr)):
 (sortWorld enc w g 0 n d os).heap[g]? =some (.cells (Go.Sort.putCells enc 0 d cur) e fr):=by
 have hg:g<w.heap.size:=(Array.getElem?_eq_some_iff.1 hb).1;unfold sortWorld;rw[Go.Sort.heap_grow_old _ _ (by simpa using hg)];simp[Go.Sort.putRow,Go.Sort.mapBlock,Go.Sort.ahead,Array.getElem?_modify,hb,Go.Sort.onCells]
def uT {w:World}{enc:Nat->Value}{g n k:Nat}{os:Array Obj}(d:Array Nat)(hk:k<w.heap.size)(hne:k≠g):(sortWorld enc w g 0 n d os).heap[k]? =w.heap[k]? :=by
 unfold sortWorld;rw[Go.Sort.heap_grow_old _ _ (by simpa using hk)];simp[Go.Sort.putRow,Go.Sort.mapBlock,Go.Sort.ahead,Array.getElem?_modify,Ne.symm hne]
def Qd (enc:Nat->Value)(cur:Array Value)(ts:List Nat)(h:ts.length<=cur.size):(Go.Sort.putCells enc 0 ts.toArray cur).toList.take ts.length=ts.map enc:=by
 apply List.ext_getElem?;intro j;by_cases hj:j<ts.length
 ·rw[List.getElem?_take_of_lt hj,Array.getElem?_toList];simp[Go.Sort.putCells,hj,show j<cur.size by omega]
 rw[List.getElem?_take_eq_none aGR,List.getElem?_eq_none (by simp;omega)]
def CV {w w' :World}{a:Option Addr}{r:Z}(h:Da w a r)(hk: ∀x∈a,w'.heap[x.block]? =w.heap[x.block]?):Da w' a r:=fun j x hx=>by
 obtain⟨b,o,rfl,hc⟩:=h j x hx;refine⟨b,o,rfl,?_⟩;have:=hk ⟨b,o,none⟩ rfl;unfold World.cell? at*;simp only at*;rw[this];exact hc
end Go.Proofs.YtgamjlgfnmpcjaaGreat
namespace Go.Proofs
open Go.Shelf
namespace YtgamjlgfnmpcjaaGreat
def Tryz.sortRows_ren:Go.Shelf.Ren:=⟨fun | 6=>208 | 15=>214 | 14=>216 | 28=>226 | 29=>227 | 20=>229 | 21=>230 | 22=>231 | 23=>232 | 24=>233 | 25=>234 | 26=>235 | 27=>236 | 46=>243 | 47=>238 | 48=>239 | 49=>244 | 50=>245 | 57=>247 | n=>n,fun | 22=>53 | 24=>51 | 25=>193 | 3=>3 | 39=>175 | 0=>0 | 53=>221 | 55=>223 | 4=>4 | 46=>213 | 45=>212 | 50=>218 | 5=>5 | 9=>9 | 66=>229 | 70=>233 | 76=>238 | 77=>239 | n=>n,fun | n=>n⟩
theorem Tryz.sortRows:Go.Proofs.SlLaysF.n6 Tryz.prog Tryz.sortRows_ren:={
 mixed:=by kernel_rfl
 f6:=⟨Tryz.f208.name,by decide,Tryz.func208.trans (congrArg some (by kernel_rfl))⟩
 f14:=⟨Tryz.f216.name,by decide,Tryz.func216.trans (congrArg some (by kernel_rfl))⟩
 f15:=Tryz.func214.trans (congrArg some (by kernel_rfl))
 f20:=⟨Tryz.f229.name,by decide,Tryz.func229.trans (congrArg some (by kernel_rfl))⟩
 f21:=⟨Tryz.f230.name,by decide,Tryz.func230.trans (congrArg some (by kernel_rfl))⟩
 f22:=⟨Tryz.f231.name,by decide,Tryz.func231.trans (congrArg some (by kernel_rfl))⟩
 f23:=⟨Tryz.f232.name,by decide,Tryz.func232.trans (congrArg some (by kernel_rfl))⟩
 f24:=⟨Tryz.f233.name,by decide,Tryz.func233.trans (congrArg some (by kernel_rfl))⟩
 f25:=⟨Tryz.f234.name,by decide,Tryz.func234.trans (congrArg some (by kernel_rfl))⟩
 f26:=⟨Tryz.f235.name,by decide,Tryz.func235.trans (congrArg some (by kernel_rfl))⟩
 f27:=⟨Tryz.f236.name,by decide,Tryz.func236.trans (congrArg some (by kernel_rfl))⟩
 f28:=Tryz.func226.trans (congrArg some (by kernel_rfl))
 f29:=Tryz.func227.trans (congrArg some (by kernel_rfl))
 f46:=⟨Tryz.f243.name,by decide,Tryz.func243.trans (congrArg some (by kernel_rfl))⟩
 f47:=Tryz.func238.trans (congrArg some (by kernel_rfl))
 f48:=Tryz.func239.trans (congrArg some (by kernel_rfl))
 f49:=⟨Tryz.f244.name,by decide,Tryz.func244.trans (congrArg some (by kernel_rfl))⟩
 f50:=⟨Tryz.f245.name,by decide,Tryz.func245.trans (congrArg some (by kernel_rfl))⟩
 f57:=⟨Tryz.f247.name,by decide,Tryz.func247.trans (congrArg some (by kernel_rfl))⟩
 t0:=Tryz.underlying0
 a0:=Tryz.isAgg0
 z0:=Tryz.sizeOf0
 v0:=Tryz.zeroValue0
 t3:=Tryz.underlying3
 a3:=Tryz.isAgg3
 z3:=Tryz.sizeOf3
 v3:=Tryz.zeroValue3
 t4:=Tryz.underlying4
 a4:=Tryz.isAgg4
 z4:=Tryz.sizeOf4
 v4:=Tryz.zeroValue4
 t5:=Tryz.underlying5
 a5:=Tryz.isAgg5
 z5:=Tryz.sizeOf5
 v5:=Tryz.zeroValue5
 t9:=Tryz.underlying9
 a9:=Tryz.isAgg9
 z9:=Tryz.sizeOf9
 v9:=Tryz.zeroValue9
 t22:=Tryz.underlying53
 a22:=Tryz.isAgg53
 z22:=Tryz.sizeOf53
 v22:=Tryz.zeroValue53
 a24:=Tryz.isAgg51
 z24:=Tryz.sizeOf51
 t25:=Tryz.underlying193
 a25:=Tryz.isAgg193
 z25:=Tryz.sizeOf193
 v25:=Tryz.zeroValue193
 t39:=Tryz.underlying175
 a39:=Tryz.isAgg175
 z39:=Tryz.sizeOf175
 v39:=Tryz.zeroValue175
 t45:=Tryz.underlying212
 a45:=Tryz.isAgg212
 z45:=Tryz.sizeOf212
 v45:=Tryz.zeroValue212
 t46:=Tryz.underlying213
 a46:=Tryz.isAgg213
 z46:=Tryz.sizeOf213
 v46:=Tryz.zeroValue213
 t50:=Tryz.underlying218
 a50:=Tryz.isAgg218
 z50:=Tryz.sizeOf218
 v50:=Tryz.zeroValue218
 t53:=Tryz.underlying221
 a53:=Tryz.isAgg221
 z53:=Tryz.sizeOf221
 v53:=Tryz.zeroValue221
 t55:=Tryz.underlying223
 a55:=Tryz.isAgg223
 z55:=Tryz.sizeOf223
 v55:=Tryz.zeroValue223
 t66:=Tryz.underlying229
 a66:=Tryz.isAgg229
 z66:=Tryz.sizeOf229
 v66:=Tryz.zeroValue229
 t70:=Tryz.underlying233
 a70:=Tryz.isAgg233
 z70:=Tryz.sizeOf233
 v70:=Tryz.zeroValue233
 t76:=Tryz.underlying238
 a76:=Tryz.isAgg238
 z76:=Tryz.sizeOf238
 v76:=Tryz.zeroValue238
 t77:=Tryz.underlying239
 a77:=Tryz.isAgg239
 z77:=Tryz.sizeOf239
 v77:=Tryz.zeroValue239 }
end YtgamjlgfnmpcjaaGreat
end Go.Proofs
namespace Go.Proofs.YtgamjlgfnmpcjaaGreat
open Go.ChangeShapes Go.WideShapes Go.ChangeAt Go.RowKit Go.Shelf Go.Lib
set_option linter.all false
set_option maxHeartbeats 2000000 in
theorem Yu (l:List Z)(hl:l.length<4611686018427387904):xB Tryz.prog 208 [.own 0,.fn 207 []] [(0,.arr 51 1 true (l.map aD))] (.tup []) [(0,.arr 51 1 true ((dU l).map aD))]:=by
 refine⟨by kernel_rfl,by simp,fun A φ w vs hI hm=>?_⟩;obtain⟨pl,hp,css,Fs,q1,q2,q3,q4⟩:=hI.dom 0 _ rfl;unfold aS at hm;obtain⟨v,us,e1,m1,hm⟩:=hm;unfold aS at hm;obtain⟨v2,us2,e2,m2,hm⟩:=hm;unfold aS at hm;unfold aH at m1 m2;obtain⟨vs2,ev2,m3⟩:=m2;unfold aS at m3;have hv:=m1 pl hp;have e3:vs2= #[]:=by apply Array.ext';simpa using m3
 have ev:vs= #[pl.val,.func (.func 207) #[] #[]]:=by apply Array.ext';rw[e1,e2,hm,hv,ev2,e3]
 rw[ev];have hnd:=hI.nodup 0 pl hp;have hge:=hI.ge 0 pl hp;have hFe:pl.F=pl.val.ownBlock.toList++Fs.flatten:=by unfold Pl.F;rw[q2,q3]
 have hfoot: ∀b∈pl.F,Oe φ b:=fun b hb=>⟨0,pl,trivial,hp,hb⟩
 have h0: ∀h pl',φ h=some pl' ->h=0:=fun h pl' e' =>by
  cases hr:bF [(0,Rs.arr 51 1 true (l.map aD))] h with
  | none=>rw[hI.non h hr] at e';cases e'
  | some r=>
    simp only[bF] at hr;split at hr
    ·assumption
    cases hr
 obtain⟨lc,lF⟩:=CU q4;rw[aAb] at lc lF
 have hrow: ∀i,i<l.length-> ∃a cap F,css[i]? =some [.slice a (l.getD i []).length cap]/\Fs[i]? =some F/\Da w a (l.getD i [])/\(∀x∈a,x.block∈F)/\(l.getD i []).length<=9223372036854775807/\dW w (aD (l.getD i [])) [.slice a (l.getD i []).length cap] F:=fun i hi=>by
  obtain⟨r,hr⟩:=fK hi;have hg:l.getD i []=r:=by simp[aCz,hr]
  obtain⟨c,F,g1,g2,_,g4⟩:=BI q4 (show (l.map aD)[i]? =some (aD r) by rw[aGB,hr];rfl);obtain⟨a,cap,rfl,k1,k2,k3⟩:=aDA g4;rw[hg];exact⟨a,cap,F,g1,g2,k1,k2,k3,g4⟩
 have hone: ∀d∈css,d.length=1:=fun d hd=>by
  obtain⟨i,hi⟩:=List.getElem?_of_mem hd;obtain⟨a,cap,F,g1,_⟩:=hrow i (by have:=(aCO.1 hi).1;omega);rw[hi] at g1;injection g1 with g1
  rw[g1];rfl
 let enc:Nat->Value:=fun i=>css.flatten.getD i (.slice none 0 0)
 have henc: ∀i,∃a cap,enc i= .slice a (l.getD i []).length cap/\Da w a (l.getD i [])/\(∀x∈a,x.block∈Fs.flatten)/\(l.getD i []).length<=9223372036854775807:=fun i=>by
  by_cases hi:i<l.length
  ·obtain⟨a,cap,F,g1,g2,g3,g4,g5,_⟩:=hrow i hi;refine⟨a,cap,?_,g3,fun x hx=>List.mem_flatten.2 ⟨F,aBD g2,g4 x hx⟩,g5⟩;show css.flatten.getD i _=_;rw[aCz,tA css i _ hone g1];rfl
  have hg:l.getD i []= []:=by rw[aCz,List.getElem?_eq_none aGR];rfl
  rw[hg];refine⟨none,0,?_,fun j x hx=>by simp at hx,by simp,by simp⟩;show css.flatten.getD i _=_;rw[aCz,List.getElem?_eq_none (by rw[E0 css hone];omega)];rfl
 have hend: ∀(d' :List Nat) (w' :World),d'.Perm (List.range l.length)->(d'.map fun i=>l.getD i []).Pairwise (fun a b=>Qc a b=true)->oK pl.F w w' ->(∀F∈Fs,lM F w w')->w'.ownsRow 0 51 1 pl.val l.length (d'.map enc)->
  ∃v K φ',Ending.returned (.tuple #[])= .returned v/\WA A φ w [(0,.arr 51 1 true ((dU l).map aD))] K φ' w' /\aH K φ' w' (.tup []) v:=by
  intro d' w' hperm hsort hon hkeep howns
  have hrange:(List.range l.length).map (fun i=>l.getD i [])=l:=by
   apply List.ext_getElem?;intro i;by_cases hi:i<l.length
   ·simp[hi]
   simp[hi]
  have hl' :d'.map (fun i=>l.getD i [])=dU l:=Yt (by have:=hperm.map (fun i=>l.getD i []);rwa [hrange] at this) hsort
  have hFr:(List.range l.length).map (fun i=>Fs.getD i [])=Fs:=by
   apply List.ext_getElem?;intro i;by_cases hi:i<l.length
   ·simp[hi,show i<Fs.length by omega]
   simp[hi,show ¬i<Fs.length by omega]
  have hFp:(d'.map fun i=>Fs.getD i []).flatten.Perm Fs.flatten:=by
   have:=(hperm.map (fun i=>Fs.getD i [])).flatten
   rwa [hFr] at this
  let pl' :Pl:=⟨pl.val,pl.top,(d'.map fun i=>Fs.getD i []).flatten⟩
  have hmem: ∀g,g∈pl'.F↔g∈pl.F:=fun g=>by
   simp only[pl',Pl.F,aCy,q3,hFp.mem_iff]
  have hnd' :pl'.F.Nodup:=by
   have:pl'.F.Perm pl.F:=by simp only[pl',Pl.F,q3];exact(List.Perm.refl _).append hFp
   exact this.nodup_iff.2 hnd
  refine⟨_,A,fun h=>if h=0 then some pl' else none,rfl,⟨⟨hon.os,hon.tape,hon.output,hon.size,fun b hb hn=>hon.block b hb (fun hm=>hn (hfoot b hm))⟩,fun _ h=>h,fun b hb=>⟨aFD (hI.lt b hb) hon.size,.inl hb⟩,fun b hb h pl1 e' hm' =>?_,fun h r hr=>?_,fun h hr=>?_,fun h h' pl1 pl2 hne ea eb=>?_,fun h pl1 e' =>?_,fun h pl1 e' g hg=>?_,fun h pl1 pl0 e' e0=>?_⟩,?_⟩
  ·split at e'
   ·injection e' with e';subst e'
    exact hI.out b hb 0 pl hp ((hmem b).1 hm')
   cases e'
  ·simp only[bF] at hr;split at hr
   ·rename_i eh;subst eh;injection hr with hr
    subst hr;refine⟨pl',by simp,d'.map (fun i=>[enc i]),d'.map (fun i=>Fs.getD i []),?_,q2,rfl,?_⟩
    ·have e4:(d'.map fun i=>[enc i]).flatten=d'.map enc:=Je enc d';rw[e4,aAb,GA];exact howns
    rw[<-hl',List.map_map];refine Jd (fun i=>aD (l.getD i [])) (fun i=>[enc i]) (fun i=>Fs.getD i []) fun i hi=>⟨rfl,?_⟩;have hil:i<l.length:=by simpa using hperm.mem_iff.1 hi
    obtain⟨a,cap,F,g1,g2,g3,g4,g5,g6⟩:=hrow i hil
    have ee:enc i= .slice a (l.getD i []).length cap:=by
     show css.flatten.getD i _=_;rw[aCz,tA css i _ hone g1];rfl
    have eF:Fs.getD i []=F:=by simp[aCz,g2]
    rw[ee,eF];exact dW.kept _ _ _ (hkeep F (aBD g2)) g6
   cases hr
  ·simp only[bF] at hr;split at hr
   ·cases hr
   rename_i eh;exact if_neg eh
  ·split at ea
   ·split at eb
    ·rename_i x y;exact absurd (x.trans y.symm) hne
    cases eb
   cases ea
  ·split at e'
   ·injection e' with e';subst e';exact hnd'
   cases e'
  ·split at e'
   ·injection e' with e';subst e'
    have:=(hmem g).1 hg;exact⟨.inr (hfoot g this),aFD (hge g this) hon.size⟩
   cases e'
  ·split at e'
   ·rename_i eh;subst eh;rw[hp] at e0;injection e0 with e0;injection e' with e'
    subst e0;subst e';exact⟨rfl,rfl⟩
   cases e'
  unfold aH;exact⟨#[],rfl,by unfold aS;rfl⟩
 rw[aAb] at q1;rcases q1.2 with ⟨hvn,hz⟩ | ⟨g,cap,cur,hvv,hg0,hb,hn,hcap,hsz,htk⟩
 ·have hcon:=AnyF.slices_SortFunc_none { Tryz.sortRows with } none 0 (.func (.func 207) #[] #[]) w;change Calls Tryz.prog 208 _ _ _ at hcon;rw[hvn];refine hcon.mono ?_;rintro en w' ⟨rfl,rfl⟩;have hz' :l= []:=aDE hz;subst hz';exact hend [] w' (by simp) (by simp) (oK.refl _ _) (fun F hF g hg=>rfl) (by rw[hvn];exact⟨by simp,.inl ⟨rfl,rfl⟩⟩)
 have hgF:g ∉ Fs.flatten:=fun hm=>by
  rw[hFe,hvv] at hnd;simp only[Value.ownBlock,Option.toList_some,List.cons_append,aFy,List.nodup_cons] at hnd;exact hnd.1 hm
 have hgs:g<w.heap.size:=(Array.getElem?_eq_some_iff.1 hb).1;have hin: ∀b∈Fs.flatten,b<w.heap.size/\b≠g:=fun b hb' =>⟨hge b (by rw[hFe];exact aCX _ hb'),fun e=>hgF (e▸hb')⟩
 have hO:Go.Sort.SWO (ltOf fun x y:Nat=>cO (l.getD x []) (l.getD y [])):=
  { irrefl:=fun x=>by show decide (cO (l.getD x []) (l.getD x [])<0)=false;rw [CT];rfl
    trans:=fun x y z h1 h2=>by unfold ltOf at*;rw[aFI] at*;exact pG h1 h2
    ntrans:=fun x y z h1 h2=>by unfold ltOf at*;rw[decide_eq_false_iff_not] at*;exact Gz h1 h2 }
 have hcmp:CmpLays1 Tryz.prog 207 #[] enc (fun x y:Nat=>cO (l.getD x []) (l.getD y [])) g 0 (List.range l.length).toArray.size w:=fun m os dk hs x y=>by
  obtain⟨a1,c1,ex,r1,k1,b1⟩:=henc x;obtain⟨a2,c2,ey,r2,k2,b2⟩:=henc y;rw[ex,ey];refine(Ys a1 a2 c1 c2 _ _ _ b1 b2 (CV r1 fun q hq=>uT dk (hin _ (k1 q hq)).1 (hin _ (k1 q hq)).2) (CV r2 fun q hq=>uT dk (hin _ (k2 q hq)).1 (hin _ (k2 q hq)).2)).mono ?_;rintro en w' ⟨rfl,rfl⟩;exact⟨rfl,0,#[],by simp[Go.Sort.grow_empty,World.drewN]⟩
 have htk' :cur.toList.take l.length=css.flatten:=by rw[Nat.mul_one] at htk;exact htk
 have hH:Go.Sort.Holds enc w g 0 (List.range l.length).toArray:=fun j hj=>by
  have hj' :j<l.length:=by simpa using hj
  refine⟨?_,by simp[World.frozen?,hb]⟩;have h1:(cur.toList.take l.length)[j]? =css.flatten[j]? :=by rw[htk']
  rw[List.getElem?_take_of_lt hj'] at h1;simp only[World.cell?,hb,Nat.zero_add,Option.isSome_none,Bool.false_eq_true,if_false];rw[<-Array.getElem?_toList,h1];obtain⟨a,cap',F,g1,_⟩:=hrow j hj';have h2:=tA css j _ hone g1
  have ee:enc j= .slice a (l.getD j []).length cap' :=by
   show css.flatten.getD j _=_;rw[aCz,h2];rfl
  have ej:(List.range l.length).toArray[j]! =j:=by simp[hj']
  rw[h2,ej,ee]
 have hone1:OneCell enc:=fun x=>by
  obtain⟨a,c,ex,_⟩:=henc x;rw[ex];rfl
 have eg: ∀args w,(callFunc 207 args).run Tryz.prog w= .ok (.enter 207 args) w:=enters_of Tryz.func207 (by kernel_rfl) rfl;have hcon:=Any.slices_SortFunc Tryz.sortRows enc hone1 (fun x y:Nat=>cO (l.getD x []) (l.getD y [])) hO 207 #[] g 0 cap (List.range l.length).toArray w eg hcmp hH hgs (by simpa using hl);change Calls Tryz.prog 208 _ _ _ at hcon;have hsz1:((List.range l.length).toArray.size:Nat)=l.length:=by simp
 rw[hsz1] at hcon;rw[hvv];refine hcon.mono ?_;rintro en w' ⟨rfl,d',n,os,hpm,hsd,rfl⟩;obtain⟨p1,_,p3⟩:=hpm;have hds:d'.size=l.length:=by simpa using p1
 have hperm:d'.toList.Perm (List.range l.length):=by
  have e1:(d'.extract 0 l.length).toList=d'.toList:=by rw[<-hds];simp
  have e2:((List.range l.length).toArray.extract 0 l.length).toList=List.range l.length:=by simp
  rw[e1,e2] at p3;exact p3
 have hkb: ∀k,k<w.heap.size->k≠g->(sortWorld enc w g 0 n d' os).heap[k]? =w.heap[k]? :=fun k hk hne=>uT d' hk hne
 have:=hend d'.toList (sortWorld enc w g 0 n d' os) hperm (by
  rw[List.pairwise_map,List.pairwise_iff_getElem];intro i j hi hj hij;have:=hsd i j (aBC _) hij (by simpa [hds] using hj);unfold ltOf at this;rw[decide_eq_false_iff_not] at this;rw[IE];have ei:d'[i]! =d'.toList[i]:=by simp at hi;simp[hi]
  have ej:d'[j]! =d'.toList[j]:=by simp at hj;simp[hj]
  rw[<-ei,<-ej];exact this)
  ⟨rfl,rfl,rfl,by simp[sortWorld],fun k hk hne=>hkb k hk (fun e=>hne (by rw[hFe,hvv,e];simp[Value.ownBlock]))⟩
  (fun F hF b hb' =>hkb b (hin b (List.mem_flatten.2 ⟨F,hF,hb'⟩)).1 (hin b (List.mem_flatten.2 ⟨F,hF,hb'⟩)).2)
  (by
   rw[hvv];refine⟨by simp[hds],.inr ⟨g,cap,_,rfl,hg0,M3 d' hb,hn,hcap,by simp[Go.Sort.putCells,hsz],?_⟩⟩;rw[Nat.mul_one];have:=Qd enc cur d'.toList (by rw[aGG,hds];omega);rw[aGG,hds] at this;simpa using this)
 exact this
end Go.Proofs.YtgamjlgfnmpcjaaGreat
namespace Go.Proofs.YtgamjlgfnmpcjaaGreat
open Go.ChangeShapes Go.WideShapes Go.ChangeAt Go.RowKit
set_option linter.all false
def aBx {l m:Z}{k:Nat}{x y:Int}(hx:l[k]? =some x)(hy:m[k]? =some y)(h:(x==y)=false):decide (l=m)=false:=by
 rw[decide_eq_false_iff_not];rintro rfl;rw[hx] at hy;injection hy with hy
 subst hy;simp at h
set_option maxHeartbeats 1000000 in
theorem WL (a1 a2:Option Addr)(c1 c2:Nat)(l m:Z)(w:World)(hl:l.length<=9223372036854775807)(hm:m.length<=9223372036854775807)(h1:Da w a1 l)(h2:Da w a2 m):
 Calls Tryz.prog 200 #[.slice a1 l.length c1,.slice a2 m.length c2] w fun e w' =>e= .returned (.bool (decide (l=m)))/\ ∃q,w' =w.drewN q:=by
 have mixed:=Oo;have H1:=Lib.hid h1;have H2:=Lib.hid h2
 clear h1 h2
 by_cases hlm:l.length=m.length
 ·have HL:=Lib.hid hlm
  go_enter Tryz.func200,Tryz.ntmps200
  go_wp2
  go_loopg [13] l.length (fun g s wr=> ∃k q:Nat,k<=l.length/\l.length - k<=g/\s= .int .i64 k/\wr=w.drewN q/\Aside (l.take k=m.take k))
  case atStart=>exact⟨0,0,aBC _,aGR,rfl,rfl,rfl⟩
  case round=>
   obtain⟨k,q,hk,hg,rfl,rfl,A⟩:=hrel;by_cases hlt:k<l.length
   ·obtain⟨x,hx⟩:=fK hlt;obtain⟨b1,o1,rfl,g1⟩:=H1.out k x hx;obtain⟨y,hy⟩:=fK (l:=m) (k:=k) aGR;obtain⟨b2,o2,rfl,g2⟩:=H2.out k y hy;have HX:=Lib.hid hx;have HY:=Lib.hid hy
    clear hx hy
    cases hxy:(x==y) with
    | true=>
      have hne:(x !=y)=false:=by rw[bne,hxy];rfl
      go_wp2_with fail
      go_region_o
      go_wp2
      go_roundg (l.length - (k+1))
      case measure=>omega
      case rel=>exact⟨k+1,q+1,aGR,aGR,by go_num,rfl,(show Aside _ from pT HX.out (by rw[HY.out,show x=y by simpa using hxy]) A.out)⟩
    | false=>
      have hne:(x !=y)=true:=by rw[bne,hxy];rfl
      go_wp2_with fail
      go_region_o
      go_wp2
      go_ret
      refine⟨?_,q+1,rfl⟩;rw[aBx HX.out HY.out hxy];rfl
   go_wp2
   go_ret
   refine⟨?_,q,rfl⟩;rw[decide_eq_true (pU aGR HL.out A.out)];rfl
 have hnm: ¬(l.length:Int)=(m.length:Int):=aGR
 go_enter Tryz.func200,Tryz.ntmps200
 go_wp2
 go_ret
 refine⟨?_,0,rfl⟩;rw[decide_eq_false (JU hnm)];rfl
theorem aBy (a1 a2:Option Addr)(c1 c2:Nat)(l m:Z)(w:World)(hl:l.length<=9223372036854775807)(hm:m.length<=9223372036854775807)(h1:Da w a1 l)(h2:Da w a2 m):
 Calls Tryz.prog 210 #[.slice a1 l.length c1,.slice a2 m.length c2] w fun e w' =>e= .returned (.bool (decide (l=m)))/\ ∃q,w' =w.drewN q:=by
 have HC:=Lib.hid (WL a1 a2 c1 c2 l m w hl hm h1 h2)
 clear h1 h2
 go_enter Tryz.func210,Tryz.ntmps210
 go_wp2_with (go_at_call 200;refine HC.out.mono ?_;rintro e w' ⟨rfl,q,hw⟩;rw[hw])
 go_ret
 exact⟨rfl,_,rfl⟩
end Go.Proofs.YtgamjlgfnmpcjaaGreat
namespace Go.Proofs.YtgamjlgfnmpcjaaGreat
open Go.ChangeShapes Go.WideShapes Go.ChangeAt Go.RowKit Go.Shelf Go.Lib
set_option linter.all false
section
variable (eq:Nat->Nat->Bool)
def pV (d:Array Nat)(j:Nat):Bool:=decide (j=0) || !eq d[j]! d[j - 1]!
def pW (d:Array Nat)(m:Nat):List Nat:=((List.range m).filter (pV eq d)).map (d[·]!)
theorem M4 (d:Array Nat): ∀j,j<1->pV eq d j=true:=by
 intro j hj;obtain rfl:j=0:=aGR
 simp[pV]
theorem M5 {d:Array Nat}{m:Nat}(h:eq d[m]! d[m - 1]! =false):pV eq d m=true:=by simp[pV,h]
theorem M6 {d:Array Nat}{m:Nat}(hm:0<m)(h:eq d[m]! d[m - 1]! =true):pV eq d m=false:=by
 have:m≠0:=aGR
 simp[pV,h,this]
theorem rR (d:Array Nat)(m:Nat):pW eq d (m+1)=pW eq d m++(if pV eq d m=true then [d[m]!] else []):=by
 unfold pW;rw[List.range_succ,List.filter_append,aDM]
 congr 1
 by_cases h:pV eq d m=true<;>simp[h]
theorem GB (d:Array Nat)(m:Nat)(h: ∀j,j<m->pV eq d j=true):pW eq d m=(List.range m).map (d[·]!):=by
 unfold pW;rw[List.filter_eq_self.2 (fun j hj=>h j (aEt.1 hj))]
theorem Qe (d:Array Nat)(h: ∀j,j<d.size->pV eq d j=true):pW eq d d.size=d.toList:=by
 rw[GB eq d _ h];exact range_map_get d
structure xR (d:Array Nat) (m k:Nat) (dk:Array Nat):Prop where
 size:dk.size=d.size
 len:(pW eq d m).length=k
 lt:k<m
 low: ∀j,j<k->(pW eq d m)[j]? =some dk[j]!
 high: ∀j,k<=j->dk[j]! =d[j]!
variable {eq}
theorem xR.start {d:Array Nat}{k0:Nat}(hall: ∀j,j<k0->pV eq d j=true)(hdup:pV eq d k0=false):xR eq d (k0+1) k0 d where
 size:=rfl
 len:=by rw[rR,hdup,GB eq d k0 hall];simp
 lt:=Nat.lt_succ_self _
 low:=fun j hj=>by rw[rR,hdup,GB eq d k0 hall];simp[hj]
 high:=fun _ _=>rfl
theorem xR.keep {d dk:Array Nat}{m k:Nat}(h:xR eq d m k dk)(hm:m<d.size)(hk:pV eq d m=true):xR eq d (m+1) (k+1) (dk.setIfInBounds k d[m]!) where
 size:=by simp[h.size]
 len:=by rw[rR,hk];simp[h.len]
 lt:=by have:=h.lt;omega
 low:=fun j hj=>by
  rw[rR,hk,if_pos rfl];by_cases e:j=k
  ·subst e;rw[aD8 (by rw[h.len];exact aFC _),h.len,Nat.sub_self,Go.Sort.getElem!_set_same dk j _ (by have:=h.lt;have:=h.size;omega)];rfl
  rw[aFG (by rw[h.len];omega),h.low j aGR,Go.Sort.getElem!_set_other dk k j _ e]
 high:=fun j hj=>by rw[Go.Sort.getElem!_set_other dk k j _ aGR,h.high j aGR]
theorem xR.skip {d dk:Array Nat}{m k:Nat}(h:xR eq d m k dk)(hk:pV eq d m=false):xR eq d (m+1) k dk where
 size:=h.size
 len:=by rw[rR,hk];simpa using h.len
 lt:=by have:=h.lt;omega
 low:=fun j hj=>by rw[rR,hk];simpa using h.low j hj
 high:=h.high
theorem xR.done {d dk:Array Nat}{k:Nat}(h:xR eq d d.size k dk)(z:Nat):
 lay dk k (List.replicate (d.size - k) z)=(pW eq d d.size++List.replicate (d.size - k) z).toArray:=by
 have hk:=h.lt;have hs:=h.size;apply Array.ext_getElem?;intro j;rw[lay_get? _ _ _ _ (by simp;omega),show (pW eq d d.size++List.replicate (d.size - k) z).toArray[j]? =(pW eq d d.size++List.replicate (d.size - k) z)[j]? from List.getElem?_toArray];simp only[aGC];by_cases c:j<k
 ·rw[if_neg aGR,aFG (by rw[h.len];exact c),h.low j c,getElem!_pos dk j aGR,Array.getElem?_eq_getElem]
 rw[aD8 (by rw[h.len];omega),h.len];by_cases c2:j<d.size
 ·rw[if_pos aGR]
 rw[if_neg aGR,Array.getElem?_eq_none aGR,List.getElem?_eq_none (by simp;omega)]
end
set_option maxHeartbeats 4000000 in
set_option maxRecDepth 1000000 in
theorem Qf (enc:Nat->Value)(eq:Nat->Nat->Bool)(hO:OneCell enc)(zr:Nat)(hz:enc zr= .slice none 0 0)(blk off cap:Nat)(d:Array Nat)(w:World)(hH:Go.Sort.Holds enc w blk off d)(hsz:d.size<=9223372036854775807)(hcap:d.size<=cap)
 (hcmp: ∀(dk:Array Nat) (q:Nat) (x y:Nat),dk.size=d.size-> ∀n,Calls Tryz.prog 210 #[enc x,enc y] ((Go.Sort.putRow enc (Go.Sort.ahead w q) blk off dk).drewN n) fun e w' =>e= .returned (.bool (eq x y))/\ ∃qq,w' =((Go.Sort.putRow enc (Go.Sort.ahead w q) blk off dk).drewN n).drewN qq):
 Calls Tryz.prog 209 #[.slice (some ⟨blk,off,none⟩) d.size cap,.func (.func 210) #[] #[]] w fun e w' =>e= .returned (.slice (some ⟨blk,off,none⟩) (pW eq d d.size).length cap)/\ ∃q,w' =Go.Sort.putRow enc (Go.Sort.ahead w q) blk off (pW eq d d.size++List.replicate (d.size - (pW eq d d.size).length) zr).toArray:=by
 have mixed:=Oo;have hcl0:=hO.cells;simp only[Value.cells] at hcl0;have hst:=hO.store Tryz.prog
 have same: ∀q,(∀j,j<d.size->pV eq d j=true)->(pW eq d d.size).length=d.size/\w.drewN q=Go.Sort.putRow enc (Go.Sort.ahead w q) blk off (pW eq d d.size++List.replicate (d.size - (pW eq d d.size).length) zr).toArray:=by
  intro q hall;have e:pW eq d d.size=d.toList:=Qe eq d hall;rw[e];refine⟨by simp,?_⟩;simp only[aGG,Nat.sub_self,List.replicate_zero,aFk,Array.toArray_toList];exact(Go.Sort.putRow_self enc (Go.Sort.ahead w q) blk off d (Go.Sort.holds_ahead enc w q blk off d hH)).symm
 have HS:Aside _:=same;have HC:Aside _:=hcmp
 clear same hcmp
 by_cases h2:d.size<2
 ·have HH:Aside (Go.Sort.Holds enc w blk off d):=hH
  clear hH
  go_enter Tryz.func209,Tryz.ntmps209
  go_wp2
  go_ret
  obtain⟨e1,e2⟩:=HS.out 0 (fun j hj=>M4 eq d j aGR);exact⟨by rw[e1];rfl,0,e2⟩
 go_enter Tryz.func209,Tryz.ntmps209
 go_wp2
 go_loopg [5] d.size (fun g s3 wr=> ∃k q:Nat,1<=k/\k<=d.size/\d.size - k<=g/\s3= .int .i64 k/\wr=w.drewN q/\ ∀j,j<k->pV eq d j=true)
 case atStart=>exact⟨1,0,aFC _,aGR,aGR,rfl,rfl,M4 eq d⟩
 case round=>
  obtain⟨k,q,hk1,hk,hg,rfl,rfl,hall⟩:=hrel;by_cases hlt:k<d.size
  ·obtain⟨c1,f1⟩:=hH k hlt;obtain⟨c0,f0⟩:=hH (k - 1) aGR;have A:Aside (∀j,j<k->pV eq d j=true):=hall;have HH:Aside (Go.Sort.Holds enc w blk off d):=hH;have hc0:=HC.out d q d[k]! d[k - 1]! rfl;have hself:Go.Sort.putRow enc (Go.Sort.ahead w q) blk off d=w.drewN q:=Go.Sort.putRow_self enc (Go.Sort.ahead w q) blk off d (Go.Sort.holds_ahead enc w q blk off d hH);rw[hself] at hc0
   clear hall hH hself
   generalize hx:d[k]! =x at c1 hc0;generalize hy:d[k - 1]! =y at c0 hc0;have B:Aside (d[k]! =x/\d[k - 1]! =y):=⟨hx,hy⟩
   clear hx hy
   obtain⟨kp,rfl⟩: ∃kp,k=kp+1:=⟨k - 1,aGR⟩;simp only[Nat.add_sub_cancel] at c0;have hwp:IntKind.i64.wrap (kp:Int)=(kp:Int):=by rw[IntKind.wrap_i64];omega
   have kz:(kp:Int)+1<(d.size:Int):=aGR
   have kz1:(kp:Int)<(d.size:Int):=aGR
   have p0:(0:Int)<=(kp:Int)+1:=aGR
   have e0:((kp:Int)+1).toNat=kp+1:=aGR
   have c1' :(w.drewN q).cell? ⟨blk,off+(kp+1),none⟩=some (enc x):=c1;have c0' :(w.drewN q).cell? ⟨blk,off+kp,none⟩=some (enc y):=c0
   clear c1 c0
   generalize hwq:w.drewN q=wq at c1' c0' hc0 ⊢;have WQ:Hid (w.drewN q=wq):=hwq
   clear hwq
   cases hdup:eq x y with
   | true=>
     rw[hdup] at hc0
     go_wp2_with fail
     go_quiet ((first|(go_at_call 210;exact Calls.quiet_of (hc0 _))|(go_at_fn 210;exact Calls.quiet_of (hc0 _))))
     go_wp2
     have W1:Hid (wq.drewN nq=Go.Sort.putRow enc (Go.Sort.ahead w (q+nq)) blk off d):=by
      show _=_;rw[<-WQ.out,World.drewN_drewN];exact(Go.Sort.putRow_self enc (Go.Sort.ahead w (q+nq)) blk off d (Go.Sort.holds_ahead enc w (q+nq) blk off d HH.out)).symm
     clear c1' c0' f0 f1 hc0
     go_loopg [5,7] d.size (fun g s3 s5 wr=> ∃(kk k2 q2:Nat) (dk:Array Nat),s3= .int .i64 kk/\s5= .int .i64 ((k2:Int)+1)/\kp+1+(k2+1)<=d.size/\d.size - (kp+1+(k2+1))<=g/\wr=Go.Sort.putRow enc (Go.Sort.ahead w q2) blk off dk/\xR eq d (kp+1+(k2+1)) kk dk)
     case atStart=>exact⟨kp+1,0,q+nq,d,by go_num,rfl,aGR,aGR,W1.out,xR.start A.out (M6 eq aGR (by rw[B.out.1,Nat.add_sub_cancel,show d[kp]! =y from B.out.2];exact hdup))⟩
     case round=>
      obtain⟨kk,k2,q2,dk,rfl,rfl,hle,hg2,hwr,hI⟩:=hrel;have hkk:=hI.lt;have hds:=hI.size;have hHk:Go.Sort.Holds enc wr blk off dk:=by rw[hwr];exact Go.Sort.holds_putRow enc _ blk off d dk (Go.Sort.holds_ahead enc w q2 blk off d HH.out) hds
      have W2:Aside (wr=Go.Sort.putRow enc (Go.Sort.ahead w q2) blk off dk):=hwr;have I2:Aside (xR eq d (kp+1+(k2+1)) kk dk):=hI;by_cases hlt2:kp+1+(k2+1)<d.size
      ·obtain⟨cm,_⟩:=hHk (kp+1+(k2+1)) aGR;obtain⟨cp,_⟩:=hHk (kp+1+k2) aGR;obtain⟨ck,fk⟩:=hHk kk aGR;rw[hI.high (kp+1+(k2+1)) aGR,show off+(kp+1+(k2+1))=off+(kp+1)+(k2+1) by omega] at cm;rw[hI.high (kp+1+k2) aGR,show off+(kp+1+k2)=off+(kp+1)+k2 by omega] at cp;have hc1:=HC.out dk q2 d[kp+1+(k2+1)]! d[kp+1+k2]! hds;rw[<-hwr] at hc1
       clear hHk hI hwr
       generalize hu:d[kp+1+(k2+1)]! =u at cm hc1;generalize hv:d[kp+1+k2]! =v at cp hc1;generalize dk[kk]! =old at ck;have C:Aside (d[kp+1+(k2+1)]! =u/\d[kp+1+k2]! =v):=⟨hu,hv⟩
       clear hu hv
       have hwp2:IntKind.i64.wrap (k2:Int)=(k2:Int):=by rw[IntKind.wrap_i64];omega
       have jz:(k2:Int)+1<(d.size:Int) - ((kp:Int)+1):=aGR
       have jz1:(k2:Int)<(d.size:Int) - ((kp:Int)+1):=aGR
       have j0:(0:Int)<=(k2:Int)+1:=aGR
       have je:((k2:Int)+1).toNat=k2+1:=aGR
       cases huv:eq u v with
       | true=>
         rw[huv] at hc1
         go_wp2_with fail
         go_quiet ((first|(go_at_call 210;exact Calls.quiet_of (hc1 _))|(go_at_fn 210;exact Calls.quiet_of (hc1 _))))
         go_wp2
         go_roundg (d.size - (kp+1+(k2+1+1)))
         case measure=>omega
         case rel=>exact⟨kk,k2+1,q2+nq,dk,rfl,by go_num,aGR,aGR,by rw[W2.out];exact Go.Proofs.putRow_drewN _ _ _ _ _ _ _,I2.out.skip (M6 eq aGR (by rw[C.out.1,show kp+1+(k2+1) - 1=kp+1+k2 by omega,C.out.2];exact huv))⟩
       | false=>
         rw[huv] at hc1
         go_wp2_with fail
         go_quiet ((first|(go_at_call 210;exact Calls.quiet_of (hc1 _))|(go_at_fn 210;exact Calls.quiet_of (hc1 _))))
         go_wp2
         go_roundg (d.size - (kp+1+(k2+1+1)))
         case measure=>omega
         case rel=>
          refine⟨kk+1,k2+1,q2+nq,dk.setIfInBounds kk u,by go_num,by go_num,aGR,aGR,?_,?_⟩
          ·rw[W2.out,show (Go.Sort.putRow enc (Go.Sort.ahead w q2) blk off dk).drewN nq=Go.Sort.putRow enc (Go.Sort.ahead w (q2+nq)) blk off dk from Go.Proofs.putRow_drewN _ _ _ _ _ _ _,Go.Sort.putRow_set enc _ blk off dk kk u aGR]
          have:=I2.out.keep hlt2 (M5 eq (by rw[C.out.1,show kp+1+(k2+1) - 1=kp+1+k2 by omega,C.out.2];exact huv))
          rwa [C.out.1] at this
      have hend:kp+1+(k2+1)=d.size:=aGR
      have hcl: ∀ty,(Builtin.clear_ #[53] ty #[.slice (some ⟨blk,off+kk,none⟩) (d.size - kk) (cap - kk)]).run Tryz.prog wr= .ok (.tuple #[]) (wr.setCells blk (off+kk) (List.replicate (d.size - kk) (enc zr))):=
       fun ty=>Lib.run_clear_slice wr _ _ ty _ Tryz.underlying53 (fun w=>by rw[hz];rfl) (hO.cells zr) (hO zr) blk (off+kk) _ _ aGR (fun j hj=>by rw[show off+kk+j=off+(kk+j) by omega,(hHk (kk+j) aGR).1];rfl) (fun j hj=>by rw[show off+kk+j=off+(kk+j) by omega];exact(hHk (kk+j) aGR).2)
      clear hHk hI hwr
      go_wp2
      go_ret
      have hI:=I2.out;rw[hend] at hI;refine⟨by rw[hI.len];rfl,q2,?_⟩;rw[hI.len,<-hI.done zr,<-putRow_setCells enc _ blk off _ dk kk (by simp;omega),<-W2.out,aFE,hz]
   | false=>
     rw[hdup] at hc0
     go_wp2_with fail
     go_quiet ((first|(go_at_call 210;exact Calls.quiet_of (hc0 _))|(go_at_fn 210;exact Calls.quiet_of (hc0 _))))
     go_wp2
     go_roundg (d.size - (kp+1+1))
     case measure=>omega
     case rel=>
      refine⟨kp+1+1,q+nq,aGR,aGR,aFC _,by go_num,by rw[<-WQ.out,World.drewN_drewN],fun j hj=>?_⟩;by_cases e:j=kp+1
      ·subst e;exact M5 eq (by rw[B.out.1,B.out.2];exact hdup)
      exact A.out j aGR
  obtain rfl:k=d.size:=aGR
  have HH:Aside (Go.Sort.Holds enc w blk off d):=hH
  clear hH
  go_wp2
  go_ret
  obtain⟨e1,e2⟩:=HS.out q hall;exact⟨by rw[e1];rfl,q,e2⟩
def Ou (l:List Z)(i j:Nat):Bool:=decide (l.getD i []=l.getD j [])
def qO (l:List Z):List Nat:=(List.range l.length).filter fun j=>decide (j=0) || !Ou l j (j - 1)
def hY (l:List Z):List Z:=(qO l).map fun i=>l.getD i []
def WM (l:List Z):pW (Ou l) (List.range l.length).toArray l.length=qO l:=by
 unfold pW qO;have e: ∀j,j<l.length->(List.range l.length).toArray[j]! =j:=fun j hj=>by simp[hj]
 have e1:(List.range l.length).filter (pV (Ou l) (List.range l.length).toArray)=(List.range l.length).filter fun j=>decide (j=0) || !Ou l j (j - 1):=by
  apply List.filter_congr;intro j hj;have hj:=aEt.1 hj;unfold pV;rw[e j hj,e (j - 1) aGR]
 rw[e1]
 conv=>rhs;rw[<-List.map_id (List.filter _ _)]
 apply List.map_congr_left;intro j hj;exact e j (aEt.1 (aGE.1 hj).1)
def Yv {α:Type}{l m:List (List α)}(h:List.Sublist l m):List.Sublist l.flatten m.flatten:=by
 induction h with
 | slnil=>exact List.Sublist.refl _
 | cons a _ ih=>rw[aE8];exact ih.trans (List.sublist_append_right _ _)
 | cons_cons a _ ih=>rw[aE8,aE8];exact(List.Sublist.refl a).append ih
def Up {l:List Z}{i:Nat}(h:i∈qO l):i<l.length:=aEt.1 (aGE.1 h).1
set_option maxHeartbeats 2000000 in
theorem Qg (l:List Z)(hl:l.length<4611686018427387904):xB Tryz.prog 209 [.own 0,.fn 210 []] [(0,.arr 51 1 true (l.map aD))] (.own 1) [(1,.arr 51 1 true ((hY l).map aD))]:=by
 refine⟨by kernel_rfl,by simp,fun A φ w vs hI hm=>?_⟩;obtain⟨pl,hp,css,Fs,q1,q2,q3,q4⟩:=hI.dom 0 _ rfl;unfold aS at hm;obtain⟨v,us,e1,m1,hm⟩:=hm;unfold aS at hm;obtain⟨v2,us2,e2,m2,hm⟩:=hm;unfold aS at hm;unfold aH at m1 m2;obtain⟨vs2,ev2,m3⟩:=m2;unfold aS at m3;have hv:=m1 pl hp;have e3:vs2= #[]:=by apply Array.ext';simpa using m3
 have ev:vs= #[pl.val,.func (.func 210) #[] #[]]:=by apply Array.ext';rw[e1,e2,hm,hv,ev2,e3]
 rw[ev];have hnd:=hI.nodup 0 pl hp;have hge:=hI.ge 0 pl hp;have hFe:pl.F=pl.val.ownBlock.toList++Fs.flatten:=by unfold Pl.F;rw[q2,q3]
 have hfoot: ∀b∈pl.F,Oe φ b:=fun b hb=>⟨0,pl,trivial,hp,hb⟩
 have h0: ∀h pl',φ h=some pl' ->h=0:=fun h pl' e' =>by
  cases hr:bF [(0,Rs.arr 51 1 true (l.map aD))] h with
  | none=>rw[hI.non h hr] at e';cases e'
  | some r=>
    simp only[bF] at hr;split at hr
    ·assumption
    cases hr
 obtain⟨lc,lF⟩:=CU q4;rw[aAb] at lc lF
 have hrow: ∀i,i<l.length-> ∃a cap F,css[i]? =some [.slice a (l.getD i []).length cap]/\Fs[i]? =some F/\Da w a (l.getD i [])/\(∀x∈a,x.block∈F)/\(l.getD i []).length<=9223372036854775807/\dW w (aD (l.getD i [])) [.slice a (l.getD i []).length cap] F:=fun i hi=>by
  obtain⟨r,hr⟩:=fK hi;have hg:l.getD i []=r:=by simp[aCz,hr]
  obtain⟨c,F,g1,g2,_,g4⟩:=BI q4 (show (l.map aD)[i]? =some (aD r) by rw[aGB,hr];rfl);obtain⟨a,cap,rfl,k1,k2,k3⟩:=aDA g4;rw[hg];exact⟨a,cap,F,g1,g2,k1,k2,k3,g4⟩
 have hone: ∀d∈css,d.length=1:=fun d hd=>by
  obtain⟨i,hi⟩:=List.getElem?_of_mem hd;obtain⟨a,cap,F,g1,_⟩:=hrow i (by have:=(aCO.1 hi).1;omega);rw[hi] at g1;injection g1 with g1
  rw[g1];rfl
 let enc:Nat->Value:=fun i=>css.flatten.getD i (.slice none 0 0)
 have henc: ∀i,∃a cap,enc i= .slice a (l.getD i []).length cap/\Da w a (l.getD i [])/\(∀x∈a,x.block∈Fs.flatten)/\(l.getD i []).length<=9223372036854775807:=fun i=>by
  by_cases hi:i<l.length
  ·obtain⟨a,cap,F,g1,g2,g3,g4,g5,_⟩:=hrow i hi;refine⟨a,cap,?_,g3,fun x hx=>List.mem_flatten.2 ⟨F,aBD g2,g4 x hx⟩,g5⟩;show css.flatten.getD i _=_;rw[aCz,tA css i _ hone g1];rfl
  have hg:l.getD i []= []:=by rw[aCz,List.getElem?_eq_none aGR];rfl
  rw[hg];refine⟨none,0,?_,fun j x hx=>by simp at hx,by simp,by simp⟩;show css.flatten.getD i _=_;rw[aCz,List.getElem?_eq_none (by rw[E0 css hone];omega)];rfl
 have h1:φ 1=none:=hI.non 1 rfl
 have hend: ∀(v' :Value) (w' :World),oK pl.F w w' ->(∀F∈Fs,lM F w w')->(∀b∈v'.ownBlock,b∈pl.val.ownBlock)->w'.ownsRow 0 51 1 v' (qO l).length ((qO l).map enc)->
  ∃v K φ',Ending.returned v' = .returned v/\WA A φ w [(1,.arr 51 1 true ((hY l).map aD))] K φ' w' /\aH K φ' w' (.own 1) v:=by
  intro v' w' hon hkeep hvb howns
  have hFr:(List.range l.length).map (fun i=>Fs.getD i [])=Fs:=by
   apply List.ext_getElem?;intro i;by_cases hi:i<l.length
   ·simp[hi,show i<Fs.length by omega]
   simp[hi,show ¬i<Fs.length by omega]
  have hsub:List.Sublist ((qO l).map fun i=>Fs.getD i []).flatten Fs.flatten:=by
   have:List.Sublist ((qO l).map fun i=>Fs.getD i []) ((List.range l.length).map fun i=>Fs.getD i []):=List.filter_sublist.map _;rw[hFr] at this;exact Yv this
  let pl' :Pl:=⟨v',v'.ownBlock.toList,((qO l).map fun i=>Fs.getD i []).flatten⟩
  have hmem: ∀g,g∈pl'.F->g∈pl.F:=fun g hg=>by
   rw[hFe];simp only[pl',Pl.F,aCy,Option.mem_toList] at hg ⊢;rcases hg with h | h
   ·exact .inl (hvb g h)
   exact .inr (List.Sublist.mem h hsub)
  have hnd' :pl'.F.Nodup:=by
   rw[hFe] at hnd;have hn:=aFH.1 hnd;simp only[pl',Pl.F];refine aFH.2 ⟨by cases v'.ownBlock<;>simp,hsub.nodup hn.2.1,fun x hx y hy=>?_⟩;exact hn.2.2 x (by rw[Option.mem_toList] at hx ⊢;exact hvb x hx) y (List.Sublist.mem hy hsub)
  refine⟨_,A,fun h=>if h=1 then some pl' else none,rfl,⟨⟨hon.os,hon.tape,hon.output,hon.size,fun b hb hn=>hon.block b hb (fun hm=>hn (hfoot b hm))⟩,fun _ h=>h,fun b hb=>⟨aFD (hI.lt b hb) hon.size,.inl hb⟩,fun b hb h pl1 e' hm' =>?_,fun h r hr=>?_,fun h hr=>?_,fun h h' pl1 pl2 hne ea eb=>?_,fun h pl1 e' =>?_,fun h pl1 e' g hg=>?_,fun h pl1 pl0 e' e0=>?_⟩,?_⟩
  ·split at e'
   ·injection e' with e';subst e'
    exact hI.out b hb 0 pl hp (hmem b hm')
   cases e'
  ·simp only[bF] at hr;split at hr
   ·rename_i eh;subst eh;injection hr with hr
    subst hr;refine⟨pl',by simp,(qO l).map (fun i=>[enc i]),(qO l).map (fun i=>Fs.getD i []),?_,rfl,rfl,?_⟩
    ·rw[Je enc (qO l),aAb,hY,aAb];exact howns
    rw[hY,List.map_map];refine Jd (fun i=>aD (l.getD i [])) (fun i=>[enc i]) (fun i=>Fs.getD i []) fun i hi=>⟨rfl,?_⟩;obtain⟨a,cap,F,g1,g2,g3,g4,g5,g6⟩:=hrow i (Up hi)
    have ee:enc i= .slice a (l.getD i []).length cap:=by
     show css.flatten.getD i _=_;rw[aCz,tA css i _ hone g1];rfl
    have eF:Fs.getD i []=F:=by simp[aCz,g2]
    rw[ee,eF];exact dW.kept _ _ _ (hkeep F (aBD g2)) g6
   cases hr
  ·simp only[bF] at hr;split at hr
   ·cases hr
   rename_i eh;exact if_neg eh
  ·split at ea
   ·split at eb
    ·rename_i x y;exact absurd (x.trans y.symm) hne
    cases eb
   cases ea
  ·split at e'
   ·injection e' with e';subst e';exact hnd'
   cases e'
  ·split at e'
   ·injection e' with e';subst e'
    have:=hmem g hg;exact⟨.inr (hfoot g this),aFD (hge g this) hon.size⟩
   cases e'
  ·split at e'
   ·rename_i eh;subst eh;rw[h1] at e0;cases e0
   cases e'
  unfold aH;intro pl1 e';simp at e';subst e';rfl
 rw[aAb] at q1;rcases q1.2 with ⟨hvn,hz⟩ | ⟨g,cap,cur,hvv,hg0,hb,hn,hcap,hsz,htk⟩
 ·have hz' :l= []:=aDE hz;subst hz';rw[hvn]
  have hcon:Calls Tryz.prog 209 #[.slice none 0 0,.func (.func 210) #[] #[]] w fun e w' =>e= .returned (.slice none 0 0)/\w' =w:=by
   clear hend
   go_enter Tryz.func209,Tryz.ntmps209
   go_wp2
   go_ret
   exact⟨rfl,rfl⟩
  refine hcon.mono ?_;rintro en w' ⟨rfl,rfl⟩;exact hend (.slice none 0 0) w' (oK.refl _ _) (fun F hF g hg=>rfl) (fun b hb=>by cases hb) ⟨by simp[qO],.inl ⟨rfl,by simp[qO]⟩⟩
 have hgF:g ∉ Fs.flatten:=fun hm=>by
  rw[hFe,hvv] at hnd;simp only[Value.ownBlock,Option.toList_some,List.cons_append,aFy,List.nodup_cons] at hnd;exact hnd.1 hm
 have hgs:g<w.heap.size:=(Array.getElem?_eq_some_iff.1 hb).1;have hin: ∀b∈Fs.flatten,b<w.heap.size/\b≠g:=fun b hb' =>⟨hge b (by rw[hFe];exact aCX _ hb'),fun e=>hgF (e▸hb')⟩;have hw0: ∀(dk:Array Nat) (q:Nat),Go.Sort.putRow enc (Go.Sort.ahead w q) g 0 dk=sortWorld enc w g 0 q dk #[]:=fun dk q=>by unfold sortWorld;rw[Go.Sort.grow_empty]
 have hcmp: ∀(dk:Array Nat) (q:Nat) (x y:Nat),dk.size=(List.range l.length).toArray.size-> ∀n,Calls Tryz.prog 210 #[enc x,enc y] ((Go.Sort.putRow enc (Go.Sort.ahead w q) g 0 dk).drewN n) fun e w' =>e= .returned (.bool (Ou l x y))/\ ∃qq,w' =((Go.Sort.putRow enc (Go.Sort.ahead w q) g 0 dk).drewN n).drewN qq:=fun dk q x y _ n=>by
  obtain⟨a1,c1,ex,r1,k1,b1⟩:=henc x;obtain⟨a2,c2,ey,r2,k2,b2⟩:=henc y;rw[ex,ey]
  have hk: ∀b,b∈Fs.flatten->((Go.Sort.putRow enc (Go.Sort.ahead w q) g 0 dk).drewN n).heap[b]? =w.heap[b]? :=fun b hb' =>by
   show (Go.Sort.putRow enc (Go.Sort.ahead w q) g 0 dk).heap[b]? =_;rw[hw0];exact uT dk (hin b hb').1 (hin b hb').2
  exact aBy a1 a2 c1 c2 _ _ _ b1 b2 (CV r1 fun q hq=>hk _ (k1 q hq)) (CV r2 fun q hq=>hk _ (k2 q hq))
 have htk' :cur.toList.take l.length=css.flatten:=by rw[Nat.mul_one] at htk;exact htk
 have hH:Go.Sort.Holds enc w g 0 (List.range l.length).toArray:=fun j hj=>by
  have hj' :j<l.length:=by simpa using hj
  refine⟨?_,by simp[World.frozen?,hb]⟩;have h1:(cur.toList.take l.length)[j]? =css.flatten[j]? :=by rw[htk']
  rw[List.getElem?_take_of_lt hj'] at h1;simp only[World.cell?,hb,Nat.zero_add,Option.isSome_none,Bool.false_eq_true,if_false];rw[<-Array.getElem?_toList,h1];obtain⟨a,cap',F,g1,_⟩:=hrow j hj';have h2:=tA css j _ hone g1
  have ee:enc j= .slice a (l.getD j []).length cap' :=by
   show css.flatten.getD j _=_;rw[aCz,h2];rfl
  have ej:(List.range l.length).toArray[j]! =j:=by simp[hj']
  rw[h2,ej,ee]
 have hone1:OneCell enc:=fun x=>by
  obtain⟨a,c,ex,_⟩:=henc x;rw[ex];rfl
 have hzr:enc l.length= .slice none 0 0:=by
  show css.flatten.getD l.length _=_;rw[aCz,List.getElem?_eq_none (by rw[E0 css hone];omega)];rfl
 have hszd:(List.range l.length).toArray.size=l.length:=by simp
 have hcon:=Qf enc (Ou l) hone1 l.length hzr g 0 cap (List.range l.length).toArray w hH (by rw[hszd];omega) (by rw[hszd];exact hn) hcmp;rw[hszd,WM] at hcon;rw[hvv];refine hcon.mono ?_;rintro en w' ⟨rfl,q,rfl⟩
 have hle:(qO l).length<=l.length:=by
  have:=(List.filter_sublist (l:=List.range l.length) (p:=fun j=>decide (j=0) || !Ou l j (j - 1))).length_le;simpa [qO] using this
 have hkb: ∀k,k<w.heap.size->k≠g->(Go.Sort.putRow enc (Go.Sort.ahead w q) g 0 (qO l++List.replicate (l.length - (qO l).length) l.length).toArray).heap[k]? =w.heap[k]? :=fun k hk hne=>by rw[hw0];exact uT _ hk hne
 refine hend _ _ ⟨rfl,rfl,rfl,by simp,fun k hk hne=>hkb k hk (fun e=>hne (by rw[hFe,hvv,e];simp[Value.ownBlock]))⟩
  (fun F hF b hb' =>hkb b (hin b (List.mem_flatten.2 ⟨F,hF,hb'⟩)).1 (hin b (List.mem_flatten.2 ⟨F,hF,hb'⟩)).2)
  (fun b hb' =>by rw[hvv];exact hb') ?_
 rw[hw0];refine⟨by simp,.inr ⟨g,cap,_,rfl,hg0,M3 _ hb,aGR,hcap,by simp[Go.Sort.putCells,hsz],?_⟩⟩;rw[Nat.mul_one];have:=Qd enc cur (qO l++List.replicate (l.length - (qO l).length) l.length) (by simp;omega);have h3:=congrArg (List.take (qO l).length) this;rw[List.take_take,aDM,List.take_append_of_le_length (by simp)] at h3;rw[show min (qO l).length (qO l++List.replicate (l.length - (qO l).length) l.length).length=(qO l).length by simp] at h3;rw[h3,aCR (by simp)]
end Go.Proofs.YtgamjlgfnmpcjaaGreat
namespace Go.Proofs.YtgamjlgfnmpcjaaGreat
open Go.ChangeShapes Go.WideShapes Go.ChangeAt Go.RowKit
set_option linter.all false
set_option maxRecDepth 100000
set_option maxHeartbeats 4000000
abbrev xF (l:List Z):AV × aGJ:=(.own 0,[(0,.arr 51 1 true ((hY (dU l)).map aD))])
abbrev DB (l:List Z):Prop:=Cn 199 [.one (.sl 51 1 (l.map aD))] (xF l).1 (xF l).2
def Qh (l:List Z)(hc:dG l<=1048576):DB l:=by
 refine cq Tryz.func199 (bN (M2 l)<| .callx [.own 0,.fn 207 []] [(0,.arr 51 1 true (l.map aD))] [(0,500)] (.tup []) [(0,.arr 51 1 true ((dU l).map aD))]<| .callx [.own 0,.fn 210 []] [(0,.arr 51 1 true ((dU l).map aD))] [(0,500)] (.own 1) [(1,.arr 51 1 true ((hY (dU l)).map aD))]<| .fin [(0,901)]) (p:=Lx (l.map aD)<| QZ l/\xB Tryz.prog 208 [.own 0,.fn 207 []] [(0,.arr 51 1 true (l.map aD))] (.tup []) [(0,.arr 51 1 true ((dU l).map aD))]/\l.map aD=l.map aD/\xB Tryz.prog 209 [.own 0,.fn 210 []] [(0,.arr 51 1 true ((dU l).map aD))] (.own 1) [(1,.arr 51 1 true ((hY (dU l)).map aD))]/\(dU l).map aD=(dU l).map aD/\(hY (dU l)).map aD=(hY (dU l)).map aD/\True) ?_;refine lx fun n0=>?_;have hlen:=gP l;refine⟨cpR _ aGR,Yu l aGR,rfl,Qg (dU l) (by (rw[GA];omega)),rfl,?_⟩;exact⟨rfl,trivial⟩
end Go.Proofs.YtgamjlgfnmpcjaaGreat
