/-
  Contracts and plain laws, joined: part 3.
-/
import Derived.Test.YtgamjlgfnmpcjaaGreatDoorst1
namespace Go.Proofs.YtgamjlgfnmpcjaaGreatDoor
open Go.ChangeShapes Go.WideShapes Go.ChangeAt Go.RowKit
set_option linter.unusedVariables false
set_option linter.unusedSimpArgs false
mutual
def mU:AV->List Nat
 | .p (some h) _=>[h]
 | .rp (some h) _=>[h]
 | .agg cs=>qF cs
 | .tup cs=>qF cs
 | .fn _ cs=>qF cs
 | _=>[]
def qF:List AV->List Nat
 | []=>[]
 | x::xs=>mU x++qF xs
end
def xH:Rs->List Nat
 | .box _ cs=>qF cs
 | .arr _ _ _ _=>[]
 | .hole _ _ _ _ _ _=>[]
def qG (φ:dW)(w w' :World)(h:Nat)(pl:Pl)(V:Prop):Prop:= ∃pl0,φ h=some pl0/\pl.val=pl0.val/\pl.top=pl0.top/\(V->pl=pl0/\cH (· ∈pl.sub) w w')
theorem qG.of {φ:dW}{w w' :World}{h:Nat}{pl:Pl}{V:Prop}(h1:φ h=some pl)(h2:V->cH (· ∈pl.sub) w w'):qG φ w w' h pl V:=⟨pl,h1,rfl,rfl,fun v=>⟨rfl,h2 v⟩⟩
theorem qG.imp {φ:dW}{w w' :World}{h:Nat}{pl:Pl}{V V' :Prop}(h1:qG φ w w' h pl V)(f:V' ->V):qG φ w w' h pl V' :=by
 obtain⟨pl0,a,b,c,d⟩:=h1;exact⟨pl0,a,b,c,fun v=>d (f v)⟩
mutual
theorem aC.monoV {K K' :Nat->Prop}{φ φ' :dW}{w w' :World}(hs:cH K w w')(hK: ∀b,K b->K' b):
 ∀(x:AV) (v:Value),(∀h pl,h∈bD x->φ' h=some pl->qG φ w w' h pl (h∈mU x))->aC K φ w x v->aC K' φ' w' x v
 | .p none x,v,_,hx=>by unfold aC at*;exact dR.mono hs hK x v hx
 | .p (some h) x,v,hm,hx=>by
   unfold aC at*;intro pl hp;obtain⟨pl0,h1,_,_,hq⟩:=hm h pl (by simp[bD]) hp;obtain⟨rfl,h2⟩:=hq (by simp[mU]);exact dR.mono (fun b hb=>by rcases hb with hb | hb;exact hs b hb;exact h2 b hb) (fun b hb=>by rcases hb with hb | hb;exact .inl (hK b hb);exact .inr hb) x v (hx pl h1)
 | .own h,v,hm,hx=>by
   unfold aC at*;intro pl hp;obtain⟨pl0,h1,h2,_⟩:=hm h pl (by simp[bD]) hp;rw[h2];exact hx pl0 h1
 | .ptr h off,v,hm,hx=>by
   unfold aC at*;obtain⟨g,e,q⟩:=hx;refine⟨g,e,fun pl hp=>?_⟩;obtain⟨pl0,h1,_,h3,_⟩:=hm h pl (by simp[bD]) hp;rw[h3];exact q pl0 h1
 | .ep h k i off,v,hm,hx=>by
   unfold aC at*;intro pl hp;obtain⟨pl0,h1,_,h3,_⟩:=hm h pl (by simp[bD]) hp;rw[h3];exact hx pl0 h1
 | .rp none x,v,_,hx=>by
   unfold aC at*;obtain⟨a,e,hr⟩:=hx;exact⟨a,e,eT.mono hs hK x a 0 hr⟩
 | .rp (some h) x,v,hm,hx=>by
   unfold aC at*;intro pl hp;obtain⟨pl0,h1,_,_,hq⟩:=hm h pl (by simp[bD]) hp;obtain⟨rfl,h2⟩:=hq (by simp[mU]);obtain⟨a,e,hr⟩:=hx pl h1;exact⟨a,e,eT.mono (fun b hb=>by rcases hb with hb | hb;exact hs b hb;exact h2 b hb) (fun b hb=>by rcases hb with hb | hb;exact .inl (hK b hb);exact .inr hb) x a 0 hr⟩
 | .agg cs,v,hm,hx=>by
   unfold aC at*;obtain⟨vs,e,h1,hl⟩:=hx;exact⟨vs,e,h1,aH.monoV hs hK cs _ (fun h pl hh e=>(hm h pl (by simpa [bD] using hh) e).imp fun hv=>by simpa [mU] using hv) hl⟩
 | .tup cs,v,hm,hx=>by
   unfold aC at*;obtain⟨vs,e,hl⟩:=hx;exact⟨vs,e,aH.monoV hs hK cs _ (fun h pl hh e=>(hm h pl (by simpa [bD] using hh) e).imp fun hv=>by simpa [mU] using hv) hl⟩
 | .fn f cs,v,hm,hx=>by
   unfold aC at*;obtain⟨vs,e,hl⟩:=hx;exact⟨vs,e,aH.monoV hs hK cs _ (fun h pl hh e=>(hm h pl (by simpa [bD] using hh) e).imp fun hv=>by simpa [mU] using hv) hl⟩
 | .nil,v,_,hx=>by unfold aC at*;exact hx
 | .bsl h n,v,hm,hx=>by
   unfold aC at*;intro pl hp;obtain⟨pl0,h1,_,h3,_⟩:=hm h pl (by simp[bD]) hp;rw[h3];exact hx pl0 h1
 | .no,_,_,_=>by unfold aC;trivial
theorem aH.monoV {K K' :Nat->Prop}{φ φ' :dW}{w w' :World}(hs:cH K w w')(hK: ∀b,K b->K' b):
 ∀(xs:List AV) (vs:List Value),(∀h pl,h∈dB xs->φ' h=some pl->qG φ w w' h pl (h∈qF xs))->aH K φ w xs vs->aH K' φ' w' xs vs
 | [],_,_,hx=>by unfold aH at*;exact hx
 | x::xs,vs,hm,hx=>by
   unfold aH at*;obtain⟨v,vs',e,h1,h2⟩:=hx;exact⟨v,vs',e,aC.monoV hs hK x v (fun h pl hh e=>(hm h pl (by simp[dB,hh]) e).imp fun hv=>by simp[qF,hv]) h1,aH.monoV hs hK xs vs' (fun h pl hh e=>(hm h pl (by simp[dB,hh]) e).imp fun hv=>by simp[qF,hv]) h2⟩
end
theorem Holds.monoV {K K' :Nat->Prop}{φ φ' :dW}{w w' :World}{pl:Pl}(hs:cH K w w')(hK: ∀b,K b->K' b)(hk:eC pl.F w w'):
 ∀(r:Rs),(∀h pl,h∈eD r->φ' h=some pl->qG φ w w' h pl (h∈xH r))->Holds K φ w pl r->Holds K' φ' w' pl r
 | .box t cs,hm,⟨g,vs,e,hb,h1,hl⟩=>by
   subst e;exact⟨g,vs,rfl,(hk g (by simp[Pl.F])).trans hb,h1,aH.monoV hs hK cs _ hm hl⟩
 | .arr e k true xs,_,⟨css,Fs,h1,h2,h3,h4⟩=>
   ⟨css,Fs,eP h1 (hk.mono fun g hg=>by unfold Pl.F;rw[h2];exact aHk _ hg),h2,h3,bE.kept k xs css Fs (hk.mono fun g hg=>by unfold Pl.F;rw[h3];exact aFK _ hg) h4⟩
 | .arr e k false xs,_,⟨css,h1,h2,h3,h4⟩=>
   ⟨css,eP h1 (hk.mono fun g hg=>by unfold Pl.F;rw[h2];exact aHk _ hg),h2,h3,h4.mono hs hK⟩
 | .hole e k xs i j h,hm,⟨xs1,x1,d,x2,xs2,css1,c1,v,c2,css2,Fs1,F1,F2,Fs2,e0,e1,e2,e3,h1,h2,h3,h4,h5,h6,h7,h8⟩=>
   ⟨xs1,x1,d,x2,xs2,css1,c1,v,c2,css2,Fs1,F1,F2,Fs2,e0,e1,e2,e3,eP h1 (hk.mono fun g hg=>by unfold Pl.F;rw[h2];exact aHk _ hg),h2,h3,
    bE.kept k xs1 css1 Fs1 (hk.mono fun g hg=>by unfold Pl.F;rw[h3];simp only[aFZ];exact .inr (.inl hg)) h4,bU.kept x1 c1 F1 (hk.mono fun g hg=>by unfold Pl.F;rw[h3];simp only[aFZ];exact .inr (.inr (.inl (.inl hg)))) h5,
    bU.kept x2 c2 F2 (hk.mono fun g hg=>by unfold Pl.F;rw[h3];simp only[aFZ];exact .inr (.inr (.inl (.inr hg)))) h6,bE.kept k xs2 css2 Fs2 (hk.mono fun g hg=>by unfold Pl.F;rw[h3];simp only[aFZ];exact .inr (.inr (.inr hg))) h7,⟨h8.1,fun pl' e' =>by obtain⟨pl0,q1,q2,_⟩:=hm h pl' (by simp[eD]) e';rw[q2];exact h8.2 pl0 q1⟩⟩
section
variable {K:Nat->Prop} {φ:dW} {A:Nat->Prop} {w0:oR} {N:Nat} {S:St} {a:Act} {w:World}
theorem G.stepV (hG:G K φ A w0 N S a w){C:Nat->Prop}[DecidablePred C]{φr:dW}{ρ:Nat->Option Rs}{K' :Nat->Prop}{w' :World}
 (hU:pK (dF φ C) w w')
 (hR: ∀h pl,φr h=some pl->pl.F.Nodup/\ ∀g∈pl.F,g<w'.heap.size/\(w.heap.size<=g\/dF φ C g))
 (hD: ∀h h' pl pl',h≠h' ->φr h=some pl->φr h' =some pl' -> ∀g∈pl.F,g ∉ pl'.F)
 (hρ: ∀h r,ρ h=some r-> ∃pl,φr h=some pl/\Holds K' (bO C φr φ) w' pl r)
 (hρn: ∀h,ρ h= .none->φr h= .none)
 (hK: ∀b,K b->K' b)
 (hK' : ∀b,K' b->K b\/(b<w'.heap.size/\(w.heap.size<=b\/dF φ C b)/\ ∀h pl,φr h=some pl->b ∉ pl.F))
 (hM: ∀t h pl,h∈bD (S.slots t)->φr h=some pl->qG φ w w' h pl (h∈mU (S.slots t)))
 (hMr: ∀h' r h pl,¬C h' ->S.res h' =some r->h∈eD r->φr h=some pl->qG φ w w' h pl (h∈xH r))
 (hP: ∀h pl,φr h=some pl->(∃pl0,φ h=some pl0/\pl.val=pl0.val/\pl.top=pl0.top)\/100<=h):
 G K' (bO C φr φ) A w0 N { S with res:=cY C ρ S.res } a w' :=by
 have hF: ∀b,dF φ C b->w0.mine b/\b<w.heap.size:=fun b ⟨h,pl,_,hp,hb⟩=>hG.ge h pl hp b hb;have hsz:w0.w.heap.size<=w.heap.size:=hG.bel.size;have hsame:cH K w w' :=fun b hb=>hU.block b (hG.kin b hb).1 (fun ⟨h,pl,_,hp,hm⟩=>hG.kout b hb h pl hp hm)
 have hkeep: ∀h pl,¬C h->φ h=some pl->eC pl.F w w' :=fun h pl hc hp g hg=>
  hU.block g (hG.ge h pl hp g hg).2 (fun ⟨h',pl',hc',hp',hm⟩=>by
   by_cases e:h=h'
   ·subst e;exact hc hc'
   exact hG.disj h h' pl pl' e hp hp' g hg hm)
 have hsub: ∀h pl,¬C h->φ h=some pl->cH (· ∈pl.sub) w w' :=fun h pl hc hp g hg=>hkeep h pl hc hp g (aFK _ hg)
 have hslot: ∀x v,(∀h pl,h∈bD x->φr h=some pl->qG φ w w' h pl (h∈mU x))->aC K φ w x v->aC K' (bO C φr φ) w' x v:=fun x v hm hx=>
  aC.monoV hsame hK x v (fun h pl hh e=>by
   rcases aV e with e | ⟨_,hc,e⟩
   ·exact hm h pl hh e
   exact .of e fun _=>hsub h pl hc e) hx
 refine⟨?_,?_,?_,?_,?_,?_,?_,fun b hb=>hK b (hG.aK b hb),fun t=>hslot _ _ (hM t) (hG.slots t),pK.more hG.bel hU (fun b hb=>(hF b hb).1),hG.nd,hG.size,fun h pl pl0 e e0=>?_⟩
 ·intro h r hr;simp only[cY] at hr;split at hr
  ·rename_i r' hr';injection hr with hr
   subst hr;obtain⟨pl,hp,hh⟩:=hρ h _ hr';exact⟨pl,by simp[bO,hp],hh⟩
  rename_i hn;split at hr
  ·cases hr
  rename_i hc;obtain⟨pl,hp,hh⟩:=hG.dom h r hr;refine⟨pl,by simp[bO,hρn h hn,hc,hp],Holds.monoV hsame hK (hkeep h pl hc hp) r (fun h2 pl2 hm e=>?_) hh⟩;rcases aV e with e | ⟨_,hc2,e⟩
  ·exact hMr h r h2 pl2 hc hr hm e
  exact .of e fun _=>hsub h2 pl2 hc2 e
 ·intro h hr;simp only[cY] at hr;split at hr
  ·cases hr
  rename_i hn;simp only[bO,hρn h hn];split at hr
  ·rename_i hc;simp[hc]
  rename_i hc;simp[hc,hG.non h hr]
 ·intro h h' pl pl' hne e e' g hg hg';rcases aV e with e | ⟨_,hc,e⟩<;>rcases aV e' with e' | ⟨_,hc',e'⟩
  ·exact hD h h' pl pl' hne e e' g hg hg'
  ·rcases((hR h pl e).2 g hg).2 with h1 | ⟨h2,pl2,hc2,e2,hm⟩
   ·have:=(hG.ge h' pl' e' g hg').2;omega
   exact hG.disj h2 h' pl2 pl' (fun e=>by subst e;exact hc' hc2) e2 e' g hm hg'
  ·rcases((hR h' pl' e').2 g hg').2 with h1 | ⟨h2,pl2,hc2,e2,hm⟩
   ·have:=(hG.ge h pl e g hg).2;omega
   exact hG.disj h2 h pl2 pl (fun e=>by subst e;exact hc hc2) e2 e g hm hg
  exact hG.disj h h' pl pl' hne e e' g hg hg'
 ·intro h pl e;rcases aV e with e | ⟨_,_,e⟩
  ·exact(hR h pl e).1
  exact hG.nodup h pl e
 ·intro h pl e g hg;rcases aV e with e | ⟨_,_,e⟩
  ·obtain⟨h1,h2⟩:=(hR h pl e).2 g hg;refine⟨?_,h1⟩;rcases h2 with h2 | h2
   ·exact .inl (by omega)
   exact(hF g h2).1
  have:=hG.ge h pl e g hg;exact⟨this.1,aLG this.2 hU.size⟩
 ·intro b hb;rcases hK' b hb with hb | ⟨h1,h2,_⟩
  ·have:=hG.kin b hb;exact⟨aLG this.1 hU.size,this.2⟩
  refine⟨h1,.inr ?_⟩;rcases h2 with h2 | h2
  ·exact .inl (by omega)
  exact(hF b h2).1
 ·intro b hb h pl e hm;rcases hK' b hb with hb | ⟨_,h2,h3⟩
  ·rcases aV e with e | ⟨_,_,e⟩
   ·rcases((hR h pl e).2 b hm).2 with h1 | ⟨h2,pl2,hc2,e2,hm2⟩
    ·have:=(hG.kin b hb).1;omega
    exact hG.kout b hb h2 pl2 e2 hm2
   exact hG.kout b hb h pl e hm
  rcases aV e with e | ⟨_,hc,e⟩
  ·exact h3 h pl e hm
  rcases h2 with h2 | ⟨h4,pl4,hc4,e4,hm4⟩
  ·have:=(hG.ge h pl e b hm).2;omega
  exact hG.disj h4 h pl4 pl (fun e=>by subst e;exact hc hc4) e4 e b hm4 hm
 rcases aV e with e | ⟨_,_,e⟩
 ·rcases hP h pl e with ⟨pl1,q,q1,q2⟩ | q
  ·have:=hG.pin h pl1 pl0 q e0;exact⟨q1.trans this.1,q2.trans this.2⟩
  have:=w0.dom h pl0 e0;omega
 exact hG.pin h pl pl0 e e0
end
def aI1 (ren:List (Nat × Nat))(h:Nat):Nat:=match bM ren h with | some g=>g | none=>h
theorem aAX {ren:List (Nat × Nat)}(hn:gE (ren.map (·.2))=true){h h' g:Nat}(e:bM ren h=some g)(e' :bM ren h' =some g):h=h' :=by
 have mem: ∀{l:List (Nat × Nat)} {h g:Nat},bM l h=some g->g∈l.map (·.2):=by
  intro l
  induction l with
  | nil=>intro h g e;simp[bM] at e
  | cons q l ih=>
    obtain⟨k,v⟩:=q;intro h g e;unfold bM at e;split at e
    ·injection e with e;simp[e]
    simp only[aHl,aIo];exact .inr (ih e)
 induction ren with
 | nil=>simp[bM] at e
 | cons q l ih=>
   obtain⟨k,v⟩:=q;simp only[aHl,gE,aBT,Bool.not_eq_true',List.contains_eq_mem,decide_eq_false_iff_not] at hn;unfold bM at e e';split at e<;>split at e'
   ·rename_i _ a _ b;rw[aD8 a,aD8 b]
   ·injection e with e;subst e;exact absurd (mem e') hn.1
   ·injection e' with e';subst e';exact absurd (mem e) hn.1
   exact ih hn.2 e e'
def eE:Pl:=⟨.slice none 0 0,[],[]⟩
mutual
def gR (gm:Nat->Option Nat):AV->AV->Prop->Prop
 | .no,_,K=>K
 | .nil,x,K=>(match x with | .nil=>K | _=>False)
 | .own h,x,K=>(match x with
   | .nil=>(match gm h with | none=>K | some _=>False)
   | .own g=>(match gm h with | some g' =>EqN g g' K | none=>False)
   | _=>False)
 | .ptr h o,x,K=>(match x with
   | .ptr g o' =>(match gm h with | some g' =>EqN g g' (EqN o' o K) | none=>False)
   | _=>False)
 | .p none y,x,K=>(match x with
   | .p none z=>EqD z y/\K
   | .nil=>(match y with | .sl _ _ xs=>[]=xs/\K | _=>False)
   | _=>False)
 | .agg ys,x,K=>(match x with | .agg xs=>nX gm ys xs K | _=>False)
 | .tup ys,x,K=>(match x with | .tup xs=>nX gm ys xs K | _=>False)
 | _,_,_=>False
def nX (gm:Nat->Option Nat):List AV->List AV->Prop->Prop
 | [],xs,K=>(match xs with | []=>K | _=>False)
 | y::ys,xs,K=>(match xs with | x::xs=>gR gm y x (nX gm ys xs K) | []=>False)
end
mutual
theorem aDD {gm:Nat->Option Nat}{K:Nat->Prop}{φ φ' :dW}{w:World}(h1: ∀h g pl,gm h=some g->φ' h=some pl->φ g=some pl)(h2: ∀h pl,gm h=none->φ' h=some pl->pl=eE): ∀(y x:AV) (Q:Prop) (v:Value),gR gm y x Q->aC K φ w x v->aC K φ' w y v/\Q
 | .no,x,Q,v,h,hm=>by unfold gR at h;exact⟨by unfold aC;trivial,h⟩
 | .nil,x,Q,v,h,hm=>by
   unfold gR at h;split at h
   ·unfold aC at*;exact⟨hm,h⟩
   cases h
 | .own k,x,Q,v,h,hm=>by
   unfold gR at h;split at h
   ·split at h
    ·rename_i hl;refine⟨?_,h⟩;unfold aC at*;intro pl hp;rw[h2 _ pl hl hp,hm];rfl
    cases h
   ·split at h
    ·rename_i g' hl;obtain⟨e,hQ⟩:=h.eq;subst e;refine⟨?_,hQ⟩;unfold aC at*;intro pl hp;exact hm pl (h1 _ _ pl hl hp)
    cases h
   cases h
 | .ptr k o,x,Q,v,h,hm=>by
   unfold gR at h;split at h
   ·split at h
    ·rename_i g' hl;obtain⟨e,hQ1⟩:=h.eq;obtain⟨e2,hQ⟩:=hQ1.eq;subst e;subst e2;refine⟨?_,hQ⟩;unfold aC at*;obtain⟨g2,e3,q⟩:=hm;exact⟨g2,e3,fun pl hp=>q pl (h1 _ _ pl hl hp)⟩
    cases h
   cases h
 | .p none y,x,Q,v,h,hm=>by
   unfold gR at h;split at h
   ·refine⟨?_,h.2⟩;unfold aC at*;rw[<-h.1.eq];exact hm
   ·split at h
    ·refine⟨?_,h.2⟩;unfold aC at*;rw[hm,<-h.1];exact mQ
    cases h
   cases h
 | .p (some _) y,x,Q,v,h,hm=>by unfold gR at h;cases h
 | .agg ys,x,Q,v,h,hm=>by
   unfold gR at h;split at h
   ·unfold aC at hm;obtain⟨vs,rfl,q1,q2⟩:=hm;obtain⟨q3,q4⟩:=qH h1 h2 ys _ Q _ h q2;refine⟨?_,q4⟩;unfold aC;exact⟨vs,rfl,q1,q3⟩
   cases h
 | .tup ys,x,Q,v,h,hm=>by
   unfold gR at h;split at h
   ·unfold aC at hm;obtain⟨vs,rfl,q2⟩:=hm;obtain⟨q3,q4⟩:=qH h1 h2 ys _ Q _ h q2;refine⟨?_,q4⟩;unfold aC;exact⟨vs,rfl,q3⟩
   cases h
 | .ep _ _ _ _,x,Q,v,h,hm=>by unfold gR at h;cases h
 | .rp _ _,x,Q,v,h,hm=>by unfold gR at h;cases h
 | .fn _ _,x,Q,v,h,hm=>by unfold gR at h;cases h
 | .bsl _ _,x,Q,v,h,hm=>by unfold gR at h;cases h
theorem qH {gm:Nat->Option Nat}{K:Nat->Prop}{φ φ' :dW}{w:World}(h1: ∀h g pl,gm h=some g->φ' h=some pl->φ g=some pl)(h2: ∀h pl,gm h=none->φ' h=some pl->pl=eE): ∀(ys xs:List AV) (Q:Prop) (vs:List Value),nX gm ys xs Q->aH K φ w xs vs->aH K φ' w ys vs/\Q
 | [],xs,Q,vs,h,hm=>by
   unfold nX at h;split at h
   ·unfold aH at*;exact⟨hm,h⟩
   cases h
 | y::ys,xs,Q,vs,h,hm=>by
   unfold nX at h;split at h
   ·unfold aH at hm;obtain⟨v,vs',rfl,q1,q2⟩:=hm;obtain⟨q3,q4⟩:=aDD h1 h2 y _ _ v h q1;obtain⟨q5,q6⟩:=qH h1 h2 ys _ Q vs' q4 q2;refine⟨?_,q6⟩;unfold aH;exact⟨v,vs',rfl,q3,q5⟩
   cases h
end
mutual
theorem aEJ {gm:Nat->Option Nat}: ∀(y x:AV) (Q:Prop),gR gm y x Q->Q
 | .no,x,Q,h=>by unfold gR at h;exact h
 | .nil,x,Q,h=>by
   unfold gR at h;split at h
   ·exact h
   cases h
 | .own k,x,Q,h=>by
   unfold gR at h;split at h
   ·split at h
    ·exact h
    cases h
   ·split at h
    ·exact h.eq.2
    cases h
   cases h
 | .ptr k o,x,Q,h=>by
   unfold gR at h;split at h
   ·split at h
    ·exact h.eq.2.eq.2
    cases h
   cases h
 | .p none y,x,Q,h=>by
   unfold gR at h;split at h
   ·exact h.2
   ·split at h
    ·exact h.2
    cases h
   cases h
 | .p (some _) y,x,Q,h=>by unfold gR at h;cases h
 | .agg ys,x,Q,h=>by
   unfold gR at h;split at h
   ·exact nY ys _ Q h
   cases h
 | .tup ys,x,Q,h=>by
   unfold gR at h;split at h
   ·exact nY ys _ Q h
   cases h
 | .ep _ _ _ _,x,Q,h=>by unfold gR at h;cases h
 | .rp _ _,x,Q,h=>by unfold gR at h;cases h
 | .fn _ _,x,Q,h=>by unfold gR at h;cases h
 | .bsl _ _,x,Q,h=>by unfold gR at h;cases h
theorem nY {gm:Nat->Option Nat}: ∀(ys xs:List AV) (Q:Prop),nX gm ys xs Q->Q
 | [],xs,Q,h=>by
   unfold nX at h;split at h
   ·exact h
   cases h
 | y::ys,xs,Q,h=>by
   unfold nX at h;split at h
   ·exact nY ys _ Q (aEJ y _ _ h)
   cases h
end
abbrev aDE (φ:dW):Nat->Prop:=dF φ (fun _=>True)
structure In2 (A:Nat->Prop) (φ:dW) (w:World) (ri:List (Nat × Rs)):Prop where
 lt: ∀b,A b->b<w.heap.size
 dom: ∀h r,aN ri h=some r-> ∃pl,φ h=some pl/\Holds A φ w pl r
 non: ∀h,aN ri h=none->φ h=none
 disj: ∀h h' pl pl',h≠h' ->φ h=some pl->φ h' =some pl' -> ∀g∈pl.F,g ∉ pl'.F
 nodup: ∀h pl,φ h=some pl->pl.F.Nodup
 ge: ∀h pl,φ h=some pl-> ∀g∈pl.F,g<w.heap.size
 out: ∀b,A b-> ∀h pl,φ h=some pl->b ∉ pl.F
structure aHM (A:Nat->Prop) (φ0:dW) (w:World) (ro:List (Nat × Rs)) (K:Nat->Prop) (φ:dW) (w' :World):Prop where
 chg:pK (aDE φ0) w w'
 kk: ∀b,A b->K b
 kin: ∀b,K b->b<w'.heap.size/\(A b\/w.heap.size<=b\/aDE φ0 b)
 kout: ∀b,K b-> ∀h pl,φ h=some pl->b ∉ pl.F
 dom: ∀h r,aN ro h=some r-> ∃pl,φ h=some pl/\Holds K φ w' pl r
 non: ∀h,aN ro h=none->φ h=none
 disj: ∀h h' pl pl',h≠h' ->φ h=some pl->φ h' =some pl' -> ∀g∈pl.F,g ∉ pl'.F
 nodup: ∀h pl,φ h=some pl->pl.F.Nodup
 ge: ∀h pl,φ h=some pl-> ∀g∈pl.F,(w.heap.size<=g\/aDE φ0 g)/\g<w'.heap.size
 pin: ∀h pl pl0,φ h=some pl->φ0 h=some pl0->pl.val=pl0.val/\pl.top=pl0.top
def oZ (P:Program)(f:FuncId)(args:List AV)(ri:List (Nat × Rs))(rv:AV)(ro:List (Nat × Rs)):Prop:=
 fG P f=true/\(∀q∈ri,q.1<100)/\ ∀(A:Nat->Prop) (φ:dW) (w:World) (vs:Array Value),In2 A φ w ri->aH A φ w args vs.toList->
  Calls P f vs w (fun e w' => ∃v K φ',e= .returned v/\aHM A φ w ro K φ' w' /\aC K φ' w' rv v)
def nJ (K:Nat->Prop)(φ:dW)(w:World)(C:Nat->Prop):Nat->Prop:=fun b=>b<w.heap.size/\ ¬dF φ C b
section
variable {K:Nat->Prop} {φ:dW} {A:Nat->Prop} {w0:oR} {N:Nat} {S:St} {a:Act} {w:World} {P:Program}
theorem lU (hG:G K φ A w0 N S a w)(C:Nat->Prop): ∀b,K b->nJ K φ w C b:=fun b hb=>⟨(hG.kin b hb).1,fun ⟨h,pl,_,hp,hm⟩=>hG.kout b hb h pl hp hm⟩
theorem qI (hG:G K φ A w0 N S a w){C:Nat->Prop}{h:Nat}{pl:Pl}(hp:φ h=some pl)(hc: ¬C h): ∀b∈pl.F,nJ K φ w C b:=fun b hb=>⟨(hG.ge h pl hp b hb).2,fun ⟨h',pl',hc',hp',hm⟩=>by
 by_cases e:h=h'
 ·subst e;exact hc hc'
 exact hG.disj h h' pl pl' e hp hp' b hb hm⟩
theorem G.rdOwnB (hG:G K φ A w0 N S a w){C:Nat->Prop}{h:Nat}{e k:Nat}{d:Bool}{xs:List (List aS)}{v:Value}(hr:S.res h=some (.arr e k d xs))(hc: ¬C h)(hm:aC K φ w (.own h) v):dR (nJ K φ w C) w (.sl e k xs) v:=by
 obtain⟨pl,css,hp,ho,hcl,hck,htop,hrow⟩:=hG.owned hr;unfold aC at hm;rw[hm pl hp];obtain⟨b,c,e1,h1,h2,h3,h4⟩:=gP ho hck hcl;unfold dR;refine⟨b,c,e1,h1,h2,?_⟩;by_cases hn:0<xs.length
 ·obtain⟨g,rfl,hg⟩:=h3 hn;have hlt:nJ K φ w C g:=qI hG hp hc g (aHk _ (by rw[htop,hg];simp));refine rY hlt hcl (fun i x c hx hc' =>⟨(hrow i x c hx hc').1,fF.mono (fun _ _=>rfl) (fun b hb=>?_) x c (hrow i x c hx hc').2.1⟩) fun i c hc' j u hu=>?_
  ·rcases hb with hb | hb
   ·exact lU hG C b hb
   exact qI hG hp hc b (aFK _ hb)
  obtain⟨g',e2,_,hcell⟩:=h4 i c hc';simp only[Option.some.injEq,Addr.mk.injEq,and_true] at e2;subst e2;rw[Nat.zero_add];exact hcell j u hu
 have:xs= []:=aGC (by omega);subst this;unfold dI;trivial
end
def aHN (ren:List (Nat × Nat))(g:Nat):Bool:=ren.all fun q=> !Nat.beq q.2 g
def aHO (rs:Rl)(ren:List (Nat × Nat))(y:aS)(x:AV)(Q:Prop):Prop:=match x with
 | .p none z=>EqD z y/\Q
 | .p (some g) z=>(match jY rs (some g)&&aHN ren g with | true=>EqD z y/\Q | false=>False)
 | .own g=>(match aO rs g with
   | some (.arr e k _ xs)=>(match aHN ren g with | true=>EqD (.sl e k xs) y/\Q | false=>False)
   | _=>False)
 | .nil=>(match y with | .sl _ _ xs=>[]=xs/\Q | _=>False)
 | _=>False
def yG (rs:Rl)(ren:List (Nat × Nat)):List aS->List AV->Prop->Prop
 | [],_,Q=>Q
 | y::ys,xs,Q=>(match xs with | x::xs=>aHO rs ren y x (yG rs ren ys xs Q) | []=>False)
def vJ:List aS->List aS->Prop->Prop
 | [],xs,Q=>(match xs with | []=>Q | _=>False)
 | y::ys,xs,Q=>(match xs with | x::xs=>EqD x y/\vJ ys xs Q | []=>False)
def aF5 (rs:Rl)(ren:List (Nat × Nat))(ys:List aS)(x:AV)(Q:Prop):Prop:=match x with
 | .rp none zs=>vJ ys zs Q
 | .ptr g off=>(match aO rs g with
   | some (.box _ cs)=>(match aHN ren g with | true=>yG rs ren ys (cs.drop off) Q | false=>False)
   | _=>False)
 | _=>False
mutual
def eK (rs:Rl)(ren:List (Nat × Nat)):AV->AV->Prop->Prop
 | .no,_,Q=>Q
 | .nil,x,Q=>(match x with | .nil=>Q | _=>False)
 | .own h,x,Q=>(match x with | .own g=>(match bM ren h with | some g' =>EqN g g' Q | none=>False) | _=>False)
 | .ptr h o,x,Q=>(match x with | .ptr g o' =>(match bM ren h with | some g' =>EqN g g' (EqN o' o Q) | none=>False) | _=>False)
 | .p none y,x,Q=>(match x with
   | .p none z=>EqD z y/\Q
   | .p (some g) z=>(match jY rs (some g)&&aHN ren g with | true=>EqD z y/\Q | false=>False)
   | .own g=>(match aO rs g with
     | some (.arr e k _ xs)=>(match aHN ren g with | true=>EqD (.sl e k xs) y/\Q | false=>False)
     | _=>False)
   | .nil=>(match y with | .sl _ _ xs=>[]=xs/\Q | _=>False)
   | _=>False)
 | .agg ys,x,Q=>(match x with | .agg xs=>jZ rs ren ys xs Q | _=>False)
 | .rp none ys,x,Q=>aF5 rs ren ys x Q
 | .fn f [],x,Q=>(match x with | .fn g []=>EqN g f Q | _=>False)
 | _,_,_=>False
def jZ (rs:Rl)(ren:List (Nat × Nat)):List AV->List AV->Prop->Prop
 | [],xs,Q=>(match xs with | []=>Q | _=>False)
 | y::ys,xs,Q=>(match xs with | x::xs=>eK rs ren y x (jZ rs ren ys xs Q) | []=>False)
end
section
variable {K:Nat->Prop} {φ:dW} {A:Nat->Prop} {w0:oR} {N:Nat} {sl:Sl} {rs:Rl} {a:Act} {w:World} {P:Program} {ren:List (Nat × Nat)}
theorem aAY {g:Nat}(h:aHN ren g=true): ¬g∈ren.map (·.2):=fun hm=>by
 obtain⟨q,hq,e⟩:=aJl.1 hm;have:=aFJ.1 h q hq;rw[e,Nat.beq_refl] at this;cases this
theorem aKY (hG:G K φ A w0 N (mk sl rs) a w){y:aS}{x:AV}{Q:Prop}{v:Value}(h:aHO rs ren y x Q)(hm:aC K φ w x v):dR (nJ K φ w (· ∈ren.map (·.2))) w y v/\Q:=by
 unfold aHO at h;split at h
 ·refine⟨?_,h.2⟩;unfold aC at hm;rw[<-h.1.eq];exact dR.mono (fun _ _=>rfl) (lU hG _) _ _ hm
 ·rename_i g z;split at h
  ·rename_i hb;rw[aBT] at hb;refine⟨?_,h.2⟩;obtain⟨r,hr⟩:=sE hb.1;obtain⟨pl,hp,_⟩:=hG.dom g r hr;unfold aC at hm;rw[<-h.1.eq]
   exact dR.mono (fun _ _=>rfl) (fun b hb' =>by
    rcases hb' with hb' | hb'
    ·exact lU hG _ b hb'
    exact qI hG hp (aAY hb.2) b (aFK _ hb')) _ _ (hm pl hp)
  cases h
 ·rename_i g;split at h
  ·rename_i e k d xs hr;split at h
   ·rename_i hb;refine⟨?_,h.2⟩;rw[<-h.1.eq];have:=hG.rdOwnB (C:=(· ∈ren.map (·.2))) hr (aAY hb) hm;exact this
   cases h
  cases h
 ·split at h
  ·refine⟨?_,h.2⟩;unfold aC at hm;rw[hm,<-h.1];exact mQ
  cases h
 cases h
theorem aEK (hG:G K φ A w0 N (mk sl rs) a w){Q:Prop}: ∀{ys:List aS} {xs:List AV} {vs:List Value},yG rs ren ys xs Q->aH K φ w xs vs->(∃us ws,vs=us++ws/\fF (nJ K φ w (· ∈ren.map (·.2))) w ys us)/\Q
 | [],xs,vs,h,hm=>⟨⟨[],vs,rfl,rfl⟩,h⟩
 | y::ys,xs,vs,h,hm=>by
   unfold yG at h;split at h
   ·unfold aH at hm;obtain⟨v,vs',rfl,q1,q2⟩:=hm;obtain⟨q3,q4⟩:=aKY hG h q1;obtain⟨⟨us,ws,rfl,q5⟩,q6⟩:=aEK hG q4 q2;exact⟨⟨v::us,ws,rfl,v,us,rfl,q3,q5⟩,q6⟩
   cases h
theorem aAZ {Q:Prop}: ∀{ys zs:List aS},vJ ys zs Q->zs=ys/\Q
 | [],zs,h=>by
   unfold vJ at h;split at h
   ·exact⟨rfl,h⟩
   cases h
 | y::ys,zs,h=>by
   unfold vJ at h;split at h
   ·obtain⟨q1,q2⟩:=aAZ h.2;exact⟨by rw[h.1.eq,q1],q2⟩
   cases h
theorem aKZ (hG:G K φ A w0 N (mk sl rs) a w){ys:List aS}{x:AV}{Q:Prop}{v:Value}(h:aF5 rs ren ys x Q)(hm:aC K φ w x v):aGE (nJ K φ w (· ∈ren.map (·.2))) w ys v/\Q:=by
 unfold aF5 at h;split at h
 ·obtain⟨rfl,hQ⟩:=aAZ h;unfold aC at hm;obtain⟨a,e,hr⟩:=hm;exact⟨⟨a,e,eT.mono (fun _ _=>rfl) (lU hG _) _ _ _ hr⟩,hQ⟩
 ·rename_i g0 off;split at h
  ·rename_i t cs hr;split at h
   ·rename_i hb;obtain⟨g,vs,hp,hB,h1,hl⟩:=hG.boxed hr;unfold aC at hm;obtain⟨g',rfl,hg⟩:=hm;have hgg:=hg _ hp;simp only[List.cons.injEq,and_true] at hgg;subst hgg;obtain⟨⟨us,ws,e,q1⟩,hQ⟩:=aEK hG h (oV off hl);refine⟨⟨_,rfl,eT.mk (fun _=>qI hG hp (aAY hb) g (by simp[Pl.F])) q1 fun j u hu=>?_⟩,hQ⟩
    have hu' :(vs.toList.drop off)[j]? =some u:=by
     rw[e,aLc (aEA.1 hu).1];exact hu
    rw[List.getElem?_drop] at hu';rw[Nat.add_zero,hB.cell (off+j)];simpa using hu'
   cases h
  cases h
 cases h
mutual
theorem aK0 (hG:G K φ A w0 N (mk sl rs) a w){φi:dW}(hi: ∀h pl,φi h=some pl-> ∃g,bM ren h=some g/\φ g=some pl): ∀(y x:AV) (Q:Prop) (v:Value),eK rs ren y x Q->aC K φ w x v->aC (nJ K φ w (· ∈ren.map (·.2))) φi w y v/\Q
 | .no,x,Q,v,h,hm=>by unfold eK at h;exact⟨by unfold aC;trivial,h⟩
 | .nil,x,Q,v,h,hm=>by
   unfold eK at h;split at h
   ·unfold aC at*;exact⟨hm,h⟩
   cases h
 | .own k,x,Q,v,h,hm=>by
   unfold eK at h;split at h
   ·split at h
    ·rename_i g' hl;obtain⟨e,hQ⟩:=h.eq;subst e;refine⟨?_,hQ⟩;unfold aC at*;intro pl hp;obtain⟨g2,e1,e2⟩:=hi _ pl hp;rw[hl] at e1;injection e1 with e1;subst e1
     exact hm pl e2
    cases h
   cases h
 | .ptr k o,x,Q,v,h,hm=>by
   unfold eK at h;split at h
   ·split at h
    ·rename_i g' hl;obtain⟨e,hQ1⟩:=h.eq;obtain⟨e2,hQ⟩:=hQ1.eq;subst e;subst e2;refine⟨?_,hQ⟩;unfold aC at*;obtain⟨g3,e3,q⟩:=hm;refine⟨g3,e3,fun pl hp=>?_⟩;obtain⟨g2,e1,e2⟩:=hi _ pl hp;rw[hl] at e1;injection e1 with e1;subst e1
     exact q pl e2
    cases h
   cases h
 | .p none y,x,Q,v,h,hm=>by
   unfold eK at h;split at h
   ·refine⟨?_,h.2⟩;unfold aC at*;rw[<-h.1.eq];exact dR.mono (fun _ _=>rfl) (lU hG _) _ _ hm
   ·rename_i g z;split at h
    ·rename_i hb;rw[aBT] at hb;refine⟨?_,h.2⟩;obtain⟨r,hr⟩:=sE hb.1;obtain⟨pl,hp,_⟩:=hG.dom g r hr;unfold aC at*;rw[<-h.1.eq]
     exact dR.mono (fun _ _=>rfl) (fun b hb' =>by
      rcases hb' with hb' | hb'
      ·exact lU hG _ b hb'
      exact qI hG hp (aAY hb.2) b (aFK _ hb')) _ _ (hm pl hp)
    cases h
   ·rename_i g;split at h
    ·rename_i e k d xs hr;split at h
     ·rename_i hb;refine⟨?_,h.2⟩;rw[<-h.1.eq];have:=hG.rdOwnB (C:=(· ∈ren.map (·.2))) hr (aAY hb) hm;unfold aC;exact this
     cases h
    cases h
   ·split at h
    ·refine⟨?_,h.2⟩;unfold aC at*;rw[hm,<-h.1];exact mQ
    cases h
   cases h
 | .p (some _) y,x,Q,v,h,hm=>by unfold eK at h;cases h
 | .agg ys,x,Q,v,h,hm=>by
   unfold eK at h;split at h
   ·unfold aC at hm;obtain⟨vs,rfl,q1,q2⟩:=hm;obtain⟨q3,q4⟩:=aA0 hG hi ys _ Q _ h q2;refine⟨?_,q4⟩;unfold aC;exact⟨vs,rfl,q1,q3⟩
   cases h
 | .tup ys,x,Q,v,h,hm=>by unfold eK at h;cases h
 | .ep _ _ _ _,x,Q,v,h,hm=>by unfold eK at h;cases h
 | .rp none ys,x,Q,v,h,hm=>by
   unfold eK at h;obtain⟨q1,q2⟩:=aKZ hG h hm;refine⟨?_,q2⟩;unfold aC;exact q1
 | .rp (some _) _,x,Q,v,h,hm=>by unfold eK at h;cases h
 | .fn f [],x,Q,v,h,hm=>by
   unfold eK at h;split at h
   ·obtain⟨rfl,hQ⟩:=h.eq;refine⟨?_,hQ⟩;unfold aC at hm ⊢;obtain⟨vs',e1,e2⟩:=hm;refine⟨vs',e1,?_⟩;unfold aH at e2 ⊢;exact e2
   cases h
 | .fn _ (_::_),x,Q,v,h,hm=>by unfold eK at h;cases h
 | .bsl _ _,x,Q,v,h,hm=>by unfold eK at h;cases h
theorem aA0 (hG:G K φ A w0 N (mk sl rs) a w){φi:dW}(hi: ∀h pl,φi h=some pl-> ∃g,bM ren h=some g/\φ g=some pl): ∀(ys xs:List AV) (Q:Prop) (vs:List Value),jZ rs ren ys xs Q->aH K φ w xs vs->aH (nJ K φ w (· ∈ren.map (·.2))) φi w ys vs/\Q
 | [],xs,Q,vs,h,hm=>by
   unfold jZ at h;split at h
   ·unfold aH at*;exact⟨hm,h⟩
   cases h
 | y::ys,xs,Q,vs,h,hm=>by
   unfold jZ at h;split at h
   ·unfold aH at hm;obtain⟨v,vs',rfl,q1,q2⟩:=hm;obtain⟨q3,q4⟩:=aK0 hG hi y _ _ v h q1;obtain⟨q5,q6⟩:=aA0 hG hi ys _ Q vs' q4 q2;refine⟨?_,q6⟩;unfold aH;exact⟨v,vs',rfl,q3,q5⟩
   cases h
end
end
theorem aI2 {rs:Rl}{ren:List (Nat × Nat)}{Q Q' :Prop}{y:aS}{x:AV}(h:aHO rs ren y x Q):Q/\(Q' ->aHO rs ren y x Q'):=by
 unfold aHO at*;split at h
 ·exact⟨h.2,fun q=>⟨h.1,q⟩⟩
 ·split at h
  ·exact⟨h.2,fun q=>⟨h.1,q⟩⟩
  cases h
 ·split at h
  ·split at h
   ·exact⟨h.2,fun q=>⟨h.1,q⟩⟩
   cases h
  cases h
 ·split at h
  ·exact⟨h.2,fun q=>⟨h.1,q⟩⟩
  cases h
 cases h
theorem aCG {rs:Rl}{ren:List (Nat × Nat)}{Q Q' :Prop}: ∀{ys:List aS} {xs:List AV},yG rs ren ys xs Q->Q/\(Q' ->yG rs ren ys xs Q')
 | [],xs,h=>⟨h,id⟩
 | y::ys,xs,h=>by
   unfold yG at*;split at h
   ·obtain⟨q1,q2⟩:=aI2 (Q' :=yG rs ren ys _ Q') h;obtain⟨q3,q4⟩:=aCG (Q' :=Q') q1;exact⟨q3,fun q=>q2 (q4 q)⟩
   cases h
theorem aCH {Q Q' :Prop}: ∀{ys zs:List aS},vJ ys zs Q->Q/\(Q' ->vJ ys zs Q')
 | [],zs,h=>by
   unfold vJ at*;split at h
   ·exact⟨h,id⟩
   cases h
 | y::ys,zs,h=>by
   unfold vJ at*;split at h
   ·obtain⟨q1,q2⟩:=aCH (Q' :=Q') h.2;exact⟨q1,fun q=>⟨h.1,q2 q⟩⟩
   cases h
theorem aI3 {rs:Rl}{ren:List (Nat × Nat)}{Q Q' :Prop}{ys:List aS}{x:AV}(h:aF5 rs ren ys x Q):Q/\(Q' ->aF5 rs ren ys x Q'):=by
 unfold aF5 at*;split at h
 ·exact aCH h
 ·split at h
  ·split at h
   ·exact aCG h
   cases h
  cases h
 cases h
mutual
theorem aEL {rs:Rl}{ren:List (Nat × Nat)}{Q' :Prop}: ∀(y x:AV) (Q:Prop),eK rs ren y x Q->Q/\(Q' ->eK rs ren y x Q')
 | .no,x,Q,h=>by unfold eK at*;exact⟨h,id⟩
 | .nil,x,Q,h=>by
   unfold eK at*;split at h
   ·exact⟨h,id⟩
   cases h
 | .own k,x,Q,h=>by
   unfold eK at*;split at h
   ·split at h
    ·refine⟨h.eq.2,fun q=>?_⟩;have:=h.eq.1;subst this;simp only[EqN,Nat.beq_refl];exact q
    cases h
   cases h
 | .ptr k o,x,Q,h=>by
   unfold eK at*;split at h
   ·split at h
    ·refine⟨h.eq.2.eq.2,fun q=>?_⟩;have e1:=h.eq.1;have e2:=h.eq.2.eq.1;subst e1;subst e2;simp only[EqN,Nat.beq_refl];exact q
    cases h
   cases h
 | .p none y,x,Q,h=>by
   unfold eK at*;split at h
   ·exact⟨h.2,fun q=>⟨h.1,q⟩⟩
   ·split at h
    ·exact⟨h.2,fun q=>⟨h.1,q⟩⟩
    cases h
   ·split at h
    ·split at h
     ·exact⟨h.2,fun q=>⟨h.1,q⟩⟩
     cases h
    cases h
   ·split at h
    ·exact⟨h.2,fun q=>⟨h.1,q⟩⟩
    cases h
   cases h
 | .p (some _) y,x,Q,h=>by unfold eK at h;cases h
 | .agg ys,x,Q,h=>by
   unfold eK at*;split at h
   ·exact xI ys _ Q h
   cases h
 | .tup ys,x,Q,h=>by unfold eK at h;cases h
 | .ep _ _ _ _,x,Q,h=>by unfold eK at h;cases h
 | .rp none ys,x,Q,h=>by
   unfold eK at*;exact aI3 h
 | .rp (some _) _,x,Q,h=>by unfold eK at h;cases h
 | .fn f [],x,Q,h=>by
   unfold eK at*;split at h
   ·obtain⟨rfl,hQ⟩:=h.eq;exact⟨hQ,fun q=>by simp only[EqN,Nat.beq_refl];exact q⟩
   cases h
 | .fn _ (_::_),x,Q,h=>by unfold eK at h;cases h
 | .bsl _ _,x,Q,h=>by unfold eK at h;cases h
theorem xI {rs:Rl}{ren:List (Nat × Nat)}{Q' :Prop}: ∀(ys xs:List AV) (Q:Prop),jZ rs ren ys xs Q->Q/\(Q' ->jZ rs ren ys xs Q')
 | [],xs,Q,h=>by
   unfold jZ at*;split at h
   ·exact⟨h,id⟩
   cases h
 | y::ys,xs,Q,h=>by
   unfold jZ at*;split at h
   ·obtain⟨q1,q2⟩:=aEL (Q' :=jZ rs ren ys _ Q') y _ _ h;obtain⟨q3,q4⟩:=xI (Q' :=Q') ys _ Q q1;exact⟨q3,fun q=>q2 (q4 q)⟩
   cases h
end
mutual
def aI4:AV->AV->Bool
 | .p none _,x=>(match x with | .p none _=>true | .nil=>true | _=>false)
 | .agg ys,x=>(match x with | .agg xs=>aA1 ys xs | _=>false)
 | .rp none _,x=>(match x with | .rp none _=>true | _=>false)
 | _,_=>true
def aA1:List AV->List AV->Bool
 | [],_=>true
 | y::ys,xs=>(match xs with | x::xs=>aI4 y x&&aA1 ys xs | []=>true)
end
section
variable {K:Nat->Prop} {φ:dW} {w:World} {rs:Rl} {ren:List (Nat × Nat)}
mutual
theorem aI5 {φi:dW}(hi: ∀h pl,φi h=some pl-> ∃g,bM ren h=some g/\φ g=some pl): ∀(y x:AV) (Q:Prop) (v:Value),aI4 y x=true->eK rs ren y x Q->aC K φ w x v->aC K φi w y v
 | .no,x,Q,v,_,h,hm=>by unfold aC;trivial
 | .nil,x,Q,v,_,h,hm=>by
   unfold eK at h;split at h
   ·unfold aC at*;exact hm
   cases h
 | .own k,x,Q,v,_,h,hm=>by
   unfold eK at h;split at h
   ·split at h
    ·rename_i g' hl;obtain⟨e,hQ⟩:=h.eq;subst e;unfold aC at*;intro pl hp;obtain⟨g2,e1,e2⟩:=hi _ pl hp;rw[hl] at e1;injection e1 with e1;subst e1
     exact hm pl e2
    cases h
   cases h
 | .ptr k o,x,Q,v,_,h,hm=>by
   unfold eK at h;split at h
   ·split at h
    ·rename_i g' hl;obtain⟨e,hQ1⟩:=h.eq;obtain⟨e2,hQ⟩:=hQ1.eq;subst e;subst e2;unfold aC at*;obtain⟨g3,e3,q⟩:=hm;refine⟨g3,e3,fun pl hp=>?_⟩;obtain⟨g2,e1,e2⟩:=hi _ pl hp;rw[hl] at e1;injection e1 with e1;subst e1
     exact q pl e2
    cases h
   cases h
 | .p none y,x,Q,v,hs,h,hm=>by
   unfold aI4 at hs;unfold eK at h;split at h
   ·unfold aC at*;rw[<-h.1.eq];exact hm
   ·cases hs
   ·cases hs
   ·split at h
    ·unfold aC at*;rw[hm,<-h.1];exact mQ
    cases h
   cases h
 | .p (some _) y,x,Q,v,_,h,hm=>by unfold eK at h;cases h
 | .agg ys,x,Q,v,hs,h,hm=>by
   unfold aI4 at hs;unfold eK at h;split at h
   ·unfold aC at hm;obtain⟨vs,rfl,q1,q2⟩:=hm;unfold aC;exact⟨vs,rfl,q1,xJ hi ys _ Q _ hs h q2⟩
   cases h
 | .tup ys,x,Q,v,_,h,hm=>by unfold eK at h;cases h
 | .ep _ _ _ _,x,Q,v,_,h,hm=>by unfold eK at h;cases h
 | .rp none ys,x,Q,v,hs,h,hm=>by
   unfold aI4 at hs;unfold eK at h;split at hs
   ·unfold aF5 at h;obtain⟨rfl,hQ⟩:=aAZ h;unfold aC at*;exact hm
   cases hs
 | .rp (some _) _,x,Q,v,_,h,hm=>by unfold eK at h;cases h
 | .fn f [],x,Q,v,_,h,hm=>by
   unfold eK at h;split at h
   ·obtain⟨rfl,hQ⟩:=h.eq;unfold aC at hm ⊢;obtain⟨vs',e1,e2⟩:=hm;refine⟨vs',e1,?_⟩;unfold aH at e2 ⊢;exact e2
   cases h
 | .fn _ (_::_),x,Q,v,_,h,hm=>by unfold eK at h;cases h
 | .bsl _ _,x,Q,v,_,h,hm=>by unfold eK at h;cases h
theorem xJ {φi:dW}(hi: ∀h pl,φi h=some pl-> ∃g,bM ren h=some g/\φ g=some pl): ∀(ys xs:List AV) (Q:Prop) (vs:List Value),aA1 ys xs=true->jZ rs ren ys xs Q->aH K φ w xs vs->aH K φi w ys vs
 | [],xs,Q,vs,_,h,hm=>by
   unfold jZ at h;split at h
   ·unfold aH at*;exact hm
   cases h
 | y::ys,xs,Q,vs,hs,h,hm=>by
   unfold aA1 at hs;unfold jZ at h;split at h
   ·simp only[aBT] at hs;unfold aH at hm;obtain⟨v,vs',rfl,q1,q2⟩:=hm;unfold aH;exact⟨v,vs',rfl,aI5 hi y _ _ v hs.1 h q1,xJ hi ys _ Q vs' hs.2 (aEL (Q' :=True) _ _ _ h).1 q2⟩
   cases h
end
end
def pA (ren:List (Nat × Nat))(hb h:Nat):Nat:=match bM ren h with | some g=>g | none=>hb+h
mutual
def iC:AV->Bool
 | .p none x=>x.val?.isSome
 | .own _=>true
 | .ptr _ _=>true
 | .nil=>true
 | .no=>true
 | .agg cs=>lV cs
 | .tup cs=>lV cs
 | _=>false
def lV:List AV->Bool
 | []=>true
 | x::xs=>iC x&&lV xs
end
mutual
theorem sW {K K' :Nat->Prop}{φ:dW}{w:World}: ∀(x:AV) (v:Value),iC x=true->aC K φ w x v->aC K' φ w x v
 | .p none x,v,hc,h=>by
   unfold iC at hc;unfold aC at*;cases hx:x.val? with
   | none=>simp[hx] at hc
   | some u=>exact(dR.scalar hx).2 ((dR.scalar hx).1 h)
 | .p (some k) x,v,hc,h=>by simp[iC] at hc
 | .own k,v,_,h=>by unfold aC at*;exact h
 | .ptr k o,v,_,h=>by unfold aC at*;exact h
 | .ep k _ _ _,v,hc,_=>by simp[iC] at hc
 | .rp _ x,v,hc,h=>by simp[iC] at hc
 | .fn _ _,v,hc,h=>by simp[iC] at hc
 | .bsl _ _,v,hc,h=>by simp[iC] at hc
 | .nil,v,_,h=>by unfold aC at*;exact h
 | .no,v,_,_=>by unfold aC;trivial
 | .agg cs,v,hc,h=>by
   unfold iC at hc;unfold aC at*;obtain⟨vs,e,h1,h2⟩:=h;exact⟨vs,e,h1,iD cs _ hc h2⟩
 | .tup cs,v,hc,h=>by
   unfold iC at hc;unfold aC at*;obtain⟨vs,e,h2⟩:=h;exact⟨vs,e,iD cs _ hc h2⟩
theorem iD {K K' :Nat->Prop}{φ:dW}{w:World}: ∀(xs:List AV) (vs:List Value),lV xs=true->aH K φ w xs vs->aH K' φ w xs vs
 | [],vs,_,h=>by unfold aH at*;exact h
 | x::xs,vs,hc,h=>by
   unfold lV at hc;simp only[aBT] at hc;unfold aH at*;obtain⟨v,vs',e,h1,h2⟩:=h;exact⟨v,vs',e,sW x v hc.1 h1,iD xs vs' hc.2 h2⟩
end
def vK (on:Nat->Nat):List (Nat × Rs)->Nat->Option Nat
 | [],_=>none
 | (h,_)::l,g=>if on h=g then some h else vK on l g
theorem qJ {on:Nat->Nat}: ∀{ro:List (Nat × Rs)} {g h:Nat},vK on ro g=some h->on h=g/\ ∃r,aN ro h=some r
 | [],_,_,e=>by simp[vK] at e
 | (k,r)::l,g,h,e=>by
   simp only[vK] at e;split at e
   ·injection e with e;subst e;rename_i q;exact⟨q,r,by simp[aN]⟩
   obtain⟨h1,r',h2⟩:=qJ e;refine⟨h1,?_⟩;simp only[aN];split
   ·exact⟨r,rfl⟩
   exact⟨r',h2⟩
theorem aI6 {on:Nat->Nat}{h:Nat}: ∀{ro:List (Nat × Rs)} {r:Rs},(∀h' r',aN ro h' =some r' ->on h' =on h->h' =h)->aN ro h=some r->vK on ro (on h)=some h:=by
 intro ro r hi hr;cases hv:vK on ro (on h) with
 | some h' =>
   obtain⟨e,r',hr'⟩:=qJ hv;rw[hi h' r' hr' e]
 | none=>
   exfalso
   have: ∀(l:List (Nat × Rs)),vK on l (on h)=none->aN l h=none:=by
    intro l
    induction l with
    | nil=>intro _;rfl
    | cons q l ih=>
      obtain⟨k,r0⟩:=q;intro e;simp only[vK] at e;split at e
      ·cases e
      rename_i hne;simp only[aN];rw[if_neg (fun e' =>hne (by rw[e']))];exact ih e
   rw[this ro hv] at hr;cases hr
theorem aEM {on:Nat->Nat}{m:Rs->Rs}: ∀{ro:List (Nat × Rs)} {g:Nat} {r:Rs},aN (ro.map fun q=>(on q.1,m q.2)) g=some r-> ∃h r0,vK on ro g=some h/\aN ro h=some r0/\r=m r0
 | [],g,r,e=>by simp[aN] at e
 | (k,r1)::l,g,r,e=>by
   simp only[aHl,aN] at e;split at e
   ·rename_i q;injection e with e
    exact⟨k,r1,by simp[vK,q],by simp[aN],e.symm⟩
   rename_i q;obtain⟨h,r0,h1,h2,h3⟩:=aEM e;refine⟨h,r0,by simp only[vK];rw[if_neg (fun e=>q e.symm)];exact h1,?_,h3⟩;simp only[aN];rw[if_neg (fun e=>by subst e;exact q (qJ h1).1.symm)];exact h2
theorem nK {on:Nat->Nat}{m:Rs->Rs}: ∀{ro:List (Nat × Rs)} {g:Nat},aN (ro.map fun q=>(on q.1,m q.2)) g=none->vK on ro g=none
 | [],g,e=>rfl
 | (k,r1)::l,g,e=>by
   simp only[aHl,aN] at e;split at e
   ·cases e
   rename_i q;simp only[vK];rw[if_neg (fun e=>q e.symm)];exact nK e
theorem aEN {ren:List (Nat × Nat)}{h g:Nat}(e:bM ren h=some g):g∈ren.map (·.2):=by
 induction ren with
 | nil=>simp[bM] at e
 | cons q l ih=>
   obtain⟨k,v⟩:=q;unfold bM at e;split at e
   ·injection e with e;simp[e]
   simp only[aHl,aIo];exact .inr (ih e)
def zH (st:Bool)(x:AV):Bool:=st || iC x
def aA2 (st:Bool):Rs->Bool
 | .box _ cs=>st || lV cs
 | .arr _ _ d _=>st || d
 | .hole _ _ _ _ _ _=>false
section
variable {P:Program} {sl:Sl} {rs:Rl}
def aCI:Rs->Bool
 | .box _ _=>true
 | _=>false
def aF6 (ri:List (Nat × Rs))(ren:List (Nat × Nat))(ro:List (Nat × Rs)):Bool:=ro.all fun q=>match bM ren q.1 with | some _=>aCI q.2&&(match aN ri q.1 with | some r=>aCI r | none=>false) | none=>true
def tL (P:Program)(o:Oper)(S:St)(e:Eff)(B:Prop):Prop:=
 ∀(K:Nat->Prop) (φ:dW) (A:Nat->Prop) (w0:oR) (N:Nat) (a:Act) (w:World) (Q:Exit->Act->World->Prop),(∀d,o.dst=some d->d<N)->G K φ A w0 N S a w->
  o.wp P a w (fun a' w' => ∃K' φ' v,a' =a.put o.dst v/\G K' φ' A w0 N (S.apply o.dst e) a' w' /\(B->Tr K φ w (· ∈e.del) (aN e.new) K' φ' w')) Q
theorem tL.to0 {P:Program}{S:St}{o:Oper}{e:Eff}{B:Prop}(h:tL P o S e B):nF P o S e:=fun K φ A w0 N a w Q hd hG=>Oper.wp_mono (fun a' w' ⟨K',φ',v,h1,h2,_⟩=>⟨K',φ',v,h1,h2⟩) (h K φ A w0 N a w Q hd hG)
theorem tL.full {P:Program}{S:St}{o:Oper}{e:Eff}{B:Prop}(h:tL P o S e B)(b:B):aQ P o S e:=fun K φ A w0 N a w Q hd hG=>Oper.wp_mono (fun a' w' ⟨K',φ',v,h1,h2,h3⟩=>⟨K',φ',v,h1,h2,h3 b⟩) (h K φ A w0 N a w Q hd hG)
theorem aEO {o:Oper}{f:FuncId}{avs fs:List AV}{ri ro:List (Nat × Rs)}{ren:List (Nat × Nat)}{rv:AV}{hb:Nat}{st:Bool}(hset:st=true->aA1 fs avs=true)
 (hrun: ∀K φ A w0 N a w,G K φ A w0 N (mk sl rs) a w-> ∃vs:Array Value,(execOp a.eval o).run P w= .ok (.enter f vs) w/\aH K φ w avs vs.toList)
 (hC:oZ P f fs ri rv ro) (ha:jZ rs ren fs avs True)
 (hres: ∀h r,aN ri h=some r-> ∃g,bM ren h=some g/\aO rs g=some (aB5 (aI1 ren) r)) (hkey: ∀h g,bM ren h=some g-> ∃r,aN ri h=some r) (hinj:gE (ren.map (·.2))=true)
 (hcl:zH st rv=true) (hclr: ∀q∈ro,aA2 st q.2=true) (hfr: ∀q∈ro,bM ren q.1=none->dS (mk sl rs) (hb+q.1))
 (hmt: ∀h∈bD rv,∃r,aN ro h=some r) (hmr: ∀q∈ro,∀h∈eD q.2,∃r,aN ro h=some r)
 (hon: ∀h h' r r',aN ro h=some r->aN ro h' =some r' ->pA ren hb h=pA ren hb h' ->h=h')
 (hvw: ∀q∈ro,∀g,bM ren q.1=some g->(∀t,g ∉ mU (aY sl t))/\ ∀h' r,aO rs h' =some r->g ∉ xH r):
 tL P o (mk sl rs) ⟨fT (pA ren hb) rv,ren.map (·.2),ro.map fun q=>(pA ren hb q.1,aB5 (pA ren hb) q.2)⟩ (aF6 ri ren ro=true):=by
 intro K φ A w0 N a w Q hd hG;obtain⟨vs,hrn,hmv⟩:=hrun K φ A w0 N a w hG;unfold Oper.wp;rw[hrn,Oper.upon_enter]
 let φi:dW:=fun h=>match bM ren h with | some g=>φ g | none=>none
 have hi: ∀h pl,φi h=some pl-> ∃g,bM ren h=some g/\φ g=some pl:=fun h pl e=>by
  simp only[φi] at e;split at e
  ·rename_i g hg;exact⟨g,hg,e⟩
  cases e
 have hren: ∀h g,bM ren h=some g->aI1 ren h=g:=fun h g e=>by unfold aI1;rw[e]
 have hBx: ∃B:Nat->Prop,(∀b,K b->B b)/\(∀b,B b->b<w.heap.size/\ ¬dF φ (· ∈ren.map (·.2)) b)/\aH B φi w fs vs.toList/\(st=true-> ∀b,B b->K b):=by
  cases hst:st with
  | false=>exact⟨nJ K φ w (· ∈ren.map (·.2)),lU hG _,(by intro b h;exact h),(aA0 hG hi fs avs True vs.toList ha hmv).1,fun e=>by cases e⟩
  | true=>exact⟨K,fun _ h=>h,fun b hb=>⟨(hG.kin b hb).1,fun ⟨h,pl,_,hp,hm⟩=>hG.kout b hb h pl hp hm⟩,xJ hi fs avs True vs.toList (hset hst) ha hmv,fun _ _ h=>h⟩
 obtain⟨B,hKB,hBB,hargs,hBK⟩:=hBx
 have hI:In2 B φi w ri:=by
  refine⟨fun b hb=>(hBB b hb).1,fun h r hr=>?_,fun h hr=>?_,fun h h' pl pl' hne e e' =>?_,fun h pl e=>?_,fun h pl e g hg=>?_,fun b hb' h pl e hm=>?_⟩
  ·obtain⟨g,hg,hf⟩:=hres h r hr;obtain⟨pl,hp,hh⟩:=hG.dom g _ hf;refine⟨pl,by simp only[φi,hg];exact hp,?_⟩;cases r with
   | box t cs=>
     obtain⟨g',vs',e1,e2,e3,e4⟩:=hh;refine⟨g',vs',e1,e2,e3,?_⟩;have:=aH.unmap (φ' :=φi) cs _ (fun k pl' _ e=>by obtain⟨g2,q1,q2⟩:=hi k pl' e;rw[hren k g2 q1];exact q2) e4;exact aH.mono (fun _ _=>rfl) hKB cs _ (fun _ _ _ e=>⟨e,fun _ _=>rfl⟩) this
   | hole e k xs i j q=>
     obtain⟨xs1,x1,d,x2,xs2,css1,c1,v,c2,css2,Fs1,F1,F2,Fs2,e0,e1,e2,e3,h1,h2,h3,h4,h5,h6,h7,h8⟩:=hh;exact⟨xs1,x1,d,x2,xs2,css1,c1,v,c2,css2,Fs1,F1,F2,Fs2,e0,e1,e2,e3,h1,h2,h3,h4,h5,h6,h7,⟨h8.1,fun pl' e' =>by obtain⟨g2,q1,q2⟩:=hi q pl' e';exact h8.2 pl' (by rw[hren q g2 q1];exact q2)⟩⟩
   | arr e k d xs=>
     have:=Holds.mono (K' :=B) (φ' :=φi) (w' :=w) (pl:=pl) (fun _ _=>rfl) hKB (fun _ _=>rfl) (.arr e k d xs) (fun _ _ hm _=>by simp[eD] at hm) hh;exact this
  ·simp only[φi];cases hl:bM ren h with
   | none=>rfl
   | some g=>
     obtain⟨r,hr'⟩:=hkey h g hl;rw[hr] at hr';cases hr'
  ·obtain⟨g,q1,q2⟩:=hi h pl e;obtain⟨g',q1',q2'⟩:=hi h' pl' e';exact hG.disj g g' pl pl' (fun x=>by subst x;exact hne (aAX hinj q1 q1')) q2 q2'
  ·obtain⟨g,_,q2⟩:=hi h pl e;exact hG.nodup g pl q2
  ·obtain⟨g',_,q2⟩:=hi h pl e;exact(hG.ge g' pl q2 g hg).2
  obtain⟨g,q1,q2⟩:=hi h pl e;exact(hBB b hb').2 ⟨g,pl,aEN q1,q2,hm⟩
 refine(hC.2.2 _ φi w vs hI hargs).mono ?_;rintro e w' ⟨v,Kr,φ',rfl,hO,hmr'⟩
 have hfoot: ∀b,aDE φi b->dF φ (· ∈ren.map (·.2)) b:=fun b ⟨h,pl,_,e,hb⟩=>by
  obtain⟨g,q1,q2⟩:=hi h pl e;exact⟨g,pl,aEN q1,q2,hb⟩
 let on:=pA ren hb
 have hou: ∀h g,bM ren h=some g->on h=g:=fun h g e=>by simp only[on,pA,e]
 have hou' : ∀h,bM ren h=none->on h=hb+h:=fun h e=>by simp only[on,pA,e]
 let φr:dW:=fun g=>match vK on ro g with | some h=>φ' h | none=>none
 have r1: ∀g pl,φr g=some pl-> ∃h r,on h=g/\aN ro h=some r/\φ' h=some pl:=fun g pl e=>by
  simp only[φr] at e;split at e
  ·rename_i h hh;obtain⟨q1,r,q2⟩:=qJ hh;exact⟨h,r,q1,q2,e⟩
  cases e
 have r2: ∀h r,aN ro h=some r->φr (on h)=φ' h:=fun h r hr=>by
  simp only[φr];rw[aI6 (on:=on) (fun h' r' hr' e=>hon h' h r' r hr' hr e) hr]
 have r3: ∀g pl,φr g=some pl->((∃pl0,φ g=some pl0/\pl.val=pl0.val/\pl.top=pl0.top)/\(∀t,g ∉ mU (aY sl t))/\ ∀h' r,aO rs h' =some r->g ∉ xH r)\/dS (mk sl rs) g:=fun g pl e=>by
  obtain⟨h,r,e1,e2,e3⟩:=r1 g pl e;cases hl:bM ren h with
  | some g' =>
    rw[hou h g' hl] at e1;subst e1;obtain⟨r0,hr0⟩:=hkey h _ hl;obtain⟨pl0,hp0,_⟩:=hI.dom h r0 hr0;have hpn:=hO.pin h pl pl0 e3 hp0;have hp:φ g' =some pl0:=by simp only[φi,hl] at hp0;exact hp0
    have:=hvw _ (bK e2) g' hl;exact .inl ⟨⟨pl0,hp,hpn⟩,this⟩
  | none=>
    rw[hou' h hl] at e1;rw[<-e1];exact .inr (hfr _ (bK e2) hl)
 have hKx: ∃K' :Nat->Prop,(∀b,K b->K' b)/\(∀b,K' b->K b\/(b<w'.heap.size/\(w.heap.size<=b\/dF φ (· ∈ren.map (·.2)) b)/\ ∀h pl,φr h=some pl->b ∉ pl.F))/\(zH st rv=true->aC Kr φ' w' rv v->aC K' φ' w' rv v)/\(∀cs vs',(st || lV cs)=true->aH Kr φ' w' cs vs' ->aH K' φ' w' cs vs')/\(∀e k d xs pl,(st || d)=true->Holds Kr φ' w' pl (.arr e k d xs)->Holds K' φ' w' pl (.arr e k d xs)):=by
  cases hst:st with
  | false=>
    refine⟨K,fun _ h=>h,fun _ h=> .inl h,fun hc hm=>?_,fun cs vs' hc hm=>?_,fun e k d xs pl hc hm=>?_⟩
    ·exact sW rv v (by simpa [zH] using hc) hm
    ·exact iD cs vs' (by simpa using hc) hm
    have hd' :d=true:=by simpa using hc
    subst hd';exact hm
  | true=>
    refine⟨Kr,fun b hb=>hO.kk b (hKB b hb),fun b hb=>?_,fun _ hm=>hm,fun _ _ _ hm=>hm,fun _ _ _ _ _ _ hm=>hm⟩;obtain⟨q1,q2⟩:=hO.kin b hb;rcases q2 with q2 | q2 | q2
    ·exact .inl (hBK hst b q2)
    ·exact .inr ⟨q1,.inl q2,fun h pl e=>by obtain⟨h',r,_,_,e3⟩:=r1 h pl e;exact hO.kout b hb h' pl e3⟩
    exact .inr ⟨q1,.inr (hfoot b q2),fun h pl e=>by obtain⟨h',r,_,_,e3⟩:=r1 h pl e;exact hO.kout b hb h' pl e3⟩
 obtain⟨K',kx1,kx2,kx3,kx4,kx5⟩:=hKx
 have hst:=hG.stepV (C:=(· ∈ren.map (·.2))) (φr:=φr) (ρ:=aN (ro.map fun q=>(on q.1,aB5 on q.2))) (K' :=K') (w' :=w')
  (hO.chg.mono hfoot)
  (fun g pl e=>by
   obtain⟨h,r,_,_,e3⟩:=r1 g pl e;refine⟨hO.nodup h pl e3,fun b hb=>⟨(hO.ge h pl e3 b hb).2,(hO.ge h pl e3 b hb).1.imp id (hfoot b)⟩⟩)
  (fun g g' pl pl' hne e e' =>by
   obtain⟨h,r,q1,_,e3⟩:=r1 g pl e;obtain⟨h',r',q1',_,e3'⟩:=r1 g' pl' e';exact hO.disj h h' pl pl' (fun x=>by subst x;exact hne (q1.symm.trans q1')) e3 e3')
  (fun g r hr=>by
   obtain⟨h,r0,q1,q2,q3⟩:=aEM hr;subst q3;obtain⟨pl,hp,hh⟩:=hO.dom h r0 q2;have hin:=(qJ q1).1;refine⟨pl,by rw[<-hin,r2 h r0 q2];exact hp,?_⟩;cases r0 with
   | box t cs=>
     obtain⟨g',vs',e1,e2,e3,e4⟩:=hh;refine⟨g',vs',e1,e2,e3,?_⟩;refine aH.map cs _ (fun k pl' hk e=>?_) (kx4 cs _ (hclr _ (bK q2)) e4);obtain⟨rk,hrk⟩:=hmr _ (bK q2) k hk;obtain⟨plk,hpk,_⟩:=hO.dom k rk hrk;have:bO (· ∈ren.map (·.2)) φr φ (on k)=some plk:=by simp only[bO,r2 k rk hrk,hpk]
     rw[this] at e;injection e with e
     subst e;exact hpk
   | hole e k xs i j q=>
     have hd' :=hclr _ (bK q2);simp[aA2] at hd'
   | arr e k d xs=>
     have hk5:=kx5 e k d xs pl (hclr _ (bK q2)) hh;cases d<;>exact hk5)
  (fun g hr=>by simp only[φr];rw[nK hr])
  kx1 kx2
  (fun t g pl hm' e=>by
   rcases r3 g pl e with ⟨⟨pl0,q1,q3,q4⟩,q2,_⟩ | q
   ·exact⟨pl0,q1,q3,q4,fun hv=>absurd hv (q2 t)⟩
   exact absurd hm' (q.1 t))
  (fun h' r g pl _ hr hm' e=>by
   rcases r3 g pl e with ⟨⟨pl0,q1,q3,q4⟩,_,q2⟩ | q
   ·exact⟨pl0,q1,q3,q4,fun hv=>absurd hv (q2 h' r hr)⟩
   exact absurd hm' (q.2.1 h' r hr))
  (fun g pl e=>by
   rcases r3 g pl e with ⟨q1,_⟩ | q
   ·exact .inl q1
   exact .inr q.2.2.2)
 have hTr:aF6 ri ren ro=true->Tr K φ w (· ∈ren.map (·.2)) (aN (ro.map fun q=>(on q.1,aB5 on q.2))) K' (bO (· ∈ren.map (·.2)) φr φ) w' :=fun hB=>by
  have same: ∀g pl,φr g=some pl->(φ g=some pl/\pl.sub= [])\/(dS (mk sl rs) g/\ ∃h r,on h=g/\aN ro h=some r/\φ' h=some pl):=fun g pl e=>by
   obtain⟨h,r,e1,e2,e3⟩:=r1 g pl e;cases hl:bM ren h with
   | some g' =>
     rw[hou h g' hl] at e1;subst e1;obtain⟨r0,hr0⟩:=hkey h _ hl;obtain⟨pl0,hp0,hh0⟩:=hI.dom h r0 hr0;obtain⟨pl1,hp1,hh1⟩:=hO.dom h r e2;have hpn:=hO.pin h pl pl0 e3 hp0;have hp:φ g' =some pl0:=by simp only[φi,hl] at hp0;exact hp0
     rw[e3] at hp1;injection hp1 with hp1
     subst hp1;have hb1:=aFJ.1 hB _ (bK e2);simp only[hl,hr0,aBT] at hb1;obtain⟨c1,c2⟩:=hb1;cases r with
     | box t cs=>
       cases r0 with
       | box t0 cs0=>
         obtain⟨ga,_,ea,_⟩:=hh1;obtain⟨gb,_,eb,_⟩:=hh0;have hv:=hpn.1;rw[ea,eb] at hv;simp only[Value.pointer.injEq,Option.some.injEq] at hv;injection hv with hv
         subst hv;exact .inl ⟨by rw[hp,ea,eb],by rw[ea]⟩
       | arr _ _ _ _=>simp[aCI] at c2
       | hole _ _ _ _ _ _=>simp[aCI] at c2
     | arr _ _ _ _=>simp[aCI] at c1
     | hole _ _ _ _ _ _=>simp[aCI] at c1
   | none=>
     rw[hou' h hl] at e1;refine .inr ⟨by rw[<-e1];exact hfr _ (bK e2) hl,h,r,by rw[hou' h hl];exact e1,e2,e3⟩
  refine⟨hO.chg.mono hfoot,kx1,fun b h=>(kx2 b h).imp id (fun q=>q.2.1),fun g pl e=>?_,fun g pl e e' b hb=>?_⟩
  ·rcases aV e with q | ⟨_,_,q⟩
   ·rcases same g pl q with ⟨q1,_⟩ | ⟨q1,h,r,q2,q3,q4⟩
    ·exact .inl q1
    refine .inr ⟨hG.non g q1.2.2.1,?_,fun b hb=>(hO.ge h pl q4 b hb).1.imp id (hfoot b)⟩;cases hf:aN (ro.map fun q=>(on q.1,aB5 on q.2)) g with
    | some r' =>exact⟨r',rfl⟩
    | none=>
      have:=nK hf;rw[<-q2,aI6 (on:=on) (fun h' r' hr' e=>hon h' h r' r hr' q3 e) q3] at this;cases this
   exact .inl q
  rcases aV e with q | ⟨_,hc,_⟩
  ·rcases same g pl q with ⟨_,q1⟩ | ⟨q1,_⟩
   ·rw[q1] at hb;cases hb
   rw[hG.non g q1.2.2.1] at e';cases e'
  refine hO.chg.block b (hG.ge g pl e' b (aFK _ hb)).2 (fun hm=>?_);obtain⟨g2,pl2,hc2,hp2,hb2⟩:=hfoot b hm;by_cases ex:g=g2
  ·subst ex;exact hc hc2
  exact hG.disj g g2 pl pl2 ex e' hp2 b (aFK _ hb) hb2
 refine⟨K',bO (· ∈ren.map (·.2)) φr φ,v,rfl,hst.put hd (aC.map rv v (fun k pl hk e=>?_) (kx3 hcl hmr')),hTr⟩;obtain⟨rk,hrk⟩:=hmt k hk;obtain⟨plk,hpk,_⟩:=hO.dom k rk hrk;have:bO (· ∈ren.map (·.2)) φr φ (on k)=some plk:=by simp only[bO,r2 k rk hrk,hpk]
 rw[this] at e;injection e with e
 subst e;exact hpk
end
def riW (rs:Rl)(ren:List (Nat × Nat)):List (Nat × Rs)->Prop->Prop
 | [],K=>K
 | (h,r)::l,K=>(match bM ren h with
   | some g=>(match aO rs g with | some r' =>EqR r' (aB5 (aI1 ren) r) (riW rs ren l K) | none=>False)
   | none=>False)
theorem aI7 {rs:Rl}{ren:List (Nat × Nat)}{K:Prop}: ∀{l:List (Nat × Rs)},riW rs ren l K->(∀h r,aN l h=some r-> ∃g,bM ren h=some g/\aO rs g=some (aB5 (aI1 ren) r))/\K
 | [],h=>⟨by simp[aN],h⟩
 | (k,r0)::l,hw=>by
   unfold riW at hw;split at hw
   ·rename_i g hg;split at hw
    ·rename_i r' hr';obtain⟨e1,hw1⟩:=hw.eq;obtain⟨q1,q2⟩:=aI7 hw1;refine⟨fun h r e=>?_,q2⟩;simp only[aN] at e;split at e
     ·rename_i ek;subst ek;injection e with e
      subst e;exact⟨g,hg,by rw[hr',e1]⟩
     exact q1 h r e
    cases hw
   cases hw
def mV (sl:Sl)(rs:Rl)(g:Nat):Bool:=sl.all (fun p=> !(mU (aY sl p.1)).contains g)&&rs.all (fun p=>match aO rs p.1 with | some r=> !(xH r).contains g | none=>true)
def aDF (st:Bool)(sl:Sl)(rs:Rl)(hb:Nat)(ri:List (Nat × Rs))(ren:List (Nat × Nat))(rv:AV)(ro:List (Nat × Rs)):Bool:=
 ren.all (fun q=>(aN ri q.1).isSome)&&gE (ren.map (·.2))&&zH st rv&&(ro.all fun q=>aA2 st q.2)&&(ro.all fun q=>match bM ren q.1 with | some g=>mV sl rs g | none=>dL sl rs (hb+q.1))&&
 ((bD rv).all fun h=>(aN ro h).isSome)&&(ro.all fun q=>(eD q.2).all fun h=>(aN ro h).isSome)&&(ro.all fun q=>ro.all fun q' =>Nat.beq q.1 q'.1 || !Nat.beq (pA ren hb q.1) (pA ren hb q'.1))
def qK (P:Program)(sl:Sl)(rs:Rl)(d:Nat)(f:FuncId)(avs:List AV)(t:T)(K:AV->List Nat->List (Nat × Rs)->T->Prop):Prop:=match t with
 | .callx fs ri ren rv ro t=>(match aDF false sl rs (100*d) ri ren rv ro with
   | true=>oZ P f fs ri rv ro/\jZ rs ren fs avs (riW rs ren ri (K (fT (pA ren (100*d)) rv) (ren.map (·.2)) (ro.map fun q=>(pA ren (100*d) q.1,aB5 (pA ren (100*d)) q.2)) t))
   | false=>False)
 | .callxs fs ri ren rv ro t=>(match aDF true sl rs (100*d) ri ren rv ro&&aA1 fs avs with
   | true=>oZ P f fs ri rv ro/\jZ rs ren fs avs (riW rs ren ri (K (fT (pA ren (100*d)) rv) (ren.map (·.2)) (ro.map fun q=>(pA ren (100*d) q.1,aB5 (pA ren (100*d)) q.2)) t))
   | false=>False)
 | _=>False
theorem aK1 {ren:List (Nat × Nat)}{h g:Nat}(e:bM ren h=some g):(h,g)∈ren:=by
 induction ren with
 | nil=>simp[bM] at e
 | cons q l ih=>
   obtain⟨k,v⟩:=q;unfold bM at e;split at e
   ·rename_i hb;injection e with e;have:=aD8 hb;subst this;subst e;simp
   exact aM2 _ (ih e)
theorem nZ {sl:Sl}{rs:Rl}{g:Nat}(h:mV sl rs g=true):(∀t,g ∉ mU (aY sl t))/\ ∀h' r,aO rs h' =some r->g ∉ xH r:=by
 unfold mV at h;simp only[aBT,aFJ] at h;refine⟨fun t ht=>?_,fun h' r hr hm=>?_⟩
 ·have hk: ∀(l:Sl),aY l t≠ .no->t∈l.map (·.1):=by
   intro l
   induction l with
   | nil=>intro h;simp[aY] at h
   | cons q l ih=>
     obtain⟨k,v⟩:=q;intro h;simp only[aY] at h;by_cases e:t=k
     ·simp[e]
     rw[if_neg e] at h;simp[ih h]
  have hne:aY sl t≠ .no:=fun e=>by rw[e] at ht;simp[mU] at ht
  obtain⟨q,hq,rfl⟩:=aJl.1 (hk sl hne);have:=h.1 q hq;simp only[Bool.not_eq_true',List.contains_eq_mem,decide_eq_false_iff_not] at this;exact this ht
 have hk: ∀(l:Rl),aO l h' =some r->h' ∈l.map (·.1):=by
  intro l
  induction l with
  | nil=>intro h;simp[aO] at h
  | cons q l ih=>
    obtain⟨k,v⟩:=q;intro h;simp only[aO] at h;by_cases e:h' =k
    ·simp[e]
    rw[if_neg e] at h;simp[ih h]
 obtain⟨q,hq,rfl⟩:=aJl.1 (hk rs hr);have:=h.2 q hq;rw[hr] at this;simp only[Bool.not_eq_true',List.contains_eq_mem,decide_eq_false_iff_not] at this;exact this hm
def aMb:T->Bool
 | .callx _ ri ren _ ro _=>aF6 ri ren ro
 | .callxs _ ri ren _ ro _=>aF6 ri ren ro
 | _=>false
theorem aCJ {P:Program}{sl:Sl}{rs:Rl}{d:Nat}{f:FuncId}{avs fs:List AV}{ri ro:List (Nat × Rs)}{ren:List (Nat × Nat)}{rv:AV}{o:Oper}{t:T}{st:Bool}{K:AV->List Nat->List (Nat × Rs)->T->Prop}(hrun:fG P f=true-> ∀K φ A w0 N a w,G K φ A w0 N (mk sl rs) a w-> ∃vs:Array Value,(execOp a.eval o).run P w= .ok (.enter f vs) w/\aH K φ w avs vs.toList)(hset:st=true->aA1 fs avs=true)(hb:aDF st sl rs (100*d) ri ren rv ro=true)
 (h:oZ P f fs ri rv ro/\jZ rs ren fs avs (riW rs ren ri (K (fT (pA ren (100*d)) rv) (ren.map (·.2)) (ro.map fun q=>(pA ren (100*d) q.1,aB5 (pA ren (100*d)) q.2)) t))): ∃v del new t',tL P o (mk sl rs) ⟨v,del,new⟩ (aF6 ri ren ro=true)/\K v del new t' :=by
 unfold aDF at hb;simp only[aBT,aFJ] at hb;obtain⟨⟨⟨⟨⟨⟨⟨b1,b2⟩,b3⟩,b4⟩,b5⟩,b6⟩,b7⟩,b8⟩:=hb;obtain⟨hC,h⟩:=h;obtain⟨h1,h2⟩:=xI (Q' :=True) _ _ _ h;obtain⟨h3,h4⟩:=aI7 h1;refine⟨_,_,_,_,aEO hset (hrun hC.1) hC (h2 trivial) h3 (fun h g e=>Option.isSome_iff_exists.1 (b1 _ (aK1 e))) b2 b3 b4 (fun q hq hn=>?_) (fun k hk=>Option.isSome_iff_exists.1 (b6 k hk)) (fun q hq k hk=>Option.isSome_iff_exists.1 (b7 q hq k hk)) (fun k k' r r' e e' ex=>?_) (fun q hq g hg=>?_),h4⟩
 ·have:=b5 q hq;rw[hn] at this;exact cW this
 ·have:=b8 _ (bK e) _ (bK e');simp only[Bool.or_eq_true,Bool.not_eq_true'] at this;rcases this with q | q
  ·exact aD8 q
  rw[ex,Nat.beq_refl] at q;cases q
 have:=b5 q hq;rw[hg] at this;exact nZ this
theorem aA3 {P:Program}{sl:Sl}{rs:Rl}{d:Nat}{f:FuncId}{avs:List AV}{o:Oper}{t:T}{K:AV->List Nat->List (Nat × Rs)->T->Prop}(hrun:fG P f=true-> ∀K φ A w0 N a w,G K φ A w0 N (mk sl rs) a w-> ∃vs:Array Value,(execOp a.eval o).run P w= .ok (.enter f vs) w/\aH K φ w avs vs.toList)(h:qK P sl rs d f avs t K): ∃v del new t',tL P o (mk sl rs) ⟨v,del,new⟩ (aMb t=true)/\K v del new t' :=by
 unfold qK at h;split at h
 ·split at h
  ·rename_i hb;obtain⟨v,del,new,t',h1,h2⟩:=aCJ (st:=false) hrun (fun e=>by cases e) hb h;exact⟨v,del,new,t',h1,h2⟩
  cases h
 ·split at h
  ·rename_i hb;rw[aBT] at hb;obtain⟨v,del,new,t',h1,h2⟩:=aCJ (st:=true) hrun (fun _=>hb.2) hb.1 h;exact⟨v,del,new,t',h1,h2⟩
  cases h
 cases h
theorem aCK {P:Program}{sl:Sl}{rs:Rl}{d:Nat}{f:FuncId}{avs:List AV}{o:Oper}{t:T}{K:AV->List Nat->List (Nat × Rs)->T->Prop}(hrun:fG P f=true-> ∀K φ A w0 N a w,G K φ A w0 N (mk sl rs) a w-> ∃vs:Array Value,(execOp a.eval o).run P w= .ok (.enter f vs) w/\aH K φ w avs vs.toList)(h:qK P sl rs d f avs t K): ∃v del new t',nF P o (mk sl rs) ⟨v,del,new⟩/\K v del new t' :=by
 obtain⟨v,del,new,t',h1,h2⟩:=aA3 hrun h;exact⟨v,del,new,t',h1.to0,h2⟩
theorem aA4 {P:Program}{sl:Sl}{rs:Rl}{d:Nat}{f:FuncId}{avs:List AV}{o:Oper}{t:T}{K:AV->List Nat->List (Nat × Rs)->T->Prop}(hrun:fG P f=true-> ∀K φ A w0 N a w,G K φ A w0 N (mk sl rs) a w-> ∃vs:Array Value,(execOp a.eval o).run P w= .ok (.enter f vs) w/\aH K φ w avs vs.toList)(h:qK P sl rs d f avs t K)(hb:aMb t=true): ∃v del new t',aQ P o (mk sl rs) ⟨v,del,new⟩/\K v del new t' :=by
 obtain⟨v,del,new,t',h1,h2⟩:=aA3 hrun h;exact⟨v,del,new,t',h1.full hb,h2⟩
theorem bF {α:Type}{l:List α}{k:Nat}{x y:α}(h:l[k]? =some x)(h' :l[k]? =some y):y=x:=by rw[h] at h';injection h' with e;exact e.symm
theorem bE.split {w:World}{k:Nat}: ∀{xs:List (List aS)} {css:List (List Value)} {Fs:List (List Nat)} {i:Nat} {x:List aS},bE w k xs css Fs->xs[i]? =some x->
 ∃xs1 xs2 css1 c css2 Fs1 F Fs2,xs=xs1++x::xs2/\css=css1++c::css2/\Fs=Fs1++F::Fs2/\xs1.length=i/\bE w k xs1 css1 Fs1/\x.length=k/\bU w x c F/\bE w k xs2 css2 Fs2
 | [],_,_,_,_,_,h=>by simp at h
 | y::xs,css,Fs,0,x,ho,h=>by
   unfold bE at ho;obtain⟨c,css',F,Fs',rfl,rfl,h1,h2,h3⟩:=ho;simp at h;subst h;exact⟨[],xs,[],c,css',[],F,Fs',rfl,rfl,rfl,rfl,by unfold bE;exact⟨rfl,rfl⟩,h1,h2,h3⟩
 | y::xs,css,Fs,i+1,x,ho,h=>by
   unfold bE at ho;obtain⟨c,css',F,Fs',rfl,rfl,h1,h2,h3⟩:=ho;simp at h;obtain⟨xs1,xs2,css1,c',css2,Fs1,F',Fs2,rfl,rfl,rfl,e,q1,q2,q3,q4⟩:=bE.split h3 h;exact⟨y::xs1,xs2,c::css1,c',css2,F::Fs1,F',Fs2,rfl,rfl,rfl,by simp[e],by unfold bE;exact⟨c,css1,F,Fs1,rfl,rfl,h1,h2,q1⟩,q2,q3,q4⟩
theorem bU.split {w:World}: ∀{x1 x2:List aS} {c:List Value} {F:List Nat},bU w (x1++x2) c F-> ∃c1 c2 F1 F2,c=c1++c2/\F=F1++F2/\bU w x1 c1 F1/\bU w x2 c2 F2
 | [],x2,c,F,h=>⟨[],c,[],F,rfl,rfl,by unfold bU;exact⟨rfl,rfl⟩,h⟩
 | p::x1,x2,c,F,h=>by
   rw[List.cons_append] at h;unfold bU at h;obtain⟨v,cs',F1,F2,rfl,rfl,h1,h2⟩:=h;obtain⟨c1,c2,G1,G2,rfl,rfl,q1,q2⟩:=bU.split h2;exact⟨v::c1,c2,F1++G1,G2,rfl,by simp,by unfold bU;exact⟨v,c1,F1,G1,rfl,rfl,h1,q1⟩,q2⟩
theorem bU.join {w:World}: ∀{x1 x2:List aS} {c1 c2:List Value} {F1 F2:List Nat},bU w x1 c1 F1->bU w x2 c2 F2->bU w (x1++x2) (c1++c2) (F1++F2)
 | [],x2,c1,c2,F1,F2,h,h' =>by unfold bU at h;rw[h.1,h.2];exact h'
 | p::x1,x2,c1,c2,F1,F2,h,h' =>by
   unfold bU at h;obtain⟨v,cs',G1,G2,rfl,rfl,h1,h2⟩:=h;rw[List.cons_append];unfold bU;exact⟨v,cs' ++c2,G1,G2++F2,rfl,by simp,h1,bU.join h2 h'⟩
theorem aI8 {α:Type}{l:List α}{j:Nat}{y:α}(h:l[j]? =some y):l=l.take j++y::l.drop (j+1):=by
 obtain⟨hj,rfl⟩:=aEA.1 h;rw[List.getElem_cons_drop,List.take_append_drop]
section
variable {A:Nat->Prop} {w0:oR} {N:Nat} {sl:Sl} {rs:Rl} {a:Act} {w:World} {P:Program}
theorem aCL {h i j h' e k e' k' :Nat}{xs:List (List aS)}{row:List aS}{ys:List (List aS)}(hr:aO rs h=some (.arr e k true xs))(hx:xs[i]? =some row)(hj:row[j]? =some (.sl e' k' ys))(hfr:dS (mk sl rs) h')(hv:mV sl rs h=true)
 (hg:nT A w0 N (mk sl rs) a w):nT A w0 N ((mk sl rs).apply none ⟨.no,[h],[(h,.hole e k xs i j h'),(h',.arr e' k' true ys)]⟩) a w:=by
 obtain⟨K,φ,hG⟩:=hg;obtain⟨pl,hp,css,Fs,q1,q2,q3,q4⟩:=hG.dom h _ hr;obtain⟨xs1,xs2,css1,c,css2,Fs1,F,Fs2,e1,e2,e3,e4,r1,r2,r3,r4⟩:=q4.split hx;have er:=aI8 hj;rw[er] at r3;obtain⟨c1,c',F1,F',rfl,rfl,s1,s2⟩:=r3.split;unfold bU at s2;obtain⟨v,c2,Fd,F2,rfl,rfl,s3,s4⟩:=s2;have hvone:v.oneCell' =true:=aCq (lL.rd (A:=fun _=>True) _ _ _ (fun _ _=>trivial) s3);unfold lL at s3;obtain⟨css',Fs',t1,t2,t3⟩:=s3;have hjl:j<row.length:=(aEA.1 hj).1;have hne:h≠h' :=fun q=>by subst q;have:=hfr.2.2.1;rw[show (mk sl rs).res h=_ from hr] at this;cases this
 have hsub:pl.sub=Fs1.flatten++((F1++((v.ownBlock.toList++Fs'.flatten)++F2))++Fs2.flatten):=by rw[q3,e3,<-t2];simp
 have hnd:=hG.nodup h pl hp;unfold Pl.F at hnd;rw[hsub] at hnd
 let p1:Pl:=⟨pl.val,pl.top,Fs1.flatten++((F1++F2)++Fs2.flatten)⟩
 let p2:Pl:=⟨v,v.ownBlock.toList,Fs'.flatten⟩
 have hin1: ∀g∈p1.F,g∈pl.F:=fun g hg=>by
  simp only[p1,Pl.F,aFZ] at hg;unfold Pl.F;rw[hsub];simp only[aFZ];rcases hg with q | q | (q | q) | q
  ·exact .inl q
  ·exact .inr (.inl q)
  ·exact .inr (.inr (.inl (.inl q)))
  ·exact .inr (.inr (.inl (.inr (.inr q))))
  exact .inr (.inr (.inr q))
 have hin2: ∀g∈p2.F,g∈pl.F:=fun g hg=>by
  simp only[p2,Pl.F,aFZ] at hg;unfold Pl.F;rw[hsub];simp only[aFZ];rcases hg with q | q
  ·exact .inr (.inr (.inl (.inr (.inl (.inl q)))))
  exact .inr (.inr (.inl (.inr (.inl (.inr q)))))
 have hperm:(pl.top++(Fs1.flatten++((F1++((v.ownBlock.toList++Fs'.flatten)++F2))++Fs2.flatten))).Perm (p1.F++p2.F):=by
  simp only[p1,p2,Pl.F];generalize v.ownBlock.toList++Fs'.flatten=M;refine(List.perm_iff_count).2 fun x=>?_;simp only[List.count_append];omega
 have hnd2:=hperm.nodup_iff.1 hnd;have hnd3:=aMS.1 hnd2;obtain⟨hv1,hv2⟩:=nZ hv
 have hst:=hG.stepV (C:=(· ∈[h])) (φr:=fun x=>if x=h then some p1 else if x=h' then some p2 else none) (ρ:=aN [(h,.hole e k xs i j h'),(h',.arr e' k' true ys)]) (K' :=K) (w' :=w)
  ⟨rfl,rfl,rfl,aLB _,fun _ _ _=>rfl⟩
  (fun x p hp' =>by
   split at hp'
   ·injection hp' with hp';subst hp'
    exact⟨hnd3.1,fun g hg=>⟨(hG.ge h pl hp g (hin1 g hg)).2,.inr ⟨h,pl,by simp,hp,hin1 g hg⟩⟩⟩
   split at hp'
   ·injection hp' with hp';subst hp'
    exact⟨hnd3.2.1,fun g hg=>⟨(hG.ge h pl hp g (hin2 g hg)).2,.inr ⟨h,pl,by simp,hp,hin2 g hg⟩⟩⟩
   cases hp')
  (fun x x' p p' hne' hp1 hp2 g hg hg' =>by
   split at hp1
   ·injection hp1 with hp1;subst hp1
    split at hp2
    ·rename_i a b;exact hne' (a.trans b.symm)
    split at hp2
    ·injection hp2 with hp2;subst hp2
     exact hnd3.2.2 g hg g hg' rfl
    cases hp2
   split at hp1
   ·injection hp1 with hp1;subst hp1
    split at hp2
    ·injection hp2 with hp2;subst hp2
     exact hnd3.2.2 g hg' g hg rfl
    split at hp2
    ·rename_i a _ b;exact hne' (a.trans b.symm)
    cases hp2
   cases hp1)
  (fun x r hr' =>by
   simp only[aN] at hr';split at hr'
   ·rename_i ex;injection hr' with hr';subst hr'
    refine⟨p1,by simp[ex],xs1,row.take j,.sl e' k' ys,row.drop (j+1),xs2,css1,c1,v,c2,css2,Fs1,F1,F2,Fs2,by rw[<-er];exact e1,e4,by simp;omega,by rw[<-er];exact r2,by rw[<-e2];exact q1,q2,rfl,r1,s1,s4,r4,hvone,fun pl' e'' =>?_⟩;simp only[bO] at e'';rw[if_neg (Ne.symm hne)] at e'';simp only[if_true,Option.some.injEq] at e'';subst e'';rfl
   rename_i ex;split at hr'
   ·rename_i ex';injection hr' with hr';subst hr'
    exact⟨p2,by rw[if_neg ex,if_pos ex'],css',Fs',t1,rfl,rfl,t3⟩
   cases hr')
  (fun x hr' =>by
   simp only[aN] at hr';split at hr'
   ·cases hr'
   rename_i ex;split at hr'
   ·cases hr'
   rename_i ex';rw[if_neg ex,if_neg ex'])
  (fun _ h=>h) (fun _ h=> .inl h)
  (fun t x p hm hp' =>by
   split at hp'
   ·rename_i ex;injection hp' with hp';subst hp';subst ex
    exact⟨pl,hp,rfl,rfl,fun q=>absurd q (hv1 t)⟩
   split at hp'
   ·rename_i ex;subst ex;exact absurd hm (hfr.1 t)
   cases hp')
  (fun h2 r x p _ hr' hm hp' =>by
   split at hp'
   ·rename_i ex;injection hp' with hp';subst hp';subst ex
    exact⟨pl,hp,rfl,rfl,fun q=>absurd q (hv2 h2 r hr')⟩
   split at hp'
   ·rename_i ex;subst ex;exact absurd hm (hfr.2.1 h2 r hr')
   cases hp')
  (fun x p hp' =>by
   split at hp'
   ·rename_i ex;injection hp' with hp';subst hp';subst ex
    exact .inl ⟨pl,hp,rfl,rfl⟩
   split at hp'
   ·rename_i ex;subst ex;exact .inr hfr.2.2.2
   cases hp')
 exact⟨K,_,hst⟩
theorem aI9 {h i j h' e k e' k' :Nat}{xs:List (List aS)}{row:List aS}{ys:List (List aS)}(hr:aO rs h=some (.hole e k xs i j h'))(hr' :aO rs h' =some (.arr e' k' true ys))(hx:xs[i]? =some row)(hv:mV sl rs h=true)
 (hg:nT A w0 N (mk sl rs) a w):nT A w0 N ((mk sl rs).apply none ⟨.no,[h,h'],[(h,.arr e k true (xs.set i (row.take j++ .sl e' k' ys::row.drop (j+1))))]⟩) a w:=by
 obtain⟨K,φ,hG⟩:=hg;obtain⟨pl,hp,xs1,x1,d,x2,xs2,css1,c1,v,c2,css2,Fs1,F1,F2,Fs2,e0,e1,e2,e3,h1,h2,h3,h4,h5,h6,h7,h8⟩:=hG.dom h _ hr;obtain⟨pl',hp',css',Fs',q1,q2,q3,q4⟩:=hG.dom h' _ hr';have hvv:=h8.2 pl' hp';have hne:h≠h' :=fun q=>by subst q;rw[hr] at hr';cases hr'
 have erow:row=x1++d::x2:=by
  rw[e0,aHx (by omega)] at hx;simp[e1] at hx;exact hx.symm
 have eset:xs.set i (row.take j++ .sl e' k' ys::row.drop (j+1))=xs1++(x1++ .sl e' k' ys::x2)::xs2:=by
  rw[e0,List.set_append_right _ _ (by omega),erow,<-e2];simp[e1]
 have hdis:=hG.disj h h' pl pl' hne hp hp'
 let p1:Pl:=⟨pl.val,pl.top,Fs1.flatten++((F1++(pl'.F++F2))++Fs2.flatten)⟩
 have hperm:p1.F.Perm (pl.F++pl'.F):=by
  simp only[p1,Pl.F,h3];refine(List.perm_iff_count).2 fun x=>?_;simp only[List.count_append];omega
 have hmem: ∀g,g∈p1.F->g∈pl.F\/g∈pl'.F:=fun g hg=>by
  have:=hperm.mem_iff.1 hg;simpa using this
 have hnd:p1.F.Nodup:=hperm.nodup_iff.2 (by
  rw[aMS];exact⟨hG.nodup h pl hp,hG.nodup h' pl' hp',fun x hx y hy exy=>by subst exy;exact hdis x hx hy⟩)
 obtain⟨hv1,hv2⟩:=nZ hv
 have hst:=hG.stepV (C:=(· ∈[h,h'])) (φr:=fun x=>if x=h then some p1 else none) (ρ:=aN [(h,.arr e k true (xs.set i (row.take j++ .sl e' k' ys::row.drop (j+1))))]) (K' :=K) (w' :=w)
  ⟨rfl,rfl,rfl,aLB _,fun _ _ _=>rfl⟩
  (fun x p hp1=>by
   split at hp1
   ·injection hp1 with hp1;subst hp1
    refine⟨hnd,fun g hg=>?_⟩;rcases hmem g hg with q | q
    ·exact⟨(hG.ge h pl hp g q).2,.inr ⟨h,pl,by simp,hp,q⟩⟩
    exact⟨(hG.ge h' pl' hp' g q).2,.inr ⟨h',pl',by simp,hp',q⟩⟩
   cases hp1)
  (fun x x' p p' hne' hp1 hp2 g hg hg' =>by
   split at hp1
   ·split at hp2
    ·rename_i a b;exact hne' (a.trans b.symm)
    cases hp2
   cases hp1)
  (fun x r hr2=>by
   simp only[aN] at hr2;split at hr2
   ·rename_i ex;injection hr2 with hr2;subst hr2
    rw[eset];refine⟨p1,by simp[ex],css1++(c1++v::c2)::css2,Fs1++(F1++(pl'.F++F2))::Fs2,?_,h2,by simp[p1],h4.append ?_⟩
    ·have:(xs1++(x1++aS.sl e' k' ys::x2)::xs2).length=xs.length:=by rw[e0];simp
     rw[this];exact h1
    unfold bE;refine⟨_,_,_,_,rfl,rfl,by rw[<-e3];simp,h5.join ?_,h7⟩;unfold bU;refine⟨v,c2,pl'.F,F2,rfl,rfl,?_,h6⟩;unfold lL;exact⟨css',Fs',by rw[hvv];exact q1,by rw[hvv];unfold Pl.F;rw[q2,q3],q4⟩
   cases hr2)
  (fun x hr2=>by
   simp only[aN] at hr2;split at hr2
   ·cases hr2
   rename_i ex;rw[if_neg ex])
  (fun _ h=>h) (fun _ h=> .inl h)
  (fun t x p hm hp1=>by
   split at hp1
   ·rename_i ex;injection hp1 with hp1;subst hp1;subst ex
    exact⟨pl,hp,rfl,rfl,fun q=>absurd q (hv1 t)⟩
   cases hp1)
  (fun h2 r x p _ hr2 hm hp1=>by
   split at hp1
   ·rename_i ex;injection hp1 with hp1;subst hp1;subst ex
    exact⟨pl,hp,rfl,rfl,fun q=>absurd q (hv2 h2 r hr2)⟩
   cases hp1)
  (fun x p hp1=>by
   split at hp1
   ·rename_i ex;injection hp1 with hp1;subst hp1;subst ex
    exact .inl ⟨pl,hp,rfl,rfl⟩
   cases hp1)
 exact⟨K,_,hst⟩
theorem aHP {h i h' e k:Nat}{xs pre post:List (List aS)}{d0:aS}(hr:aO rs h=some (.hole e k xs i 0 h'))(hxs:xs=pre++[d0]::post)(hi:pre.length=i)(hv:mV sl rs h=true)
 (hg:nT A w0 N (mk sl rs) a w):nT A w0 N ((mk sl rs).apply none ⟨.no,[h],[(h,.arr e k true (pre++[.gone]::post))]⟩) a w:=by
 obtain⟨K,φ,hG⟩:=hg;obtain⟨pl,hp,xs1,x1,d,x2,xs2,css1,c1,v,c2,css2,Fs1,F1,F2,Fs2,e0,e1,e2,e3,h1,h2,h3,h4,h5,h6,h7,h8⟩:=hG.dom h _ hr;have ex1:x1= []:=aGC e2;subst ex1
 have epre:xs1=pre/\(([]:List aS)++d::x2)= [d0]/\xs2=post:=by
  rw[e0] at hxs;have hl:xs1.length=pre.length:=by omega
  have:=List.append_inj hxs hl;simp only[List.cons.injEq] at this;exact⟨this.1,this.2.1,this.2.2⟩
 obtain⟨rfl,er,rfl⟩:=epre;have ex2:x2= []:=by simpa using (List.cons.inj er).2
 subst ex2;unfold bU at h5 h6;obtain⟨rfl,rfl⟩:=h5;obtain⟨rfl,rfl⟩:=h6;have hcell:v.oneCell' =true:=h8.1;obtain⟨hv1,hv2⟩:=nZ hv
 have hst:=hG.stepV (C:=(· ∈[h])) (φr:=fun x=>if x=h then some pl else none) (ρ:=aN [(h,.arr e k true (xs1++[.gone]::xs2))]) (K' :=K) (w' :=w)
  ⟨rfl,rfl,rfl,aLB _,fun _ _ _=>rfl⟩
  (fun x p hp1=>by
   split at hp1
   ·injection hp1 with hp1;subst hp1
    exact⟨hG.nodup h pl hp,fun g hg=>⟨(hG.ge h pl hp g hg).2,.inr ⟨h,pl,by simp,hp,hg⟩⟩⟩
   cases hp1)
  (fun x x' p p' hne' hp1 hp2 g hg hg' =>by
   split at hp1
   ·split at hp2
    ·rename_i a b;exact hne' (a.trans b.symm)
    cases hp2
   cases hp1)
  (fun x r hr2=>by
   simp only[aN] at hr2;split at hr2
   ·rename_i ex;injection hr2 with hr2;subst hr2
    refine⟨pl,by simp[ex],css1++([]++v::[])::css2,Fs1++([]:List Nat)::Fs2,?_,h2,by rw[h3];simp,h4.append ?_⟩
    ·have:(xs1++[aS.gone]::xs2).length=xs.length:=by rw[e0];simp
     rw[this];exact h1
    unfold bE;refine⟨_,_,_,_,rfl,rfl,by rw[<-e3];simp,?_,h7⟩;unfold bU;refine⟨v,[],[],[],rfl,rfl,?_,?_⟩
    ·unfold lL;exact⟨hcell,rfl⟩
    unfold bU;exact⟨rfl,rfl⟩
   cases hr2)
  (fun x hr2=>by
   simp only[aN] at hr2;split at hr2
   ·cases hr2
   rename_i ex;rw[if_neg ex])
  (fun _ h=>h) (fun _ h=> .inl h)
  (fun t x p hm hp1=>by
   split at hp1
   ·rename_i ex;injection hp1 with hp1;subst hp1;subst ex
    exact⟨pl,hp,rfl,rfl,fun q=>absurd q (hv1 t)⟩
   cases hp1)
  (fun h2 r x p _ hr2 hm hp1=>by
   split at hp1
   ·rename_i ex;injection hp1 with hp1;subst hp1;subst ex
    exact⟨pl,hp,rfl,rfl,fun q=>absurd q (hv2 h2 r hr2)⟩
   cases hp1)
  (fun x p hp1=>by
   split at hp1
   ·rename_i ex;injection hp1 with hp1;subst hp1;subst ex
    exact .inl ⟨pl,hp,rfl,rfl⟩
   cases hp1)
 exact⟨K,_,hst⟩
theorem bE.rdRows {K:Nat->Prop}{w:World}{k:Nat}: ∀{xs:List (List aS)} {css:List (List Value)} {Fs:List (List Nat)},(∀g∈Fs.flatten,K g)->bE w k xs css Fs->cQ K w k xs css
 | [],_,_,_,h=>by unfold bE at h;exact h.1
 | x::xs,_,_,hF,h=>by
   unfold bE at h;obtain⟨c,css',F,Fs',rfl,rfl,h1,h2,h3⟩:=h;exact⟨c,css',rfl,h1,bU.rd x c F (fun g hg=>hF g (by simp[hg])) h2,bE.rdRows (fun g hg=>hF g (by simp only[aJj,aFZ];exact .inr hg)) h3⟩
theorem aIa {h e k:Nat}{xs:List (List aS)}(hr:aO rs h=some (.arr e k true xs))(hv:mV sl rs h=true)
 (hg:nT A w0 N (mk sl rs) a w):nT A w0 N ((mk sl rs).apply none ⟨.no,[h],[(h,.arr e k false xs)]⟩) a w:=by
 obtain⟨K,φ,hG⟩:=hg;obtain⟨pl,hp,css,Fs,q1,q2,q3,q4⟩:=hG.dom h _ hr;obtain⟨hv1,hv2⟩:=nZ hv
 let p1:Pl:=⟨pl.val,pl.top,[]⟩
 have hnd:=aMS.1 (hG.nodup h pl hp);have hF1: ∀g∈p1.F,g∈pl.top:=fun g hg=>by simpa [p1,Pl.F] using hg
 have hst:=hG.stepV (C:=(· ∈[h])) (φr:=fun x=>if x=h then some p1 else none) (ρ:=aN [(h,.arr e k false xs)]) (K' :=fun b=>K b\/b∈pl.sub) (w' :=w)
  ⟨rfl,rfl,rfl,aLB _,fun _ _ _=>rfl⟩
  (fun x p hp1=>by
   split at hp1
   ·injection hp1 with hp1;subst hp1
    refine⟨by simpa [p1,Pl.F] using hnd.1,fun g hg=>?_⟩;have hm:g∈pl.F:=aHk _ (hF1 g hg);exact⟨(hG.ge h pl hp g hm).2,.inr ⟨h,pl,by simp,hp,hm⟩⟩
   cases hp1)
  (fun x x' p p' hne' hp1 hp2 g hg hg' =>by
   split at hp1
   ·split at hp2
    ·rename_i a b;exact hne' (a.trans b.symm)
    cases hp2
   cases hp1)
  (fun x r hr2=>by
   simp only[aN] at hr2;split at hr2
   ·rename_i ex;injection hr2 with hr2;subst hr2
    exact⟨p1,by simp[ex],css,q1,q2,rfl,q4.rdRows fun g hg=> .inr (by rw[q3];exact hg)⟩
   cases hr2)
  (fun x hr2=>by
   simp only[aN] at hr2;split at hr2
   ·cases hr2
   rename_i ex;rw[if_neg ex])
  (fun _ hb=> .inl hb)
  (fun b hb=>by
   rcases hb with hb | hb
   ·exact .inl hb
   have hm:b∈pl.F:=aFK _ hb;refine .inr ⟨(hG.ge h pl hp b hm).2,.inr ⟨h,pl,by simp,hp,hm⟩,fun x p hp1 hb1=>?_⟩;split at hp1
   ·injection hp1 with hp1;subst hp1
    exact hnd.2.2 b (hF1 b hb1) b hb rfl
   cases hp1)
  (fun t x p hm hp1=>by
   split at hp1
   ·rename_i ex;injection hp1 with hp1;subst hp1;subst ex
    exact⟨pl,hp,rfl,rfl,fun q=>absurd q (hv1 t)⟩
   cases hp1)
  (fun h2 r x p _ hr2 hm hp1=>by
   split at hp1
   ·rename_i ex;injection hp1 with hp1;subst hp1;subst ex
    exact⟨pl,hp,rfl,rfl,fun q=>absurd q (hv2 h2 r hr2)⟩
   cases hp1)
  (fun x p hp1=>by
   split at hp1
   ·rename_i ex;injection hp1 with hp1;subst hp1;subst ex
    exact .inl ⟨pl,hp,rfl,rfl⟩
   cases hp1)
 exact⟨_,_,hst⟩
theorem aK2 {h:Nat}{r r' :Rs}(hr:aO rs h=some r)(hH: ∀K φ pl,Holds K φ w pl r->Holds K φ w pl r')(hg:nT A w0 N (mk sl rs) a w):nT A w0 N ((mk sl rs).apply none ⟨.no,[h],[(h,r')]⟩) a w:=by
 obtain⟨K,φ,hG⟩:=hg;refine⟨K,φ,fun h1 r1 h2=>?_,fun h1 h2=>?_,hG.disj,hG.nodup,hG.ge,hG.kin,hG.kout,hG.aK,hG.slots,hG.bel,hG.nd,hG.size,hG.pin⟩
 ·simp only[St.apply,St.put,cY,aN,aM3] at h2;by_cases e:h1=h
  ·subst e;simp only[if_true,Option.some.injEq] at h2;subst h2;obtain⟨pl,hp,hh⟩:=hG.dom h1 r hr;exact⟨pl,hp,hH K φ pl hh⟩
  simp only[if_neg e] at h2;exact hG.dom h1 r1 h2
 simp only[St.apply,St.put,cY,aN,aM3] at h2;by_cases e:h1=h
 ·subst e;simp at h2
 simp only[if_neg e] at h2;exact hG.non h1 h2
theorem yH {K:Nat->Prop}{φ:dW}{w:World}{e k:Nat}: ∀{cs:List AV} {vs:List Value} {off:Nat},cs[off]? =some .nil->aH K φ w cs vs->aH K φ w (cs.set off (.p none (.sl e k []))) vs
 | [],_,_,h,_=>by simp at h
 | c::cs,vs,0,h,hm=>by
   simp at h;subst h;rw[List.set_cons_zero];unfold aH at*;obtain⟨v,vs',rfl,h1,h2⟩:=hm;refine⟨v,vs',rfl,?_,h2⟩;unfold aC at*;rw[h1];exact mQ
 | c::cs,vs,off+1,h,hm=>by
   rw[List.set_cons_succ];unfold aH at*;obtain⟨v,vs',rfl,h1,h2⟩:=hm;exact⟨v,vs',rfl,h1,yH (by simpa using h) h2⟩
theorem aIb {h off e k ty:Nat}{cs:List AV}(hr:aO rs h=some (.box ty cs))(hc:cs[off]? =some .nil)(hg:nT A w0 N (mk sl rs) a w):nT A w0 N ((mk sl rs).apply none ⟨.no,[h],[(h,.box ty (cs.set off (.p none (.sl e k []))))]⟩) a w:=
 aK2 hr (fun K φ pl ⟨g,vs,q1,q2,q3,q4⟩=>⟨g,vs,q1,q2,q3,yH hc q4⟩) hg
end
theorem aIc {A:Nat->Prop}{w0:oR}{N:Nat}{sl:Sl}{rs:Rl}{a:Act}{w:World}{h ty:Nat}{cs ys:List AV}{hs:List Nat}(hr:aO rs h=some (.box ty cs))(hq:aF1 rs cs=some (ys,hs))(hnd:(h::hs).Nodup)(hg:nT A w0 N (mk sl rs) a w):nT A w0 N ((mk sl rs).apply none ⟨.no,h::hs,[(h,.box ty ys)]⟩) a w:=by
 obtain⟨K,φ,hG⟩:=hg;obtain⟨pl,hp,g,vs,q1,q2,q3,q4⟩:=hG.dom h _ hr;have hne: ∀h0∈hs,h0≠h:=fun h0 hm e=>(List.nodup_cons.1 hnd).1 (e▸hm)
 have hst:=hG.step (C:=(· ∈h::hs)) (φr:=fun x=>if x=h then some pl else none) (ρ:=aN [(h,.box ty ys)]) (K' :=fun b=>K b\/dF φ (· ∈hs) b) (w' :=w)
  ⟨rfl,rfl,rfl,aLB _,fun _ _ _=>rfl⟩
  (fun x pl' e=>by
   split at e
   ·rename_i ex;injection e with e
    subst e;subst ex;exact⟨hG.nodup _ _ hp,fun b hb=>⟨(hG.ge _ _ hp b hb).2,.inr ⟨_,_,aM1,hp,hb⟩⟩⟩
   cases e)
  (fun x x' pl1 pl2 hx e e' =>by
   split at e
   ·split at e'
    ·subst_vars;exact absurd rfl hx
    cases e'
   cases e)
  (fun x r e=>by
   simp only[aN] at e;split at e
   ·rename_i ex;injection e with e
    subst e;subst ex;exact⟨pl,by simp,g,vs,q1,q2,q3,aDC hG (fun _ hb=> .inl hb) hq (fun _ hb=> .inr hb) q4⟩
   cases e)
  (fun x e=>by
   simp only[aN] at e;split at e
   ·cases e
   rename_i ex;rw[if_neg ex])
  (fun _ hb=> .inl hb)
  (fun b hb=>by
   rcases hb with hb | hb
   ·exact .inl hb
   obtain⟨h0,pl0,hm,hp0,hb'⟩:=hb;refine .inr ⟨(hG.ge h0 pl0 hp0 b hb').2,.inr ⟨h0,pl0,aM2 _ hm,hp0,hb'⟩,fun x pl' e=>?_⟩;split at e
   ·rename_i ex;injection e with e
    subst e;subst ex;exact hG.disj h0 x pl0 pl (hne h0 hm) hp0 hp b hb'
   cases e)
  (fun _ x pl' _ e=>by
   split at e
   ·rename_i ex;injection e with e
    subst e;subst ex;exact⟨hp,fun _ _=>rfl⟩
   cases e)
  (fun _ _ x pl' _ _ _ e=>by
   split at e
   ·rename_i ex;injection e with e
    subst e;subst ex;exact⟨hp,fun _ _=>rfl⟩
   cases e)
  (fun x pl' e=>by
   split at e
   ·rename_i ex;injection e with e
    subst e;subst ex;exact .inl hp
   cases e)
 exact⟨_,_,hst⟩
def gh1 (id:Nat)(sl:Sl)(rs:Rl)(t:T)(K:Rl->T->Prop):Prop:=match t with
 | .split rid h i j h' α enc l t=>(match Nat.beq rid id with
  | false=>K [] (.split rid h i j h' α enc l t)
  | true=>(match aO rs h with
   | some (.arr e k true xs)=>(match dL sl rs h' &&mV sl rs h with
     | true=>xs=l.map enc/\i<l.length/\ ∀x,l[i]? =some x->(match (enc x)[j]? with
       | some (.sl e' k' ys)=>K (iK [(h,.hole e k (l.map enc) i j h'),(h',.arr e' k' true ys)]++fC [h]) (t x)
       | _=>False)
     | false=>False)
   | _=>False))
 | .join rid h h' α enc l y t=>(match Nat.beq rid id with
  | false=>K [] (.join rid h h' α enc l y t)
  | true=>(match aO rs h with
   | some (.hole e k xs i j h2)=>(match aO rs h' with
     | some (.arr e' k' true ys)=>(match Nat.beq h2 h' &&mV sl rs h with
       | true=>xs=l.map enc/\i<l.length/\ ∀x,l[i]? =some x->(enc x).take j++ .sl e' k' ys::(enc x).drop (j+1)=enc (y x)/\K (iK [(h,.arr e k true ((l.set i (y x)).map enc))]++fC [h,h']) (t x)
       | false=>False)
     | _=>False)
   | _=>False))
 | .takeg rid h n h' α enc l t=>(match Nat.beq rid id with
  | false=>K [] (.takeg rid h n h' α enc l t)
  | true=>(match aO rs h with
   | some (.arr e k true xs)=>(match dL sl rs h' &&mV sl rs h with
     | true=>xs=List.replicate n [.gone]++l.map enc/\l≠[]/\ ∀x l',l=x::l' ->(match enc x with
       | .sl e' k' ys::[]=>K (iK [(h,.hole e k (List.replicate n [.gone]++(x::l').map enc) n 0 h'),(h',.arr e' k' true ys)]++fC [h]) (t x l')
       | _=>False)
     | false=>False)
   | _=>False))
 | .leave rid h n h' α enc x l t=>(match Nat.beq rid id with
  | false=>K [] (.leave rid h n h' α enc x l t)
  | true=>(match aO rs h with
   | some (.hole e k xs i j h2)=>(match Nat.beq j 0&&mV sl rs h with
     | true=>(match enc x with
       | _::[]=>xs=List.replicate n [.gone]++(x::l).map enc/\i=n/\K (iK [(h,.arr e k true (List.replicate (n+1) [.gone]++l.map enc))]++fC [h]) t
       | _=>False)
     | false=>False)
   | _=>False))
 | .shal rid h t=>(match Nat.beq rid id with
  | false=>K [] (.shal rid h t)
  | true=>(match aO rs h with
   | some (.arr e k true xs)=>(match mV sl rs h with
     | true=>K (iK [(h,.arr e k false xs)]++fC [h]) t
     | false=>False)
   | _=>False))
 | .nilt rid h off e k t=>(match Nat.beq rid id with
  | false=>K [] (.nilt rid h off e k t)
  | true=>(match aO rs h with
   | some (.box ty cs)=>(match cs[off]? with
     | some .nil=>K (iK [(h,.box ty (cs.set off (.p none (.sl e k []))))]++fC [h]) t
     | _=>False)
   | _=>False))
 | .stlb rid h t=>(match Nat.beq rid id with
  | false=>K [] (.stlb rid h t)
  | true=>(match aO rs h with
   | some (.box ty cs)=>(match aF1 rs cs with
     | some q=>(match gE (h::q.2) with
       | true=>K (iK [(h,.box ty q.1)]++fC (h::q.2)) t
       | false=>False)
     | none=>False)
   | _=>False))
 | t=>K [] t
theorem aA5 {α β:Type}(f:α->β)(l:List α)(i:Nat)(x:α):(l.set i x).map f=(l.map f).set i (f x):=by rw[List.map_set]
theorem aId {id:Nat}{sl:Sl}{rs:Rl}{t:T}{K:Rl->T->Prop}(h:gh1 id sl rs t K): ∃new t',(∀A w0 N a w,nT A w0 N (mk sl rs) a w->nT A w0 N (mk sl (new++rs)) a w)/\K new t' :=by
 unfold gh1 at h;split at h
 ·rename_i rid h0 i j h' α enc l t';split at h
  ·exact⟨[],_,fun _ _ _ _ _ h=>h,h⟩
  split at h
  ·rename_i e k xs hr;split at h
   ·rename_i hb;rw[aBT] at hb;obtain⟨rfl,hi,h⟩:=h;have hx:=aCp hi;have h:=h _ hx;split at h
    ·rename_i e' k' ys hj;refine⟨_,_,fun A w0 N a w hg=>?_,h⟩;have:=aCL hr (xC hx) hj (cW hb.1) hb.2 hg;rw[eY] at this;rw[aHv];exact this
    cases h
   cases h
  cases h
 ·rename_i rid h0 h' α enc l y t';split at h
  ·exact⟨[],_,fun _ _ _ _ _ h=>h,h⟩
  split at h
  ·rename_i e k xs i j h2 hr;split at h
   ·rename_i e' k' ys hr';split at h
    ·rename_i hb;rw[aBT] at hb;have:=aD8 hb.1;subst this;obtain⟨rfl,hi,h⟩:=h;have hx:=aCp hi;obtain⟨h3,h4⟩:=h _ hx;refine⟨_,_,fun A w0 N a w hg=>?_,h4⟩;have:=aI9 hr hr' (xC hx) hb.2 hg;rw[eY,h3,<-aA5] at this;rw[aHv];exact this
    cases h
   cases h
  cases h
 ·rename_i rid h0 n h' α enc l t';split at h
  ·exact⟨[],_,fun _ _ _ _ _ h=>h,h⟩
  split at h
  ·rename_i e k xs hr;split at h
   ·rename_i hb;rw[aBT] at hb;obtain⟨rfl,hne,h⟩:=h;cases l with
    | nil=>exact absurd rfl hne
    | cons x l' =>
      have h:=h x l' rfl;split at h
      ·rename_i e' k' ys hj;refine⟨_,_,fun A w0 N a w hg=>?_,h⟩
       have hx:(List.replicate n [aS.gone]++(x::l').map enc)[n]? =some (enc x):=by
        rw[aHx (by simp)];simp
       have:=aCL (j:=0) hr hx (by rw[hj];rfl) (cW hb.1) hb.2 hg;rw[eY] at this;rw[aHv];exact this
      cases h
   cases h
  cases h
 ·rename_i rid h0 n h' α enc x l t';split at h
  ·exact⟨[],_,fun _ _ _ _ _ h=>h,h⟩
  split at h
  ·rename_i e k xs i j h2 hr;split at h
   ·rename_i hb;simp only[aBT] at hb;have:=aD8 hb.1;subst this;split at h
    ·rename_i d0 hd;obtain⟨rfl,rfl,h4⟩:=h;refine⟨_,_,fun A w0 N a w hg=>?_,h4⟩;have:=aHP (pre:=List.replicate i [aS.gone]) (post:=l.map enc) (d0:=d0) hr (by rw[aHl,hd]) (by simp) hb.2 hg;rw[eY] at this;rw[aHv]
     have e2:List.replicate (i+1) [aS.gone]++l.map enc=List.replicate i [aS.gone]++[aS.gone]::l.map enc:=by
      rw[List.replicate_succ',aHv];rfl
     rw[e2];exact this
    cases h
   cases h
  cases h
 ·rename_i rid h0 t';split at h
  ·exact⟨[],_,fun _ _ _ _ _ h=>h,h⟩
  split at h
  ·rename_i e k xs hr;split at h
   ·rename_i hb;refine⟨_,_,fun A w0 N a w hg=>?_,h⟩;have:=aIa hr hb hg;rw[eY] at this;rw[aHv];exact this
   cases h
  cases h
 ·rename_i rid h0 off e k t';split at h
  ·exact⟨[],_,fun _ _ _ _ _ h=>h,h⟩
  split at h
  ·rename_i ty cs hr;split at h
   ·rename_i hc;refine⟨_,_,fun A w0 N a w hg=>?_,h⟩;have:=aIb (e:=e) (k:=k) hr hc hg;rw[eY] at this;rw[aHv];exact this
   cases h
  cases h
 ·rename_i rid h0 t';split at h
  ·exact⟨[],_,fun _ _ _ _ _ h=>h,h⟩
  split at h
  ·rename_i ty cs hr;split at h
   ·rename_i q hq;split at h
    ·rename_i hn;refine⟨_,_,fun A w0 N a w hg=>?_,h⟩;have:=aIc hr (ys:=q.1) (hs:=q.2) (by rw[hq]) (iS hn) hg;rw[eY] at this;rw[aHv];exact this
    cases h
   cases h
  cases h
 exact⟨[],t,fun _ _ _ _ _ h=>h,h⟩
theorem G.reput {K:Nat->Prop}{φ:dW}{A:Nat->Prop}{w0:oR}{N:Nat}{S:St}{a:Act}{w:World}(hG:G K φ A w0 N S a w){d:Nat}{x:AV}(hx:aC K φ w x (a.tmps.getD d undef)):G K φ A w0 N (S.put (some d) x) a w:=by
 refine⟨hG.dom,hG.non,hG.disj,hG.nodup,hG.ge,hG.kin,hG.kout,hG.aK,fun t=>?_,hG.bel,hG.nd,hG.size,hG.pin⟩;simp only[St.put,upd];by_cases e:t=d
 ·subst e;rw[if_pos rfl];exact hx
 rw[if_neg e];exact hG.slots t
theorem aIe {A:Nat->Prop}{w0:oR}{N:Nat}{sl:Sl}{rs:Rl}{a:Act}{w:World}{d:Nat}{y:AV}{hs:List Nat}(h:aHG rs (aY sl d)=some (y,hs))(hg:nT A w0 N (mk sl rs) a w):nT A w0 N (mk ((d,y)::sl) (fC hs++rs)) a w:=by
 obtain⟨K,φ,hG⟩:=hg
 have hst:=hG.step (C:=(· ∈hs)) (φr:=fun _=>none) (ρ:=aN []) (K' :=fun b=>K b\/dF φ (· ∈hs) b) (w' :=w)
  ⟨rfl,rfl,rfl,aLB _,fun _ _ _=>rfl⟩
  (fun _ _ hp=>by cases hp) (fun _ _ _ _ _ hp=>by cases hp) (fun _ _ hp=>by simp[aN] at hp) (fun _ _=>rfl) (fun _ hb=> .inl hb)
  (fun b hb=>by
   rcases hb with hb | hb
   ·exact .inl hb
   refine .inr ⟨?_,.inr hb,fun _ _ hp=>by cases hp⟩;obtain⟨h0,pl,_,hp,hb'⟩:=hb;exact(hG.ge h0 pl hp b hb').2)
  (fun _ _ _ _ hp=>by cases hp) (fun _ _ _ _ _ _ _ hp=>by cases hp) (fun _ _ hp=>by cases hp)
 have hmv:aC (fun b=>K b\/dF φ (· ∈hs) b) (bO (· ∈hs) (fun _=>none) φ) w y (a.tmps.getD d undef):=aGP hG h (fun _ hb=> .inl hb) (fun _ hb=> .inr hb) (hG.slots d);have h2:=hst.reput hmv;have e:=aDs sl rs d y hs [];have h3:G (fun b=>K b\/dF φ (· ∈hs) b) (bO (· ∈hs) (fun _=>none) φ) A w0 N ((mk sl rs).apply (some d) ⟨y,hs,[]⟩) a w:=h2;rw[e] at h3;exact⟨_,_,h3⟩
def gsW (id:Nat)(sl:Sl)(rs:Rl)(t:T)(K:Sl->Rl->T->Prop):Prop:=match t with
 | .stls rid d t=>(match Nat.beq rid id with
   | false=>K [] [] (.stls rid d t)
   | true=>(match aHG rs (aY sl d) with | some q=>K [(d,q.1)] (fC q.2) t | none=>False))
 | t=>K [] [] t
theorem aMB {id:Nat}{sl:Sl}{rs:Rl}{t:T}{K:Sl->Rl->T->Prop}(h:gsW id sl rs t K): ∃n1 n2 t',(∀A w0 N a w,nT A w0 N (mk sl rs) a w->nT A w0 N (mk (n1++sl) (n2++rs)) a w)/\K n1 n2 t' :=by
 unfold gsW at h;split at h
 ·split at h
  ·exact⟨[],[],_,fun _ _ _ _ _ h=>h,h⟩
  split at h
  ·rename_i q hq;exact⟨_,_,_,fun A w0 N a w hg=>aIe hq hg,h⟩
  cases h
 exact⟨[],[],_,fun _ _ _ _ _ h=>h,h⟩
def ghW (id:Nat)(sl:Sl)(rs:Rl)(t:T)(K:Rl->T->Prop):Prop:=gh1 id sl rs t fun n1 t=>gh1 id sl (n1++rs) t fun n2 t=>K (n2++n1) t
theorem aMC {id:Nat}{sl:Sl}{rs:Rl}{t:T}{K:Rl->T->Prop}(h:ghW id sl rs t K): ∃new t',(∀A w0 N a w,nT A w0 N (mk sl rs) a w->nT A w0 N (mk sl (new++rs)) a w)/\K new t' :=by
 unfold ghW at h;obtain⟨n1,t1,h1,h⟩:=aId h;obtain⟨n2,t2,h2,h⟩:=aId h;exact⟨n2++n1,t2,fun A w0 N a w hg=>by rw[aHv];exact h2 A w0 N a w (h1 A w0 N a w hg),h⟩
section
variable {sl:Sl} {rs:Rl} {P:Program}
theorem aGR {α:Type}{l1 l2:List α}{x y:α}{i:Nat}(h:l1.length=i):(l1++x::l2).set i y=l1++y::l2:=by
 rw[List.set_append_right _ _ (by omega)];simp[h]
theorem aF7 {o:Oper}{x y:Operand}{t:TypeId}{ag:Bool}{n bt off:Nat}{z:Value}{h e k i:Nat}{xs:List (List aS)}{row ys:List aS}{hs:List Nat}(ho:o.op= .store t x y)(ht:dH P t=some (ag,n,bt,z))(hx:bX sl x= .ep h k i off)
 (hh:aO rs h=some (.arr e k true xs)) (hr:xs[i]? =some row) (hc1:iA (mk sl rs) (bX sl y)) (hm:mP (mk sl rs) (cM (bX sl y)) ys hs) (hn:ys.length=n) (hl:off+n<=row.length) (hnd:(h::hs).Nodup) (hv:mV sl rs h=true):
 nF P o (mk sl rs) ⟨.no,h::hs,[(h,.arr e k true (xs.set i (row.take off++ys++row.drop (off+n))))]⟩:=by
 intro K φ A w0 N a w Q hd hG;have hev:=hG.ev y;rw[bA] at hev;obtain⟨hml,hone⟩:=gV hG hc1 hev;have hn2:=List.nodup_cons.1 hnd;obtain⟨F,r1,r2,r3⟩:=jT hG hm hn2.2 hml;obtain⟨pl,hp,css,Fs,q1,q2,q3,q4⟩:=hG.dom h _ hh;obtain⟨xs1,xs2,css1,c,css2,Fs1,F0,Fs2,e1,e2,e3,e4,s1,s2,s3,s4⟩:=q4.split hr
 have er:row=row.take off++((row.drop off).take n++row.drop (off+n)):=by
  rw[show row.drop (off+n)=(row.drop off).drop n by rw[List.drop_drop],List.take_append_drop,List.take_append_drop]
 rw[er] at s3;obtain⟨ca,c',Fa,F',rfl,rfl,t1,t2⟩:=s3.split;obtain⟨cb,cc,Fb,Fc,rfl,rfl,t3,t4⟩:=t2.split;have la:=t1.len;have lb:=t3.len;have lc:=t4.len;have lu:=r1.len;simp only[aM4,aMc] at la lb lc;have a1:ca.length=off:=by omega
 have a2:cb.length=n:=by omega
 have a3:(a.eval y).cells.toList.length=n:=by omega
 have a5:css1.length=i:=by have:=s1.len.1;omega
 have a6:(row.take off++(ys++row.drop (off+n))).length=k:=by simp;omega
 have a7:off+n<=(ca++(cb++cc)).length:=by simp;omega
 obtain⟨b,cap,hvl,_,_,hb⟩:=eB q1;have hi:i<xs.length:=(aEA.1 hr).1;obtain⟨g,rfl,_,_⟩:=hb (by omega);have h2:=hG.ev x;rw[bA,hx] at h2;unfold aC at h2;obtain⟨g',hg',he⟩:=h2 pl hp;have htop:pl.top= [g]:=by rw[q2,hvl];rfl
 rw[htop] at hg';simp only[List.cons.injEq,and_true] at hg';subst hg';generalize hus:(a.eval y).cells.toList=us at*
 have hlt:i*k+off+us.length<=xs.length*k:=by
  have:(i+1)*k<=xs.length*k:=Nat.mul_le_mul_right k (by omega);rw[Nat.add_mul] at this;omega
 have q1' :=q1;rw[hvl] at q1';have hrun:=fE (P:=P) (o0:=i*k+off) us 0 w _ q1' (by omega) hone;have hsz:=(dK ht w).2.1;unfold Oper.wp
 have hex:(execOp a.eval o).run P w= .ok .skip (setCells w g (i*k+off+0) us):=by
  have hsize:(a.eval y).cells.size=n:=by rw[<-aMw,hus];omega
  simp only[execOp,ho,he,Instr.storeAt,Instr.sureAddr,storeVar,Sem.run_bind,Sem.run_pure,Result.andThen_ok,hsz,hsize,ne_eq,not_true_eq_false,if_false,hus,hrun]
 rw[hex,Oper.upon_skip,Nat.add_zero];have hchg:pK (· ∈[g]) w (setCells w g (i*k+off) us):=oS us;have hgF:g∈pl.F:=by unfold Pl.F;rw[htop];simp
 have hglt:=(hG.ge h pl hp g hgF).2;have hsub:pl.sub=Fs1.flatten++((Fa++(Fb++Fc))++Fs2.flatten):=by rw[q3,e3];simp
 have hnd0:=hG.nodup h pl hp;unfold Pl.F at hnd0;rw[htop,hsub] at hnd0;have hgn:=(List.nodup_cons.1 hnd0).1;have hnd1:=(List.nodup_cons.1 hnd0).2;have hsubF: ∀q,q∈pl.sub->q∈pl.F:=fun q hq=>aFK _ hq;have hkeep: ∀(L:List Nat),(∀q∈L,q<w.heap.size/\q≠g)->eC L w (setCells w g (i*k+off) us):=fun L hL q hq=>hchg.block q (hL q hq).1 (by simpa using (hL q hq).2);have hin: ∀q,q∈Fs1.flatten++((Fa++(Fb++Fc))++Fs2.flatten)->q<w.heap.size/\q≠g:=fun q hq=>⟨(hG.ge h pl hp q (hsubF q (by rw[hsub];exact hq))).2,fun eq=>by subst eq;exact hgn hq⟩
 have hF: ∀q∈F,¬q∈pl.F:=fun q hq hq' =>by
  obtain⟨h3,pl3,m3,p3,b3⟩:=r3 q hq;exact hG.disj h3 h pl3 pl (fun eq=>by subst eq;exact hn2.1 m3) p3 hp q b3 hq'
 have hFl: ∀q∈F,q<w.heap.size/\q≠g:=fun q hq=>by
  obtain⟨h3,pl3,m3,p3,b3⟩:=r3 q hq;exact⟨(hG.ge h3 pl3 p3 q b3).2,fun eq=>by subst eq;exact hF q hq hgF⟩
 let p1:Pl:=⟨pl.val,pl.top,Fs1.flatten++((Fa++(F++Fc))++Fs2.flatten)⟩
 have hmem: ∀q,q∈p1.F->q∈pl.F\/q∈F:=fun q hq=>by
  simp only[p1,Pl.F,aFZ] at hq;unfold Pl.F;rw[hsub];simp only[aFZ];rcases hq with q | q | (q | q | q) | q
  ·exact .inl (.inl q)
  ·exact .inl (.inr (.inl q))
  ·exact .inl (.inr (.inr (.inl (.inl q))))
  ·exact .inr q
  ·exact .inl (.inr (.inr (.inl (.inr (.inr q)))))
  exact .inl (.inr (.inr (.inr q)))
 have hnd2:p1.F.Nodup:=by
  have hperm:p1.F.Perm ((pl.top++(Fs1.flatten++((Fa++Fc)++Fs2.flatten)))++F):=by
   simp only[p1,Pl.F];refine(List.perm_iff_count).2 fun x=>?_;simp only[List.count_append];omega
  refine hperm.nodup_iff.2 ?_;rw[aMS]
  have hsl:(pl.top++(Fs1.flatten++((Fa++Fc)++Fs2.flatten))).Sublist pl.F:=by
   unfold Pl.F;rw[hsub];refine List.Sublist.append (List.Sublist.refl _) (List.Sublist.append (List.Sublist.refl _) (List.Sublist.append (List.Sublist.append (List.Sublist.refl _) (List.sublist_append_right _ _)) (List.Sublist.refl _)))
  exact⟨hsl.nodup (hG.nodup h pl hp),r2,fun q hq q' hq' eq=>by subst eq;exact hF q hq' (hsl.subset hq)⟩
 obtain⟨hv1,hv2⟩:=nZ hv
 have hcs:css[i]? =some (ca++(cb++cc)):=by
  rw[e2,aHx (by rw[a5];exact aLB _)];simp[a5]
 have hown:=gG us (o:=i*k+off) q1';rw[nS us css i off _ q4.len.2 hcs (by omega),uT (by rw[a3];exact a7)] at hown
 have hst:=hG.stepV (C:=(· ∈h::hs)) (φr:=fun x=>if x=h then some p1 else none) (ρ:=aN [(h,.arr e k true (xs.set i (row.take off++ys++row.drop (off+n))))]) (K' :=K) (w' :=setCells w g (i*k+off) us)
  (hchg.mono fun b hb=>⟨h,pl,by simp,hp,by simp at hb;subst hb;exact hgF⟩)
  (fun x p hp1=>by
   split at hp1
   ·injection hp1 with hp1;subst hp1
    refine⟨hnd2,fun q hq=>?_⟩;rcases hmem q hq with hq | hq
    ·exact⟨aLG (hG.ge h pl hp q hq).2 hchg.size,.inr ⟨h,pl,by simp,hp,hq⟩⟩
    obtain⟨h3,pl3,m3,p3,b3⟩:=r3 q hq;exact⟨aLG (hFl q hq).1 hchg.size,.inr ⟨h3,pl3,aM2 _ m3,p3,b3⟩⟩
   cases hp1)
  (fun x x' p p' hne' hp1 hp2 g hg hg' =>by
   split at hp1
   ·split at hp2
    ·rename_i a b;exact hne' (a.trans b.symm)
    cases hp2
   cases hp1)
  (fun x r hr2=>by
   simp only[aN] at hr2;split at hr2
   ·rename_i ex;injection hr2 with hr2;subst hr2
    have exs:xs.set i (row.take off++ys++row.drop (off+n))=xs1++(row.take off++(ys++row.drop (off+n)))::xs2:=by rw[e1,aGR e4];simp
    rw[exs];refine⟨p1,by simp[ex],css1++(ca++(us++cc))::css2,Fs1++(Fa++(F++Fc))::Fs2,?_,q2,by simp[p1],(bE.kept _ _ _ _ (hkeep _ fun q hq=>hin q (by simp only[aFZ];exact .inl hq)) s1).append ?_⟩
    ·have l2:(xs1++(row.take off++(ys++row.drop (off+n)))::xs2).length=xs.length:=by rw[e1];simp
     have l3:css.set i ((ca++(cb++cc)).take off++us++(ca++(cb++cc)).drop (off+us.length))=css1++(ca++(us++cc))::css2:=by
      rw[e2,aGR a5]
      congr 2
      have a8:off+us.length=(ca++cb).length:=by rw[aJw,a1,a2,a3]
      rw[a8,<-aHv ca cb cc,List.drop_left,aHv ca cb cc,<-a1,List.take_left,aHv]
     rw[l2];show (setCells w g (i*k+off) us).ownsRow 0 e k pl.val xs.length _;rw[hvl,<-l3];exact hown
    unfold bE;refine⟨_,_,_,_,rfl,rfl,a6,(bU.kept _ _ _ (hkeep _ fun q hq=>hin q (by simp only[aFZ];exact .inr (.inl (.inl hq)))) t1).join ((bU.kept _ _ _ (hkeep _ hFl) r1).join (bU.kept _ _ _ (hkeep _ fun q hq=>hin q (by simp only[aFZ];exact .inr (.inl (.inr (.inr hq))))) t4)),bE.kept _ _ _ _ (hkeep _ fun q hq=>hin q (by simp only[aFZ];exact .inr (.inr hq))) s4⟩
   cases hr2)
  (fun x hr2=>by
   simp only[aN] at hr2;split at hr2
   ·cases hr2
   rename_i ex;rw[if_neg ex])
  (fun _ h=>h) (fun _ h=> .inl h)
  (fun t x p hm hp1=>by
   split at hp1
   ·rename_i ex;injection hp1 with hp1;subst hp1;subst ex
    exact⟨pl,hp,rfl,rfl,fun q=>absurd q (hv1 t)⟩
   cases hp1)
  (fun h9 r x p _ hr2 hm hp1=>by
   split at hp1
   ·rename_i ex;injection hp1 with hp1;subst hp1;subst ex
    exact⟨pl,hp,rfl,rfl,fun q=>absurd q (hv2 h9 r hr2)⟩
   cases hp1)
  (fun x p hp1=>by
   split at hp1
   ·rename_i ex;injection hp1 with hp1;subst hp1;subst ex
    exact .inl ⟨pl,hp,rfl,rfl⟩
   cases hp1)
 exact⟨K,_,_,rfl,hst.put hd (by unfold aC;trivial)⟩
end
def aIf (tb:Tb)(sl:Sl)(rs:Rl)(ty:TypeId)(x y:AV)(t:T)(K:AV->List Nat->List (Nat × Rs)->T->Prop):Prop:=match bM tb.ty ty with
 | some (_,n,_,_)=>(match x with
   | .ep h k i off=>(match aO rs h with
     | some (.arr e k' true xs)=>(match Nat.beq k k' &&nI rs y&&mV sl rs h&&gE (h::qD (cM y))&&Nat.beq (cM y).length n with
       | true=>(match t with
         | .setm _ enc l f t=>xs=l.map enc/\i<l.length/\ ∀x,l[i]? =some x->off+n<=(enc x).length/\(enc x).take off++((enc (f x)).drop off).take n++(enc x).drop (off+n)=enc (f x)/\sV rs (cM y) (((enc (f x)).drop off).take n) (K .no (h::qD (cM y)) [(h,.arr e k true ((l.set i (f x)).map enc))] (t x))
         | _=>False)
       | false=>False)
     | _=>False)
   | _=>False)
 | none=>False
theorem aCM {S:St}: ∀{cs:List AV} {row:List aS} {hs:List Nat},mP S cs row hs->row.length=cs.length
 | [],row,hs,h=>by unfold mP at h;rw[h.1];rfl
 | c::cs,row,hs,h=>by
   unfold mP at h;obtain⟨x,row',h1,h2,rfl,rfl,_,h3⟩:=h;simp[aCM h3]
theorem aIg {P:Program}{tb:Tb}{sl:Sl}{rs:Rl}{o:Oper}{ty:TypeId}{x y:Operand}{t:T}{K:AV->List Nat->List (Nat × Rs)->T->Prop}(hT:fQ P tb)(ho:o.op= .store ty x y)(h:aIf tb sl rs ty (bX sl x) (bX sl y) t K): ∃v del new t',nF P o (mk sl rs) ⟨v,del,new⟩/\K v del new t' :=by
 unfold aIf at h;split at h
 ·rename_i ag n bt z hq;have hq:=bP hT.ty hq;split at h
  ·rename_i h0 k i off hx;split at h
   ·rename_i e k' xs hr;split at h
    ·rename_i hb;simp only[aBT] at hb;obtain⟨⟨⟨⟨b1,b2⟩,b3⟩,b4⟩,b5⟩:=hb;have b1:=aD8 b1;subst b1;split at h
     ·rename_i enc l f t';obtain⟨rfl,hi,h⟩:=h;have hx' :=aCp hi;obtain⟨h1,h2,h3⟩:=h _ hx';obtain⟨h4,h5⟩:=gL (sl:=sl) h3;have hs:=aF7 (P:=P) (o:=o) ho hq hx hr (xC hx') (qE b2) h4 ((aCM h4).trans (aD8 b5)) h1 (iS b4) b3;rw[h2,<-aA5] at hs;exact⟨_,_,_,_,hs,h5⟩
     cases h
    cases h
   cases h
  cases h
 cases h
def roP:List AV->List aS->Prop->Prop
 | [],row,K=>(match row with | []=>K | _=>False)
 | c::cs,row,K=>(match row with
   | []=>False
   | x::row=>(match c with
     | .p none y=>EqD y x/\roP cs row K
     | .nil=>(match x with | .sl _ _ ys=>ys= []/\roP cs row K | _=>False)
     | _=>False))
theorem aF8 {K:Prop}: ∀{cs:List AV} {row:List aS},roP cs row K->RoC cs row/\row.length=cs.length/\K
 | [],row,h=>by
   unfold roP at h;split at h
   ·exact⟨by unfold RoC;rfl,rfl,h⟩
   cases h
 | c::cs,row,h=>by
   unfold roP at h;split at h
   ·cases h
   split at h
   ·obtain⟨h1,h2⟩:=h;obtain⟨q1,q2,q3⟩:=aF8 h2;exact⟨by unfold RoC;exact⟨_,by rw[h1.eq],q1⟩,by simp[q2],q3⟩
   ·split at h
    ·obtain⟨rfl,h2⟩:=h;obtain⟨q1,q2,q3⟩:=aF8 h2;exact⟨by unfold RoC;exact⟨_,_,_,rfl,q1⟩,by simp[q2],q3⟩
    cases h
   cases h
def aGS (tb:Tb)(rs:Rl)(ty:TypeId)(x y:AV)(t:T)(K:AV->List Nat->List (Nat × Rs)->T->Prop):Prop:=match bM tb.ty ty with
 | some (_,n,_,_)=>(match x with
   | .ep h k i off=>(match aO rs h with
     | some (.arr e k' false xs)=>(match Nat.beq k k' &&nI rs y&&Nat.beq (cM y).length n with
       | true=>(match t with
         | .setr _ enc l f t=>xs=l.map enc/\i<l.length/\ ∀x,l[i]? =some x->off+n<=(enc x).length/\(enc x).take off++((enc (f x)).drop off).take n++(enc x).drop (off+n)=enc (f x)/\roP (cM y) (((enc (f x)).drop off).take n) (K .no [h] [(h,.arr e k false ((l.set i (f x)).map enc))] (t x))
         | _=>False)
       | false=>False)
     | _=>False)
   | _=>False)
 | none=>False
theorem aEP {P:Program}{tb:Tb}{sl:Sl}{rs:Rl}{o:Oper}{ty:TypeId}{x y:Operand}{t:T}{K:AV->List Nat->List (Nat × Rs)->T->Prop}(hT:fQ P tb)(ho:o.op= .store ty x y)(h:aGS tb rs ty (bX sl x) (bX sl y) t K): ∃v del new t',aQ P o (mk sl rs) ⟨v,del,new⟩/\K v del new t' :=by
 unfold aGS at h;split at h
 ·rename_i ag n bt z hq;have hq:=bP hT.ty hq;split at h
  ·rename_i h0 k i off hx;split at h
   ·rename_i e k' xs hr;split at h
    ·rename_i hb;simp only[aBT] at hb;obtain⟨⟨b1,b2⟩,b5⟩:=hb;have b1:=aD8 b1;subst b1;split at h
     ·rename_i enc l f t';obtain⟨rfl,hi,h⟩:=h;have hx' :=aCp hi;obtain⟨h1,h2,h3⟩:=h _ hx';obtain⟨h4,h5,h6⟩:=aF8 h3;have hs:=aAD (P:=P) (o:=o) (S:=mk sl rs) ho hq (by rw[bA];exact hx) hr (xC hx') (by rw[bA];exact qE b2) (by rw[bA];exact h4) (h5.trans (aD8 b5)) h1;rw[h2,<-aA5] at hs;exact⟨_,_,_,_,hs,h6⟩
     cases h
    cases h
   cases h
  cases h
 cases h
def aK3 (N:Nat):Option Nat->Bool
 | none=>true
 | some d=>Nat.blt d N
theorem aGT {N:Nat}: ∀{o:Option Nat},aK3 N o=true-> ∀d,o=some d->d<N
 | some d,h,_,rfl=>by simpa [aK3,Nat.blt_eq] using h
def brW (b:Bool)(t:T)(K:Bool->T->Prop):Prop:=match t with
 | .br t1 t2=>(b=true->K true t1)/\(b=false->K false t2)
 | .lit t=>(match b with | true=>K true t | false=>K false t)
 | .yes t=>b=true/\K true t
 | .no t=>b=false/\K false t
 | t=>(match b with | true=>K true t | false=>K false t)
theorem aF9 {b:Bool}{t:T}{K:Bool->T->Prop}(h:brW b t K): ∃t',K b t' :=by
 unfold brW at h;split at h
 ·cases b with
  | true=>exact⟨_,h.1 rfl⟩
  | false=>exact⟨_,h.2 rfl⟩
 ·cases b with
  | true=>exact⟨_,h⟩
  | false=>exact⟨_,h⟩
 ·obtain⟨rfl,h⟩:=h;exact⟨_,h⟩
 ·obtain⟨rfl,h⟩:=h;exact⟨_,h⟩
 cases b with
 | true=>exact⟨_,h⟩
 | false=>exact⟨_,h⟩
def iE (pre:Sl)(s:Option Nat)(b:Bool):Sl:=match s with | some s=>(s,vB b)::pre | none=>pre
def gdW (N:Nat)(all:List Oper)(sl:Sl)(j:Nat)(want:Bool)(t:T)(K:Option Nat->Bool->T->Prop):Prop:=match all[j]? with
 | some o=>(match o.dst with
   | some dj=>(match Nat.blt dj N with
     | true=>(match aY sl dj with
       | .p none (.bool b)=>brW b t (fun b t=>K (some dj) b t)
       | .tup []=>K none (!want) t
       | _=>False)
     | false=>False)
   | none=>False)
 | none=>False
theorem aA6 {sl:Sl}{d:Nat}{v:AV}(h:aY sl d=v):aY ((d,v)::sl)=aY sl:=by
 funext t;simp only[aY];split
 ·rename_i e;rw[e,h]
 rfl
theorem aK4 {sl:Sl}{rs:Rl}{d:Nat}{v:AV}(h:aY sl d=v):mk ((d,v)::sl) rs=mk sl rs:=by
 unfold mk;rw[aA6 h]
theorem aIh {N:Nat}{all:List Oper}{sl:Sl}{j:Nat}{want:Bool}{t:T}{K:Option Nat->Bool->T->Prop}(h:gdW N all sl j want t K): ∃dj y b s t',(all.toArray[j]?).bind (·.dst)=some dj/\dj<N/\gvA (aY sl dj)=some y/\(b==want)=(y==some want)/\aY (iE sl s b)=aY sl/\K s b t' :=by
 unfold gdW at h;split at h
 ·rename_i o ho;split at h
  ·rename_i dj hd;split at h
   ·rename_i hN;split at h
    ·rename_i b hb;obtain⟨t',h⟩:=aF9 h;exact⟨dj,some b,b,some dj,t',by simp[ho,hd],by simpa [Nat.blt_eq] using hN,aHw hb,rfl,aA6 hb,h⟩
    ·rename_i hb;exact⟨dj,none,!want,none,t,by simp[ho,hd],by simpa [Nat.blt_eq] using hN,by rw[hb];rfl,by cases want<;>rfl,rfl,h⟩
    cases h
   cases h
  cases h
 cases h
theorem iT (pre bs:Sl)(s:Option Nat)(b:Bool):iE (pre++bs) s b=iE pre s b++bs:=by cases s<;>rfl
theorem kA (pre bs:Sl)(d:Option Nat)(v:AV):jW pre d v++bs=jW (pre++bs) d v:=by cases d<;>rfl
def aGU (tb:Tb)(sl:Sl)(rs:Rl)(dst:Option Nat)(o:Op):Option (AV × Rl):=match dst with
 | some _=>(match o with
   | .fieldAddr s (.tmp t) f=>(match aY sl t with
     | .ptr h o' =>(match bM tb.fl s with | some l=>(match bM l f with | some q=>some (.ptr h (o' +q.1),[]) | none=>none) | none=>none)
     | _=>none)
   | .load ty (.tmp t)=>(match aY sl t with
     | .ptr h off=>(match Nat.beq h 99 with
       | true=>none
       | false=>(match aO rs h with
         | some (.box bt cs)=>(match bM tb.ty ty with
           | some (ag,n,_,_)=>(match ag with
             | true=>(match Nat.ble (off+n) cs.length with | true=>some (.agg ((cs.drop off).take n),[(h,some (.box bt cs))]) | false=>none)
             | false=>(match cs[off]? with | some v=>some (v,[(h,some (.box bt cs))]) | none=>none))
           | none=>none)
         | _=>none))
     | _=>none)
   | .move (.tmp t)=>(match aY sl t with
     | .ptr h o' =>some (.ptr h o',[])
     | _=>none)
   | _=>none)
 | none=>none
theorem aA7 {P:Program}{tb:Tb}{sl:Sl}{rs:Rl}{o:Oper}{v:AV}{b:Rl}{i:Nat}(hT:fQ P tb)(h:aGU tb sl rs o.dst o.op=some (v,b)):tH P (gK i o sl v b)/\ ∀k∈b.map (·.1),aO rs k=aO ((99,none)::b) k:=by
 obtain⟨dst,op,ty,pos,aft,gd⟩:=o;unfold aGU at h
 dsimp only at h
 split at h
 ·split at h
  ·rename_i s t f;split at h
   ·rename_i hh o' hx;split at h
    ·rename_i l hl;split at h
     ·rename_i q hq;injection h with h
      injection h with h1 h2
      subst h1;subst h2;refine⟨⟨fun e=>by simp[dT.fr,gK] at e,fun _ S hS _=>?_⟩,by simp⟩;have hf:=bP (bP hT.fl hl) hq;have hs:=hS t (by simp[gK,gX,kQ,opL]);refine nR rfl hf ?_;show S.slots t=_;rw[hs];simp only[gK,gX,opL,kQ,aY,if_true];exact hx
     cases h
    cases h
   cases h
  ·rename_i ty' t;split at h
   ·rename_i hh off hx;split at h
    ·cases h
    rename_i h99;have h99: ¬hh=99:=fun e=>by rw[e] at h99;cases h99
    have fnd: ∀r:Option Rs,aO [(99,none),(hh,r)] hh=r:=fun r=>by
     simp only[aO];simp[h99]
    have key: ∀S:St,(∀u∈(gX (.load ty' (.tmp t)) sl).map (·.1),S.slots u=aY (gX (.load ty' (.tmp t)) sl) u)->S.slots t= .ptr hh off:=fun S hS=>by
     rw[hS t (by simp[gX,kQ,opL])];simp only[gX,opL,kQ,aY,if_true];exact hx
    split at h
    ·rename_i bt cs hr;split at h
     ·rename_i ag n bt' z hq;have hq:=bP hT.ty hq;split at h
      ·split at h
       ·rename_i hn;injection h with h
        injection h with h1 h2
        subst h1;subst h2;refine⟨⟨fun e=>by simp[dT.fr,gK] at e,fun _ S hS hR=>?_⟩,fun k hk=>?_⟩
        ·exact pV rfl hq (key S hS) (by rw[hR hh (by simp[gK,dT.T,dT.fr])];exact fnd _) (aCd hn)
        simp only[aHl,List.map_nil,aM3] at hk;rw[hk,fnd,hr]
       cases h
      split at h
      ·rename_i y hy;injection h with h
       injection h with h1 h2
       subst h1;subst h2;refine⟨⟨fun e=>by simp[dT.fr,gK] at e,fun _ S hS hR=>?_⟩,fun k hk=>?_⟩
       ·exact pL rfl hq (key S hS) (by rw[hR hh (by simp[gK,dT.T,dT.fr])];exact fnd _) hy
       simp only[aHl,List.map_nil,aM3] at hk;rw[hk,fnd,hr]
      cases h
     cases h
    cases h
   cases h
  ·rename_i t;split at h
   ·rename_i hh o' hx;injection h with h
    injection h with h1 h2
    subst h1;subst h2;refine⟨⟨fun e=>by simp[dT.fr,gK] at e,fun _ S hS _=>?_⟩,by simp⟩;have hs:=hS t (by simp[gK,gX,kQ,opL])
    have hv:S.slots t= .ptr hh o' :=by
     rw[hs];simp only[gK,gX,opL,kQ,aY,if_true];exact hx
    show aQ P _ S ⟨.ptr hh o',[],[]⟩;rw[<-hv];exact tE (x:= .tmp t) (.inl rfl)
   cases h
  cases h
 cases h
def opX (P:Program)(tb:Tb)(sl:Sl)(rs:Rl)(dst:Option Nat)(o:Op)(t:T)(K:AV->List Nat->List (Nat × Rs)->T->Prop):Prop:=match t with
 | .callx fs ri ren rv ro t=>(match dst with
   | some d=>(match o with
     | .call ⟨.value x,⟨args⟩,_⟩=>(match bX sl x with
       | .fn f caps=>qK P sl rs d f (args.map (bX sl)++caps) (.callx fs ri ren rv ro t) K
       | _=>False)
     | o=>opW P tb sl rs (some d) o (.callx fs ri ren rv ro t) K)
   | none=>opW P tb sl rs none o (.callx fs ri ren rv ro t) K)
 | .callxs fs ri ren rv ro t=>(match dst with
   | some d=>(match o with
     | .call ⟨.value x,⟨args⟩,_⟩=>(match bX sl x with
       | .fn f caps=>qK P sl rs d f (args.map (bX sl)++caps) (.callxs fs ri ren rv ro t) K
       | _=>False)
     | o=>opW P tb sl rs (some d) o (.callxs fs ri ren rv ro t) K)
   | none=>opW P tb sl rs none o (.callxs fs ri ren rv ro t) K)
 | .setm α enc l y t=>(match dst with
   | none=>(match o with
     | .store ty x z=>aIf tb sl rs ty (bX sl x) (bX sl z) (.setm α enc l y t) K
     | _=>False)
   | some d=>opW P tb sl rs (some d) o (.setm α enc l y t) K)
 | .setr α enc l y t=>(match dst with
   | none=>(match o with
     | .store ty x z=>aGS tb rs ty (bX sl x) (bX sl z) (.setr α enc l y t) K
     | _=>False)
   | some d=>opW P tb sl rs (some d) o (.setr α enc l y t) K)
 | t=>opW P tb sl rs dst o t K
theorem aIi {P:Program}{tb:Tb}{sl:Sl}{rs:Rl}{o:Oper}{t:T}{K:AV->List Nat->List (Nat × Rs)->T->Prop}(hT:fQ P tb)(h:opX P tb sl rs o.dst o.op t K): ∃v del new t',nF P o (mk sl rs) ⟨v,del,new⟩/\K v del new t' :=by
 have plain: ∀t,opW P tb sl rs o.dst o.op t K-> ∃v del new t',nF P o (mk sl rs) ⟨v,del,new⟩/\K v del new t' :=fun t h=>by
  obtain⟨v,del,new,t',h1,h2⟩:=aI0 hT h;exact⟨v,del,new,t',h1.to0,h2⟩
 obtain⟨dst,op,ty,pos,aft,gd⟩:=o;unfold opX at h
 dsimp only at h plain
 split at h
 ·split at h
  ·split at h
   ·split at h
    ·rename_i hx;exact aCK (fun hc=>nW rfl hc hx) h
    cases h
   exact plain _ h
  exact plain _ h
 ·split at h
  ·split at h
   ·split at h
    ·rename_i hx;exact aCK (fun hc=>nW rfl hc hx) h
    cases h
   exact plain _ h
  exact plain _ h
 ·split at h
  ·split at h
   ·exact aIg hT rfl h
   cases h
  exact plain _ h
 ·split at h
  ·split at h
   ·obtain⟨v,del,new,t',h1,h2⟩:=aEP (P:=P) (sl:=sl) (o:=⟨none,.store _ _ _,ty,pos,aft,gd⟩) hT rfl h;exact⟨v,del,new,t',h1.to0,h2⟩
   cases h
  exact plain _ h
 exact plain _ h
def opD (P:Program)(tb:Tb)(sl:Sl)(rs:Rl)(dst:Option Nat)(o:Op)(t:T)(K:AV->List Nat->List (Nat × Rs)->T->Prop):Prop:=match t with
 | .callx fs ri ren rv ro t=>(match dst with
   | some d=>(match o with
     | .call ⟨.value x,⟨args⟩,_⟩=>(match bX sl x with
       | .fn f caps=>(match aF6 ri ren ro with
         | true=>qK P sl rs d f (args.map (bX sl)++caps) (.callx fs ri ren rv ro t) K
         | false=>False)
       | _=>False)
     | o=>opW P tb sl rs (some d) o (.callx fs ri ren rv ro t) K)
   | none=>opW P tb sl rs none o (.callx fs ri ren rv ro t) K)
 | .callxs fs ri ren rv ro t=>(match dst with
   | some d=>(match o with
     | .call ⟨.value x,⟨args⟩,_⟩=>(match bX sl x with
       | .fn f caps=>(match aF6 ri ren ro with
         | true=>qK P sl rs d f (args.map (bX sl)++caps) (.callxs fs ri ren rv ro t) K
         | false=>False)
       | _=>False)
     | o=>opW P tb sl rs (some d) o (.callxs fs ri ren rv ro t) K)
   | none=>opW P tb sl rs none o (.callxs fs ri ren rv ro t) K)
 | .setr α enc l y t=>(match dst with
   | none=>(match o with
     | .store ty x z=>aGS tb rs ty (bX sl x) (bX sl z) (.setr α enc l y t) K
     | _=>False)
   | some d=>opW P tb sl rs (some d) o (.setr α enc l y t) K)
 | t=>opW P tb sl rs dst o t K
theorem aIj {P:Program}{tb:Tb}{sl:Sl}{rs:Rl}{o:Oper}{t:T}{K:AV->List Nat->List (Nat × Rs)->T->Prop}(hT:fQ P tb)(h:opD P tb sl rs o.dst o.op t K): ∃v del new t',aQ P o (mk sl rs) ⟨v,del,new⟩/\K v del new t' :=by
 have plain: ∀t,opW P tb sl rs o.dst o.op t K-> ∃v del new t',aQ P o (mk sl rs) ⟨v,del,new⟩/\K v del new t' :=fun t h=>aI0 hT h;obtain⟨dst,op,ty,pos,aft,gd⟩:=o;unfold opD at h
 dsimp only at h plain
 split at h
 ·split at h
  ·split at h
   ·split at h
    ·rename_i hx;split at h
     ·rename_i hb;exact aA4 (fun hc=>nW rfl hc hx) h hb
     cases h
    cases h
   exact plain _ h
  exact plain _ h
 ·split at h
  ·split at h
   ·split at h
    ·rename_i hx;split at h
     ·rename_i hb;exact aA4 (fun hc=>nW rfl hc hx) h hb
     cases h
    cases h
   exact plain _ h
  exact plain _ h
 ·split at h
  ·split at h
   ·exact aEP hT rfl h
   cases h
  exact plain _ h
 exact plain _ h
section
variable (P:Program) (tb:Tb) (N:Nat)
def aFa (all:List Oper)(bs:Sl)(br:Rl):List Oper->Sl->Rl->T->(Sl->Rl->T->Prop)->Prop
 | [],pre,prr,t,K=>K pre prr t
 | o::rest,pre,prr,t,K=>(match aK3 N o.dst with
   | false=>False
   | true=>(match o.guard with
     | none=>opX P tb (pre++bs) (prr++br) o.dst o.op t (fun v del new t=>aFa all bs br rest (jW pre o.dst v) (iK new++(fC del++prr)) t K)
     | some (j,want)=>gdW N all (pre++bs) j want t (fun dj b t=>(match b==want with
       | true=>opX P tb (iE (pre++bs) dj b) (prr++br) o.dst o.op t (fun v del new t=>aFa all bs br rest (jW (iE pre dj b) o.dst v) (iK new++(fC del++prr)) t K)
       | false=>aFa all bs br rest (jW (iE pre dj b) o.dst (.tup [])) prr t K))))
def vL (all:List Oper)(bs:Sl)(br:Rl):Nat->List Oper->Sl->Rl->List dT->T->(Sl->Rl->List dT->T->Prop)->Prop
 | _,[],pre,prr,acc,t,K=>K pre prr acc t
 | i,o::rest,pre,prr,acc,t,K=>(match aK3 N o.dst with
   | false=>False
   | true=>(match o.guard with
     | none=>(match aGU tb (pre++bs) (prr++br) o.dst o.op with
      | some (v,b)=>vL all bs br (i+1) rest (jW pre o.dst v) prr (gK i o (pre++bs) v b::acc) t K
      | none=>opD P tb (gX o.op (pre++bs)) (pM o.op (pre++bs) (prr++br)) o.dst o.op t (fun v del new t=>(match tOk (fU i o (pre++bs) (prr++br) v del new) (prr++br) with
       | true=>vL all bs br (i+1) rest (jW pre o.dst v) (iK new++(fC del++prr)) (fU i o (pre++bs) (prr++br) v del new::acc) t K
       | false=>False)))
     | some (j,want)=>gdW N all (pre++bs) j want t (fun dj b t=>(match b==want with
       | true=>(match aGU tb (iE (pre++bs) dj b) (prr++br) o.dst o.op with
        | some (v,b')=>vL all bs br (i+1) rest (jW (iE pre dj b) o.dst v) prr (gK i o (iE (pre++bs) dj b) v b' ::acc) t K
        | none=>opD P tb (gX o.op (iE (pre++bs) dj b)) (pM o.op (iE (pre++bs) dj b) (prr++br)) o.dst o.op t (fun v del new t=>(match tOk (fU i o (iE (pre++bs) dj b) (prr++br) v del new) (prr++br) with
         | true=>vL all bs br (i+1) rest (jW (iE pre dj b) o.dst v) (iK new++(fC del++prr)) (fU i o (iE (pre++bs) dj b) (prr++br) v del new::acc) t K
         | false=>False)))
       | false=>vL all bs br (i+1) rest (jW (iE pre dj b) o.dst (.tup [])) prr (⟨i,o,true,[],[],⟨.no,[],[]⟩⟩::acc) t K))))
end
section
variable {P:Program} {tb:Tb} {N:Nat} {all:List Oper} {bs:Sl} {br:Rl}
theorem zI (new:List (Nat × Rs))(del:List Nat)(prr br:Rl):iK new++(fC del++(prr++br))=(iK new++(fC del++prr))++br:=by simp
theorem zJ (hT:fQ P tb){K:Sl->Rl->T->Prop}: ∀(l:List Oper) (pre:Sl) (prr:Rl) (t:T),aFa P tb N all bs br l pre prr t K->Ops P N all.toArray l (mk (pre++bs) (prr++br)) (fun S=> ∃pre' prr' t',S=mk (pre' ++bs) (prr' ++br)/\K pre' prr' t')
 | [],pre,prr,t,h=>by unfold Ops;unfold aFa at h;exact⟨pre,prr,t,rfl,h⟩
 | o::rest,pre,prr,t,h=>by
   unfold aFa at h;split at h
   ·cases h
   rename_i hd;have hd:=aGT hd;unfold Ops;refine⟨hd,?_⟩;split at h
   ·rename_i hg;rw[hg];obtain⟨v,del,new,t',hs,h⟩:=aIi hT h;refine⟨_,hs,?_⟩;rw[eY,<-kA,zI];exact zJ hT rest _ _ _ h
   rename_i j want hg;rw[hg];obtain⟨dj,y,b,s,t',h1,h2,h3,h4,h5,h⟩:=aIh h;have h6:mk (iE (pre++bs) s b) (prr++br)=mk (pre++bs) (prr++br):=by unfold mk;rw[h5]
   refine⟨dj,y,h1,h2,h3,fun e=>?_,fun e=>?_⟩
   ·rw[e] at h4;split at h
    ·obtain⟨v,del,new,t',hs,h⟩:=aIi hT h;rw[h6] at hs;refine⟨_,hs,?_⟩;rw[<-h6,eY,iT,<-kA,zI];exact zJ hT rest _ _ _ h
    rename_i hb;rw[hb] at h4;simp at h4
   split at h
   ·rename_i hb;rw[hb] at h4;exact absurd (by simpa using h4.symm) e
   rw[<-h6,aGI,iT,<-kA];exact zJ hT rest _ _ _ h
theorem kB {sl sl' :Sl}(h:aY sl=aY sl'): ∀(l:List Operand),kQ sl l=kQ sl' l
 | []=>rfl
 | .tmp t::l=>by simp only[kQ,h,kB h l]
 | .const _::l=>kB h l
 | .func _::l=>kB h l
 | .global _::l=>kB h l
theorem kC {sl sl' :Sl}(h:aY sl=aY sl')(o:Op):gX o sl=gX o sl' :=kB h _
theorem qL {sl sl' :Sl}(h:aY sl=aY sl')(o:Op)(rs:Rl):pM o sl rs=pM o sl' rs:=by unfold pM;rw[kC h]
theorem qM {sl sl' :Sl}(h:aY sl=aY sl')(i:Nat)(o:Oper)(rs:Rl)(v:AV)(del:List Nat)(new:List (Nat × Rs)):fU i o sl rs v del new=fU i o sl' rs v del new:=by unfold fU;rw[kC h,qL h]
theorem aA8 {sl sl' :Sl}(h:aY sl=aY sl')(i:Nat)(o:Oper)(v:AV)(b:Rl):gK i o sl v b=gK i o sl' v b:=by unfold gK;rw[kC h]
theorem iU {sl sl' :Sl}(h:aY sl=aY sl')(d:Option Nat)(v:AV):aY (jW sl d v)=aY (jW sl' d v):=by
 cases d with
 | none=>exact h
 | some d=>funext t;simp only[jW,aY,h]
theorem iV {A:Array Oper}{K:St->List dT->Prop}: ∀(l:List Oper) (i:Nat) (sl sl' :Sl) (rs:Rl) (acc:List dT),aY sl=aY sl' ->jX P N A i l sl rs acc K->jX P N A i l sl' rs acc K
 | [],i,sl,sl',rs,acc,h,hd=>by unfold jX at*;unfold mk at*;rw[<-h];exact hd
 | o::rest,i,sl,sl',rs,acc,h,hd=>by
   unfold jX at*;obtain⟨h1,h2,h3⟩:=hd;refine⟨h1,h2,?_⟩
   have execF:(∃v b,tH P (gK i o sl v b)/\(∀k∈b.map (·.1),aO rs k=aO ((99,none)::b) k)/\jX P N A (i+1) rest (jW sl o.dst v) rs (gK i o sl v b::acc) K)-> ∃v b,tH P (gK i o sl' v b)/\(∀k∈b.map (·.1),aO rs k=aO ((99,none)::b) k)/\jX P N A (i+1) rest (jW sl' o.dst v) rs (gK i o sl' v b::acc) K:=fun ⟨v,b,q1,q0,q2⟩=>by
    rw[aA8 h] at q1 q2;exact⟨v,b,q1,q0,iV rest _ _ _ _ _ (iU h _ _) q2⟩
   have exec:(∃v del new,aQ P o (mk (gX o.op sl) (pM o.op sl rs)) ⟨v,del,new⟩/\tOk (fU i o sl rs v del new) rs=true/\jX P N A (i+1) rest (jW sl o.dst v) (iK new++(fC del++rs)) (fU i o sl rs v del new::acc) K)->
    ∃v del new,aQ P o (mk (gX o.op sl') (pM o.op sl' rs)) ⟨v,del,new⟩/\tOk (fU i o sl' rs v del new) rs=true/\jX P N A (i+1) rest (jW sl' o.dst v) (iK new++(fC del++rs)) (fU i o sl' rs v del new::acc) K:=fun ⟨v,del,new,q1,q2,q3⟩=>by
    refine⟨v,del,new,by rw[<-kC h,<-qL h];exact q1,by rw[<-qM h];exact q2,?_⟩;rw[<-qM h];exact iV rest _ _ _ _ _ (iU h _ _) q3
   split
   ·rename_i hg;rw[hg] at h3;exact h3.imp exec execF
   rename_i j want hg;rw[hg] at h3;obtain⟨d,b,q1,q2,q3,q4,q5⟩:=h3;exact⟨d,b,q1,q2,by rw[<-h];exact q3,fun e=>(q4 e).imp exec execF,fun e=>iV rest _ _ _ _ _ (iU h _ _) (q5 e)⟩
theorem lA {A:Array Oper}{K K' :St->List dT->Prop}(hK: ∀S recs,K S recs->K' S recs): ∀(l:List Oper) (i:Nat) (sl:Sl) (rs:Rl) (acc:List dT),jX P N A i l sl rs acc K->jX P N A i l sl rs acc K'
 | [],i,sl,rs,acc,hd=>by unfold jX at*;exact hK _ _ hd
 | o::rest,i,sl,rs,acc,hd=>by
   unfold jX at*;obtain⟨h1,h2,h3⟩:=hd;refine⟨h1,h2,?_⟩;split
   ·rename_i hg;rw[hg] at h3;rcases h3 with ⟨v,del,new,q1,q2,q3⟩ | ⟨v,b,q1,q0,q2⟩
    ·exact .inl ⟨v,del,new,q1,q2,lA hK rest _ _ _ _ q3⟩
    exact .inr ⟨v,b,q1,q0,lA hK rest _ _ _ _ q2⟩
   rename_i j want hg;rw[hg] at h3;obtain⟨d,b,q1,q2,q3,q4,q5⟩:=h3;refine⟨d,b,q1,q2,q3,fun e=>?_,fun e=>lA hK rest _ _ _ _ (q5 e)⟩;rcases q4 e with ⟨v,del,new,p1,p2,p3⟩ | ⟨v,b',p1,p0,p2⟩
   ·exact .inl ⟨v,del,new,p1,p2,lA hK rest _ _ _ _ p3⟩
   exact .inr ⟨v,b',p1,p0,lA hK rest _ _ _ _ p2⟩
theorem aEQ (hT:fQ P tb){K:Sl->Rl->List dT->T->Prop}: ∀(l done:List Oper) (pre:Sl) (prr:Rl) (acc:List dT) (t:T),all=done++l->vL P tb N all bs br done.length l pre prr acc t K->jX P N all.toArray done.length l (pre++bs) (prr++br) acc (fun S recs=> ∃pre' prr' acc' t',S=mk (pre' ++bs) (prr' ++br)/\recs=acc'.reverse/\K pre' prr' acc' t')
 | [],done,pre,prr,acc,t,e,h=>by unfold jX;unfold vL at h;exact⟨pre,prr,acc,t,rfl,rfl,h⟩
 | o::rest,done,pre,prr,acc,t,e,h=>by
   unfold vL at h;split at h
   ·cases h
   rename_i hd;have hd:=aGT hd;have hi:all.toArray[done.length]? =some o:=by rw[e];simp
   have e' :all=(done++[o])++rest:=by rw[e];simp
   have el:(done++[o]).length=done.length+1:=by simp
   have ih:=fun pre prr acc t=>aEQ hT (K:=K) rest (done++[o]) pre prr acc t e';rw[el] at ih;unfold jX;refine⟨hi,hd,?_⟩;split at h
   ·rename_i hg;rw[hg];split at h
    ·rename_i v b' hv;refine .inr ⟨v,b',(aA7 hT hv).1,(aA7 (i:=0) hT hv).2,?_⟩;rw[<-kA];exact ih _ _ _ _ h
    obtain⟨v,del,new,t',hs,h⟩:=aIj hT h;split at h
    ·rename_i ht;refine .inl ⟨v,del,new,hs,ht,?_⟩;rw[<-kA,zI];exact ih _ _ _ _ h
    cases h
   rename_i j want hg;rw[hg];obtain⟨dj,y,b,s,t',h1,h2,h3,h4,hp,h⟩:=aIh h;refine⟨dj,y,h1,h2,h3,fun e=>?_,fun e=>?_⟩
   ·rw[e] at h4;split at h
    ·split at h
     ·rename_i v b' hv;have hs:=aA7 (i:=done.length) hT hv;rw[aA8 hp] at hs h;refine .inr ⟨v,b',hs.1,hs.2,?_⟩;have:=ih _ _ _ _ h;rw[kA,<-iT] at this;exact iV _ _ _ _ _ _ (iU hp _ _) this
     obtain⟨v,del,new,t',hs,h⟩:=aIj hT h;split at h
     ·rename_i ht;rw[kC hp,qL hp] at hs;rw[qM hp] at ht h;refine .inl ⟨v,del,new,hs,ht,?_⟩;have:=ih _ _ _ _ h;rw[kA,<-zI,<-iT] at this;exact iV _ _ _ _ _ _ (iU hp _ _) this
     cases h
    rename_i hb;rw[hb] at h4;simp at h4
   split at h
   ·rename_i hb;rw[hb] at h4;exact absurd (by simpa using h4.symm) e
   have:=ih _ _ _ _ h;rw[kA,<-iT] at this;exact iV _ _ _ _ _ _ (iU hp _ _) this
end
def kD (W:List Nat):Sl:=W.map fun t=>(t,AV.no)
def gM (V:List Nat):Rl:=V.map fun h=>(h,none)
def gmF (ren:List (Nat × Nat))(hd:List Nat)(h:Nat):Option Nat:=match bM ren h with | some g=>some g | none=>(match hd.contains h with | true=>none | false=>some h)
def EqS (sl:Sl)(gm:Nat->Option Nat):Sl->Prop->Prop
 | [],K=>K
 | (t,x)::l,K=>gR gm x (aY sl t) (EqS sl gm l K)
def aB8 (rs:Rl)(gm:Nat->Option Nat):Rl->Prop->Prop
 | [],K=>K
 | (h,some r)::l,K=>(match gm h with
   | some g=>(match aO rs g with
     | some r' =>(match r with
       | .box t cs=>(match r' with | .box t' cs' =>EqN t' t (nX gm cs cs' (aB8 rs gm l K)) | _=>False)
       | .arr e k d xs=>EqR r' (.arr e k d xs) (aB8 rs gm l K)
       | .hole e k xs i j hp=>(match r' with | .hole e' k' xs' i' j' hp' =>(match Nat.beq e' e&&Nat.beq k' k&&Nat.beq j' j&&(match gm hp with | some q=>Nat.beq q hp' | none=>false) with | true=>xs' =xs/\i' =i/\aB8 rs gm l K | false=>False) | _=>False))
     | none=>False)
   | none=>(match r with | .arr _ _ _ xs=>[]=xs/\aB8 rs gm l K | _=>False))
 | (_,none)::_,_=>False
def aDG (gm:Nat->Option Nat)(h:Nat):Bool:=match gm h with | some g=>Nat.beq g h | none=>false
def aFb (gm:Nat->Option Nat)(l:List Nat):Bool:=l.all (aDG gm)
def qN (rs:Rl):List Nat:=(rs.map (·.1)).filter fun h=>(aO rs h).isSome
def aMD (gm:Nat->Option Nat)(l:List Nat):Bool:=l.all fun h=>l.all fun h' =>Nat.beq h h' || (match gm h with | none=>true | some g=>(match gm h' with | none=>true | some g' => !Nat.beq g g'))
def aGV (W V:List Nat)(gm:Nat->Option Nat)(pre:Sl)(prr:Rl)(b1:Sl)(b2:Rl)(hd:Rl):Bool:=
 hd.all (fun q=>Nat.ble 100 q.1 || aDG gm q.1)&&pre.all (fun q=>W.contains q.1)&&prr.all (fun q=>V.contains q.1)&&b1.all (fun q=>W.contains q.1 || aFb gm (bD (aY b1 q.1)))&&
 b2.all (fun q=>V.contains q.1 || (match aO b2 q.1 with | some r=>aDG gm q.1&&aFb gm (eD r) | none=>true))&&aMD gm (qN (hd++b2))
theorem zK {gm:Nat->Option Nat}{h:Nat}(hx:aDG gm h=true):gm h=some h:=by
 unfold aDG at hx;split at hx
 ·rename_i g hg;rw[hg,aD8 hx]
 cases hx
theorem aGW {gm:Nat->Option Nat}{l:List Nat}{h:Nat}(hx:aFb gm l=true)(hm:h∈l):gm h=some h:=zK (aFJ.1 hx h hm)
theorem aFc {sl:Sl}{gm:Nat->Option Nat}{K:Prop}: ∀{l:Sl},EqS sl gm l K->(∀t x,(t,x)∈l-> ∃Q,gR gm x (aY sl t) Q)/\K
 | [],h=>⟨by simp,h⟩
 | (t,x)::l,h=>by
   unfold EqS at h;obtain⟨h3,h4⟩:=aFc (aEJ _ _ _ h);refine⟨fun t' x' hm=>?_,h4⟩;rcases aIo.1 hm with e | hm
   ·injection e with e1 e2;subst e1;subst e2;exact⟨_,h⟩
   exact h3 t' x' hm
def aK5 (rs:Rl)(gm:Nat->Option Nat)(h:Nat)(r:Rs):Prop:=
 (∀g,gm h=some g-> ∃r',aO rs g=some r' /\((r=r' /\aB3 r=true)\/(∃t cs cs' Q,r= .box t cs/\r' = .box t cs' /\nX gm cs cs' Q)\/ ∃e k xs i j hp hp',r= .hole e k xs i j hp/\r' = .hole e k xs i j hp' /\gm hp=some hp'))/\(gm h=none-> ∃e k d,r= .arr e k d [])
theorem aDH {rs:Rl}{gm:Nat->Option Nat}{K:Prop}: ∀{l:Rl},aB8 rs gm l K->(∀h r,(h,r)∈l-> ∃r',r=some r' /\aK5 rs gm h r')/\K
 | [],h=>⟨by simp,h⟩
 | (h,some r)::l,hh=>by
   unfold aB8 at hh
   have key:aK5 rs gm h r->aB8 rs gm l K->(∀h' r0,(h',r0)∈(h,some r)::l-> ∃r',r0=some r' /\aK5 rs gm h' r')/\K:=fun h1 h2=>by
    obtain⟨h3,h4⟩:=aDH h2;refine⟨fun t' x' hm=>?_,h4⟩;rcases aIo.1 hm with e | hm
    ·injection e with e1 e2;subst e1;subst e2;exact⟨r,rfl,h1⟩
    exact h3 t' x' hm
   split at hh
   ·rename_i g hg;split at hh
    ·rename_i r' hr;split at hh
     ·rename_i t cs;split at hh
      ·rename_i t' cs';obtain⟨e1,hq⟩:=hh.eq;refine key ⟨fun g' hg' =>?_,fun hn=>by rw[hg] at hn;cases hn⟩ (nY _ _ _ hq);rw[hg] at hg';injection hg' with hg';subst hg'
       exact⟨_,hr,.inr (.inl ⟨t,cs,cs',_,rfl,by rw[e1],hq⟩)⟩
      cases hh
     ·obtain⟨e1,hq⟩:=hh.eq;refine key ⟨fun g' hg' =>?_,fun hn=>by rw[hg] at hn;cases hn⟩ hq;rw[hg] at hg';injection hg' with hg';subst hg'
      exact⟨_,hr,.inl ⟨e1.symm,rfl⟩⟩
     split at hh
     ·rename_i e k xs i j hp _ e' k' xs' i' j' hp';split at hh
      ·rename_i hb;simp only[aBT] at hb;obtain⟨⟨⟨b1,b2⟩,b3⟩,b4⟩:=hb;split at b4
       ·rename_i q hq;obtain rfl:=aD8 b1;obtain rfl:=aD8 b2;obtain rfl:=aD8 b3;obtain rfl:=aD8 b4;obtain⟨rfl,rfl,hh⟩:=hh;refine key ⟨fun g' hg' =>?_,fun hn=>by rw[hg] at hn;cases hn⟩ hh;rw[hg] at hg';injection hg' with hg';subst hg'
        exact⟨_,hr,.inr (.inr ⟨_,_,_,_,_,_,_,rfl,rfl,hq⟩)⟩
       cases b4
      cases hh
     cases hh
    cases hh
   rename_i hg;split at hh
   ·obtain⟨e1,hq⟩:=hh;exact key ⟨fun g' hg' =>(by rw[hg] at hg';cases hg'),fun _=>⟨_,_,_,by rw[<-e1]⟩⟩ hq
   cases hh
 | (h,none)::l,hh=>by unfold aB8 at hh;cases hh
theorem aCN {o b:Sl}{t:Nat}:(∃x,(t,x)∈o/\aY (o++b) t=x)\/(t ∉ o.map (·.1)/\aY (o++b) t=aY b t):=by
 induction o with
 | nil=>exact .inr ⟨by simp,rfl⟩
 | cons q o ih=>
   obtain⟨k,v⟩:=q;simp only[List.cons_append,aY];by_cases e:t=k
   ·subst e;exact .inl ⟨v,by simp,by simp⟩
   rw[if_neg e];rcases ih with ⟨x,h1,h2⟩ | ⟨h1,h2⟩
   ·exact .inl ⟨x,by simp[h1],h2⟩
   exact .inr ⟨by simp only[aHl,aIo,not_or];exact⟨e,h1⟩,h2⟩
theorem xK {o b:Rl}{t:Nat}:(∃x,(t,x)∈o/\aO (o++b) t=x)\/(t ∉ o.map (·.1)/\aO (o++b) t=aO b t):=by
 induction o with
 | nil=>exact .inr ⟨by simp,rfl⟩
 | cons q o ih=>
   obtain⟨k,v⟩:=q;simp only[List.cons_append,aO];by_cases e:t=k
   ·subst e;exact .inl ⟨v,by simp,by simp⟩
   rw[if_neg e];rcases ih with ⟨x,h1,h2⟩ | ⟨h1,h2⟩
   ·exact .inl ⟨x,by simp[h1],h2⟩
   exact .inr ⟨by simp only[aHl,aIo,not_or];exact⟨e,h1⟩,h2⟩
theorem aA9 {W:List Nat}{b:Sl}{t:Nat}:aY (kD W++b) t=if t∈W then .no else aY b t:=by
 induction W with
 | nil=>simp[kD]
 | cons w W ih=>
   simp only[kD,aHl,List.cons_append,aY] at ih ⊢;rw[ih];by_cases e:t=w<;>simp[e]
theorem tM {W:List Nat}{b:Rl}{t:Nat}:aO (gM W++b) t=if t∈W then none else aO b t:=by
 induction W with
 | nil=>simp[gM]
 | cons w W ih=>
   simp only[gM,aHl,List.cons_append,aO] at ih ⊢;rw[ih];by_cases e:t=w<;>simp[e]
theorem aHQ {b:Sl}{t:Nat}(h:aY b t≠ .no):t∈b.map (·.1):=by
 induction b with
 | nil=>simp[aY] at h
 | cons q b ih=>
   obtain⟨k,v⟩:=q;simp only[aY] at h;by_cases e:t=k
   ·simp[e]
   rw[if_neg e] at h;simp[ih h]
theorem xL {b:Rl}{t:Nat}{r:Rs}(h:aO b t=some r):t∈b.map (·.1):=by
 induction b with
 | nil=>simp[aO] at h
 | cons q b ih=>
   obtain⟨k,v⟩:=q;simp only[aO] at h;by_cases e:t=k
   ·simp[e]
   rw[if_neg e] at h;simp[ih h]
theorem aER {A:Nat->Prop}{w0:oR}{N:Nat}{a:Act}{w:World}{W V:List Nat}{gm:Nat->Option Nat}{cur:Sl}{cur2:Rl}{b1:Sl}{b2:Rl}{o:Sl}{r:Rl}
 (k0: ∀q∈r,Nat.ble 100 q.1=true\/aDG gm q.1=true) (k3: ∀q∈kD W++b1,q.1∈W\/aFb gm (bD (aY (kD W++b1) q.1))=true) (k4: ∀q∈gM V++b2,q.1∈V\/ ∀r,aO (gM V++b2) q.1=some r->aDG gm q.1=true/\aFb gm (eD r)=true)
 (k5:aMD gm (qN (r++(gM V++b2)))=true) (c1: ∀t,t ∉ W->aY cur t=aY (kD W++b1) t) (c2: ∀h,h ∉ V->aO cur2 h=aO (gM V++b2) h)
 (h1: ∀t x,(t,x)∈o-> ∃Q,gR gm x (aY cur t) Q) (h2: ∀h x,(h,x)∈r-> ∃r',x=some r' /\aK5 cur2 gm h r') (hG:nT A w0 N (mk cur cur2) a w):nT A w0 N (mk (o++(kD W++b1)) (r++(gM V++b2))) a w:=by
 obtain⟨K,φ,hG⟩:=hG
 let S2:=r++(gM V++b2)
 let φ' :dW:=fun h=>match aO S2 h with | none=>none | some _=>(match gm h with | some g=>φ g | none=>some eE)
 have p1: ∀h g pl,gm h=some g->φ' h=some pl->φ g=some pl:=fun h g pl e e' =>by
  simp only[φ',e] at e';split at e'
  ·cases e'
  exact e'
 have p2: ∀h pl,gm h=none->φ' h=some pl->pl=eE:=fun h pl e e' =>by
  simp only[φ',e] at e';split at e'
  ·cases e'
  injection e' with e';exact e'.symm
 have p0: ∀h pl,φ' h=some pl-> ∃x,aO S2 h=some x:=fun h pl e=>by
  simp only[φ'] at e;split at e
  ·cases e
  rename_i x hx;exact⟨x,hx⟩
 have p3: ∀h pl,φ' h=some pl->(∃g,gm h=some g/\φ g=some pl)\/pl=eE:=fun h pl e=>by
  cases hl:gm h with
  | some g=>exact .inl ⟨g,rfl,p1 h g pl hl e⟩
  | none=>exact .inr (p2 h pl hl e)
 have live: ∀{h x},aO S2 h=some x->h∈qN S2:=fun {h x} hx=>by
  unfold qN;rw[aMu];exact⟨xL hx,by rw[hx];rfl⟩
 refine⟨K,φ',fun h x hx=>?_,fun h hx=>?_,fun h h' pl pl' hne e e' g hg=>?_,fun h pl e=>?_,fun h pl e=>?_,hG.kin,fun b hb h pl e=>?_,hG.aK,fun t=>?_,hG.bel,hG.nd,hG.size,fun h pl pl0 e e0=>?_⟩
 ·have hx' :aO S2 h=some x:=hx;rcases xK (o:=r) (b:=gM V++b2) (t:=h) with ⟨y,q1,q2⟩ | ⟨_,q2⟩
  ·obtain⟨r',e1,q3,q4⟩:=h2 h y q1;have ex:r' =x:=by have:=hx';simp only[S2] at this;rw[q2,e1] at this;injection this
   subst ex;cases hl:gm h with
   | some g=>
     obtain⟨r2,hr2,q⟩:=q3 g hl;obtain⟨pl,hp,hh⟩:=hG.dom g r2 hr2;refine⟨pl,by simp only[φ',hx',hl];exact hp,?_⟩;rcases q with ⟨rfl,ha⟩ | ⟨t,cs,cs',Q,rfl,rfl,hq⟩ | ⟨e,k,xs,i,j,hp0,hp',rfl,rfl,hq⟩
     ·exact Holds.arrPhi ha hh
     ·obtain⟨g',vs',f1,f2,f3,f4⟩:=hh;exact⟨g',vs',f1,f2,f3,(qH (φ' :=φ') p1 p2 _ _ _ _ hq f4).1⟩
     obtain⟨xs1,x1,d,x2,xs2,css1,c1,v,c2,css2,Fs1,F1,F2,Fs2,e0,e1,e2,e3,t1,t2,t3,t4,t5,t6,t7,t8⟩:=hh;exact⟨xs1,x1,d,x2,xs2,css1,c1,v,c2,css2,Fs1,F1,F2,Fs2,e0,e1,e2,e3,t1,t2,t3,t4,t5,t6,t7,t8.1,fun pl' e' =>t8.2 pl' (p1 hp0 hp' pl' hq e')⟩
   | none=>
     obtain⟨e,k,d,rfl⟩:=q4 hl;refine⟨eE,by simp only[φ',hx',hl],?_⟩;cases d with
     | true=>exact⟨[],[],World.ownsRow_nil w 0 e k,rfl,rfl,by unfold bE;exact⟨rfl,rfl⟩⟩
     | false=>exact⟨[],World.ownsRow_nil w 0 e k,rfl,rfl,rfl⟩
  have hb:aO (gM V++b2) h=some x:=by rw[<-q2];exact hx'
  obtain⟨q,hq,rfl⟩:=aJl.1 (xL hb);have hv:q.1 ∉ V:=fun hv=>by rw[tM,if_pos hv] at hb;cases hb
  obtain⟨f1,f2⟩:=(k4 q hq).resolve_left hv x hb;obtain⟨pl,hp,hh⟩:=hG.dom q.1 x (by simp only[mk];rw[c2 _ hv];exact hb);refine⟨pl,by simp only[φ',hx',zK f1];exact hp,?_⟩;exact Holds.mono (fun _ _=>rfl) (fun _ h=>h) (fun _ _=>rfl) x (fun h3 pl3 hm3 e3=>⟨p1 h3 h3 pl3 (aGW f2 hm3) e3,fun _ _=>rfl⟩) hh
 ·have hx' :aO S2 h=none:=hx;simp only[φ',hx']
 ·rcases p3 h pl e with ⟨q,l1,e1⟩ | e1
  ·rcases p3 h' pl' e' with ⟨q',l1',e1'⟩ | e1'
   ·refine hG.disj q q' pl pl' (fun x=>?_) e1 e1' g hg;subst x;obtain⟨x,hx⟩:=p0 h pl e;obtain⟨x',hx'⟩:=p0 h' pl' e';have:=aFJ.1 (aFJ.1 k5 h (live hx)) h' (live hx');simp only[Bool.or_eq_true,l1,l1',Nat.beq_refl,Bool.not_true] at this;rcases this with q3 | q3
    ·exact hne (aD8 q3)
    cases q3
   rw[e1'];simp[eE,Pl.F]
  rw[e1] at hg;simp[eE,Pl.F] at hg
 ·rcases p3 h pl e with ⟨g,_,e⟩ | e
  ·exact hG.nodup g pl e
  rw[e];simp[eE,Pl.F]
 ·rcases p3 h pl e with ⟨g,_,e⟩ | e
  ·exact hG.ge g pl e
  rw[e];simp[eE,Pl.F]
 ·rcases p3 h pl e with ⟨g,_,e⟩ | e
  ·exact hG.kout b hb g pl e
  rw[e];simp[eE,Pl.F]
 ·simp only[mk];have hs:=hG.slots t;simp only[mk] at hs;rcases aCN (o:=o) (b:=kD W++b1) (t:=t) with ⟨x,q1,q2⟩ | ⟨_,q2⟩
  ·rw[q2];obtain⟨Q,hQ⟩:=h1 t x q1;exact(aDD (φ' :=φ') p1 p2 _ _ _ _ hQ hs).1
  rw[q2];by_cases hn:aY (kD W++b1) t= .no
  ·rw[hn];unfold aC;trivial
  obtain⟨q,hq,rfl⟩:=aJl.1 (aHQ hn);have hw:q.1 ∉ W:=fun hw=>hn (by rw[aA9,if_pos hw]);have f:=(k3 q hq).resolve_left hw;rw[c1 _ hw] at hs;exact aC.mono (fun _ _=>rfl) (fun _ h=>h) _ _ (fun h3 pl3 hm3 e3=>⟨p1 h3 h3 pl3 (aGW f hm3) e3,fun _ _=>rfl⟩) hs
 obtain⟨x,hx⟩:=p0 h pl e;have hlt:=w0.dom h pl0 e0
 have hfx:gm h=some h:=by
  rcases xK (o:=r) (b:=gM V++b2) (t:=h) with ⟨y,q1,q2⟩ | ⟨_,q2⟩
  ·rcases k0 _ q1 with q | q
   ·have:=aCd q;dsimp only at this;omega
   exact zK q
  have hb:aO (gM V++b2) h=some x:=by rw[<-q2];exact hx
  obtain⟨q,hq,rfl⟩:=aJl.1 (xL hb);have hv:q.1 ∉ V:=fun hv=>by rw[tM,if_pos hv] at hb;cases hb
  exact zK ((k4 q hq).resolve_left hv x hb).1
 exact hG.pin h pl pl0 (p1 h h pl hfx e) e0
theorem aGX {W V:List Nat}{gm:Nat->Option Nat}{pre:Sl}{prr:Rl}{b1:Sl}{b2:Rl}{r:Rl}(hb:aGV W V gm pre prr b1 b2 r=true):(∀q∈r,Nat.ble 100 q.1=true\/aDG gm q.1=true)/\(∀q∈pre,q.1∈W)/\(∀q∈prr,q.1∈V)/\(∀q∈b1,q.1∈W\/aFb gm (bD (aY b1 q.1))=true)/\(∀q∈b2,q.1∈V\/ ∀r,aO b2 q.1=some r->aDG gm q.1=true/\aFb gm (eD r)=true)/\aMD gm (qN (r++b2))=true:=by
 unfold aGV at hb;simp only[aBT,aFJ,Bool.or_eq_true,List.contains_eq_mem,aMX] at hb;obtain⟨⟨⟨⟨⟨k0,k1⟩,k2⟩,k3⟩,k4⟩,k5⟩:=hb;refine⟨k0,k1,k2,k3,fun q hq=>(k4 q hq).imp id fun h r hr=>?_,k5⟩;rw[hr] at h;simpa using h
def aIk (rs:Rl)(hd:Rl):List (Nat × Nat):=(hd.filter fun q=>(aO rs q.1).isSome).map fun q=>(q.1,q.1)
def aME (sl:Sl)(c:Operand)(t:T)(K:Option Nat->Bool->T->Prop):Prop:=match c with
 | .tmp s=>(match aY sl s with | .p none (.bool b)=>brW b t (fun b t=>K (some s) b t) | _=>False)
 | .const (.bool b)=>brW b t (fun b t=>K none b t)
 | _=>False
theorem aK6 {sl:Sl}{rs:Rl}{c:Operand}{t:T}{K:Option Nat->Bool->T->Prop}(h:aME sl c t K): ∃s b t',(mk sl rs).ev c= .p none (.bool b)/\(∀rs',mk (iE sl s b) rs' =mk sl rs')/\K s b t' :=by
 unfold aME at h;split at h
 ·rename_i s;split at h
  ·rename_i b hb;obtain⟨t',h⟩:=aF9 h;exact⟨some s,b,t',hb,fun rs' =>aK4 hb,h⟩
  cases h
 ·rename_i b;obtain⟨t',h⟩:=aF9 h;exact⟨none,b,t',rfl,fun _=>rfl,h⟩
 cases h
def frc {α:Type}(n:Nat)(k:Nat->α):α:=match n with | 0=>k 0 | m+1=>k (m+1)
theorem aMF {α:Type}(n:Nat)(k:Nat->α):frc n k=k n:=by cases n<;>rfl
def bm:List Nat->Nat
 | []=>0
 | h::l=>Nat.lor (Nat.shiftLeft 1 h) (bm l)
theorem aK7 (h:Nat):(Nat.shiftLeft 1 h).testBit h=true:=by
 show (1<<<h).testBit h=true;rw[Nat.testBit_shiftLeft];simp
theorem aIl {h j:Nat}(e:(Nat.shiftLeft 1 h).testBit j=true):j=h:=by
 have e:(1<<<h).testBit j=true:=e;rw[Nat.one_shiftLeft,Nat.testBit_two_pow] at e;simpa using (of_decide_eq_true e).symm
theorem zL (a b j:Nat):(Nat.lor a b).testBit j=(a.testBit j || b.testBit j):=Nat.testBit_or a b j
theorem qO: ∀{l:List Nat} {h:Nat},h∈l->(bm l).testBit h=true
 | a::l,h,hm=>by
   rw[bm,zL];rcases aIo.1 hm with rfl | q
   ·rw[aK7];rfl
   rw[qO q];simp
structure Sm where
 d:Nat
 L:Nat
 W:Nat
 T:Nat
 M:Nat
 N:Nat
 R:Nat
def qP (a b:Nat):Bool:=Nat.beq (Nat.land a b) 0
theorem aK8 {a b:Nat}(h:qP a b=true){j:Nat}(ha:a.testBit j=true):b.testBit j=false:=by
 have h1:a&&&b=0:=aD8 h;have h2:=Nat.testBit_and a b j;rw[h1,Nat.zero_testBit,ha,Bool.true_and] at h2;exact h2.symm
theorem sG {a b:List Nat}{A B:Nat}(ha: ∀h∈a,A.testBit h=true)(hb: ∀h∈b,B.testBit h=true)(h:qP A B=true):vA a b=true:=by
 rw[vA,aFJ];intro x hx;have h1:=aK8 h (ha x hx);rw[Bool.not_eq_true',List.contains_eq_mem,decide_eq_false_iff_not];intro hm;rw[hb x hm] at h1;cases h1
def rOf (acc:List Sm)(n:Nat):List Edge->Nat
 | []=>0
 | e::es=>(match Region.binds .any e with
   | true=>Nat.lor (Nat.shiftLeft 1 e.on) (Nat.lor (match acc[n - 1 - e.on]? with | some s=>s.R | none=>0) (rOf acc n es))
   | false=>rOf acc n es)
def aK9 (y:Sm):Nat->List Sm->Bool
 | k+1,x::l=>(match qP y.R (Nat.shiftLeft 1 k) with
  | false=>true
  | true=>qP x.d (Nat.lor y.L y.d)&&qP y.d x.L&&qP x.W (Nat.lor y.T y.W)&&qP y.W x.T&&qP x.N y.M)&&qP y.N x.M&&aK9 y k l
 | _,_=>true
def aMe (n:Nat)(y:dT):Bool:=(y.o.after.toList.all fun e=> !Region.binds .any e || Nat.blt e.on n)&&(y.skip || y.e.new.all fun q=> !y.e.del.contains q.1 || (aO y.vr q.1).isSome)
def aGY (ops:Array Oper):Nat->List Sm->List dT->Bool
 | _,_,[]=>true
 | n,acc,y::l=>aMe n y&&frc (bm y.o.dst.toList) fun d=>frc (bm (y.looks ops)) fun L=>frc (bm y.W) fun W=>frc (bm y.T) fun T=>frc (Nat.lor (bm y.M) W) fun M=>frc (bm y.Nw) fun N=>frc (rOf acc n y.o.after.toList) fun R=>
  aK9 ⟨d,L,W,T,M,N,R⟩ n acc&&aGY ops (n+1) (⟨d,L,W,T,M,N,R⟩::acc) l
structure aMf (ops:Array Oper) (s:Sm) (x:dT):Prop where
 d: ∀h∈x.o.dst.toList,s.d.testBit h=true
 L: ∀h∈x.looks ops,s.L.testBit h=true
 W: ∀h∈x.W,s.W.testBit h=true
 T: ∀h∈x.T,s.T.testBit h=true
 M: ∀h∈x.M++x.W,s.M.testBit h=true
 N: ∀h∈x.Nw,s.N.testBit h=true
 R: ∀j,s.R.testBit j=true->lP ops (x.i+1) j x.o.after=true
theorem tN {ops:Array Oper}: ∀{n m x:Nat} {es:Array Edge},n<=m->lP ops n x es=true->lP ops m x es=true
 | 0,_,_,_,_,h=>by simp[lP] at h
 | n+1,0,_,_,hm,_=>by omega
 | n+1,m+1,x,es,hm,h=>by
   rw[lP,Array.any_eq_true] at h ⊢;obtain⟨i,hi,h⟩:=h;refine⟨i,hi,?_⟩;rw[aBT,Bool.or_eq_true] at h ⊢;refine⟨h.1,h.2.imp id fun h=>?_⟩;split at h
   ·exact tN (by omega) h
   cases h
theorem aDI {acc:List Sm}{n j:Nat}: ∀{es:List Edge},(rOf acc n es).testBit j=true-> ∃e∈es,Region.binds .any e=true/\(e.on=j\/ ∃s,acc[n - 1 - e.on]? =some s/\s.R.testBit j=true)
 | [],h=>by simp[rOf] at h
 | e::es,h=>by
   rw[rOf] at h;split at h
   ·rename_i hb;rw[zL,zL,Bool.or_eq_true,Bool.or_eq_true] at h;rcases h with h | h | h
    ·exact⟨e,by simp,hb,.inl (aIl h).symm⟩
    ·split at h
     ·rename_i s hs;exact⟨e,by simp,hb,.inr ⟨s,hs,h⟩⟩
     simp at h
    obtain⟨e',he,h⟩:=aDI h;exact⟨e',by simp[he],h⟩
   obtain⟨e',he,h⟩:=aDI h;exact⟨e',by simp[he],h⟩
theorem aGZ {y:Sm}: ∀{k:Nat} {l:List Sm},k=l.length->aK9 y k l=true-> ∀j x,j<k->l[k - 1 - j]? =some x->((qP y.R (Nat.shiftLeft 1 j)=false)\/(qP x.d (Nat.lor y.L y.d)=true/\qP y.d x.L=true/\qP x.W (Nat.lor y.T y.W)=true/\qP y.W x.T=true/\qP x.N y.M=true))/\qP y.N x.M=true
 | 0,l,_,_,j,x,hj,_=>by omega
 | k+1,[],hk,_,_,_,_,_=>by simp at hk
 | k+1,z::l,hk,h,j,x,hj,hx=>by
   rw[aK9,aBT,aBT] at h;obtain⟨⟨h1,h2⟩,h3⟩:=h;by_cases e:j=k
   ·subst e;rw[show j+1 - 1 - j=0 by omega] at hx;simp only[List.getElem?_cons_zero,Option.some.injEq] at hx;subst hx;refine⟨?_,h2⟩;split at h1
    ·rename_i q;exact .inl q
    simp only[aBT] at h1;exact .inr ⟨h1.1.1.1.1,h1.1.1.1.2,h1.1.1.2,h1.1.2,h1.2⟩
   rw[show k+1 - 1 - j=(k - 1 - j)+1 by omega,List.getElem?_cons_succ] at hx;exact aGZ (by simpa using hk) h3 j x (by omega) hx
def aIm (y:dT):Prop:=(y.o.after.all (fun e=> !Region.binds .any e || decide (e.on<y.i))&&(y.skip || y.e.new.all fun q=> !y.e.del.contains q.1 || (aO y.vr q.1).isSome))=true
theorem aES {ops:Array Oper}: ∀{l:List dT},l.Pairwise (fun x y=>x.i<y.i/\qA ops x y=true)->(∀y∈l,aIm y)->lQ ops l=true
 | [],_,_=>rfl
 | x::l,h,ho=>by
   obtain⟨h1,h2⟩:=List.pairwise_cons.1 h;have h3:=ho x (by simp);rw[aIm,aBT] at h3;rw[lQ,aES h2 fun y hy=>ho y (by simp[hy]),h3.1,h3.2,Bool.and_true,Bool.and_true,Bool.and_true,aFJ];intro y hy;rw[(h1 y hy).2,decide_eq_true (h1 y hy).1];rfl
theorem aMG {A B:Nat}{l m:List Nat}(h1: ∀h∈l,A.testBit h=true)(h2: ∀h∈m,B.testBit h=true): ∀h∈l++m,(Nat.lor A B).testBit h=true:=fun h hm=>by
 rw[zL,Bool.or_eq_true];rcases aFZ.1 hm with q | q
 ·exact .inl (h1 h q)
 exact .inr (h2 h q)
theorem aG0 {ops:Array Oper}: ∀(l done:List dT) (acc:List Sm),acc.length=done.length->(∀k x,done[k]? =some x->x.i=k/\ ∃s,acc[done.length - 1 - k]? =some s/\aMf ops s x)->(∀k x,l[k]? =some x->x.i=done.length+k)->(∀x∈done++l,ops[x.i]? =some x.o)->done.length+l.length<=ops.size->aGY ops done.length acc l=true->
 (∀y∈l,aIm y)/\(∀x∈done,∀y∈l,x.i<y.i/\qA ops x y=true)/\l.Pairwise (fun x y=>x.i<y.i/\qA ops x y=true)
 | [],done,acc,_,_,_,_,_,_=>⟨by simp,by simp,List.Pairwise.nil⟩
 | y::l,done,acc,hal,hd,hl,ho,hs,h=>by
   rw[aGY] at h;simp only[aMF] at h;rw[aBT,aBT] at h;obtain⟨hown,hall,hrest⟩:=h;have hyi:y.i=done.length:=by have:=hl 0 y rfl;omega
   rw[aMe,aBT] at hown;have hafter:=aFJ.1 hown.1
   have hsm:aMf ops ⟨bm y.o.dst.toList,bm (y.looks ops),bm y.W,bm y.T,Nat.lor (bm y.M) (bm y.W),bm y.Nw,rOf acc done.length y.o.after.toList⟩ y:=by
    refine⟨fun h hm=>qO hm,fun h hm=>qO hm,fun h hm=>qO hm,fun h hm=>qO hm,aMG (fun h hm=>qO hm) (fun h hm=>qO hm),fun h hm=>qO hm,fun j hj=>?_⟩;obtain⟨e,he,hb,hq⟩:=aDI hj
    have hlt:e.on<done.length:=by
     have:=hafter e he;rw[hb] at this;simpa [Nat.blt_eq] using this
    rw[hyi,lP,Array.any_eq_true];obtain⟨i,hi,hie⟩:=List.mem_iff_getElem.1 he;refine⟨i,by simpa using hi,?_⟩;rw[show y.o.after[i]'(by simpa using hi)=e by simpa using hie,hb,Bool.true_and,Bool.or_eq_true];rcases hq with q | ⟨s,hs1,hs2⟩
    ·left;rw[q];exact Nat.beq_refl j
    right;have hx:done[e.on]? =some (done[e.on]'hlt):=aCp hlt;obtain⟨x1,s',x2,x3⟩:=hd e.on _ hx;rw[x2] at hs1;injection hs1 with hs1
    subst hs1;have h4:=x3.R j hs2;rw[x1] at h4;have h5:=ho (done[e.on]'hlt) (aHk _ (aMv hlt));rw[x1] at h5;rw[h5];exact tN (by omega) h4
   have hpair: ∀x∈done,x.i<y.i/\qA ops x y=true:=fun x hx=>by
    obtain⟨k,hk,hkx⟩:=List.mem_iff_getElem.1 hx;obtain⟨x1,s,x2,x3⟩:=hd k x (by rw[aCp hk,hkx]);refine⟨by omega,?_⟩;have h1:=aGZ hal.symm hall k s hk x2;rw[qA,aBT];refine⟨?_,sG hsm.N x3.M h1.2⟩;rw[Bool.or_eq_true];rcases h1.1 with q | ⟨q1,q2,q3,q4,q5⟩
    ·left
     have hbit:(rOf acc done.length y.o.after.toList).testBit k=true:=by
      cases hb:(rOf acc done.length y.o.after.toList).testBit k with
      | true=>rfl
      | false=>
        exfalso
        have hz:(rOf acc done.length y.o.after.toList)&&&(1<<<k)=0:=by
         apply Nat.eq_of_testBit_eq;intro j;rw[Nat.testBit_and,Nat.zero_testBit];by_cases e:j=k
         ·subst e;rw[hb];rfl
         rw[Nat.one_shiftLeft,Nat.testBit_two_pow,decide_eq_false (fun q=>e q.symm),Bool.and_false]
        have:qP (rOf acc done.length y.o.after.toList) (Nat.shiftLeft 1 k)=true:=by
         show Nat.beq ((rOf acc done.length y.o.after.toList)&&&(1<<<k)) 0=true;rw[hz];rfl
        rw[this] at q;cases q
     have:=hsm.R k hbit;rw[aCy,x1];simp only[aJv] at hs;exact tN (by omega) this
    right;rw[aBT,aAQ];simp only[aBT];exact⟨⟨⟨⟨sG x3.d (aMG hsm.L hsm.d) q1,sG hsm.d x3.L q2⟩,sG x3.W (aMG hsm.T hsm.W) q3⟩,sG hsm.W x3.T q4⟩,sG x3.N hsm.M q5⟩
   have hownP:aIm y:=by
    rw[aIm,aBT];refine⟨?_,hown.2⟩;rw[<-Array.all_toList,aFJ];intro e he;have:=hafter e he;rw[hyi]
    rwa [show Nat.blt e.on done.length=decide (e.on<done.length) from Bool.eq_iff_iff.2 (by rw[Nat.blt_eq,aMX])] at this
   have hlen:(done++[y]).length=done.length+1:=by simp
   have ih:=aG0 (ops:=ops) l (done++[y]) (_::acc) (by simp[hal]) (fun k x hk=>by
    by_cases e:k=done.length
    ·subst e;rw[aHx (aLB _),Nat.sub_self] at hk;simp only[List.getElem?_cons_zero,Option.some.injEq] at hk;subst hk;exact⟨hyi,_,by rw[hlen,show done.length+1 - 1 - done.length=0 by omega];rfl,hsm⟩
    ·have hk' :k<done.length:=by
      have:=(aEA.1 hk).1;omega
     rw[aLc hk'] at hk;obtain⟨x1,s,x2,x3⟩:=hd k x hk;exact⟨x1,s,by rw[hlen,show done.length+1 - 1 - k=(done.length - 1 - k)+1 by omega,List.getElem?_cons_succ];exact x2,x3⟩)
    (fun k x hk=>by have:=hl (k+1) x (by simpa using hk);rw[hlen];omega) (fun x hx=>ho x (by simpa using hx)) (by simp only[aJv] at hs;rw[hlen];omega) (by rw[hlen];exact hrest)
   obtain⟨i1,i2,i3⟩:=ih;refine⟨fun z hz=>?_,fun x hx z hz=>?_,List.pairwise_cons.2 ⟨fun z hz=>i2 y (by simp) z hz,i3⟩⟩
   ·rcases aIo.1 hz with rfl | q
    ·exact hownP
    exact i1 z q
   rcases aIo.1 hz with rfl | q
   ·exact hpair x hx
   exact i2 x (by simp[hx]) z q
theorem aET {P:Program}{N:Nat}{ops:Array Oper}{K:St->Prop}: ∀{l:List dT} {S:St},tI P N ops l S K-> ∀x∈l,ops[x.i]? =some x.o
 | [],_,_,x,hx=>by simp at hx
 | r::l,S,h,x,hx=>by
   obtain⟨h1,h2⟩:=h;rcases aIo.1 hx with rfl | q
   ·exact h1.1
   exact aET h2 x q
def aMH (all:Array Oper)(sl:Sl)(rs:Rl)(recs:List dT):Bool:=aGY all 0 [] recs&&recs.all fun r=>r.Nw.all fun k=>dL sl rs k
theorem aHR {P:Program}{N:Nat}{id:Nat}{l:List Oper}{sl:Sl}{rs:Rl}{Q:Exit->St->Prop}(hm:P.follows .mixedOrders=true)(h:jX P N l.toArray 0 l sl rs [] (fun S recs=>aMH l.toArray sl rs recs=true/\Q .normal S)):VC P N (.region id l.toArray true) (mk sl rs) Q:=by
 intro A w0 a w hG;obtain⟨recs,S',h1,⟨h2,h3⟩,h4⟩:=sD l 0 sl rs [] h;simp only[List.reverse_nil,aMg] at h2;unfold aMH at h2;rw[aBT,aFJ] at h2
 have hmem: ∀i,(∃r∈recs,r.i=i)↔i<l.length:=fun i=>by
  have:(∃r∈recs,r.i=i)↔i∈recs.map (·.i):=by simp
  rw[this,h4];simp[List.mem_range']
 have hsz:l.toArray.size=l.length:=by simp
 have hlen:recs.length=l.length:=by have:=congrArg List.length h4;simpa using this
 have hlk:lQ l.toArray recs=true:=by
  obtain⟨q1,_,q3⟩:=aG0 recs [] [] rfl (fun k x hk=>by simp at hk) (fun k x hk=>by
   have h5:(recs.map (·.i))[k]? =some x.i:=by rw[aMm,hk];rfl
   rw[h4] at h5;have:=(aEA.1 h5).2;simp only[List.getElem_range'] at this;simp only[List.length_nil];omega) (fun x hx=>aET h1 x (by simpa using hx)) (by simp[hlen]) h2.1
  exact aES q3 q1
 refine wp_region_any hm (aHF (Kn:=fun S=>S=S') (fun S a w hS hG=>⟨S,hG,by rw[hS];exact h3⟩) _ recs _ (mk sl rs) a _ (by rw[hsz,<-aBS (f:=fun r:dT=>r.i),h4];simp) h1 hlk (fun i hi=>?_) (fun i hi=>?_) (fun r hr=>?_) (fun r hr k hk=>cW (aFJ.1 (h2.2 r hr) k hk)) (fun i o hi _ hl' =>by exfalso;rw[hsz] at hi;rw[Array.getD_eq_getD_getElem?] at hl';simp[hi] at hl') hG.drew)
 ·rw[hmem];rw[hsz] at hi;simp[hi]
 ·rw[hsz] at hi;simp[hi]
 rw[hsz];exact(hmem r.i).1 ⟨r,hr,rfl⟩
theorem VC.ghost {P:Program}{N:Nat}{c:Code}{S S' :St}{Q:Exit->St->Prop}(h:VC P N c S' Q)(hg: ∀A w0 N a w,nT A w0 N S a w->nT A w0 N S' a w):VC P N c S Q:=fun A w0 a w hG=>h A w0 a w (hg A w0 N a w hG)
section
variable (P:Program) (tb:Tb) (N:Nat)
def wpC:Code->Sl->Rl->Sl->Rl->T->(Exit->Sl->Rl->T->Prop)->Prop
 | .skip,_,_,pre,prr,t,K=>K .normal pre prr t
 | .ret,_,_,pre,prr,t,K=>K .ret pre prr t
 | .exit id,_,_,pre,prr,t,K=>K (.exit id) pre prr t
 | .region id ops draw,bs,br,pre,prr,t,K=>gsW id (pre++bs) (prr++br) t fun n1 n2 t=>ghW id ((n1++pre)++bs) ((n2++prr)++br) t fun new t=>(match ops with
   | ⟨l⟩=>(match draw with
     | false=>aFa P tb N l bs br l (n1++pre) (new++(n2++prr)) t (fun pre prr t=>K .normal pre prr t)
     | true=>vL P tb N l bs br 0 l (n1++pre) (new++(n2++prr)) [] t (fun pre' prr' acc t=>(match aMH l.toArray ((n1++pre)++bs) ((new++(n2++prr))++br) acc.reverse with
       | true=>K .normal pre' prr' t
       | false=>False))))
 | .seq a b,bs,br,pre,prr,t,K=>wpC a bs br pre prr t (fun e pre prr t=>(match e with
   | .normal=>wpC b bs br pre prr t K
   | e=>K e pre prr t))
 | .cond c x y,bs,br,pre,prr,t,K=>aME (pre++bs) c t (fun s b t=>(match b with
   | true=>wpC x bs br (iE pre s true) prr t K
   | false=>wpC y bs br (iE pre s false) prr t K))
 | .block id c,bs,br,pre,prr,t,K=>wpC c bs br pre prr t (fun e pre prr t=>(match e with
   | .exit id' =>(match Nat.beq id' id with | true=>K .normal pre prr t | false=>K (.exit id') pre prr t)
   | e=>K e pre prr t))
 | .loop c,bs,br,pre,prr,t,K=>(match t with
   | .loop _ q W V osl ors inv m t=>
     (q.ex 0 fun y=>(match aGV W V (gmF (aIk (prr++br) (ors y)) ((ors y).map (·.1))) [] [] (kD W++(pre++bs)) (gM V++(prr++br)) (ors y) with | true=>EqS (pre++bs) (gmF (aIk (prr++br) (ors y)) ((ors y).map (·.1))) (osl y) (aB8 (prr++br) (gmF (aIk (prr++br) (ors y)) ((ors y).map (·.1))) (ors y) (inv y)) | false=>False))/\
     q.all fun x=>inv x->wpC c (kD W++(pre++bs)) (gM V++(prr++br)) (osl x) (ors x) (t x) (fun e pre' prr' t' =>(match e with
      | .normal=>(match t' with
        | .back ren n=>q.ex n fun y=>(match aGV W V (gmF ren ((ors y).map (·.1))) pre' prr' (kD W++(pre++bs)) (gM V++(prr++br)) (ors y) with
          | true=>EqS (pre' ++(kD W++(pre++bs))) (gmF ren ((ors y).map (·.1))) (osl y) (aB8 (prr' ++(gM V++(prr++br))) (gmF ren ((ors y).map (·.1))) (ors y) (inv y/\m y<m x))
          | false=>False)
        | _=>False)
      | e=>K e (pre' ++(kD W++pre)) (prr' ++(gM V++prr)) t'))
   | _=>False)
 | _,_,_,_,_,_,_=>False
end
section
variable {P:Program} {tb:Tb} {N:Nat}
open Classical in
theorem aIn {S:St}{Q:Exit->St->Prop}{c:Code}(I:Nat->St->Prop)(n:Nat)(h0:I n S)(round: ∀n S,I n S->VC P N c S (aLJ (fun S' => ∃m S'',m<n/\(∀A w0 a w,nT A w0 N S' a w->nT A w0 N S'' a w)/\I m S'') Q)):VC P N (.loop c) S Q:=fun A w0 a w hG=>by
 let J:Act->World->Nat->Prop:=fun a w n=> ∃S,I n S/\nT A w0 N S a w
 refine wp_loop (fun a w=> ∃n,J a w n) (fun a w=>if h: ∃n,J a w n then Classical.choose (tG _ h) else 0) ⟨n,S,h0,hG⟩ fun a w hI=>?_;have hmin:=Classical.choose_spec (tG _ hI);obtain⟨⟨S1,hI1,hG1⟩,_⟩:=hmin;refine Code.wp_mono (fun e a' w' ⟨S',h1,h2⟩=>?_) (round _ S1 hI1 A w0 a w hG1);cases e with
 | normal=>
   obtain⟨m,S'',hm,hl,hI2⟩:=h2;have hex: ∃n,J a' w' n:=⟨m,S'',hI2,hl A w0 a' w' h1⟩;refine⟨hex,?_⟩;simp only[dif_pos hI,dif_pos hex];exact Nat.lt_of_le_of_lt ((Classical.choose_spec (tG _ hex)).2 m ⟨S'',hI2,hl A w0 a' w' h1⟩) hm
 | _=>exact⟨S',h1,h2⟩
theorem qQ (hT:fQ P tb)(hm:P.follows .mixedOrders=true): ∀(c:Code) (bs:Sl) (br:Rl) (pre:Sl) (prr:Rl) (t:T) (K:Exit->Sl->Rl->T->Prop),wpC P tb N c bs br pre prr t K->VC P N c (mk (pre++bs) (prr++br)) (fun e S=> ∃pre' prr' t',S=mk (pre' ++bs) (prr' ++br)/\K e pre' prr' t')
 | .skip,bs,br,pre,prr,t,K,h=>aJo ⟨pre,prr,t,rfl,h⟩
 | .ret,bs,br,pre,prr,t,K,h=>aLV ⟨pre,prr,t,rfl,h⟩
 | .exit id,bs,br,pre,prr,t,K,h=>aJp ⟨pre,prr,t,rfl,h⟩
 | .region id ops draw,bs,br,pre,prr,t,K,h=>by
   obtain⟨l⟩:=ops;simp only[wpC] at h;obtain⟨n1,n2,t,hst,h⟩:=aMB h;rw[<-aHv,<-aHv] at hst;refine(?_:VC P N (.region id l.toArray draw) (mk ((n1++pre)++bs) ((n2++prr)++br)) _).ghost hst;generalize n1++pre=pre at h ⊢;generalize n2++prr=prr at h ⊢;obtain⟨new,t,hgh,h⟩:=aMC h;rw[<-aHv] at hgh;refine(?_:VC P N (.region id l.toArray draw) (mk (pre++bs) ((new++prr)++br)) _).ghost hgh;cases draw with
   | false=>
     dsimp only at h
     exact aLb (zJ hT l pre (new++prr) t h)
   | true=>
     dsimp only at h
     refine aHR hm ?_;have:=aEQ hT (all:=l) l [] pre (new++prr) [] t rfl h;refine lA ?_ l 0 _ _ _ this;rintro S recs ⟨pre',prr',acc',t',e1,e2,h⟩;split at h
     ·rename_i hk;exact⟨by rw[e2];exact hk,pre',prr',t',e1,h⟩
     cases h
 | .seq a b,bs,br,pre,prr,t,K,h=>by
   simp only[wpC] at h;refine aLW fun Kn hKn=>aCx (qQ hT hm a bs br pre prr t _ h) ?_;rintro e S ⟨pre',prr',t',rfl,h⟩;cases e with
   | normal=>exact hKn _ (qQ hT hm b bs br pre' prr' t' K h)
   | _=>exact⟨pre',prr',t',rfl,h⟩
 | .cond c x y,bs,br,pre,prr,t,K,h=>by
   simp only[wpC] at h;obtain⟨s,b,t',h1,h2,h⟩:=aK6 (rs:=prr++br) h;refine aJq h1 (fun e=>?_) (fun e=>?_)
   ·subst e;rw[<-h2,iT];exact qQ hT hm x bs br _ prr t' K h
   subst e;rw[<-h2,iT];exact qQ hT hm y bs br _ prr t' K h
 | .block id c,bs,br,pre,prr,t,K,h=>by
   simp only[wpC] at h;refine aHu (aCx (qQ hT hm c bs br pre prr t _ h) ?_);rintro e S ⟨pre',prr',t',rfl,h⟩;cases e with
   | exit id' =>
     simp only[aFT]
     dsimp only at h
     split at h
     ·rename_i e;rw[if_pos (aD8 e)];exact⟨pre',prr',t',rfl,h⟩
     rename_i e;rw[if_neg (fun e' =>by rw[e',Nat.beq_refl] at e;cases e)];exact⟨pre',prr',t',rfl,h⟩
   | _=>exact⟨pre',prr',t',rfl,h⟩
 | .loop c,bs,br,pre,prr,t,K,h=>by
   simp only[wpC] at h;split at h
   ·rename_i τ q W V osl ors inv m t;obtain⟨hi,hr⟩:=h;obtain⟨y,hi⟩:=q.h2 _ _ hi;have hr:=q.h1 _ hr;split at hi
    ·rename_i hk;obtain⟨i1,i2⟩:=aFc hi;obtain⟨i3,i4⟩:=aDH i2;obtain⟨g0,_,_,g3,g4,g5⟩:=aGX hk;refine fun A w0 a w hG=>?_;refine(?_:VC P N (.loop c) (mk (osl y++(kD W++(pre++bs))) (ors y++(gM V++(prr++br)))) _) A w0 a w (aER g0 g3 g4 g5 (fun t ht=>by rw[aA9,if_neg ht]) (fun h hh=>by rw[tM,if_neg hh]) i1 i3 hG);refine aIn (fun n S=> ∃x,S=mk (osl x++(kD W++(pre++bs))) (ors x++(gM V++(prr++br)))/\n=m x/\inv x) (m y) ⟨y,rfl,rfl,i4⟩ ?_;rintro n S ⟨x,rfl,rfl,hx⟩;refine aCx (qQ hT hm c _ _ _ _ _ _ (hr x hx)) ?_;rintro e S ⟨pre',prr',t',rfl,h⟩;cases e with
     | normal=>
       dsimp only at h
       split at h
       ·rename_i ren;obtain⟨y,h⟩:=q.h2 _ _ h;split at h
        ·rename_i hk2;obtain⟨j1,j2⟩:=aFc h;obtain⟨j3,j4,j5⟩:=aDH j2;obtain⟨g0,g1,g2,g3,g4,g5⟩:=aGX hk2;refine⟨m y,_,j5,fun A w0 a w hG=>aER g0 g3 g4 g5 (fun t ht=>?_) (fun h hh=>?_) j1 j3 hG,y,rfl,rfl,j4⟩
         ·rcases aCN (o:=pre') (b:=kD W++(pre++bs)) (t:=t) with ⟨x,q1,_⟩ | ⟨_,q2⟩
          ·exact absurd (g1 _ q1) ht
          exact q2
         rcases xK (o:=prr') (b:=gM V++(prr++br)) (t:=h) with ⟨x,q1,_⟩ | ⟨_,q2⟩
         ·exact absurd (g2 _ q1) hh
         exact q2
        cases h
       cases h
     | _=>exact⟨_,_,_,by simp only[aHv],h⟩
    cases hi
   cases h
 | .rangeFunc _ _ _ _,bs,br,pre,prr,t,K,h=>by simp only[wpC] at h
 | .scope _,bs,br,pre,prr,t,K,h=>by simp only[wpC] at h
 | .label _,bs,br,pre,prr,t,K,h=>by simp only[wpC] at h
 | .goto _,bs,br,pre,prr,t,K,h=>by simp only[wpC] at h
 | .refuse _,bs,br,pre,prr,t,K,h=>by simp only[wpC] at h
end
def aHS (tb:Tb)(sl:Sl)(rs:Rl):List ResultVar->Option (List AV)
 | []=>some []
 | r::l=>(match (match r with
  | .tmp t=>some (aY sl t)
  | .cell t ty=>(match aY sl t with
    | .ptr h 0=>(match aO rs h with
      | some (.box _ cs)=>(match bM tb.ty ty with
        | some (true,n,_,_)=>(match Nat.beq n cs.length with | true=>some (.agg cs) | false=>none)
        | some (false,_,_,_)=>cs[0]?
        | none=>none)
      | _=>none)
    | _=>none)) with
   | some x=>(match aHS tb sl rs l with | some xs=>some (x::xs) | none=>none)
   | none=>none)
mutual
def tO (ren:List (Nat × Nat)):AV->AV->Prop->Prop
 | .nil,y,K=>(match y with | .nil=>K | .own h=>(match bM ren h with | none=>K | some _=>False) | .p none (.sl _ _ xs)=>[]=xs/\K | _=>False)
 | .own g,y,K=>(match y with | .own h=>(match bM ren h with | some g' =>EqN g g' K | none=>False) | _=>False)
 | .p none x,y,K=>(match y with | .p none x' =>EqD x x' /\K | _=>False)
 | .agg cs,y,K=>(match y with | .agg cs' =>aHT ren cs cs' K | _=>False)
 | .tup cs,y,K=>(match y with | .tup cs' =>aHT ren cs cs' K | _=>False)
 | _,_,_=>False
def aHT (ren:List (Nat × Nat)):List AV->List AV->Prop->Prop
 | [],ys,K=>(match ys with | []=>K | _=>False)
 | x::xs,ys,K=>(match ys with | y::ys=>tO ren x y (aHT ren xs ys K) | []=>False)
end
def rrW (rs:Rl)(ren:List (Nat × Nat)):List (Nat × Rs)->Prop
 | []=>True
 | (h,r)::l=>(match bM ren h with
   | some g=>(match aO rs g with | some r' =>EqR r' r (rrW rs ren l) | none=>False)
   | none=>(match r with | .arr _ _ _ xs=>[]=xs/\rrW rs ren l | _=>False))
def aMI (tb:Tb)(res:List ResultVar)(rv:AV)(rr:List (Nat × Rs))(e:Exit)(sl:Sl)(rs:Rl)(t:T):Prop:=
 (match (match e with | .normal=>true | .ret=>true | _=>false) with
 | true=>(match t with
   | .fin ren=>(match aHS tb sl rs res with
     | some xs=>(match gE (ren.map (·.2))&&gE (rr.map (·.1))&&(rr.all fun q=>aB3 q.2)&&((bD rv).all fun h=>(aN rr h).isSome) with
       | true=>tO ren (aDp xs) rv (rrW rs ren rr)
       | false=>False)
     | none=>False)
   | _=>False)
 | false=>False)
theorem aDJ {P:Program}{tb:Tb}(hT:fQ P tb){sl:Sl}{rs:Rl}: ∀{l:List ResultVar} {xs:List AV},aHS tb sl rs l=some xs->aJs P (mk sl rs) l xs
 | [],xs,h=>by simp only[aHS,Option.some.injEq] at h;subst h;exact rfl
 | r::l,xs,h=>by
   unfold aHS at h;split at h
   ·rename_i x hx;split at h
    ·rename_i xs' hxs;injection h with h
     subst h;refine⟨x,xs',rfl,?_,aDJ hT hxs⟩;cases r with
     | tmp t=>dsimp only at hx;injection hx with hx;subst hx;rfl
     | cell t ty=>
       dsimp only at hx
       split at hx
       ·rename_i hh hs;split at hx
        ·rename_i tq cs hr;split at hx
         ·rename_i n bt z hq;split at hx
          ·rename_i hn;injection hx with hx
           subst hx;exact⟨_,_,_,_,_,_,_,hs,hr,bP hT.ty hq,.inl ⟨rfl,aD8 hn,rfl⟩⟩
          cases hx
         ·rename_i n bt z hq;exact⟨_,_,_,_,_,_,_,hs,hr,bP hT.ty hq,.inr ⟨rfl,hx⟩⟩
         cases hx
        cases hx
       cases hx
    cases h
   cases h
mutual
theorem aG1 {ren:List (Nat × Nat)}{K:Nat->Prop}{φ φ' :dW}{w:World}(h1: ∀h g pl,bM ren h=some g->φ' h=some pl->φ g=some pl)(h2: ∀h pl,bM ren h=none->φ' h=some pl->pl=eE): ∀(x y:AV) (Q:Prop) (v:Value),tO ren x y Q->aC K φ w x v->aC K φ' w y v/\Q
 | .nil,y,Q,v,h,hm=>by
   unfold tO at h;unfold aC at hm;split at h
   ·exact⟨by unfold aC;exact hm,h⟩
   ·split at h
    ·rename_i hl;refine⟨?_,h⟩;unfold aC;intro pl hp;rw[h2 _ pl hl hp,hm];rfl
    cases h
   ·refine⟨?_,h.2⟩;unfold aC;rw[hm,<-h.1];exact mQ
   cases h
 | .own g,y,Q,v,h,hm=>by
   unfold tO at h;unfold aC at hm;split at h
   ·split at h
    ·rename_i g' hl;obtain⟨e,hQ⟩:=h.eq;subst e;refine⟨?_,hQ⟩;unfold aC;intro pl hp;exact hm pl (h1 _ _ pl hl hp)
    cases h
   cases h
 | .p none x,y,Q,v,h,hm=>by
   unfold tO at h;split at h
   ·refine⟨?_,h.2⟩;unfold aC at*;rw[<-h.1.eq];exact hm
   cases h
 | .p (some _) x,y,Q,v,h,hm=>by unfold tO at h;cases h
 | .agg cs,y,Q,v,h,hm=>by
   unfold tO at h;unfold aC at hm;obtain⟨vs,rfl,q1,q2⟩:=hm;split at h
   ·obtain⟨q3,q4⟩:=aDK h1 h2 cs _ Q _ h q2;refine⟨?_,q4⟩;unfold aC;exact⟨vs,rfl,q1,q3⟩
   cases h
 | .tup cs,y,Q,v,h,hm=>by
   unfold tO at h;unfold aC at hm;obtain⟨vs,rfl,q2⟩:=hm;split at h
   ·obtain⟨q3,q4⟩:=aDK h1 h2 cs _ Q _ h q2;refine⟨?_,q4⟩;unfold aC;exact⟨vs,rfl,q3⟩
   cases h
 | .ptr _ _,y,Q,v,h,hm=>by unfold tO at h;cases h
 | .ep _ _ _ _,y,Q,v,h,hm=>by unfold tO at h;cases h
 | .rp _ _,y,Q,v,h,hm=>by unfold tO at h;cases h
 | .fn _ _,y,Q,v,h,hm=>by unfold tO at h;cases h
 | .bsl _ _,y,Q,v,h,hm=>by unfold tO at h;cases h
 | .no,y,Q,v,h,hm=>by unfold tO at h;cases h
theorem aDK {ren:List (Nat × Nat)}{K:Nat->Prop}{φ φ' :dW}{w:World}(h1: ∀h g pl,bM ren h=some g->φ' h=some pl->φ g=some pl)(h2: ∀h pl,bM ren h=none->φ' h=some pl->pl=eE): ∀(xs ys:List AV) (Q:Prop) (vs:List Value),aHT ren xs ys Q->aH K φ w xs vs->aH K φ' w ys vs/\Q
 | [],ys,Q,vs,h,hm=>by
   unfold aHT at h;split at h
   ·unfold aH at*;exact⟨hm,h⟩
   cases h
 | x::xs,ys,Q,vs,h,hm=>by
   unfold aHT at h;unfold aH at hm;obtain⟨v,vs',rfl,q1,q2⟩:=hm;split at h
   ·obtain⟨q3,q4⟩:=aG1 h1 h2 x _ _ v h q1;obtain⟨q5,q6⟩:=aDK h1 h2 xs _ Q vs' q4 q2;refine⟨?_,q6⟩;unfold aH;exact⟨v,vs',rfl,q5 |>fun _=>q3,q5⟩
   cases h
end
theorem aFd {rs:Rl}{ren:List (Nat × Nat)}: ∀{l:List (Nat × Rs)},rrW rs ren l-> ∀h r,aN l h=some r->(∀g,bM ren h=some g->aO rs g=some r)/\(bM ren h=none-> ∃e k d,r= .arr e k d [])
 | [],_,h,r,e=>by simp[aN] at e
 | (k,r0)::l,hw,h,r,e=>by
   unfold rrW at hw;simp only[aN] at e;split at hw
   ·rename_i g hg;split at hw
    ·rename_i r' hr';obtain⟨e1,hw⟩:=hw.eq;split at e
     ·rename_i ek;subst ek;injection e with e
      subst e;exact⟨fun g' hg' =>by rw[hg] at hg';injection hg' with hg';subst hg';rw[hr',e1],fun hn=>by rw[hg] at hn;cases hn⟩
     exact aFd hw h r e
    cases hw
   rename_i hg;split at hw
   ·obtain⟨e1,hw⟩:=hw;split at e
    ·rename_i ek;subst ek;injection e with e
     subst e;exact⟨fun g' hg' =>(by rw[hg] at hg';cases hg'),fun _=>⟨_,_,_,by rw[<-e1]⟩⟩
    exact aFd hw h r e
   cases hw
def aMJ:aS->Prop->Prop
 | .sl _ _ xs,K=>xs.length<=9223372036854775807->K
 | _,K=>K
def aKa:List aS->Prop->Prop
 | [],K=>K
 | x::xs,K=>aMJ x (aKa xs K)
def aAa:List Ar->Prop->Prop
 | [],K=>K
 | .one x::l,K=>aMJ x (aAa l K)
 | .agg xs::l,K=>aKa xs (aAa l K)
 | .ref xs::l,K=>aKa xs (aAa l K)
 | .fn _ _::l,K=>aAa l K
theorem aG2 {A:Nat->Prop}{w:World}{x:aS}{v:Value}{K:Prop}(h:dR A w x v)(hk:aMJ x K):K:=by
 cases x with
 | sl e k xs=>
   unfold dR at h;obtain⟨a,c,_,h1,h2,_⟩:=h;exact hk (by unfold maxLen at h2;omega)
 | _=>exact hk
theorem aDL {A:Nat->Prop}{w:World}{K:Prop}: ∀{xs:List aS} {vs:List Value},fF A w xs vs->aKa xs K->K
 | [],_,_,hk=>hk
 | x::xs,_,⟨v,vs,_,h1,h2⟩,hk=>aDL h2 (aG2 h1 hk)
theorem qR {A:Nat->Prop}{w:World}{K:Prop}: ∀{xs:List Ar} {vs:List Value},jU A w xs vs->aAa xs K->K
 | [],_,_,hk=>hk
 | .one x::xs,_,⟨v,vs,_,h1,h2⟩,hk=>qR h2 (aG2 h1 hk)
 | .agg ys::xs,_,⟨v,vs,_,⟨us,_,h1⟩,h2⟩,hk=>qR h2 (aDL h1 hk)
 | .ref ys::xs,_,⟨v,vs,_,⟨a,_,h1⟩,h2⟩,hk=>by
   obtain⟨_,_,us,_,_,hl,_⟩:=h1.vals;exact qR h2 (aDL hl hk)
 | .fn _ _::xs,_,⟨v,vs,_,_,h2⟩,hk=>qR h2 hk
theorem aMh {P : Program} {tb : Tb} (hT : fQ P tb) (hm : P.follows .mixedOrders = true) {f : FuncId} {fn : Func} {c : Code} {args : List Ar} {rv : AV} {rr : List (Nat × Rs)} (hf : P.funcs[f]? = some fn) (hb : fn.body = some c) (hn : (fn.name == "runtime.NumGoroutine") = false) (hl : args.length ≤ fn.ntmps) (t : T)
 (h:aAa args (wpC P tb fn.ntmps c [] [] (qB 0 args) [] t (aMI tb fn.results.toList rv rr))):zC P f args rv rr:=by
 refine⟨by simp[fG,hf,hb,hn],fun A w vs hA hargs=>?_⟩;have h:=qR hargs h;refine calls_of_wp hf hb ?_;have hlen:=aBs hargs;simp only[aMw] at hlen
 have hG0:nT A ⟨w,fun _=>False,fun _=>none,by simp⟩ fn.ntmps (S0 args) { tmps:=vs++Array.replicate (fn.ntmps - vs.size) undef,defers:=[] } w:=by
  refine⟨A,fun _=>none,by simp[S0],by simp[S0],by simp,by simp,by simp,fun b hb=>⟨hA b hb,.inl hb⟩,by simp,fun _ h=>h,fun t=>?_,⟨rfl,rfl,rfl,aLB _,fun _ _ _=>rfl⟩,rfl,by simp;omega,by simp⟩;simp only[S0];split
  ·rename_i x hx;obtain⟨v,hv,hr⟩:=aDr hargs hx;have ht:t<vs.size:=by have:=(aEA.1 hv).1;simpa using this
   rw[Array.getD_eq_getD_getElem?,Array.getElem?_append_left ht,<-Array.getElem?_toList,hv];exact aFV hr
  unfold aC;trivial
 have hvc:=qQ hT hm c [] [] (qB 0 args) [] t _ h;simp only[aMd] at hvc;rw[<-aM9] at hvc;refine Code.wp_mono (fun e a' w' ⟨S,⟨K,φ,hG⟩,pre,prr,t',hS,hfin⟩=>?_) (hvc A _ _ w hG0);subst hS;unfold aMI at hfin;split at hfin
 ·rename_i he;split at hfin
  ·rename_i ren;split at hfin
   ·rename_i xs hxs;split at hfin
    ·rename_i hb;simp only[aBT,aFJ] at hb;obtain⟨⟨⟨b1,b2⟩,b3⟩,b4⟩:=hb;obtain⟨v,hrun,hmv⟩:=sU hG (aDJ hT hxs)
     let φ' :dW:=fun h=>match aN rr h with | some _=>(match bM ren h with | some g=>φ g | none=>some eE) | none=>none
     have p1: ∀h g pl,bM ren h=some g->φ' h=some pl->φ g=some pl:=fun h g pl e e' =>by
      simp only[φ',e] at e';split at e'
      ·exact e'
      cases e'
     have p2: ∀h pl,bM ren h=none->φ' h=some pl->pl=eE:=fun h pl e e' =>by
      simp only[φ',e] at e';split at e'
      ·injection e' with e';exact e'.symm
      cases e'
     have p3: ∀h pl,φ' h=some pl->(∃g,bM ren h=some g/\φ g=some pl)\/pl=eE:=fun h pl e=>by
      cases hl:bM ren h with
      | some g=>exact .inl ⟨g,rfl,p1 h g pl hl e⟩
      | none=>exact .inr (p2 h pl hl e)
     obtain⟨m1,m2⟩:=aG1 (φ' :=φ') p1 p2 _ _ _ v hfin hmv
     have hR:aLI A w rv rr (.returned v) w' :=by
      refine⟨v,K,φ',rfl,aHy hG.bel,fun b hb=>⟨(hG.kin b hb).1,(hG.kin b hb).2.imp id aGG⟩,fun b hb h pl e=>?_,fun h r hr=>?_,fun h hr=>by simp[φ',hr],fun h h' pl pl' hne e e' g hg=>?_,fun h pl e=>?_,fun h pl e=>?_,m1⟩
      ·rcases p3 h pl e with ⟨g,_,e⟩ | e
       ·exact hG.kout b hb g pl e
       rw[e];simp[eE,Pl.F]
      ·obtain⟨q1,q2⟩:=aFd m2 h r hr;cases hl:bM ren h with
       | some g=>
         obtain⟨pl,hp,hh⟩:=hG.dom g r (q1 g hl);exact⟨pl,by simp[φ',hr,hl,hp],Holds.arrPhi (b3 _ (bK hr)) hh⟩
       | none=>
         obtain⟨e,k,d,rfl⟩:=q2 hl;refine⟨eE,by simp[φ',hr,hl],?_⟩;cases d with
         | true=>exact⟨[],[],World.ownsRow_nil w' 0 e k,rfl,rfl,by unfold bE;exact⟨rfl,rfl⟩⟩
         | false=>exact⟨[],World.ownsRow_nil w' 0 e k,rfl,rfl,rfl⟩
      ·rcases p3 h pl e with ⟨q,l1,e1⟩ | e1
       ·rcases p3 h' pl' e' with ⟨q',l1',e1'⟩ | e1'
        ·exact hG.disj q q' pl pl' (fun x=>by subst x;exact hne (aAX b1 l1 l1')) e1 e1' g hg
        rw[e1'];simp[eE,Pl.F]
       rw[e1] at hg;simp[eE,Pl.F] at hg
      ·rcases p3 h pl e with ⟨g,_,e⟩ | e
       ·exact hG.nodup g pl e
       rw[e];simp[eE,Pl.F]
      rcases p3 h pl e with ⟨g,_,e⟩ | e
      ·exact fun q hq=>⟨aGG (hG.ge g pl e q hq).1,(hG.ge g pl e q hq).2⟩
      rw[e];simp[eE,Pl.F]
     cases e with
     | normal=>exact⟨hG.nd,v,hrun,hR⟩
     | ret=>exact⟨hG.nd,v,hrun,hR⟩
     | _=>cases he
    cases hfin
   cases hfin
  cases hfin
 cases hfin
def aB9 (fn : Func) (n : Nat) : Bool := (!(fn.name == "runtime.NumGoroutine") && fn.body.isSome) && Nat.ble n fn.ntmps
def aG3 (P:Program)(tb:Tb)(fn:Func)(args:List Ar)(rv:AV)(rr:List (Nat × Rs))(t:T):Prop:=aAa args (match fn.body with | some c=>wpC P tb fn.ntmps c [] [] (qB 0 args) [] t (aMI tb fn.results.toList rv rr) | none=>False)
theorem aMi {P:Program}{tb:Tb}(hT:fQ P tb)(hm:P.follows .mixedOrders=true){f:FuncId}{fn:Func}{args:List Ar}{rv:AV}{rr:List (Nat × Rs)}(hf:P.funcs[f]? =some fn)(hc:aB9 fn args.length=true)(t:T)(h:aG3 P tb fn args rv rr t):zC P f args rv rr:=by
 unfold aB9 at hc;rw[aBT] at hc;have hl:=aCd hc.2;cases hb:fn.body with
 | some c=>
   rw[aBT] at hc;refine aMh hT hm hf hb (by simpa using hc.1.1) hl t ?_;unfold aG3 at h;rw[hb] at h;exact h
 | none=>
   rw[hb] at hc;simp at hc
theorem aMj {P:Program}{tb:Tb}(hT:fQ P tb)(hm:P.follows .mixedOrders=true){f:FuncId}{fn:Func}{args:List Ar}{rv:AV}{rr:List (Nat × Rs)}(hf:P.funcs[f]? =some fn)(hc:aB9 fn args.length=true)(t:T){p:Prop}(h:aG3 P tb fn args rv rr t=p)(hp:p):zC P f args rv rr:=aMi hT hm hf hc t (Eq.mpr h hp)
theorem nt {b:Bool}(h:(!b)=true):b=false:=by cases b<;>simp_all
theorem nf {b:Bool}(h:(!b)=false):b=true:=by cases b<;>simp_all
def rrB (rs:Rl)(ren:List (Nat × Nat)):List (Nat × Rs)->Prop
 | []=>True
 | (h,r)::l=>(match bM ren h with
   | some g=>(match aO rs g with
     | some r' =>(match r with
       | .box t cs=>(match r' with | .box t' cs' =>EqN t' t (nX (bM ren) cs cs' (rrB rs ren l)) | _=>False)
       | .arr e k d xs=>EqR r' (.arr e k d xs) (rrB rs ren l)
       | .hole _ _ _ _ _ _=>False)
     | none=>False)
   | none=>(match r with | .arr _ _ _ xs=>[]=xs/\rrB rs ren l | _=>False))
def aNK (rs:Rl)(ren:List (Nat × Nat))(h:Nat)(r:Rs):Prop:=
 (∀g,bM ren h=some g-> ∃r',aO rs g=some r' /\((r=r' /\aB3 r=true)\/ ∃t cs cs' Q,r= .box t cs/\r' = .box t cs' /\nX (bM ren) cs cs' Q))/\(bM ren h=none-> ∃e k d,r= .arr e k d [])
theorem aDM {rs:Rl}{ren:List (Nat × Nat)}: ∀{l:List (Nat × Rs)},rrB rs ren l-> ∀h r,aN l h=some r->aNK rs ren h r
 | [],_,h,r,e=>by simp[aN] at e
 | (k,r0)::l,hw,h,r,e=>by
   unfold rrB at hw;simp only[aN] at e;split at hw
   ·rename_i g hg;split at hw
    ·rename_i r' hr';split at hw
     ·rename_i t cs;split at hw
      ·rename_i t' cs';obtain⟨e1,hw1⟩:=hw.eq;split at e
       ·rename_i ek;subst ek;injection e with e
        subst e;exact⟨fun g' hg' =>by rw[hg] at hg';injection hg' with hg';subst hg';exact⟨_,hr',.inr ⟨_,cs,cs',_,rfl,by rw[e1],hw1⟩⟩,fun hn=>by rw[hg] at hn;cases hn⟩
       exact aDM (nY _ _ _ hw1) h r e
      cases hw
     ·obtain⟨e1,hw⟩:=hw.eq;split at e
      ·rename_i ek;subst ek;injection e with e
       subst e;exact⟨fun g' hg' =>by rw[hg] at hg';injection hg' with hg';subst hg';exact⟨_,hr',.inl ⟨e1.symm,rfl⟩⟩,fun hn=>by rw[hg] at hn;cases hn⟩
      exact aDM hw h r e
     cases hw
    cases hw
   rename_i hg;split at hw
   ·obtain⟨e1,hw⟩:=hw;split at e
    ·rename_i ek;subst ek;injection e with e
     subst e;exact⟨fun g' hg' =>(by rw[hg] at hg';cases hg'),fun _=>⟨_,_,_,by rw[<-e1]⟩⟩
    exact aDM hw h r e
   cases hw
def tP:Nat->List AV->Sl
 | _,[]=>[]
 | i,x::xs=>(i,x)::tP (i+1) xs
theorem vM: ∀(xs:List AV) (i t:Nat),aY (tP i xs) t=if i<=t then (match xs[t - i]? with | some x=>x | none=> .no) else .no
 | [],i,t=>by simp[tP,aY]
 | x::xs,i,t=>by
   simp only[tP,aY,vM xs (i+1) t];by_cases e:t=i
   ·subst e;simp
   by_cases h:i<=t
   ·have:t - i=(t - (i+1))+1:=by omega
    rw[if_neg e,if_pos (by omega),if_pos h,this,List.getElem?_cons_succ]
   rw[if_neg e,if_neg (by omega),if_neg h]
def aMk (tb:Tb)(res:List ResultVar)(ri:List (Nat × Rs))(rv:AV)(ro:List (Nat × Rs))(e:Exit)(sl:Sl)(rs:Rl)(t:T):Prop:=
 (match (match e with | .normal=>true | .ret=>true | _=>false) with
 | true=>(match t with
   | .fin ren=>(match aHS tb sl rs res with
     | some xs=>(match gE (ren.map (·.2))&&(ro.all fun q=>match aN ri q.1 with | some _=>(match bM ren q.1 with | some g=>Nat.beq g q.1 | none=>false) | none=>true) with
       | true=>gR (bM ren) rv (aDp xs) (rrB rs ren ro)
       | false=>False)
     | none=>False)
   | _=>False)
 | false=>False)
def aG4 (P:Program)(tb:Tb)(fn:Func)(args:List AV)(ri:List (Nat × Rs))(rv:AV)(ro:List (Nat × Rs))(t:T):Prop:=match fn.body with | some c=>wpC P tb fn.ntmps c [] [] (tP 0 args) (iK ri) t (aMk tb fn.results.toList ri rv ro) | none=>False
theorem aMK {P:Program}{tb:Tb}(hT:fQ P tb)(hm:P.follows .mixedOrders=true){f:FuncId}{fn:Func}{args:List AV}{ri:List (Nat × Rs)}{rv:AV}{ro:List (Nat × Rs)}(hf:P.funcs[f]? =some fn)(hc:aB9 fn args.length=true)(hlow:(ri.all fun q=>Nat.blt q.1 100)=true)(t:T)(h:aG4 P tb fn args ri rv ro t):oZ P f args ri rv ro:=by
 unfold aB9 at hc;simp only[aBT] at hc;obtain⟨⟨hn,hbs⟩,hl⟩:=hc;have hl:=aCd hl;obtain⟨c,hb⟩:=Option.isSome_iff_exists.1 hbs;unfold aG4 at h;rw[hb] at h;have hlow' : ∀q∈ri,q.1<100:=fun q hq=>by have:=aFJ.1 hlow q hq;simpa [Nat.blt_eq] using this
 refine⟨by simp only[fG,hf,hb];simpa using hn,hlow',fun A φ w vs hI hargs=>?_⟩;refine calls_of_wp hf hb ?_;have hlen:=fD hargs;simp only[aMw] at hlen
 have hres: ∀h,aO (iK ri) h=aN ri h:=fun h=>by
  have:=wZ ri [] h;rw[aMd] at this;rw[this];cases aN ri h<;>rfl
 have hdom: ∀h pl,φ h=some pl->h<100:=fun h pl e=>by
  cases hr:aN ri h with
  | none=>rw[hI.non h hr] at e;cases e
  | some r=>exact hlow' _ (bK hr)
 have hG0:nT A ⟨w,aDE φ,φ,hdom⟩ fn.ntmps (mk (tP 0 args) (iK ri)) { tmps:=vs++Array.replicate (fn.ntmps - vs.size) undef,defers:=[] } w:=by
  refine⟨A,φ,fun h r hr=>?_,fun h hr=>?_,hI.disj,hI.nodup,fun h pl e g hg=>⟨.inr ⟨h,pl,trivial,e,hg⟩,hI.ge h pl e g hg⟩,fun b hb=>⟨hI.lt b hb,.inl hb⟩,hI.out,fun _ h=>h,fun t=>?_,⟨rfl,rfl,rfl,aLB _,fun _ _ _=>rfl⟩,rfl,by simp;omega,fun h pl pl0 e e0=>by dsimp only at e0;rw[e] at e0;injection e0 with q;subst q;exact⟨rfl,rfl⟩⟩
  ·simp only[mk,hres] at hr;exact hI.dom h r hr
  ·simp only[mk,hres] at hr;exact hI.non h hr
  simp only[mk,vM,aB2,if_true,Nat.sub_zero];split
  ·rename_i x hx;obtain⟨v,hv,hr⟩:=iP hargs hx;have ht:t<vs.size:=by have:=(aEA.1 hv).1;simpa using this
   rw[Array.getD_eq_getD_getElem?,Array.getElem?_append_left ht,<-Array.getElem?_toList,hv];exact hr
  unfold aC;trivial
 have hvc:=qQ hT hm c [] [] (tP 0 args) (iK ri) t _ h;simp only[aMd] at hvc;refine Code.wp_mono (fun e a' w' ⟨S,⟨K,φ1,hG⟩,pre,prr,t',hS,hfin⟩=>?_) (hvc A _ _ w hG0);subst hS;unfold aMk at hfin;split at hfin
 ·rename_i he;split at hfin
  ·rename_i ren;split at hfin
   ·rename_i xs hxs;split at hfin
    ·rename_i hbb;simp only[aBT,aFJ] at hbb;obtain⟨b1,b3⟩:=hbb;obtain⟨v,hrun,hmv⟩:=sU hG (aDJ hT hxs)
     let φ' :dW:=fun h=>match aN ro h with | some _=>(match bM ren h with | some g=>φ1 g | none=>some eE) | none=>none
     have p1: ∀h g pl,bM ren h=some g->φ' h=some pl->φ1 g=some pl:=fun h g pl e e' =>by
      simp only[φ',e] at e';split at e'
      ·exact e'
      cases e'
     have p2: ∀h pl,bM ren h=none->φ' h=some pl->pl=eE:=fun h pl e e' =>by
      simp only[φ',e] at e';split at e'
      ·injection e' with e';exact e'.symm
      cases e'
     have p0: ∀h pl,φ' h=some pl-> ∃r,aN ro h=some r:=fun h pl e=>by
      simp only[φ'] at e;split at e
      ·rename_i r hr;exact⟨r,hr⟩
      cases e
     have p3: ∀h pl,φ' h=some pl->(∃g,bM ren h=some g/\φ1 g=some pl)\/pl=eE:=fun h pl e=>by
      cases hl:bM ren h with
      | some g=>exact .inl ⟨g,rfl,p1 h g pl hl e⟩
      | none=>exact .inr (p2 h pl hl e)
     obtain⟨m1,m2⟩:=aDD (φ' :=φ') p1 p2 _ _ _ v hfin hmv
     have hO:aHM A φ w ro K φ' w' :=by
      refine⟨hG.bel,hG.aK,fun b hb=>⟨(hG.kin b hb).1,(hG.kin b hb).2⟩,fun b hb h pl e=>?_,fun h r hr=>?_,fun h hr=>by simp[φ',hr],fun h h' pl pl' hne e e' g hg=>?_,fun h pl e=>?_,fun h pl e g hg=>?_,fun h pl pl0 e e0=>?_⟩
      ·rcases p3 h pl e with ⟨g,_,e⟩ | e
       ·exact hG.kout b hb g pl e
       rw[e];simp[eE,Pl.F]
      ·obtain⟨q1,q2⟩:=aDM m2 h r hr;cases hl:bM ren h with
       | some g=>
         obtain⟨r',hr',q⟩:=q1 g hl;obtain⟨pl,hp,hh⟩:=hG.dom g r' hr';refine⟨pl,by simp[φ',hr,hl,hp],?_⟩;rcases q with ⟨rfl,ha⟩ | ⟨t,cs,cs',Q,rfl,rfl,hq⟩
         ·exact Holds.arrPhi ha hh
         obtain⟨g',vs',e1,e2,e3,e4⟩:=hh;exact⟨g',vs',e1,e2,e3,(qH (φ' :=φ') p1 p2 _ _ _ _ hq e4).1⟩
       | none=>
         obtain⟨e,k,d,rfl⟩:=q2 hl;refine⟨eE,by simp[φ',hr,hl],?_⟩;cases d with
         | true=>exact⟨[],[],World.ownsRow_nil w' 0 e k,rfl,rfl,by unfold bE;exact⟨rfl,rfl⟩⟩
         | false=>exact⟨[],World.ownsRow_nil w' 0 e k,rfl,rfl,rfl⟩
      ·rcases p3 h pl e with ⟨q,l1,e1⟩ | e1
       ·rcases p3 h' pl' e' with ⟨q',l1',e1'⟩ | e1'
        ·exact hG.disj q q' pl pl' (fun x=>by subst x;exact hne (aAX b1 l1 l1')) e1 e1' g hg
        rw[e1'];simp[eE,Pl.F]
       rw[e1] at hg;simp[eE,Pl.F] at hg
      ·rcases p3 h pl e with ⟨g,_,e⟩ | e
       ·exact hG.nodup g pl e
       rw[e];simp[eE,Pl.F]
      ·rcases p3 h pl e with ⟨q,_,e⟩ | e
       ·exact hG.ge q pl e g hg
       rw[e] at hg;simp[eE,Pl.F] at hg
      obtain⟨r,hr⟩:=p0 h pl e;have:=b3 _ (bK hr);cases hri:aN ri h with
      | none=>rw[hI.non h hri] at e0;cases e0
      | some r0=>
        simp only[hri] at this;cases hl:bM ren h with
        | none=>rw[hl] at this;cases this
        | some g=>
          rw[hl] at this;have hg:=aD8 this;subst hg;exact hG.pin _ pl pl0 (p1 _ _ pl hl e) e0
     cases e with
     | normal=>exact⟨hG.nd,v,hrun,v,K,φ',rfl,hO,m1⟩
     | ret=>exact⟨hG.nd,v,hrun,v,K,φ',rfl,hO,m1⟩
     | _=>cases he
    cases hfin
   cases hfin
  cases hfin
 cases hfin
theorem aML {P:Program}{tb:Tb}(hT:fQ P tb)(hm:P.follows .mixedOrders=true){f:FuncId}{fn:Func}{args:List AV}{ri:List (Nat × Rs)}{rv:AV}{ro:List (Nat × Rs)}(hf:P.funcs[f]? =some fn)(hc:aB9 fn args.length=true)(hlow:(ri.all fun q=>Nat.blt q.1 100)=true)(t:T){p:Prop}(h:aG4 P tb fn args ri rv ro t=p)(hp:p):oZ P f args ri rv ro:=aMK hT hm hf hc hlow t (Eq.mpr h hp)
end Go.Proofs.YtgamjlgfnmpcjaaGreatDoor
