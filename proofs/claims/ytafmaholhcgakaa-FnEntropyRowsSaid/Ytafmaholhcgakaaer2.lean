/-
  Contracts and plain laws, joined: part 3.
-/
import Derived.Test.Ytafmaholhcgakaaer1
namespace Go.Proofs.Ytafmaholhcgakaa
open Go.ChangeShapes Go.WideShapes Go.ChangeAt Go.RowKit
set_option linter.unusedVariables false
set_option linter.unusedSimpArgs false
mutual
def pI:AV->List Nat
 | .p (some h) _=>[h]
 | .rp (some h) _=>[h]
 | .agg cs=>tN cs
 | .tup cs=>tN cs
 | .fn _ cs=>tN cs
 | _=>[]
def tN:List AV->List Nat
 | []=>[]
 | x::xs=>pI x++tN xs
end
def aAM:Rs->List Nat
 | .box _ cs=>tN cs
 | .arr _ _ _ _=>[]
 | .hole _ _ _ _ _ _=>[]
def tO (φ:fR)(w w' :World)(h:Nat)(pl:Pl)(V:Prop):Prop:= ∃pl0,φ h=some pl0/\pl.val=pl0.val/\pl.top=pl0.top/\(V->pl=pl0/\dD (· ∈pl.sub) w w')
theorem tO.of {φ:fR}{w w' :World}{h:Nat}{pl:Pl}{V:Prop}(h1:φ h=some pl)(h2:V->dD (· ∈pl.sub) w w'):tO φ w w' h pl V:=⟨pl,h1,rfl,rfl,fun v=>⟨rfl,h2 v⟩⟩
theorem tO.imp {φ:fR}{w w' :World}{h:Nat}{pl:Pl}{V V' :Prop}(h1:tO φ w w' h pl V)(f:V' ->V):tO φ w w' h pl V' :=by
 obtain⟨pl0,a,b,c,d⟩:=h1;exact⟨pl0,a,b,c,fun v=>d (f v)⟩
mutual
theorem aB.monoV {K K' :Nat->Prop}{φ φ' :fR}{w w' :World}(hs:dD K w w')(hK: ∀b,K b->K' b):
 ∀(x:AV) (v:Value),(∀h pl,h∈bV x->φ' h=some pl->tO φ w w' h pl (h∈pI x))->aB K φ w x v->aB K' φ' w' x v
 | .p none x,v,_,hx=>by unfold aB at*;exact fZ.mono hs hK x v hx
 | .p (some h) x,v,hm,hx=>by
   unfold aB at*;intro pl hp;obtain⟨pl0,h1,_,_,hq⟩:=hm h pl (by simp[bV]) hp;obtain⟨rfl,h2⟩:=hq (by simp[pI]);exact fZ.mono (fun b hb=>by rcases hb with hb | hb;exact hs b hb;exact h2 b hb) (fun b hb=>by rcases hb with hb | hb;exact .inl (hK b hb);exact .inr hb) x v (hx pl h1)
 | .own h,v,hm,hx=>by
   unfold aB at*;intro pl hp;obtain⟨pl0,h1,h2,_⟩:=hm h pl (by simp[bV]) hp;rw[h2];exact hx pl0 h1
 | .ptr h off,v,hm,hx=>by
   unfold aB at*;obtain⟨g,e,q⟩:=hx;refine⟨g,e,fun pl hp=>?_⟩;obtain⟨pl0,h1,_,h3,_⟩:=hm h pl (by simp[bV]) hp;rw[h3];exact q pl0 h1
 | .ep h k i off,v,hm,hx=>by
   unfold aB at*;intro pl hp;obtain⟨pl0,h1,_,h3,_⟩:=hm h pl (by simp[bV]) hp;rw[h3];exact hx pl0 h1
 | .rp none x,v,_,hx=>by
   unfold aB at*;obtain⟨a,e,hr⟩:=hx;exact⟨a,e,gQ.mono hs hK x a 0 hr⟩
 | .rp (some h) x,v,hm,hx=>by
   unfold aB at*;intro pl hp;obtain⟨pl0,h1,_,_,hq⟩:=hm h pl (by simp[bV]) hp;obtain⟨rfl,h2⟩:=hq (by simp[pI]);obtain⟨a,e,hr⟩:=hx pl h1;exact⟨a,e,gQ.mono (fun b hb=>by rcases hb with hb | hb;exact hs b hb;exact h2 b hb) (fun b hb=>by rcases hb with hb | hb;exact .inl (hK b hb);exact .inr hb) x a 0 hr⟩
 | .agg cs,v,hm,hx=>by
   unfold aB at*;obtain⟨vs,e,h1,hl⟩:=hx;exact⟨vs,e,h1,aG.monoV hs hK cs _ (fun h pl hh e=>(hm h pl (by simpa [bV] using hh) e).imp fun hv=>by simpa [pI] using hv) hl⟩
 | .tup cs,v,hm,hx=>by
   unfold aB at*;obtain⟨vs,e,hl⟩:=hx;exact⟨vs,e,aG.monoV hs hK cs _ (fun h pl hh e=>(hm h pl (by simpa [bV] using hh) e).imp fun hv=>by simpa [pI] using hv) hl⟩
 | .fn f cs,v,hm,hx=>by
   unfold aB at*;obtain⟨vs,e,hl⟩:=hx;exact⟨vs,e,aG.monoV hs hK cs _ (fun h pl hh e=>(hm h pl (by simpa [bV] using hh) e).imp fun hv=>by simpa [pI] using hv) hl⟩
 | .nil,v,_,hx=>by unfold aB at*;exact hx
 | .bsl h n,v,hm,hx=>by
   unfold aB at*;intro pl hp;obtain⟨pl0,h1,_,h3,_⟩:=hm h pl (by simp[bV]) hp;rw[h3];exact hx pl0 h1
 | .no,_,_,_=>by unfold aB;trivial
theorem aG.monoV {K K' :Nat->Prop}{φ φ' :fR}{w w' :World}(hs:dD K w w')(hK: ∀b,K b->K' b):
 ∀(xs:List AV) (vs:List Value),(∀h pl,h∈eJ xs->φ' h=some pl->tO φ w w' h pl (h∈tN xs))->aG K φ w xs vs->aG K' φ' w' xs vs
 | [],_,_,hx=>by unfold aG at*;exact hx
 | x::xs,vs,hm,hx=>by
   unfold aG at*;obtain⟨v,vs',e,h1,h2⟩:=hx;exact⟨v,vs',e,aB.monoV hs hK x v (fun h pl hh e=>(hm h pl (by simp[eJ,hh]) e).imp fun hv=>by simp[tN,hv]) h1,aG.monoV hs hK xs vs' (fun h pl hh e=>(hm h pl (by simp[eJ,hh]) e).imp fun hv=>by simp[tN,hv]) h2⟩
end
theorem dM.monoV {K K' :Nat->Prop}{φ φ' :fR}{w w' :World}{pl:Pl}(hs:dD K w w')(hK: ∀b,K b->K' b)(hk:gX pl.F w w'):
 ∀(r:Rs),(∀h pl,h∈gA r->φ' h=some pl->tO φ w w' h pl (h∈aAM r))->dM K φ w pl r->dM K' φ' w' pl r
 | .box t cs,hm,⟨g,vs,e,hb,h1,hl⟩=>by
   subst e;exact⟨g,vs,rfl,(hk g (by simp[Pl.F])).trans hb,h1,aG.monoV hs hK cs _ hm hl⟩
 | .arr e k true xs,_,⟨css,Fs,h1,h2,h3,h4⟩=>
   ⟨css,Fs,gJ h1 (hk.mono fun g hg=>by unfold Pl.F;rw[h2];exact aD9 _ hg),h2,h3,cH.kept k xs css Fs (hk.mono fun g hg=>by unfold Pl.F;rw[h3];exact aD4 _ hg) h4⟩
 | .arr e k false xs,_,⟨css,h1,h2,h3,h4⟩=>
   ⟨css,gJ h1 (hk.mono fun g hg=>by unfold Pl.F;rw[h2];exact aD9 _ hg),h2,h3,h4.mono hs hK⟩
 | .hole e k xs i j h,hm,⟨xs1,x1,d,x2,xs2,css1,c1,v,c2,css2,Fs1,F1,F2,Fs2,e0,e1,e2,e3,h1,h2,h3,h4,h5,h6,h7,h8⟩=>
   ⟨xs1,x1,d,x2,xs2,css1,c1,v,c2,css2,Fs1,F1,F2,Fs2,e0,e1,e2,e3,gJ h1 (hk.mono fun g hg=>by unfold Pl.F;rw[h2];exact aD9 _ hg),h2,h3,
    cH.kept k xs1 css1 Fs1 (hk.mono fun g hg=>by unfold Pl.F;rw[h3];simp only[aD5];exact .inr (.inl hg)) h4,cX.kept x1 c1 F1 (hk.mono fun g hg=>by unfold Pl.F;rw[h3];simp only[aD5];exact .inr (.inr (.inl (.inl hg)))) h5,
    cX.kept x2 c2 F2 (hk.mono fun g hg=>by unfold Pl.F;rw[h3];simp only[aD5];exact .inr (.inr (.inl (.inr hg)))) h6,cH.kept k xs2 css2 Fs2 (hk.mono fun g hg=>by unfold Pl.F;rw[h3];simp only[aD5];exact .inr (.inr (.inr hg))) h7,⟨h8.1,fun pl' e' =>by obtain⟨pl0,q1,q2,_⟩:=hm h pl' (by simp[gA]) e';rw[q2];exact h8.2 pl0 q1⟩⟩
section
variable {K:Nat->Prop} {φ:fR} {A:Nat->Prop} {w0:rK} {N:Nat} {S:St} {a:Act} {w:World}
theorem G.stepV (hG:G K φ A w0 N S a w){C:Nat->Prop}[DecidablePred C]{φr:fR}{ρ:Nat->Option Rs}{K' :Nat->Prop}{w' :World}
 (hU:sO (eQ φ C) w w')
 (hR: ∀h pl,φr h=some pl->pl.F.Nodup/\ ∀g∈pl.F,g<w'.heap.size/\(w.heap.size<=g\/eQ φ C g))
 (hD: ∀h h' pl pl',h≠h' ->φr h=some pl->φr h' =some pl' -> ∀g∈pl.F,g ∉ pl'.F)
 (hρ: ∀h r,ρ h=some r-> ∃pl,φr h=some pl/\dM K' (cB C φr φ) w' pl r)
 (hρn: ∀h,ρ h= .none->φr h= .none)
 (hK: ∀b,K b->K' b)
 (hK' : ∀b,K' b->K b\/(b<w'.heap.size/\(w.heap.size<=b\/eQ φ C b)/\ ∀h pl,φr h=some pl->b ∉ pl.F))
 (hM: ∀t h pl,h∈bV (S.slots t)->φr h=some pl->tO φ w w' h pl (h∈pI (S.slots t)))
 (hMr: ∀h' r h pl,¬C h' ->S.res h' =some r->h∈gA r->φr h=some pl->tO φ w w' h pl (h∈aAM r))
 (hP: ∀h pl,φr h=some pl->(∃pl0,φ h=some pl0/\pl.val=pl0.val/\pl.top=pl0.top)\/100<=h):
 G K' (cB C φr φ) A w0 N { S with res:=eC C ρ S.res } a w' :=by
 have hF: ∀b,eQ φ C b->w0.mine b/\b<w.heap.size:=fun b ⟨h,pl,_,hp,hb⟩=>hG.ge h pl hp b hb;have hsz:w0.w.heap.size<=w.heap.size:=hG.bel.size;have hsame:dD K w w' :=fun b hb=>hU.block b (hG.kin b hb).1 (fun ⟨h,pl,_,hp,hm⟩=>hG.kout b hb h pl hp hm)
 have hkeep: ∀h pl,¬C h->φ h=some pl->gX pl.F w w' :=fun h pl hc hp g hg=>
  hU.block g (hG.ge h pl hp g hg).2 (fun ⟨h',pl',hc',hp',hm⟩=>by
   by_cases e:h=h'
   ·subst e;exact hc hc'
   exact hG.disj h h' pl pl' e hp hp' g hg hm)
 have hsub: ∀h pl,¬C h->φ h=some pl->dD (· ∈pl.sub) w w' :=fun h pl hc hp g hg=>hkeep h pl hc hp g (aD4 _ hg)
 have hslot: ∀x v,(∀h pl,h∈bV x->φr h=some pl->tO φ w w' h pl (h∈pI x))->aB K φ w x v->aB K' (cB C φr φ) w' x v:=fun x v hm hx=>
  aB.monoV hsame hK x v (fun h pl hh e=>by
   rcases bK e with e | ⟨_,hc,e⟩
   ·exact hm h pl hh e
   exact .of e fun _=>hsub h pl hc e) hx
 refine⟨?_,?_,?_,?_,?_,?_,?_,fun b hb=>hK b (hG.aK b hb),fun t=>hslot _ _ (hM t) (hG.slots t),sO.more hG.bel hU (fun b hb=>(hF b hb).1),hG.nd,hG.size,fun h pl pl0 e e0=>?_⟩
 ·intro h r hr;simp only[eC] at hr;split at hr
  ·rename_i r' hr';injection hr with hr
   subst hr;obtain⟨pl,hp,hh⟩:=hρ h _ hr';exact⟨pl,by simp[cB,hp],hh⟩
  rename_i hn;split at hr
  ·cases hr
  rename_i hc;obtain⟨pl,hp,hh⟩:=hG.dom h r hr;refine⟨pl,by simp[cB,hρn h hn,hc,hp],dM.monoV hsame hK (hkeep h pl hc hp) r (fun h2 pl2 hm e=>?_) hh⟩;rcases bK e with e | ⟨_,hc2,e⟩
  ·exact hMr h r h2 pl2 hc hr hm e
  exact .of e fun _=>hsub h2 pl2 hc2 e
 ·intro h hr;simp only[eC] at hr;split at hr
  ·cases hr
  rename_i hn;simp only[cB,hρn h hn];split at hr
  ·rename_i hc;simp[hc]
  rename_i hc;simp[hc,hG.non h hr]
 ·intro h h' pl pl' hne e e' g hg hg';rcases bK e with e | ⟨_,hc,e⟩<;>rcases bK e' with e' | ⟨_,hc',e'⟩
  ·exact hD h h' pl pl' hne e e' g hg hg'
  ·rcases((hR h pl e).2 g hg).2 with h1 | ⟨h2,pl2,hc2,e2,hm⟩
   ·have:=(hG.ge h' pl' e' g hg').2;omega
   exact hG.disj h2 h' pl2 pl' (fun e=>by subst e;exact hc' hc2) e2 e' g hm hg'
  ·rcases((hR h' pl' e').2 g hg').2 with h1 | ⟨h2,pl2,hc2,e2,hm⟩
   ·have:=(hG.ge h pl e g hg).2;omega
   exact hG.disj h2 h pl2 pl (fun e=>by subst e;exact hc hc2) e2 e g hm hg
  exact hG.disj h h' pl pl' hne e e' g hg hg'
 ·intro h pl e;rcases bK e with e | ⟨_,_,e⟩
  ·exact(hR h pl e).1
  exact hG.nodup h pl e
 ·intro h pl e g hg;rcases bK e with e | ⟨_,_,e⟩
  ·obtain⟨h1,h2⟩:=(hR h pl e).2 g hg;refine⟨?_,h1⟩;rcases h2 with h2 | h2
   ·exact .inl (by omega)
   exact(hF g h2).1
  have:=hG.ge h pl e g hg;exact⟨this.1,aHG this.2 hU.size⟩
 ·intro b hb;rcases hK' b hb with hb | ⟨h1,h2,_⟩
  ·have:=hG.kin b hb;exact⟨aHG this.1 hU.size,this.2⟩
  refine⟨h1,.inr ?_⟩;rcases h2 with h2 | h2
  ·exact .inl (by omega)
  exact(hF b h2).1
 ·intro b hb h pl e hm;rcases hK' b hb with hb | ⟨_,h2,h3⟩
  ·rcases bK e with e | ⟨_,_,e⟩
   ·rcases((hR h pl e).2 b hm).2 with h1 | ⟨h2,pl2,hc2,e2,hm2⟩
    ·have:=(hG.kin b hb).1;omega
    exact hG.kout b hb h2 pl2 e2 hm2
   exact hG.kout b hb h pl e hm
  rcases bK e with e | ⟨_,hc,e⟩
  ·exact h3 h pl e hm
  rcases h2 with h2 | ⟨h4,pl4,hc4,e4,hm4⟩
  ·have:=(hG.ge h pl e b hm).2;omega
  exact hG.disj h4 h pl4 pl (fun e=>by subst e;exact hc hc4) e4 e b hm4 hm
 rcases bK e with e | ⟨_,_,e⟩
 ·rcases hP h pl e with ⟨pl1,q,q1,q2⟩ | q
  ·have:=hG.pin h pl1 pl0 q e0;exact⟨q1.trans this.1,q2.trans this.2⟩
  have:=w0.dom h pl0 e0;omega
 exact hG.pin h pl pl0 e e0
end
def aMN (ren:List (Nat × Nat))(h:Nat):Nat:=match cA ren h with | some g=>g | none=>h
theorem aCM {ren:List (Nat × Nat)}(hn:jP (ren.map (·.2))=true){h h' g:Nat}(e:cA ren h=some g)(e' :cA ren h' =some g):h=h' :=by
 have mem: ∀{l:List (Nat × Nat)} {h g:Nat},cA l h=some g->g∈l.map (·.2):=by
  intro l
  induction l with
  | nil=>intro h g e;simp[cA] at e
  | cons q l ih=>
    obtain⟨k,v⟩:=q;intro h g e;unfold cA at e;split at e
    ·injection e with e;simp[e]
    simp only[aDa,aEx];exact .inr (ih e)
 induction ren with
 | nil=>simp[cA] at e
 | cons q l ih=>
   obtain⟨k,v⟩:=q;simp only[aDa,jP,aA1,Bool.not_eq_true',List.contains_eq_mem,decide_eq_false_iff_not] at hn;unfold cA at e e';split at e<;>split at e'
   ·rename_i _ a _ b;rw[aB1 a,aB1 b]
   ·injection e with e;subst e;exact absurd (mem e') hn.1
   ·injection e' with e';subst e';exact absurd (mem e) hn.1
   exact ih hn.2 e e'
def gB:Pl:=⟨.slice none 0 0,[],[]⟩
mutual
def kG (gm:Nat->Option Nat):AV->AV->Prop->Prop
 | .no,_,K=>K
 | .nil,x,K=>(match x with | .nil=>K | _=>False)
 | .own h,x,K=>(match x with
   | .nil=>(match gm h with | none=>K | some _=>False)
   | .own g=>(match gm h with | some g' =>EqN g g' K | none=>False)
   | _=>False)
 | .ptr h o,x,K=>(match x with
   | .ptr g o' =>(match gm h with | some g' =>EqN g g' (EqN o' o K) | none=>False)
   | _=>False)
 | .p none y,x,K=>(match x with
   | .p none z=>EqD z y/\K
   | .nil=>(match y with | .sl _ _ xs=>[]=xs/\K | _=>False)
   | _=>False)
 | .agg ys,x,K=>(match x with | .agg xs=>qN gm ys xs K | _=>False)
 | .tup ys,x,K=>(match x with | .tup xs=>qN gm ys xs K | _=>False)
 | _,_,_=>False
def qN (gm:Nat->Option Nat):List AV->List AV->Prop->Prop
 | [],xs,K=>(match xs with | []=>K | _=>False)
 | y::ys,xs,K=>(match xs with | x::xs=>kG gm y x (qN gm ys xs K) | []=>False)
end
mutual
theorem aFK {gm:Nat->Option Nat}{K:Nat->Prop}{φ φ' :fR}{w:World}(h1: ∀h g pl,gm h=some g->φ' h=some pl->φ g=some pl)(h2: ∀h pl,gm h=none->φ' h=some pl->pl=gB): ∀(y x:AV) (Q:Prop) (v:Value),kG gm y x Q->aB K φ w x v->aB K φ' w y v/\Q
 | .no,x,Q,v,h,hm=>by unfold kG at h;exact⟨by unfold aB;trivial,h⟩
 | .nil,x,Q,v,h,hm=>by
   unfold kG at h;split at h
   ·unfold aB at*;exact⟨hm,h⟩
   cases h
 | .own k,x,Q,v,h,hm=>by
   unfold kG at h;split at h
   ·split at h
    ·rename_i hl;refine⟨?_,h⟩;unfold aB at*;intro pl hp;rw[h2 _ pl hl hp,hm];rfl
    cases h
   ·split at h
    ·rename_i g' hl;obtain⟨e,hQ⟩:=h.eq;subst e;refine⟨?_,hQ⟩;unfold aB at*;intro pl hp;exact hm pl (h1 _ _ pl hl hp)
    cases h
   cases h
 | .ptr k o,x,Q,v,h,hm=>by
   unfold kG at h;split at h
   ·split at h
    ·rename_i g' hl;obtain⟨e,hQ1⟩:=h.eq;obtain⟨e2,hQ⟩:=hQ1.eq;subst e;subst e2;refine⟨?_,hQ⟩;unfold aB at*;obtain⟨g2,e3,q⟩:=hm;exact⟨g2,e3,fun pl hp=>q pl (h1 _ _ pl hl hp)⟩
    cases h
   cases h
 | .p none y,x,Q,v,h,hm=>by
   unfold kG at h;split at h
   ·refine⟨?_,h.2⟩;unfold aB at*;rw[<-h.1.eq];exact hm
   ·split at h
    ·refine⟨?_,h.2⟩;unfold aB at*;rw[hm,<-h.1];exact pE
    cases h
   cases h
 | .p (some _) y,x,Q,v,h,hm=>by unfold kG at h;cases h
 | .agg ys,x,Q,v,h,hm=>by
   unfold kG at h;split at h
   ·unfold aB at hm;obtain⟨vs,rfl,q1,q2⟩:=hm;obtain⟨q3,q4⟩:=tP h1 h2 ys _ Q _ h q2;refine⟨?_,q4⟩;unfold aB;exact⟨vs,rfl,q1,q3⟩
   cases h
 | .tup ys,x,Q,v,h,hm=>by
   unfold kG at h;split at h
   ·unfold aB at hm;obtain⟨vs,rfl,q2⟩:=hm;obtain⟨q3,q4⟩:=tP h1 h2 ys _ Q _ h q2;refine⟨?_,q4⟩;unfold aB;exact⟨vs,rfl,q3⟩
   cases h
 | .ep _ _ _ _,x,Q,v,h,hm=>by unfold kG at h;cases h
 | .rp _ _,x,Q,v,h,hm=>by unfold kG at h;cases h
 | .fn _ _,x,Q,v,h,hm=>by unfold kG at h;cases h
 | .bsl _ _,x,Q,v,h,hm=>by unfold kG at h;cases h
theorem tP {gm:Nat->Option Nat}{K:Nat->Prop}{φ φ' :fR}{w:World}(h1: ∀h g pl,gm h=some g->φ' h=some pl->φ g=some pl)(h2: ∀h pl,gm h=none->φ' h=some pl->pl=gB): ∀(ys xs:List AV) (Q:Prop) (vs:List Value),qN gm ys xs Q->aG K φ w xs vs->aG K φ' w ys vs/\Q
 | [],xs,Q,vs,h,hm=>by
   unfold qN at h;split at h
   ·unfold aG at*;exact⟨hm,h⟩
   cases h
 | y::ys,xs,Q,vs,h,hm=>by
   unfold qN at h;split at h
   ·unfold aG at hm;obtain⟨v,vs',rfl,q1,q2⟩:=hm;obtain⟨q3,q4⟩:=aFK h1 h2 y _ _ v h q1;obtain⟨q5,q6⟩:=tP h1 h2 ys _ Q vs' q4 q2;refine⟨?_,q6⟩;unfold aG;exact⟨v,vs',rfl,q3,q5⟩
   cases h
end
mutual
theorem aG1 {gm:Nat->Option Nat}: ∀(y x:AV) (Q:Prop),kG gm y x Q->Q
 | .no,x,Q,h=>by unfold kG at h;exact h
 | .nil,x,Q,h=>by
   unfold kG at h;split at h
   ·exact h
   cases h
 | .own k,x,Q,h=>by
   unfold kG at h;split at h
   ·split at h
    ·exact h
    cases h
   ·split at h
    ·exact h.eq.2
    cases h
   cases h
 | .ptr k o,x,Q,h=>by
   unfold kG at h;split at h
   ·split at h
    ·exact h.eq.2.eq.2
    cases h
   cases h
 | .p none y,x,Q,h=>by
   unfold kG at h;split at h
   ·exact h.2
   ·split at h
    ·exact h.2
    cases h
   cases h
 | .p (some _) y,x,Q,h=>by unfold kG at h;cases h
 | .agg ys,x,Q,h=>by
   unfold kG at h;split at h
   ·exact qO ys _ Q h
   cases h
 | .tup ys,x,Q,h=>by
   unfold kG at h;split at h
   ·exact qO ys _ Q h
   cases h
 | .ep _ _ _ _,x,Q,h=>by unfold kG at h;cases h
 | .rp _ _,x,Q,h=>by unfold kG at h;cases h
 | .fn _ _,x,Q,h=>by unfold kG at h;cases h
 | .bsl _ _,x,Q,h=>by unfold kG at h;cases h
theorem qO {gm:Nat->Option Nat}: ∀(ys xs:List AV) (Q:Prop),qN gm ys xs Q->Q
 | [],xs,Q,h=>by
   unfold qN at h;split at h
   ·exact h
   cases h
 | y::ys,xs,Q,h=>by
   unfold qN at h;split at h
   ·exact qO ys _ Q (aG1 y _ _ h)
   cases h
end
abbrev aMO (φ:fR):Nat->Prop:=eQ φ (fun _=>True)
structure In2 (A:Nat->Prop) (φ:fR) (w:World) (ri:List (Nat × Rs)):Prop where
 lt: ∀b,A b->b<w.heap.size
 dom: ∀h r,aS ri h=some r-> ∃pl,φ h=some pl/\dM A φ w pl r
 non: ∀h,aS ri h=none->φ h=none
 disj: ∀h h' pl pl',h≠h' ->φ h=some pl->φ h' =some pl' -> ∀g∈pl.F,g ∉ pl'.F
 nodup: ∀h pl,φ h=some pl->pl.F.Nodup
 ge: ∀h pl,φ h=some pl-> ∀g∈pl.F,g<w.heap.size
 out: ∀b,A b-> ∀h pl,φ h=some pl->b ∉ pl.F
structure aR5 (A:Nat->Prop) (φ0:fR) (w:World) (ro:List (Nat × Rs)) (K:Nat->Prop) (φ:fR) (w' :World):Prop where
 chg:sO (aMO φ0) w w'
 kk: ∀b,A b->K b
 kin: ∀b,K b->b<w'.heap.size/\(A b\/w.heap.size<=b\/aMO φ0 b)
 kout: ∀b,K b-> ∀h pl,φ h=some pl->b ∉ pl.F
 dom: ∀h r,aS ro h=some r-> ∃pl,φ h=some pl/\dM K φ w' pl r
 non: ∀h,aS ro h=none->φ h=none
 disj: ∀h h' pl pl',h≠h' ->φ h=some pl->φ h' =some pl' -> ∀g∈pl.F,g ∉ pl'.F
 nodup: ∀h pl,φ h=some pl->pl.F.Nodup
 ge: ∀h pl,φ h=some pl-> ∀g∈pl.F,(w.heap.size<=g\/aMO φ0 g)/\g<w'.heap.size
 pin: ∀h pl pl0,φ h=some pl->φ0 h=some pl0->pl.val=pl0.val/\pl.top=pl0.top
def aG2 (P:Program)(f:FuncId)(args:List AV)(ri:List (Nat × Rs))(rv:AV)(ro:List (Nat × Rs)):Prop:=
 iW P f=true/\(∀q∈ri,q.1<100)/\ ∀(A:Nat->Prop) (φ:fR) (w:World) (vs:Array Value),In2 A φ w ri->aG A φ w args vs.toList->
  Calls P f vs w (fun e w' => ∃v K φ',e= .returned v/\aR5 A φ w ro K φ' w' /\aB K φ' w' rv v)
def qD (K:Nat->Prop)(φ:fR)(w:World)(C:Nat->Prop):Nat->Prop:=fun b=>b<w.heap.size/\ ¬eQ φ C b
section
variable {K:Nat->Prop} {φ:fR} {A:Nat->Prop} {w0:rK} {N:Nat} {S:St} {a:Act} {w:World} {P:Program}
theorem oK (hG:G K φ A w0 N S a w)(C:Nat->Prop): ∀b,K b->qD K φ w C b:=fun b hb=>⟨(hG.kin b hb).1,fun ⟨h,pl,_,hp,hm⟩=>hG.kout b hb h pl hp hm⟩
theorem tQ (hG:G K φ A w0 N S a w){C:Nat->Prop}{h:Nat}{pl:Pl}(hp:φ h=some pl)(hc: ¬C h): ∀b∈pl.F,qD K φ w C b:=fun b hb=>⟨(hG.ge h pl hp b hb).2,fun ⟨h',pl',hc',hp',hm⟩=>by
 by_cases e:h=h'
 ·subst e;exact hc hc'
 exact hG.disj h h' pl pl' e hp hp' b hb hm⟩
theorem G.rdOwnB (hG:G K φ A w0 N S a w){C:Nat->Prop}{h:Nat}{e k:Nat}{d:Bool}{xs:List (List bF)}{v:Value}(hr:S.res h=some (.arr e k d xs))(hc: ¬C h)(hm:aB K φ w (.own h) v):fZ (qD K φ w C) w (.sl e k xs) v:=by
 obtain⟨pl,css,hp,ho,hcl,hck,htop,hrow⟩:=hG.owned hr;unfold aB at hm;rw[hm pl hp];obtain⟨b,c,e1,h1,h2,h3,h4⟩:=kE ho hck hcl;unfold fZ;refine⟨b,c,e1,h1,h2,?_⟩;by_cases hn:0<xs.length
 ·obtain⟨g,rfl,hg⟩:=h3 hn;have hlt:qD K φ w C g:=tQ hG hp hc g (aD9 _ (by rw[htop,hg];simp));refine uX hlt hcl (fun i x c hx hc' =>⟨(hrow i x c hx hc').1,jW.mono (fun _ _=>rfl) (fun b hb=>?_) x c (hrow i x c hx hc').2.1⟩) fun i c hc' j u hu=>?_
  ·rcases hb with hb | hb
   ·exact oK hG C b hb
   exact tQ hG hp hc b (aD4 _ hb)
  obtain⟨g',e2,_,hcell⟩:=h4 i c hc';simp only[Option.some.injEq,Addr.mk.injEq,and_true] at e2;subst e2;rw[Nat.zero_add];exact hcell j u hu
 have:xs= []:=aD7 (by omega);subst this;unfold fC;trivial
end
def aK1 (ren:List (Nat × Nat))(g:Nat):Bool:=ren.all fun q=> !Nat.beq q.2 g
def aK2 (rs:Rl)(ren:List (Nat × Nat))(y:bF)(x:AV)(Q:Prop):Prop:=match x with
 | .p none z=>EqD z y/\Q
 | .p (some g) z=>(match nA rs (some g)&&aK1 ren g with | true=>EqD z y/\Q | false=>False)
 | .own g=>(match aR rs g with
   | some (.arr e k _ xs)=>(match aK1 ren g with | true=>EqD (.sl e k xs) y/\Q | false=>False)
   | _=>False)
 | .nil=>(match y with | .sl _ _ xs=>[]=xs/\Q | _=>False)
 | _=>False
def aAj (rs:Rl)(ren:List (Nat × Nat)):List bF->List AV->Prop->Prop
 | [],_,Q=>Q
 | y::ys,xs,Q=>(match xs with | x::xs=>aK2 rs ren y x (aAj rs ren ys xs Q) | []=>False)
def yP:List bF->List bF->Prop->Prop
 | [],xs,Q=>(match xs with | []=>Q | _=>False)
 | y::ys,xs,Q=>(match xs with | x::xs=>EqD x y/\yP ys xs Q | []=>False)
def aHx (rs:Rl)(ren:List (Nat × Nat))(ys:List bF)(x:AV)(Q:Prop):Prop:=match x with
 | .rp none zs=>yP ys zs Q
 | .ptr g off=>(match aR rs g with
   | some (.box _ cs)=>(match aK1 ren g with | true=>aAj rs ren ys (cs.drop off) Q | false=>False)
   | _=>False)
 | _=>False
mutual
def gD (rs:Rl)(ren:List (Nat × Nat)):AV->AV->Prop->Prop
 | .no,_,Q=>Q
 | .nil,x,Q=>(match x with | .nil=>Q | _=>False)
 | .own h,x,Q=>(match x with | .own g=>(match cA ren h with | some g' =>EqN g g' Q | none=>False) | _=>False)
 | .ptr h o,x,Q=>(match x with | .ptr g o' =>(match cA ren h with | some g' =>EqN g g' (EqN o' o Q) | none=>False) | _=>False)
 | .p none y,x,Q=>(match x with
   | .p none z=>EqD z y/\Q
   | .p (some g) z=>(match nA rs (some g)&&aK1 ren g with | true=>EqD z y/\Q | false=>False)
   | .own g=>(match aR rs g with
     | some (.arr e k _ xs)=>(match aK1 ren g with | true=>EqD (.sl e k xs) y/\Q | false=>False)
     | _=>False)
   | .nil=>(match y with | .sl _ _ xs=>[]=xs/\Q | _=>False)
   | _=>False)
 | .agg ys,x,Q=>(match x with | .agg xs=>nB rs ren ys xs Q | _=>False)
 | .rp none ys,x,Q=>aHx rs ren ys x Q
 | .fn f [],x,Q=>(match x with | .fn g []=>EqN g f Q | _=>False)
 | _,_,_=>False
def nB (rs:Rl)(ren:List (Nat × Nat)):List AV->List AV->Prop->Prop
 | [],xs,Q=>(match xs with | []=>Q | _=>False)
 | y::ys,xs,Q=>(match xs with | x::xs=>gD rs ren y x (nB rs ren ys xs Q) | []=>False)
end
section
variable {K:Nat->Prop} {φ:fR} {A:Nat->Prop} {w0:rK} {N:Nat} {sl:Sl} {rs:Rl} {a:Act} {w:World} {P:Program} {ren:List (Nat × Nat)}
theorem aCN {g:Nat}(h:aK1 ren g=true): ¬g∈ren.map (·.2):=fun hm=>by
 obtain⟨q,hq,e⟩:=aFm.1 hm;have:=aDW.1 h q hq;rw[e,Nat.beq_refl] at this;cases this
theorem aOr (hG:G K φ A w0 N (mk sl rs) a w){y:bF}{x:AV}{Q:Prop}{v:Value}(h:aK2 rs ren y x Q)(hm:aB K φ w x v):fZ (qD K φ w (· ∈ren.map (·.2))) w y v/\Q:=by
 unfold aK2 at h;split at h
 ·refine⟨?_,h.2⟩;unfold aB at hm;rw[<-h.1.eq];exact fZ.mono (fun _ _=>rfl) (oK hG _) _ _ hm
 ·rename_i g z;split at h
  ·rename_i hb;rw[aA1] at hb;refine⟨?_,h.2⟩;obtain⟨r,hr⟩:=vE hb.1;obtain⟨pl,hp,_⟩:=hG.dom g r hr;unfold aB at hm;rw[<-h.1.eq]
   exact fZ.mono (fun _ _=>rfl) (fun b hb' =>by
    rcases hb' with hb' | hb'
    ·exact oK hG _ b hb'
    exact tQ hG hp (aCN hb.2) b (aD4 _ hb')) _ _ (hm pl hp)
  cases h
 ·rename_i g;split at h
  ·rename_i e k d xs hr;split at h
   ·rename_i hb;refine⟨?_,h.2⟩;rw[<-h.1.eq];have:=hG.rdOwnB (C:=(· ∈ren.map (·.2))) hr (aCN hb) hm;exact this
   cases h
  cases h
 ·split at h
  ·refine⟨?_,h.2⟩;unfold aB at hm;rw[hm,<-h.1];exact pE
  cases h
 cases h
theorem aG3 (hG:G K φ A w0 N (mk sl rs) a w){Q:Prop}: ∀{ys:List bF} {xs:List AV} {vs:List Value},aAj rs ren ys xs Q->aG K φ w xs vs->(∃us ws,vs=us++ws/\jW (qD K φ w (· ∈ren.map (·.2))) w ys us)/\Q
 | [],xs,vs,h,hm=>⟨⟨[],vs,rfl,rfl⟩,h⟩
 | y::ys,xs,vs,h,hm=>by
   unfold aAj at h;split at h
   ·unfold aG at hm;obtain⟨v,vs',rfl,q1,q2⟩:=hm;obtain⟨q3,q4⟩:=aOr hG h q1;obtain⟨⟨us,ws,rfl,q5⟩,q6⟩:=aG3 hG q4 q2;exact⟨⟨v::us,ws,rfl,v,us,rfl,q3,q5⟩,q6⟩
   cases h
theorem aCO {Q:Prop}: ∀{ys zs:List bF},yP ys zs Q->zs=ys/\Q
 | [],zs,h=>by
   unfold yP at h;split at h
   ·exact⟨rfl,h⟩
   cases h
 | y::ys,zs,h=>by
   unfold yP at h;split at h
   ·obtain⟨q1,q2⟩:=aCO h.2;exact⟨by rw[h.1.eq,q1],q2⟩
   cases h
theorem aOs (hG:G K φ A w0 N (mk sl rs) a w){ys:List bF}{x:AV}{Q:Prop}{v:Value}(h:aHx rs ren ys x Q)(hm:aB K φ w x v):aIz (qD K φ w (· ∈ren.map (·.2))) w ys v/\Q:=by
 unfold aHx at h;split at h
 ·obtain⟨rfl,hQ⟩:=aCO h;unfold aB at hm;obtain⟨a,e,hr⟩:=hm;exact⟨⟨a,e,gQ.mono (fun _ _=>rfl) (oK hG _) _ _ _ hr⟩,hQ⟩
 ·rename_i g0 off;split at h
  ·rename_i t cs hr;split at h
   ·rename_i hb;obtain⟨g,vs,hp,hB,h1,hl⟩:=hG.boxed hr;unfold aB at hm;obtain⟨g',rfl,hg⟩:=hm;have hgg:=hg _ hp;simp only[List.cons.injEq,and_true] at hgg;subst hgg;obtain⟨⟨us,ws,e,q1⟩,hQ⟩:=aG3 hG h (rO off hl);refine⟨⟨_,rfl,gQ.mk (fun _=>tQ hG hp (aCN hb) g (by simp[Pl.F])) q1 fun j u hu=>?_⟩,hQ⟩
    have hu' :(vs.toList.drop off)[j]? =some u:=by
     rw[e,aH1 (aBa.1 hu).1];exact hu
    rw[List.getElem?_drop] at hu';rw[Nat.add_zero,hB.cell (off+j)];simpa using hu'
   cases h
  cases h
 cases h
mutual
theorem aOt (hG:G K φ A w0 N (mk sl rs) a w){φi:fR}(hi: ∀h pl,φi h=some pl-> ∃g,cA ren h=some g/\φ g=some pl): ∀(y x:AV) (Q:Prop) (v:Value),gD rs ren y x Q->aB K φ w x v->aB (qD K φ w (· ∈ren.map (·.2))) φi w y v/\Q
 | .no,x,Q,v,h,hm=>by unfold gD at h;exact⟨by unfold aB;trivial,h⟩
 | .nil,x,Q,v,h,hm=>by
   unfold gD at h;split at h
   ·unfold aB at*;exact⟨hm,h⟩
   cases h
 | .own k,x,Q,v,h,hm=>by
   unfold gD at h;split at h
   ·split at h
    ·rename_i g' hl;obtain⟨e,hQ⟩:=h.eq;subst e;refine⟨?_,hQ⟩;unfold aB at*;intro pl hp;obtain⟨g2,e1,e2⟩:=hi _ pl hp;rw[hl] at e1;injection e1 with e1;subst e1
     exact hm pl e2
    cases h
   cases h
 | .ptr k o,x,Q,v,h,hm=>by
   unfold gD at h;split at h
   ·split at h
    ·rename_i g' hl;obtain⟨e,hQ1⟩:=h.eq;obtain⟨e2,hQ⟩:=hQ1.eq;subst e;subst e2;refine⟨?_,hQ⟩;unfold aB at*;obtain⟨g3,e3,q⟩:=hm;refine⟨g3,e3,fun pl hp=>?_⟩;obtain⟨g2,e1,e2⟩:=hi _ pl hp;rw[hl] at e1;injection e1 with e1;subst e1
     exact q pl e2
    cases h
   cases h
 | .p none y,x,Q,v,h,hm=>by
   unfold gD at h;split at h
   ·refine⟨?_,h.2⟩;unfold aB at*;rw[<-h.1.eq];exact fZ.mono (fun _ _=>rfl) (oK hG _) _ _ hm
   ·rename_i g z;split at h
    ·rename_i hb;rw[aA1] at hb;refine⟨?_,h.2⟩;obtain⟨r,hr⟩:=vE hb.1;obtain⟨pl,hp,_⟩:=hG.dom g r hr;unfold aB at*;rw[<-h.1.eq]
     exact fZ.mono (fun _ _=>rfl) (fun b hb' =>by
      rcases hb' with hb' | hb'
      ·exact oK hG _ b hb'
      exact tQ hG hp (aCN hb.2) b (aD4 _ hb')) _ _ (hm pl hp)
    cases h
   ·rename_i g;split at h
    ·rename_i e k d xs hr;split at h
     ·rename_i hb;refine⟨?_,h.2⟩;rw[<-h.1.eq];have:=hG.rdOwnB (C:=(· ∈ren.map (·.2))) hr (aCN hb) hm;unfold aB;exact this
     cases h
    cases h
   ·split at h
    ·refine⟨?_,h.2⟩;unfold aB at*;rw[hm,<-h.1];exact pE
    cases h
   cases h
 | .p (some _) y,x,Q,v,h,hm=>by unfold gD at h;cases h
 | .agg ys,x,Q,v,h,hm=>by
   unfold gD at h;split at h
   ·unfold aB at hm;obtain⟨vs,rfl,q1,q2⟩:=hm;obtain⟨q3,q4⟩:=aCP hG hi ys _ Q _ h q2;refine⟨?_,q4⟩;unfold aB;exact⟨vs,rfl,q1,q3⟩
   cases h
 | .tup ys,x,Q,v,h,hm=>by unfold gD at h;cases h
 | .ep _ _ _ _,x,Q,v,h,hm=>by unfold gD at h;cases h
 | .rp none ys,x,Q,v,h,hm=>by
   unfold gD at h;obtain⟨q1,q2⟩:=aOs hG h hm;refine⟨?_,q2⟩;unfold aB;exact q1
 | .rp (some _) _,x,Q,v,h,hm=>by unfold gD at h;cases h
 | .fn f [],x,Q,v,h,hm=>by
   unfold gD at h;split at h
   ·obtain⟨rfl,hQ⟩:=h.eq;refine⟨?_,hQ⟩;unfold aB at hm ⊢;obtain⟨vs',e1,e2⟩:=hm;refine⟨vs',e1,?_⟩;unfold aG at e2 ⊢;exact e2
   cases h
 | .fn _ (_::_),x,Q,v,h,hm=>by unfold gD at h;cases h
 | .bsl _ _,x,Q,v,h,hm=>by unfold gD at h;cases h
theorem aCP (hG:G K φ A w0 N (mk sl rs) a w){φi:fR}(hi: ∀h pl,φi h=some pl-> ∃g,cA ren h=some g/\φ g=some pl): ∀(ys xs:List AV) (Q:Prop) (vs:List Value),nB rs ren ys xs Q->aG K φ w xs vs->aG (qD K φ w (· ∈ren.map (·.2))) φi w ys vs/\Q
 | [],xs,Q,vs,h,hm=>by
   unfold nB at h;split at h
   ·unfold aG at*;exact⟨hm,h⟩
   cases h
 | y::ys,xs,Q,vs,h,hm=>by
   unfold nB at h;split at h
   ·unfold aG at hm;obtain⟨v,vs',rfl,q1,q2⟩:=hm;obtain⟨q3,q4⟩:=aOt hG hi y _ _ v h q1;obtain⟨q5,q6⟩:=aCP hG hi ys _ Q vs' q4 q2;refine⟨?_,q6⟩;unfold aG;exact⟨v,vs',rfl,q3,q5⟩
   cases h
end
end
theorem aMP {rs:Rl}{ren:List (Nat × Nat)}{Q Q' :Prop}{y:bF}{x:AV}(h:aK2 rs ren y x Q):Q/\(Q' ->aK2 rs ren y x Q'):=by
 unfold aK2 at*;split at h
 ·exact⟨h.2,fun q=>⟨h.1,q⟩⟩
 ·split at h
  ·exact⟨h.2,fun q=>⟨h.1,q⟩⟩
  cases h
 ·split at h
  ·split at h
   ·exact⟨h.2,fun q=>⟨h.1,q⟩⟩
   cases h
  cases h
 ·split at h
  ·exact⟨h.2,fun q=>⟨h.1,q⟩⟩
  cases h
 cases h
theorem aEU {rs:Rl}{ren:List (Nat × Nat)}{Q Q' :Prop}: ∀{ys:List bF} {xs:List AV},aAj rs ren ys xs Q->Q/\(Q' ->aAj rs ren ys xs Q')
 | [],xs,h=>⟨h,id⟩
 | y::ys,xs,h=>by
   unfold aAj at*;split at h
   ·obtain⟨q1,q2⟩:=aMP (Q' :=aAj rs ren ys _ Q') h;obtain⟨q3,q4⟩:=aEU (Q' :=Q') q1;exact⟨q3,fun q=>q2 (q4 q)⟩
   cases h
theorem aEV {Q Q' :Prop}: ∀{ys zs:List bF},yP ys zs Q->Q/\(Q' ->yP ys zs Q')
 | [],zs,h=>by
   unfold yP at*;split at h
   ·exact⟨h,id⟩
   cases h
 | y::ys,zs,h=>by
   unfold yP at*;split at h
   ·obtain⟨q1,q2⟩:=aEV (Q' :=Q') h.2;exact⟨q1,fun q=>⟨h.1,q2 q⟩⟩
   cases h
theorem aMQ {rs:Rl}{ren:List (Nat × Nat)}{Q Q' :Prop}{ys:List bF}{x:AV}(h:aHx rs ren ys x Q):Q/\(Q' ->aHx rs ren ys x Q'):=by
 unfold aHx at*;split at h
 ·exact aEV h
 ·split at h
  ·split at h
   ·exact aEU h
   cases h
  cases h
 cases h
mutual
theorem aG4 {rs:Rl}{ren:List (Nat × Nat)}{Q' :Prop}: ∀(y x:AV) (Q:Prop),gD rs ren y x Q->Q/\(Q' ->gD rs ren y x Q')
 | .no,x,Q,h=>by unfold gD at*;exact⟨h,id⟩
 | .nil,x,Q,h=>by
   unfold gD at*;split at h
   ·exact⟨h,id⟩
   cases h
 | .own k,x,Q,h=>by
   unfold gD at*;split at h
   ·split at h
    ·refine⟨h.eq.2,fun q=>?_⟩;have:=h.eq.1;subst this;simp only[EqN,Nat.beq_refl];exact q
    cases h
   cases h
 | .ptr k o,x,Q,h=>by
   unfold gD at*;split at h
   ·split at h
    ·refine⟨h.eq.2.eq.2,fun q=>?_⟩;have e1:=h.eq.1;have e2:=h.eq.2.eq.1;subst e1;subst e2;simp only[EqN,Nat.beq_refl];exact q
    cases h
   cases h
 | .p none y,x,Q,h=>by
   unfold gD at*;split at h
   ·exact⟨h.2,fun q=>⟨h.1,q⟩⟩
   ·split at h
    ·exact⟨h.2,fun q=>⟨h.1,q⟩⟩
    cases h
   ·split at h
    ·split at h
     ·exact⟨h.2,fun q=>⟨h.1,q⟩⟩
     cases h
    cases h
   ·split at h
    ·exact⟨h.2,fun q=>⟨h.1,q⟩⟩
    cases h
   cases h
 | .p (some _) y,x,Q,h=>by unfold gD at h;cases h
 | .agg ys,x,Q,h=>by
   unfold gD at*;split at h
   ·exact aAN ys _ Q h
   cases h
 | .tup ys,x,Q,h=>by unfold gD at h;cases h
 | .ep _ _ _ _,x,Q,h=>by unfold gD at h;cases h
 | .rp none ys,x,Q,h=>by
   unfold gD at*;exact aMQ h
 | .rp (some _) _,x,Q,h=>by unfold gD at h;cases h
 | .fn f [],x,Q,h=>by
   unfold gD at*;split at h
   ·obtain⟨rfl,hQ⟩:=h.eq;exact⟨hQ,fun q=>by simp only[EqN,Nat.beq_refl];exact q⟩
   cases h
 | .fn _ (_::_),x,Q,h=>by unfold gD at h;cases h
 | .bsl _ _,x,Q,h=>by unfold gD at h;cases h
theorem aAN {rs:Rl}{ren:List (Nat × Nat)}{Q' :Prop}: ∀(ys xs:List AV) (Q:Prop),nB rs ren ys xs Q->Q/\(Q' ->nB rs ren ys xs Q')
 | [],xs,Q,h=>by
   unfold nB at*;split at h
   ·exact⟨h,id⟩
   cases h
 | y::ys,xs,Q,h=>by
   unfold nB at*;split at h
   ·obtain⟨q1,q2⟩:=aG4 (Q' :=nB rs ren ys _ Q') y _ _ h;obtain⟨q3,q4⟩:=aAN (Q' :=Q') ys _ Q q1;exact⟨q3,fun q=>q2 (q4 q)⟩
   cases h
end
mutual
def aMR:AV->AV->Bool
 | .p none _,x=>(match x with | .p none _=>true | .nil=>true | _=>false)
 | .agg ys,x=>(match x with | .agg xs=>aCQ ys xs | _=>false)
 | .rp none _,x=>(match x with | .rp none _=>true | _=>false)
 | _,_=>true
def aCQ:List AV->List AV->Bool
 | [],_=>true
 | y::ys,xs=>(match xs with | x::xs=>aMR y x&&aCQ ys xs | []=>true)
end
section
variable {K:Nat->Prop} {φ:fR} {w:World} {rs:Rl} {ren:List (Nat × Nat)}
mutual
theorem aMS {φi:fR}(hi: ∀h pl,φi h=some pl-> ∃g,cA ren h=some g/\φ g=some pl): ∀(y x:AV) (Q:Prop) (v:Value),aMR y x=true->gD rs ren y x Q->aB K φ w x v->aB K φi w y v
 | .no,x,Q,v,_,h,hm=>by unfold aB;trivial
 | .nil,x,Q,v,_,h,hm=>by
   unfold gD at h;split at h
   ·unfold aB at*;exact hm
   cases h
 | .own k,x,Q,v,_,h,hm=>by
   unfold gD at h;split at h
   ·split at h
    ·rename_i g' hl;obtain⟨e,hQ⟩:=h.eq;subst e;unfold aB at*;intro pl hp;obtain⟨g2,e1,e2⟩:=hi _ pl hp;rw[hl] at e1;injection e1 with e1;subst e1
     exact hm pl e2
    cases h
   cases h
 | .ptr k o,x,Q,v,_,h,hm=>by
   unfold gD at h;split at h
   ·split at h
    ·rename_i g' hl;obtain⟨e,hQ1⟩:=h.eq;obtain⟨e2,hQ⟩:=hQ1.eq;subst e;subst e2;unfold aB at*;obtain⟨g3,e3,q⟩:=hm;refine⟨g3,e3,fun pl hp=>?_⟩;obtain⟨g2,e1,e2⟩:=hi _ pl hp;rw[hl] at e1;injection e1 with e1;subst e1
     exact q pl e2
    cases h
   cases h
 | .p none y,x,Q,v,hs,h,hm=>by
   unfold aMR at hs;unfold gD at h;split at h
   ·unfold aB at*;rw[<-h.1.eq];exact hm
   ·cases hs
   ·cases hs
   ·split at h
    ·unfold aB at*;rw[hm,<-h.1];exact pE
    cases h
   cases h
 | .p (some _) y,x,Q,v,_,h,hm=>by unfold gD at h;cases h
 | .agg ys,x,Q,v,hs,h,hm=>by
   unfold aMR at hs;unfold gD at h;split at h
   ·unfold aB at hm;obtain⟨vs,rfl,q1,q2⟩:=hm;unfold aB;exact⟨vs,rfl,q1,aAO hi ys _ Q _ hs h q2⟩
   cases h
 | .tup ys,x,Q,v,_,h,hm=>by unfold gD at h;cases h
 | .ep _ _ _ _,x,Q,v,_,h,hm=>by unfold gD at h;cases h
 | .rp none ys,x,Q,v,hs,h,hm=>by
   unfold aMR at hs;unfold gD at h;split at hs
   ·unfold aHx at h;obtain⟨rfl,hQ⟩:=aCO h;unfold aB at*;exact hm
   cases hs
 | .rp (some _) _,x,Q,v,_,h,hm=>by unfold gD at h;cases h
 | .fn f [],x,Q,v,_,h,hm=>by
   unfold gD at h;split at h
   ·obtain⟨rfl,hQ⟩:=h.eq;unfold aB at hm ⊢;obtain⟨vs',e1,e2⟩:=hm;refine⟨vs',e1,?_⟩;unfold aG at e2 ⊢;exact e2
   cases h
 | .fn _ (_::_),x,Q,v,_,h,hm=>by unfold gD at h;cases h
 | .bsl _ _,x,Q,v,_,h,hm=>by unfold gD at h;cases h
theorem aAO {φi:fR}(hi: ∀h pl,φi h=some pl-> ∃g,cA ren h=some g/\φ g=some pl): ∀(ys xs:List AV) (Q:Prop) (vs:List Value),aCQ ys xs=true->nB rs ren ys xs Q->aG K φ w xs vs->aG K φi w ys vs
 | [],xs,Q,vs,_,h,hm=>by
   unfold nB at h;split at h
   ·unfold aG at*;exact hm
   cases h
 | y::ys,xs,Q,vs,hs,h,hm=>by
   unfold aCQ at hs;unfold nB at h;split at h
   ·simp only[aA1] at hs;unfold aG at hm;obtain⟨v,vs',rfl,q1,q2⟩:=hm;unfold aG;exact⟨v,vs',rfl,aMS hi y _ _ v hs.1 h q1,aAO hi ys _ Q vs' hs.2 (aG4 (Q' :=True) _ _ _ h).1 q2⟩
   cases h
end
end
def rR (ren:List (Nat × Nat))(hb h:Nat):Nat:=match cA ren h with | some g=>g | none=>hb+h
mutual
def kZ:AV->Bool
 | .p none x=>x.val?.isSome
 | .own _=>true
 | .ptr _ _=>true
 | .nil=>true
 | .no=>true
 | .agg cs=>oL cs
 | .tup cs=>oL cs
 | _=>false
def oL:List AV->Bool
 | []=>true
 | x::xs=>kZ x&&oL xs
end
mutual
theorem wE {K K' :Nat->Prop}{φ:fR}{w:World}: ∀(x:AV) (v:Value),kZ x=true->aB K φ w x v->aB K' φ w x v
 | .p none x,v,hc,h=>by
   unfold kZ at hc;unfold aB at*;cases hx:x.val? with
   | none=>simp[hx] at hc
   | some u=>exact(fZ.scalar hx).2 ((fZ.scalar hx).1 h)
 | .p (some k) x,v,hc,h=>by simp[kZ] at hc
 | .own k,v,_,h=>by unfold aB at*;exact h
 | .ptr k o,v,_,h=>by unfold aB at*;exact h
 | .ep k _ _ _,v,hc,_=>by simp[kZ] at hc
 | .rp _ x,v,hc,h=>by simp[kZ] at hc
 | .fn _ _,v,hc,h=>by simp[kZ] at hc
 | .bsl _ _,v,hc,h=>by simp[kZ] at hc
 | .nil,v,_,h=>by unfold aB at*;exact h
 | .no,v,_,_=>by unfold aB;trivial
 | .agg cs,v,hc,h=>by
   unfold kZ at hc;unfold aB at*;obtain⟨vs,e,h1,h2⟩:=h;exact⟨vs,e,h1,lA cs _ hc h2⟩
 | .tup cs,v,hc,h=>by
   unfold kZ at hc;unfold aB at*;obtain⟨vs,e,h2⟩:=h;exact⟨vs,e,lA cs _ hc h2⟩
theorem lA {K K' :Nat->Prop}{φ:fR}{w:World}: ∀(xs:List AV) (vs:List Value),oL xs=true->aG K φ w xs vs->aG K' φ w xs vs
 | [],vs,_,h=>by unfold aG at*;exact h
 | x::xs,vs,hc,h=>by
   unfold oL at hc;simp only[aA1] at hc;unfold aG at*;obtain⟨v,vs',e,h1,h2⟩:=h;exact⟨v,vs',e,wE x v hc.1 h1,lA xs vs' hc.2 h2⟩
end
def yQ (on:Nat->Nat):List (Nat × Rs)->Nat->Option Nat
 | [],_=>none
 | (h,_)::l,g=>if on h=g then some h else yQ on l g
theorem tR {on:Nat->Nat}: ∀{ro:List (Nat × Rs)} {g h:Nat},yQ on ro g=some h->on h=g/\ ∃r,aS ro h=some r
 | [],_,_,e=>by simp[yQ] at e
 | (k,r)::l,g,h,e=>by
   simp only[yQ] at e;split at e
   ·injection e with e;subst e;rename_i q;exact⟨q,r,by simp[aS]⟩
   obtain⟨h1,r',h2⟩:=tR e;refine⟨h1,?_⟩;simp only[aS];split
   ·exact⟨r,rfl⟩
   exact⟨r',h2⟩
theorem aMT {on:Nat->Nat}{h:Nat}: ∀{ro:List (Nat × Rs)} {r:Rs},(∀h' r',aS ro h' =some r' ->on h' =on h->h' =h)->aS ro h=some r->yQ on ro (on h)=some h:=by
 intro ro r hi hr;cases hv:yQ on ro (on h) with
 | some h' =>
   obtain⟨e,r',hr'⟩:=tR hv;rw[hi h' r' hr' e]
 | none=>
   exfalso
   have: ∀(l:List (Nat × Rs)),yQ on l (on h)=none->aS l h=none:=by
    intro l
    induction l with
    | nil=>intro _;rfl
    | cons q l ih=>
      obtain⟨k,r0⟩:=q;intro e;simp only[yQ] at e;split at e
      ·cases e
      rename_i hne;simp only[aS];rw[if_neg (fun e' =>hne (by rw[e']))];exact ih e
   rw[this ro hv] at hr;cases hr
theorem aG5 {on:Nat->Nat}{m:Rs->Rs}: ∀{ro:List (Nat × Rs)} {g:Nat} {r:Rs},aS (ro.map fun q=>(on q.1,m q.2)) g=some r-> ∃h r0,yQ on ro g=some h/\aS ro h=some r0/\r=m r0
 | [],g,r,e=>by simp[aS] at e
 | (k,r1)::l,g,r,e=>by
   simp only[aDa,aS] at e;split at e
   ·rename_i q;injection e with e
    exact⟨k,r1,by simp[yQ,q],by simp[aS],e.symm⟩
   rename_i q;obtain⟨h,r0,h1,h2,h3⟩:=aG5 e;refine⟨h,r0,by simp only[yQ];rw[if_neg (fun e=>q e.symm)];exact h1,?_,h3⟩;simp only[aS];rw[if_neg (fun e=>by subst e;exact q (tR h1).1.symm)];exact h2
theorem qE {on:Nat->Nat}{m:Rs->Rs}: ∀{ro:List (Nat × Rs)} {g:Nat},aS (ro.map fun q=>(on q.1,m q.2)) g=none->yQ on ro g=none
 | [],g,e=>rfl
 | (k,r1)::l,g,e=>by
   simp only[aDa,aS] at e;split at e
   ·cases e
   rename_i q;simp only[yQ];rw[if_neg (fun e=>q e.symm)];exact qE e
theorem aG6 {ren:List (Nat × Nat)}{h g:Nat}(e:cA ren h=some g):g∈ren.map (·.2):=by
 induction ren with
 | nil=>simp[cA] at e
 | cons q l ih=>
   obtain⟨k,v⟩:=q;unfold cA at e;split at e
   ·injection e with e;simp[e]
   simp only[aDa,aEx];exact .inr (ih e)
def aB2 (st:Bool)(x:AV):Bool:=st || kZ x
def aCR (st:Bool):Rs->Bool
 | .box _ cs=>st || oL cs
 | .arr _ _ d _=>st || d
 | .hole _ _ _ _ _ _=>false
section
variable {P:Program} {sl:Sl} {rs:Rl}
def aEW:Rs->Bool
 | .box _ _=>true
 | _=>false
def aHy (ri:List (Nat × Rs))(ren:List (Nat × Nat))(ro:List (Nat × Rs)):Bool:=ro.all fun q=>match cA ren q.1 with | some _=>aEW q.2&&(match aS ri q.1 with | some r=>aEW r | none=>false) | none=>true
def wU (P:Program)(o:Oper)(S:St)(e:Eff)(B:Prop):Prop:=
 ∀(K:Nat->Prop) (φ:fR) (A:Nat->Prop) (w0:rK) (N:Nat) (a:Act) (w:World) (Q:Exit->Act->World->Prop),(∀d,o.dst=some d->d<N)->G K φ A w0 N S a w->
  o.wp P a w (fun a' w' => ∃K' φ' v,a' =a.put o.dst v/\G K' φ' A w0 N (S.apply o.dst e) a' w' /\(B->Tr K φ w (· ∈e.del) (aS e.new) K' φ' w')) Q
theorem wU.to0 {P:Program}{S:St}{o:Oper}{e:Eff}{B:Prop}(h:wU P o S e B):pZ P o S e:=fun K φ A w0 N a w Q hd hG=>Oper.wp_mono (fun a' w' ⟨K',φ',v,h1,h2,_⟩=>⟨K',φ',v,h1,h2⟩) (h K φ A w0 N a w Q hd hG)
theorem wU.full {P:Program}{S:St}{o:Oper}{e:Eff}{B:Prop}(h:wU P o S e B)(b:B):aZ P o S e:=fun K φ A w0 N a w Q hd hG=>Oper.wp_mono (fun a' w' ⟨K',φ',v,h1,h2,h3⟩=>⟨K',φ',v,h1,h2,h3 b⟩) (h K φ A w0 N a w Q hd hG)
theorem aG7 {o:Oper}{f:FuncId}{avs fs:List AV}{ri ro:List (Nat × Rs)}{ren:List (Nat × Nat)}{rv:AV}{hb:Nat}{st:Bool}(hset:st=true->aCQ fs avs=true)
 (hrun: ∀K φ A w0 N a w,G K φ A w0 N (mk sl rs) a w-> ∃vs:Array Value,(execOp a.eval o).run P w= .ok (.enter f vs) w/\aG K φ w avs vs.toList)
 (hC:aG2 P f fs ri rv ro) (ha:nB rs ren fs avs True)
 (hres: ∀h r,aS ri h=some r-> ∃g,cA ren h=some g/\aR rs g=some (aDl (aMN ren) r)) (hkey: ∀h g,cA ren h=some g-> ∃r,aS ri h=some r) (hinj:jP (ren.map (·.2))=true)
 (hcl:aB2 st rv=true) (hclr: ∀q∈ro,aCR st q.2=true) (hfr: ∀q∈ro,cA ren q.1=none->fO (mk sl rs) (hb+q.1))
 (hmt: ∀h∈bV rv,∃r,aS ro h=some r) (hmr: ∀q∈ro,∀h∈gA q.2,∃r,aS ro h=some r)
 (hon: ∀h h' r r',aS ro h=some r->aS ro h' =some r' ->rR ren hb h=rR ren hb h' ->h=h')
 (hvw: ∀q∈ro,∀g,cA ren q.1=some g->(∀t,g ∉ pI (bM sl t))/\ ∀h' r,aR rs h' =some r->g ∉ aAM r):
 wU P o (mk sl rs) ⟨iT (rR ren hb) rv,ren.map (·.2),ro.map fun q=>(rR ren hb q.1,aDl (rR ren hb) q.2)⟩ (aHy ri ren ro=true):=by
 intro K φ A w0 N a w Q hd hG;obtain⟨vs,hrn,hmv⟩:=hrun K φ A w0 N a w hG;unfold Oper.wp;rw[hrn,Oper.upon_enter]
 let φi:fR:=fun h=>match cA ren h with | some g=>φ g | none=>none
 have hi: ∀h pl,φi h=some pl-> ∃g,cA ren h=some g/\φ g=some pl:=fun h pl e=>by
  simp only[φi] at e;split at e
  ·rename_i g hg;exact⟨g,hg,e⟩
  cases e
 have hren: ∀h g,cA ren h=some g->aMN ren h=g:=fun h g e=>by unfold aMN;rw[e]
 have hBx: ∃B:Nat->Prop,(∀b,K b->B b)/\(∀b,B b->b<w.heap.size/\ ¬eQ φ (· ∈ren.map (·.2)) b)/\aG B φi w fs vs.toList/\(st=true-> ∀b,B b->K b):=by
  cases hst:st with
  | false=>exact⟨qD K φ w (· ∈ren.map (·.2)),oK hG _,(by intro b h;exact h),(aCP hG hi fs avs True vs.toList ha hmv).1,fun e=>by cases e⟩
  | true=>exact⟨K,fun _ h=>h,fun b hb=>⟨(hG.kin b hb).1,fun ⟨h,pl,_,hp,hm⟩=>hG.kout b hb h pl hp hm⟩,aAO hi fs avs True vs.toList (hset hst) ha hmv,fun _ _ h=>h⟩
 obtain⟨B,hKB,hBB,hargs,hBK⟩:=hBx
 have hI:In2 B φi w ri:=by
  refine⟨fun b hb=>(hBB b hb).1,fun h r hr=>?_,fun h hr=>?_,fun h h' pl pl' hne e e' =>?_,fun h pl e=>?_,fun h pl e g hg=>?_,fun b hb' h pl e hm=>?_⟩
  ·obtain⟨g,hg,hf⟩:=hres h r hr;obtain⟨pl,hp,hh⟩:=hG.dom g _ hf;refine⟨pl,by simp only[φi,hg];exact hp,?_⟩;cases r with
   | box t cs=>
     obtain⟨g',vs',e1,e2,e3,e4⟩:=hh;refine⟨g',vs',e1,e2,e3,?_⟩;have:=aG.unmap (φ' :=φi) cs _ (fun k pl' _ e=>by obtain⟨g2,q1,q2⟩:=hi k pl' e;rw[hren k g2 q1];exact q2) e4;exact aG.mono (fun _ _=>rfl) hKB cs _ (fun _ _ _ e=>⟨e,fun _ _=>rfl⟩) this
   | hole e k xs i j q=>
     obtain⟨xs1,x1,d,x2,xs2,css1,c1,v,c2,css2,Fs1,F1,F2,Fs2,e0,e1,e2,e3,h1,h2,h3,h4,h5,h6,h7,h8⟩:=hh;exact⟨xs1,x1,d,x2,xs2,css1,c1,v,c2,css2,Fs1,F1,F2,Fs2,e0,e1,e2,e3,h1,h2,h3,h4,h5,h6,h7,⟨h8.1,fun pl' e' =>by obtain⟨g2,q1,q2⟩:=hi q pl' e';exact h8.2 pl' (by rw[hren q g2 q1];exact q2)⟩⟩
   | arr e k d xs=>
     have:=dM.mono (K' :=B) (φ' :=φi) (w' :=w) (pl:=pl) (fun _ _=>rfl) hKB (fun _ _=>rfl) (.arr e k d xs) (fun _ _ hm _=>by simp[gA] at hm) hh;exact this
  ·simp only[φi];cases hl:cA ren h with
   | none=>rfl
   | some g=>
     obtain⟨r,hr'⟩:=hkey h g hl;rw[hr] at hr';cases hr'
  ·obtain⟨g,q1,q2⟩:=hi h pl e;obtain⟨g',q1',q2'⟩:=hi h' pl' e';exact hG.disj g g' pl pl' (fun x=>by subst x;exact hne (aCM hinj q1 q1')) q2 q2'
  ·obtain⟨g,_,q2⟩:=hi h pl e;exact hG.nodup g pl q2
  ·obtain⟨g',_,q2⟩:=hi h pl e;exact(hG.ge g' pl q2 g hg).2
  obtain⟨g,q1,q2⟩:=hi h pl e;exact(hBB b hb').2 ⟨g,pl,aG6 q1,q2,hm⟩
 refine(hC.2.2 _ φi w vs hI hargs).mono ?_;rintro e w' ⟨v,Kr,φ',rfl,hO,hmr'⟩
 have hfoot: ∀b,aMO φi b->eQ φ (· ∈ren.map (·.2)) b:=fun b ⟨h,pl,_,e,hb⟩=>by
  obtain⟨g,q1,q2⟩:=hi h pl e;exact⟨g,pl,aG6 q1,q2,hb⟩
 let on:=rR ren hb
 have hou: ∀h g,cA ren h=some g->on h=g:=fun h g e=>by simp only[on,rR,e]
 have hou' : ∀h,cA ren h=none->on h=hb+h:=fun h e=>by simp only[on,rR,e]
 let φr:fR:=fun g=>match yQ on ro g with | some h=>φ' h | none=>none
 have r1: ∀g pl,φr g=some pl-> ∃h r,on h=g/\aS ro h=some r/\φ' h=some pl:=fun g pl e=>by
  simp only[φr] at e;split at e
  ·rename_i h hh;obtain⟨q1,r,q2⟩:=tR hh;exact⟨h,r,q1,q2,e⟩
  cases e
 have r2: ∀h r,aS ro h=some r->φr (on h)=φ' h:=fun h r hr=>by
  simp only[φr];rw[aMT (on:=on) (fun h' r' hr' e=>hon h' h r' r hr' hr e) hr]
 have r3: ∀g pl,φr g=some pl->((∃pl0,φ g=some pl0/\pl.val=pl0.val/\pl.top=pl0.top)/\(∀t,g ∉ pI (bM sl t))/\ ∀h' r,aR rs h' =some r->g ∉ aAM r)\/fO (mk sl rs) g:=fun g pl e=>by
  obtain⟨h,r,e1,e2,e3⟩:=r1 g pl e;cases hl:cA ren h with
  | some g' =>
    rw[hou h g' hl] at e1;subst e1;obtain⟨r0,hr0⟩:=hkey h _ hl;obtain⟨pl0,hp0,_⟩:=hI.dom h r0 hr0;have hpn:=hO.pin h pl pl0 e3 hp0;have hp:φ g' =some pl0:=by simp only[φi,hl] at hp0;exact hp0
    have:=hvw _ (bZ e2) g' hl;exact .inl ⟨⟨pl0,hp,hpn⟩,this⟩
  | none=>
    rw[hou' h hl] at e1;rw[<-e1];exact .inr (hfr _ (bZ e2) hl)
 have hKx: ∃K' :Nat->Prop,(∀b,K b->K' b)/\(∀b,K' b->K b\/(b<w'.heap.size/\(w.heap.size<=b\/eQ φ (· ∈ren.map (·.2)) b)/\ ∀h pl,φr h=some pl->b ∉ pl.F))/\(aB2 st rv=true->aB Kr φ' w' rv v->aB K' φ' w' rv v)/\(∀cs vs',(st || oL cs)=true->aG Kr φ' w' cs vs' ->aG K' φ' w' cs vs')/\(∀e k d xs pl,(st || d)=true->dM Kr φ' w' pl (.arr e k d xs)->dM K' φ' w' pl (.arr e k d xs)):=by
  cases hst:st with
  | false=>
    refine⟨K,fun _ h=>h,fun _ h=> .inl h,fun hc hm=>?_,fun cs vs' hc hm=>?_,fun e k d xs pl hc hm=>?_⟩
    ·exact wE rv v (by simpa [aB2] using hc) hm
    ·exact lA cs vs' (by simpa using hc) hm
    have hd' :d=true:=by simpa using hc
    subst hd';exact hm
  | true=>
    refine⟨Kr,fun b hb=>hO.kk b (hKB b hb),fun b hb=>?_,fun _ hm=>hm,fun _ _ _ hm=>hm,fun _ _ _ _ _ _ hm=>hm⟩;obtain⟨q1,q2⟩:=hO.kin b hb;rcases q2 with q2 | q2 | q2
    ·exact .inl (hBK hst b q2)
    ·exact .inr ⟨q1,.inl q2,fun h pl e=>by obtain⟨h',r,_,_,e3⟩:=r1 h pl e;exact hO.kout b hb h' pl e3⟩
    exact .inr ⟨q1,.inr (hfoot b q2),fun h pl e=>by obtain⟨h',r,_,_,e3⟩:=r1 h pl e;exact hO.kout b hb h' pl e3⟩
 obtain⟨K',kx1,kx2,kx3,kx4,kx5⟩:=hKx
 have hst:=hG.stepV (C:=(· ∈ren.map (·.2))) (φr:=φr) (ρ:=aS (ro.map fun q=>(on q.1,aDl on q.2))) (K' :=K') (w' :=w')
  (hO.chg.mono hfoot)
  (fun g pl e=>by
   obtain⟨h,r,_,_,e3⟩:=r1 g pl e;refine⟨hO.nodup h pl e3,fun b hb=>⟨(hO.ge h pl e3 b hb).2,(hO.ge h pl e3 b hb).1.imp id (hfoot b)⟩⟩)
  (fun g g' pl pl' hne e e' =>by
   obtain⟨h,r,q1,_,e3⟩:=r1 g pl e;obtain⟨h',r',q1',_,e3'⟩:=r1 g' pl' e';exact hO.disj h h' pl pl' (fun x=>by subst x;exact hne (q1.symm.trans q1')) e3 e3')
  (fun g r hr=>by
   obtain⟨h,r0,q1,q2,q3⟩:=aG5 hr;subst q3;obtain⟨pl,hp,hh⟩:=hO.dom h r0 q2;have hin:=(tR q1).1;refine⟨pl,by rw[<-hin,r2 h r0 q2];exact hp,?_⟩;cases r0 with
   | box t cs=>
     obtain⟨g',vs',e1,e2,e3,e4⟩:=hh;refine⟨g',vs',e1,e2,e3,?_⟩;refine aG.map cs _ (fun k pl' hk e=>?_) (kx4 cs _ (hclr _ (bZ q2)) e4);obtain⟨rk,hrk⟩:=hmr _ (bZ q2) k hk;obtain⟨plk,hpk,_⟩:=hO.dom k rk hrk;have:cB (· ∈ren.map (·.2)) φr φ (on k)=some plk:=by simp only[cB,r2 k rk hrk,hpk]
     rw[this] at e;injection e with e
     subst e;exact hpk
   | hole e k xs i j q=>
     have hd' :=hclr _ (bZ q2);simp[aCR] at hd'
   | arr e k d xs=>
     have hk5:=kx5 e k d xs pl (hclr _ (bZ q2)) hh;cases d<;>exact hk5)
  (fun g hr=>by simp only[φr];rw[qE hr])
  kx1 kx2
  (fun t g pl hm' e=>by
   rcases r3 g pl e with ⟨⟨pl0,q1,q3,q4⟩,q2,_⟩ | q
   ·exact⟨pl0,q1,q3,q4,fun hv=>absurd hv (q2 t)⟩
   exact absurd hm' (q.1 t))
  (fun h' r g pl _ hr hm' e=>by
   rcases r3 g pl e with ⟨⟨pl0,q1,q3,q4⟩,_,q2⟩ | q
   ·exact⟨pl0,q1,q3,q4,fun hv=>absurd hv (q2 h' r hr)⟩
   exact absurd hm' (q.2.1 h' r hr))
  (fun g pl e=>by
   rcases r3 g pl e with ⟨q1,_⟩ | q
   ·exact .inl q1
   exact .inr q.2.2.2)
 have hTr:aHy ri ren ro=true->Tr K φ w (· ∈ren.map (·.2)) (aS (ro.map fun q=>(on q.1,aDl on q.2))) K' (cB (· ∈ren.map (·.2)) φr φ) w' :=fun hB=>by
  have same: ∀g pl,φr g=some pl->(φ g=some pl/\pl.sub= [])\/(fO (mk sl rs) g/\ ∃h r,on h=g/\aS ro h=some r/\φ' h=some pl):=fun g pl e=>by
   obtain⟨h,r,e1,e2,e3⟩:=r1 g pl e;cases hl:cA ren h with
   | some g' =>
     rw[hou h g' hl] at e1;subst e1;obtain⟨r0,hr0⟩:=hkey h _ hl;obtain⟨pl0,hp0,hh0⟩:=hI.dom h r0 hr0;obtain⟨pl1,hp1,hh1⟩:=hO.dom h r e2;have hpn:=hO.pin h pl pl0 e3 hp0;have hp:φ g' =some pl0:=by simp only[φi,hl] at hp0;exact hp0
     rw[e3] at hp1;injection hp1 with hp1
     subst hp1;have hb1:=aDW.1 hB _ (bZ e2);simp only[hl,hr0,aA1] at hb1;obtain⟨c1,c2⟩:=hb1;cases r with
     | box t cs=>
       cases r0 with
       | box t0 cs0=>
         obtain⟨ga,_,ea,_⟩:=hh1;obtain⟨gb,_,eb,_⟩:=hh0;have hv:=hpn.1;rw[ea,eb] at hv;simp only[Value.pointer.injEq,Option.some.injEq] at hv;injection hv with hv
         subst hv;exact .inl ⟨by rw[hp,ea,eb],by rw[ea]⟩
       | arr _ _ _ _=>simp[aEW] at c2
       | hole _ _ _ _ _ _=>simp[aEW] at c2
     | arr _ _ _ _=>simp[aEW] at c1
     | hole _ _ _ _ _ _=>simp[aEW] at c1
   | none=>
     rw[hou' h hl] at e1;refine .inr ⟨by rw[<-e1];exact hfr _ (bZ e2) hl,h,r,by rw[hou' h hl];exact e1,e2,e3⟩
  refine⟨hO.chg.mono hfoot,kx1,fun b h=>(kx2 b h).imp id (fun q=>q.2.1),fun g pl e=>?_,fun g pl e e' b hb=>?_⟩
  ·rcases bK e with q | ⟨_,_,q⟩
   ·rcases same g pl q with ⟨q1,_⟩ | ⟨q1,h,r,q2,q3,q4⟩
    ·exact .inl q1
    refine .inr ⟨hG.non g q1.2.2.1,?_,fun b hb=>(hO.ge h pl q4 b hb).1.imp id (hfoot b)⟩;cases hf:aS (ro.map fun q=>(on q.1,aDl on q.2)) g with
    | some r' =>exact⟨r',rfl⟩
    | none=>
      have:=qE hf;rw[<-q2,aMT (on:=on) (fun h' r' hr' e=>hon h' h r' r hr' q3 e) q3] at this;cases this
   exact .inl q
  rcases bK e with q | ⟨_,hc,_⟩
  ·rcases same g pl q with ⟨_,q1⟩ | ⟨q1,_⟩
   ·rw[q1] at hb;cases hb
   rw[hG.non g q1.2.2.1] at e';cases e'
  refine hO.chg.block b (hG.ge g pl e' b (aD4 _ hb)).2 (fun hm=>?_);obtain⟨g2,pl2,hc2,hp2,hb2⟩:=hfoot b hm;by_cases ex:g=g2
  ·subst ex;exact hc hc2
  exact hG.disj g g2 pl pl2 ex e' hp2 b (aD4 _ hb) hb2
 refine⟨K',cB (· ∈ren.map (·.2)) φr φ,v,rfl,hst.put hd (aB.map rv v (fun k pl hk e=>?_) (kx3 hcl hmr')),hTr⟩;obtain⟨rk,hrk⟩:=hmt k hk;obtain⟨plk,hpk,_⟩:=hO.dom k rk hrk;have:cB (· ∈ren.map (·.2)) φr φ (on k)=some plk:=by simp only[cB,r2 k rk hrk,hpk]
 rw[this] at e;injection e with e
 subst e;exact hpk
end
def riW (rs:Rl)(ren:List (Nat × Nat)):List (Nat × Rs)->Prop->Prop
 | [],K=>K
 | (h,r)::l,K=>(match cA ren h with
   | some g=>(match aR rs g with | some r' =>EqR r' (aDl (aMN ren) r) (riW rs ren l K) | none=>False)
   | none=>False)
theorem aMU {rs:Rl}{ren:List (Nat × Nat)}{K:Prop}: ∀{l:List (Nat × Rs)},riW rs ren l K->(∀h r,aS l h=some r-> ∃g,cA ren h=some g/\aR rs g=some (aDl (aMN ren) r))/\K
 | [],h=>⟨by simp[aS],h⟩
 | (k,r0)::l,hw=>by
   unfold riW at hw;split at hw
   ·rename_i g hg;split at hw
    ·rename_i r' hr';obtain⟨e1,hw1⟩:=hw.eq;obtain⟨q1,q2⟩:=aMU hw1;refine⟨fun h r e=>?_,q2⟩;simp only[aS] at e;split at e
     ·rename_i ek;subst ek;injection e with e
      subst e;exact⟨g,hg,by rw[hr',e1]⟩
     exact q1 h r e
    cases hw
   cases hw
def pJ (sl:Sl)(rs:Rl)(g:Nat):Bool:=sl.all (fun p=> !(pI (bM sl p.1)).contains g)&&rs.all (fun p=>match aR rs p.1 with | some r=> !(aAM r).contains g | none=>true)
def aFL (st:Bool)(sl:Sl)(rs:Rl)(hb:Nat)(ri:List (Nat × Rs))(ren:List (Nat × Nat))(rv:AV)(ro:List (Nat × Rs)):Bool:=
 ren.all (fun q=>(aS ri q.1).isSome)&&jP (ren.map (·.2))&&aB2 st rv&&(ro.all fun q=>aCR st q.2)&&(ro.all fun q=>match cA ren q.1 with | some g=>pJ sl rs g | none=>fD sl rs (hb+q.1))&&
 ((bV rv).all fun h=>(aS ro h).isSome)&&(ro.all fun q=>(gA q.2).all fun h=>(aS ro h).isSome)&&(ro.all fun q=>ro.all fun q' =>Nat.beq q.1 q'.1 || !Nat.beq (rR ren hb q.1) (rR ren hb q'.1))
def tS (P:Program)(sl:Sl)(rs:Rl)(d:Nat)(f:FuncId)(avs:List AV)(t:T)(K:AV->List Nat->List (Nat × Rs)->T->Prop):Prop:=match t with
 | .callx fs ri ren rv ro t=>(match aFL false sl rs (100*d) ri ren rv ro with
   | true=>aG2 P f fs ri rv ro/\nB rs ren fs avs (riW rs ren ri (K (iT (rR ren (100*d)) rv) (ren.map (·.2)) (ro.map fun q=>(rR ren (100*d) q.1,aDl (rR ren (100*d)) q.2)) t))
   | false=>False)
 | .callxs fs ri ren rv ro t=>(match aFL true sl rs (100*d) ri ren rv ro&&aCQ fs avs with
   | true=>aG2 P f fs ri rv ro/\nB rs ren fs avs (riW rs ren ri (K (iT (rR ren (100*d)) rv) (ren.map (·.2)) (ro.map fun q=>(rR ren (100*d) q.1,aDl (rR ren (100*d)) q.2)) t))
   | false=>False)
 | _=>False
theorem aOu {ren:List (Nat × Nat)}{h g:Nat}(e:cA ren h=some g):(h,g)∈ren:=by
 induction ren with
 | nil=>simp[cA] at e
 | cons q l ih=>
   obtain⟨k,v⟩:=q;unfold cA at e;split at e
   ·rename_i hb;injection e with e;have:=aB1 hb;subst this;subst e;simp
   exact aHb _ (ih e)
theorem qP {sl:Sl}{rs:Rl}{g:Nat}(h:pJ sl rs g=true):(∀t,g ∉ pI (bM sl t))/\ ∀h' r,aR rs h' =some r->g ∉ aAM r:=by
 unfold pJ at h;simp only[aA1,aDW] at h;refine⟨fun t ht=>?_,fun h' r hr hm=>?_⟩
 ·have hk: ∀(l:Sl),bM l t≠ .no->t∈l.map (·.1):=by
   intro l
   induction l with
   | nil=>intro h;simp[bM] at h
   | cons q l ih=>
     obtain⟨k,v⟩:=q;intro h;simp only[bM] at h;by_cases e:t=k
     ·simp[e]
     rw[if_neg e] at h;simp[ih h]
  have hne:bM sl t≠ .no:=fun e=>by rw[e] at ht;simp[pI] at ht
  obtain⟨q,hq,rfl⟩:=aFm.1 (hk sl hne);have:=h.1 q hq;simp only[Bool.not_eq_true',List.contains_eq_mem,decide_eq_false_iff_not] at this;exact this ht
 have hk: ∀(l:Rl),aR l h' =some r->h' ∈l.map (·.1):=by
  intro l
  induction l with
  | nil=>intro h;simp[aR] at h
  | cons q l ih=>
    obtain⟨k,v⟩:=q;intro h;simp only[aR] at h;by_cases e:h' =k
    ·simp[e]
    rw[if_neg e] at h;simp[ih h]
 obtain⟨q,hq,rfl⟩:=aFm.1 (hk rs hr);have:=h.2 q hq;rw[hr] at this;simp only[Bool.not_eq_true',List.contains_eq_mem,decide_eq_false_iff_not] at this;exact this hm
def aR6:T->Bool
 | .callx _ ri ren _ ro _=>aHy ri ren ro
 | .callxs _ ri ren _ ro _=>aHy ri ren ro
 | _=>false
theorem aEX {P:Program}{sl:Sl}{rs:Rl}{d:Nat}{f:FuncId}{avs fs:List AV}{ri ro:List (Nat × Rs)}{ren:List (Nat × Nat)}{rv:AV}{o:Oper}{t:T}{st:Bool}{K:AV->List Nat->List (Nat × Rs)->T->Prop}(hrun:iW P f=true-> ∀K φ A w0 N a w,G K φ A w0 N (mk sl rs) a w-> ∃vs:Array Value,(execOp a.eval o).run P w= .ok (.enter f vs) w/\aG K φ w avs vs.toList)(hset:st=true->aCQ fs avs=true)(hb:aFL st sl rs (100*d) ri ren rv ro=true)
 (h:aG2 P f fs ri rv ro/\nB rs ren fs avs (riW rs ren ri (K (iT (rR ren (100*d)) rv) (ren.map (·.2)) (ro.map fun q=>(rR ren (100*d) q.1,aDl (rR ren (100*d)) q.2)) t))): ∃v del new t',wU P o (mk sl rs) ⟨v,del,new⟩ (aHy ri ren ro=true)/\K v del new t' :=by
 unfold aFL at hb;simp only[aA1,aDW] at hb;obtain⟨⟨⟨⟨⟨⟨⟨b1,b2⟩,b3⟩,b4⟩,b5⟩,b6⟩,b7⟩,b8⟩:=hb;obtain⟨hC,h⟩:=h;obtain⟨h1,h2⟩:=aAN (Q' :=True) _ _ _ h;obtain⟨h3,h4⟩:=aMU h1;refine⟨_,_,_,_,aG7 hset (hrun hC.1) hC (h2 trivial) h3 (fun h g e=>Option.isSome_iff_exists.1 (b1 _ (aOu e))) b2 b3 b4 (fun q hq hn=>?_) (fun k hk=>Option.isSome_iff_exists.1 (b6 k hk)) (fun q hq k hk=>Option.isSome_iff_exists.1 (b7 q hq k hk)) (fun k k' r r' e e' ex=>?_) (fun q hq g hg=>?_),h4⟩
 ·have:=b5 q hq;rw[hn] at this;exact eA this
 ·have:=b8 _ (bZ e) _ (bZ e');simp only[Bool.or_eq_true,Bool.not_eq_true'] at this;rcases this with q | q
  ·exact aB1 q
  rw[ex,Nat.beq_refl] at q;cases q
 have:=b5 q hq;rw[hg] at this;exact qP this
theorem aCS {P:Program}{sl:Sl}{rs:Rl}{d:Nat}{f:FuncId}{avs:List AV}{o:Oper}{t:T}{K:AV->List Nat->List (Nat × Rs)->T->Prop}(hrun:iW P f=true-> ∀K φ A w0 N a w,G K φ A w0 N (mk sl rs) a w-> ∃vs:Array Value,(execOp a.eval o).run P w= .ok (.enter f vs) w/\aG K φ w avs vs.toList)(h:tS P sl rs d f avs t K): ∃v del new t',wU P o (mk sl rs) ⟨v,del,new⟩ (aR6 t=true)/\K v del new t' :=by
 unfold tS at h;split at h
 ·split at h
  ·rename_i hb;obtain⟨v,del,new,t',h1,h2⟩:=aEX (st:=false) hrun (fun e=>by cases e) hb h;exact⟨v,del,new,t',h1,h2⟩
  cases h
 ·split at h
  ·rename_i hb;rw[aA1] at hb;obtain⟨v,del,new,t',h1,h2⟩:=aEX (st:=true) hrun (fun _=>hb.2) hb.1 h;exact⟨v,del,new,t',h1,h2⟩
  cases h
 cases h
theorem aEY {P:Program}{sl:Sl}{rs:Rl}{d:Nat}{f:FuncId}{avs:List AV}{o:Oper}{t:T}{K:AV->List Nat->List (Nat × Rs)->T->Prop}(hrun:iW P f=true-> ∀K φ A w0 N a w,G K φ A w0 N (mk sl rs) a w-> ∃vs:Array Value,(execOp a.eval o).run P w= .ok (.enter f vs) w/\aG K φ w avs vs.toList)(h:tS P sl rs d f avs t K): ∃v del new t',pZ P o (mk sl rs) ⟨v,del,new⟩/\K v del new t' :=by
 obtain⟨v,del,new,t',h1,h2⟩:=aCS hrun h;exact⟨v,del,new,t',h1.to0,h2⟩
theorem aCT {P:Program}{sl:Sl}{rs:Rl}{d:Nat}{f:FuncId}{avs:List AV}{o:Oper}{t:T}{K:AV->List Nat->List (Nat × Rs)->T->Prop}(hrun:iW P f=true-> ∀K φ A w0 N a w,G K φ A w0 N (mk sl rs) a w-> ∃vs:Array Value,(execOp a.eval o).run P w= .ok (.enter f vs) w/\aG K φ w avs vs.toList)(h:tS P sl rs d f avs t K)(hb:aR6 t=true): ∃v del new t',aZ P o (mk sl rs) ⟨v,del,new⟩/\K v del new t' :=by
 obtain⟨v,del,new,t',h1,h2⟩:=aCS hrun h;exact⟨v,del,new,t',h1.full hb,h2⟩
theorem bE {α:Type}{l:List α}{k:Nat}{x y:α}(h:l[k]? =some x)(h' :l[k]? =some y):y=x:=by rw[h] at h';injection h' with e;exact e.symm
theorem cH.split {w:World}{k:Nat}: ∀{xs:List (List bF)} {css:List (List Value)} {Fs:List (List Nat)} {i:Nat} {x:List bF},cH w k xs css Fs->xs[i]? =some x->
 ∃xs1 xs2 css1 c css2 Fs1 F Fs2,xs=xs1++x::xs2/\css=css1++c::css2/\Fs=Fs1++F::Fs2/\xs1.length=i/\cH w k xs1 css1 Fs1/\x.length=k/\cX w x c F/\cH w k xs2 css2 Fs2
 | [],_,_,_,_,_,h=>by simp at h
 | y::xs,css,Fs,0,x,ho,h=>by
   unfold cH at ho;obtain⟨c,css',F,Fs',rfl,rfl,h1,h2,h3⟩:=ho;simp at h;subst h;exact⟨[],xs,[],c,css',[],F,Fs',rfl,rfl,rfl,rfl,by unfold cH;exact⟨rfl,rfl⟩,h1,h2,h3⟩
 | y::xs,css,Fs,i+1,x,ho,h=>by
   unfold cH at ho;obtain⟨c,css',F,Fs',rfl,rfl,h1,h2,h3⟩:=ho;simp at h;obtain⟨xs1,xs2,css1,c',css2,Fs1,F',Fs2,rfl,rfl,rfl,e,q1,q2,q3,q4⟩:=cH.split h3 h;exact⟨y::xs1,xs2,c::css1,c',css2,F::Fs1,F',Fs2,rfl,rfl,rfl,by simp[e],by unfold cH;exact⟨c,css1,F,Fs1,rfl,rfl,h1,h2,q1⟩,q2,q3,q4⟩
theorem cX.split {w:World}: ∀{x1 x2:List bF} {c:List Value} {F:List Nat},cX w (x1++x2) c F-> ∃c1 c2 F1 F2,c=c1++c2/\F=F1++F2/\cX w x1 c1 F1/\cX w x2 c2 F2
 | [],x2,c,F,h=>⟨[],c,[],F,rfl,rfl,by unfold cX;exact⟨rfl,rfl⟩,h⟩
 | p::x1,x2,c,F,h=>by
   rw[List.cons_append] at h;unfold cX at h;obtain⟨v,cs',F1,F2,rfl,rfl,h1,h2⟩:=h;obtain⟨c1,c2,G1,G2,rfl,rfl,q1,q2⟩:=cX.split h2;exact⟨v::c1,c2,F1++G1,G2,rfl,by simp,by unfold cX;exact⟨v,c1,F1,G1,rfl,rfl,h1,q1⟩,q2⟩
theorem cX.join {w:World}: ∀{x1 x2:List bF} {c1 c2:List Value} {F1 F2:List Nat},cX w x1 c1 F1->cX w x2 c2 F2->cX w (x1++x2) (c1++c2) (F1++F2)
 | [],x2,c1,c2,F1,F2,h,h' =>by unfold cX at h;rw[h.1,h.2];exact h'
 | p::x1,x2,c1,c2,F1,F2,h,h' =>by
   unfold cX at h;obtain⟨v,cs',G1,G2,rfl,rfl,h1,h2⟩:=h;rw[List.cons_append];unfold cX;exact⟨v,cs' ++c2,G1,G2++F2,rfl,by simp,h1,cX.join h2 h'⟩
theorem aMV {α:Type}{l:List α}{j:Nat}{y:α}(h:l[j]? =some y):l=l.take j++y::l.drop (j+1):=by
 obtain⟨hj,rfl⟩:=aBa.1 h;rw[List.getElem_cons_drop,List.take_append_drop]
section
variable {A:Nat->Prop} {w0:rK} {N:Nat} {sl:Sl} {rs:Rl} {a:Act} {w:World} {P:Program}
theorem aEZ {h i j h' e k e' k' :Nat}{xs:List (List bF)}{row:List bF}{ys:List (List bF)}(hr:aR rs h=some (.arr e k true xs))(hx:xs[i]? =some row)(hj:row[j]? =some (.sl e' k' ys))(hfr:fO (mk sl rs) h')(hv:pJ sl rs h=true)
 (hg:qK A w0 N (mk sl rs) a w):qK A w0 N ((mk sl rs).apply none ⟨.no,[h],[(h,.hole e k xs i j h'),(h',.arr e' k' true ys)]⟩) a w:=by
 obtain⟨K,φ,hG⟩:=hg;obtain⟨pl,hp,css,Fs,q1,q2,q3,q4⟩:=hG.dom h _ hr;obtain⟨xs1,xs2,css1,c,css2,Fs1,F,Fs2,e1,e2,e3,e4,r1,r2,r3,r4⟩:=q4.split hx;have er:=aMV hj;rw[er] at r3;obtain⟨c1,c',F1,F',rfl,rfl,s1,s2⟩:=r3.split;unfold cX at s2;obtain⟨v,c2,Fd,F2,rfl,rfl,s3,s4⟩:=s2;have hvone:v.oneCell' =true:=aEy (pY.rd (A:=fun _=>True) _ _ _ (fun _ _=>trivial) s3);unfold pY at s3;obtain⟨css',Fs',t1,t2,t3⟩:=s3;have hjl:j<row.length:=(aBa.1 hj).1;have hne:h≠h' :=fun q=>by subst q;have:=hfr.2.2.1;rw[show (mk sl rs).res h=_ from hr] at this;cases this
 have hsub:pl.sub=Fs1.flatten++((F1++((v.ownBlock.toList++Fs'.flatten)++F2))++Fs2.flatten):=by rw[q3,e3,<-t2];simp
 have hnd:=hG.nodup h pl hp;unfold Pl.F at hnd;rw[hsub] at hnd
 let p1:Pl:=⟨pl.val,pl.top,Fs1.flatten++((F1++F2)++Fs2.flatten)⟩
 let p2:Pl:=⟨v,v.ownBlock.toList,Fs'.flatten⟩
 have hin1: ∀g∈p1.F,g∈pl.F:=fun g hg=>by
  simp only[p1,Pl.F,aD5] at hg;unfold Pl.F;rw[hsub];simp only[aD5];rcases hg with q | q | (q | q) | q
  ·exact .inl q
  ·exact .inr (.inl q)
  ·exact .inr (.inr (.inl (.inl q)))
  ·exact .inr (.inr (.inl (.inr (.inr q))))
  exact .inr (.inr (.inr q))
 have hin2: ∀g∈p2.F,g∈pl.F:=fun g hg=>by
  simp only[p2,Pl.F,aD5] at hg;unfold Pl.F;rw[hsub];simp only[aD5];rcases hg with q | q
  ·exact .inr (.inr (.inl (.inr (.inl (.inl q)))))
  exact .inr (.inr (.inl (.inr (.inl (.inr q)))))
 have hperm:(pl.top++(Fs1.flatten++((F1++((v.ownBlock.toList++Fs'.flatten)++F2))++Fs2.flatten))).Perm (p1.F++p2.F):=by
  simp only[p1,p2,Pl.F];generalize v.ownBlock.toList++Fs'.flatten=M;refine(List.perm_iff_count).2 fun x=>?_;simp only[List.count_append];omega
 have hnd2:=hperm.nodup_iff.1 hnd;have hnd3:=aH4.1 hnd2;obtain⟨hv1,hv2⟩:=qP hv
 have hst:=hG.stepV (C:=(· ∈[h])) (φr:=fun x=>if x=h then some p1 else if x=h' then some p2 else none) (ρ:=aS [(h,.hole e k xs i j h'),(h',.arr e' k' true ys)]) (K' :=K) (w' :=w)
  ⟨rfl,rfl,rfl,aHF _,fun _ _ _=>rfl⟩
  (fun x p hp' =>by
   split at hp'
   ·injection hp' with hp';subst hp'
    exact⟨hnd3.1,fun g hg=>⟨(hG.ge h pl hp g (hin1 g hg)).2,.inr ⟨h,pl,by simp,hp,hin1 g hg⟩⟩⟩
   split at hp'
   ·injection hp' with hp';subst hp'
    exact⟨hnd3.2.1,fun g hg=>⟨(hG.ge h pl hp g (hin2 g hg)).2,.inr ⟨h,pl,by simp,hp,hin2 g hg⟩⟩⟩
   cases hp')
  (fun x x' p p' hne' hp1 hp2 g hg hg' =>by
   split at hp1
   ·injection hp1 with hp1;subst hp1
    split at hp2
    ·rename_i a b;exact hne' (a.trans b.symm)
    split at hp2
    ·injection hp2 with hp2;subst hp2
     exact hnd3.2.2 g hg g hg' rfl
    cases hp2
   split at hp1
   ·injection hp1 with hp1;subst hp1
    split at hp2
    ·injection hp2 with hp2;subst hp2
     exact hnd3.2.2 g hg' g hg rfl
    split at hp2
    ·rename_i a _ b;exact hne' (a.trans b.symm)
    cases hp2
   cases hp1)
  (fun x r hr' =>by
   simp only[aS] at hr';split at hr'
   ·rename_i ex;injection hr' with hr';subst hr'
    refine⟨p1,by simp[ex],xs1,row.take j,.sl e' k' ys,row.drop (j+1),xs2,css1,c1,v,c2,css2,Fs1,F1,F2,Fs2,by rw[<-er];exact e1,e4,by simp;omega,by rw[<-er];exact r2,by rw[<-e2];exact q1,q2,rfl,r1,s1,s4,r4,hvone,fun pl' e'' =>?_⟩;simp only[cB] at e'';rw[if_neg (Ne.symm hne)] at e'';simp only[if_true,Option.some.injEq] at e'';subst e'';rfl
   rename_i ex;split at hr'
   ·rename_i ex';injection hr' with hr';subst hr'
    exact⟨p2,by rw[if_neg ex,if_pos ex'],css',Fs',t1,rfl,rfl,t3⟩
   cases hr')
  (fun x hr' =>by
   simp only[aS] at hr';split at hr'
   ·cases hr'
   rename_i ex;split at hr'
   ·cases hr'
   rename_i ex';rw[if_neg ex,if_neg ex'])
  (fun _ h=>h) (fun _ h=> .inl h)
  (fun t x p hm hp' =>by
   split at hp'
   ·rename_i ex;injection hp' with hp';subst hp';subst ex
    exact⟨pl,hp,rfl,rfl,fun q=>absurd q (hv1 t)⟩
   split at hp'
   ·rename_i ex;subst ex;exact absurd hm (hfr.1 t)
   cases hp')
  (fun h2 r x p _ hr' hm hp' =>by
   split at hp'
   ·rename_i ex;injection hp' with hp';subst hp';subst ex
    exact⟨pl,hp,rfl,rfl,fun q=>absurd q (hv2 h2 r hr')⟩
   split at hp'
   ·rename_i ex;subst ex;exact absurd hm (hfr.2.1 h2 r hr')
   cases hp')
  (fun x p hp' =>by
   split at hp'
   ·rename_i ex;injection hp' with hp';subst hp';subst ex
    exact .inl ⟨pl,hp,rfl,rfl⟩
   split at hp'
   ·rename_i ex;subst ex;exact .inr hfr.2.2.2
   cases hp')
 exact⟨K,_,hst⟩
theorem aMW {h i j h' e k e' k' :Nat}{xs:List (List bF)}{row:List bF}{ys:List (List bF)}(hr:aR rs h=some (.hole e k xs i j h'))(hr' :aR rs h' =some (.arr e' k' true ys))(hx:xs[i]? =some row)(hv:pJ sl rs h=true)
 (hg:qK A w0 N (mk sl rs) a w):qK A w0 N ((mk sl rs).apply none ⟨.no,[h,h'],[(h,.arr e k true (xs.set i (row.take j++ .sl e' k' ys::row.drop (j+1))))]⟩) a w:=by
 obtain⟨K,φ,hG⟩:=hg;obtain⟨pl,hp,xs1,x1,d,x2,xs2,css1,c1,v,c2,css2,Fs1,F1,F2,Fs2,e0,e1,e2,e3,h1,h2,h3,h4,h5,h6,h7,h8⟩:=hG.dom h _ hr;obtain⟨pl',hp',css',Fs',q1,q2,q3,q4⟩:=hG.dom h' _ hr';have hvv:=h8.2 pl' hp';have hne:h≠h' :=fun q=>by subst q;rw[hr] at hr';cases hr'
 have erow:row=x1++d::x2:=by
  rw[e0,aEc (by omega)] at hx;simp[e1] at hx;exact hx.symm
 have eset:xs.set i (row.take j++ .sl e' k' ys::row.drop (j+1))=xs1++(x1++ .sl e' k' ys::x2)::xs2:=by
  rw[e0,List.set_append_right _ _ (by omega),erow,<-e2];simp[e1]
 have hdis:=hG.disj h h' pl pl' hne hp hp'
 let p1:Pl:=⟨pl.val,pl.top,Fs1.flatten++((F1++(pl'.F++F2))++Fs2.flatten)⟩
 have hperm:p1.F.Perm (pl.F++pl'.F):=by
  simp only[p1,Pl.F,h3];refine(List.perm_iff_count).2 fun x=>?_;simp only[List.count_append];omega
 have hmem: ∀g,g∈p1.F->g∈pl.F\/g∈pl'.F:=fun g hg=>by
  have:=hperm.mem_iff.1 hg;simpa using this
 have hnd:p1.F.Nodup:=hperm.nodup_iff.2 (by
  rw[aH4];exact⟨hG.nodup h pl hp,hG.nodup h' pl' hp',fun x hx y hy exy=>by subst exy;exact hdis x hx hy⟩)
 obtain⟨hv1,hv2⟩:=qP hv
 have hst:=hG.stepV (C:=(· ∈[h,h'])) (φr:=fun x=>if x=h then some p1 else none) (ρ:=aS [(h,.arr e k true (xs.set i (row.take j++ .sl e' k' ys::row.drop (j+1))))]) (K' :=K) (w' :=w)
  ⟨rfl,rfl,rfl,aHF _,fun _ _ _=>rfl⟩
  (fun x p hp1=>by
   split at hp1
   ·injection hp1 with hp1;subst hp1
    refine⟨hnd,fun g hg=>?_⟩;rcases hmem g hg with q | q
    ·exact⟨(hG.ge h pl hp g q).2,.inr ⟨h,pl,by simp,hp,q⟩⟩
    exact⟨(hG.ge h' pl' hp' g q).2,.inr ⟨h',pl',by simp,hp',q⟩⟩
   cases hp1)
  (fun x x' p p' hne' hp1 hp2 g hg hg' =>by
   split at hp1
   ·split at hp2
    ·rename_i a b;exact hne' (a.trans b.symm)
    cases hp2
   cases hp1)
  (fun x r hr2=>by
   simp only[aS] at hr2;split at hr2
   ·rename_i ex;injection hr2 with hr2;subst hr2
    rw[eset];refine⟨p1,by simp[ex],css1++(c1++v::c2)::css2,Fs1++(F1++(pl'.F++F2))::Fs2,?_,h2,by simp[p1],h4.append ?_⟩
    ·have:(xs1++(x1++bF.sl e' k' ys::x2)::xs2).length=xs.length:=by rw[e0];simp
     rw[this];exact h1
    unfold cH;refine⟨_,_,_,_,rfl,rfl,by rw[<-e3];simp,h5.join ?_,h7⟩;unfold cX;refine⟨v,c2,pl'.F,F2,rfl,rfl,?_,h6⟩;unfold pY;exact⟨css',Fs',by rw[hvv];exact q1,by rw[hvv];unfold Pl.F;rw[q2,q3],q4⟩
   cases hr2)
  (fun x hr2=>by
   simp only[aS] at hr2;split at hr2
   ·cases hr2
   rename_i ex;rw[if_neg ex])
  (fun _ h=>h) (fun _ h=> .inl h)
  (fun t x p hm hp1=>by
   split at hp1
   ·rename_i ex;injection hp1 with hp1;subst hp1;subst ex
    exact⟨pl,hp,rfl,rfl,fun q=>absurd q (hv1 t)⟩
   cases hp1)
  (fun h2 r x p _ hr2 hm hp1=>by
   split at hp1
   ·rename_i ex;injection hp1 with hp1;subst hp1;subst ex
    exact⟨pl,hp,rfl,rfl,fun q=>absurd q (hv2 h2 r hr2)⟩
   cases hp1)
  (fun x p hp1=>by
   split at hp1
   ·rename_i ex;injection hp1 with hp1;subst hp1;subst ex
    exact .inl ⟨pl,hp,rfl,rfl⟩
   cases hp1)
 exact⟨K,_,hst⟩
theorem aK3 {h i h' e k:Nat}{xs pre post:List (List bF)}{d0:bF}(hr:aR rs h=some (.hole e k xs i 0 h'))(hxs:xs=pre++[d0]::post)(hi:pre.length=i)(hv:pJ sl rs h=true)
 (hg:qK A w0 N (mk sl rs) a w):qK A w0 N ((mk sl rs).apply none ⟨.no,[h],[(h,.arr e k true (pre++[.gone]::post))]⟩) a w:=by
 obtain⟨K,φ,hG⟩:=hg;obtain⟨pl,hp,xs1,x1,d,x2,xs2,css1,c1,v,c2,css2,Fs1,F1,F2,Fs2,e0,e1,e2,e3,h1,h2,h3,h4,h5,h6,h7,h8⟩:=hG.dom h _ hr;have ex1:x1= []:=aD7 e2;subst ex1
 have epre:xs1=pre/\(([]:List bF)++d::x2)= [d0]/\xs2=post:=by
  rw[e0] at hxs;have hl:xs1.length=pre.length:=by omega
  have:=List.append_inj hxs hl;simp only[List.cons.injEq] at this;exact⟨this.1,this.2.1,this.2.2⟩
 obtain⟨rfl,er,rfl⟩:=epre;have ex2:x2= []:=by simpa using (List.cons.inj er).2
 subst ex2;unfold cX at h5 h6;obtain⟨rfl,rfl⟩:=h5;obtain⟨rfl,rfl⟩:=h6;have hcell:v.oneCell' =true:=h8.1;obtain⟨hv1,hv2⟩:=qP hv
 have hst:=hG.stepV (C:=(· ∈[h])) (φr:=fun x=>if x=h then some pl else none) (ρ:=aS [(h,.arr e k true (xs1++[.gone]::xs2))]) (K' :=K) (w' :=w)
  ⟨rfl,rfl,rfl,aHF _,fun _ _ _=>rfl⟩
  (fun x p hp1=>by
   split at hp1
   ·injection hp1 with hp1;subst hp1
    exact⟨hG.nodup h pl hp,fun g hg=>⟨(hG.ge h pl hp g hg).2,.inr ⟨h,pl,by simp,hp,hg⟩⟩⟩
   cases hp1)
  (fun x x' p p' hne' hp1 hp2 g hg hg' =>by
   split at hp1
   ·split at hp2
    ·rename_i a b;exact hne' (a.trans b.symm)
    cases hp2
   cases hp1)
  (fun x r hr2=>by
   simp only[aS] at hr2;split at hr2
   ·rename_i ex;injection hr2 with hr2;subst hr2
    refine⟨pl,by simp[ex],css1++([]++v::[])::css2,Fs1++([]:List Nat)::Fs2,?_,h2,by rw[h3];simp,h4.append ?_⟩
    ·have:(xs1++[bF.gone]::xs2).length=xs.length:=by rw[e0];simp
     rw[this];exact h1
    unfold cH;refine⟨_,_,_,_,rfl,rfl,by rw[<-e3];simp,?_,h7⟩;unfold cX;refine⟨v,[],[],[],rfl,rfl,?_,?_⟩
    ·unfold pY;exact⟨hcell,rfl⟩
    unfold cX;exact⟨rfl,rfl⟩
   cases hr2)
  (fun x hr2=>by
   simp only[aS] at hr2;split at hr2
   ·cases hr2
   rename_i ex;rw[if_neg ex])
  (fun _ h=>h) (fun _ h=> .inl h)
  (fun t x p hm hp1=>by
   split at hp1
   ·rename_i ex;injection hp1 with hp1;subst hp1;subst ex
    exact⟨pl,hp,rfl,rfl,fun q=>absurd q (hv1 t)⟩
   cases hp1)
  (fun h2 r x p _ hr2 hm hp1=>by
   split at hp1
   ·rename_i ex;injection hp1 with hp1;subst hp1;subst ex
    exact⟨pl,hp,rfl,rfl,fun q=>absurd q (hv2 h2 r hr2)⟩
   cases hp1)
  (fun x p hp1=>by
   split at hp1
   ·rename_i ex;injection hp1 with hp1;subst hp1;subst ex
    exact .inl ⟨pl,hp,rfl,rfl⟩
   cases hp1)
 exact⟨K,_,hst⟩
theorem cH.rdRows {K:Nat->Prop}{w:World}{k:Nat}: ∀{xs:List (List bF)} {css:List (List Value)} {Fs:List (List Nat)},(∀g∈Fs.flatten,K g)->cH w k xs css Fs->dO K w k xs css
 | [],_,_,_,h=>by unfold cH at h;exact h.1
 | x::xs,_,_,hF,h=>by
   unfold cH at h;obtain⟨c,css',F,Fs',rfl,rfl,h1,h2,h3⟩:=h;exact⟨c,css',rfl,h1,cX.rd x c F (fun g hg=>hF g (by simp[hg])) h2,cH.rdRows (fun g hg=>hF g (by simp only[aFT,aD5];exact .inr hg)) h3⟩
theorem aMX {h e k:Nat}{xs:List (List bF)}(hr:aR rs h=some (.arr e k true xs))(hv:pJ sl rs h=true)
 (hg:qK A w0 N (mk sl rs) a w):qK A w0 N ((mk sl rs).apply none ⟨.no,[h],[(h,.arr e k false xs)]⟩) a w:=by
 obtain⟨K,φ,hG⟩:=hg;obtain⟨pl,hp,css,Fs,q1,q2,q3,q4⟩:=hG.dom h _ hr;obtain⟨hv1,hv2⟩:=qP hv
 let p1:Pl:=⟨pl.val,pl.top,[]⟩
 have hnd:=aH4.1 (hG.nodup h pl hp);have hF1: ∀g∈p1.F,g∈pl.top:=fun g hg=>by simpa [p1,Pl.F] using hg
 have hst:=hG.stepV (C:=(· ∈[h])) (φr:=fun x=>if x=h then some p1 else none) (ρ:=aS [(h,.arr e k false xs)]) (K' :=fun b=>K b\/b∈pl.sub) (w' :=w)
  ⟨rfl,rfl,rfl,aHF _,fun _ _ _=>rfl⟩
  (fun x p hp1=>by
   split at hp1
   ·injection hp1 with hp1;subst hp1
    refine⟨by simpa [p1,Pl.F] using hnd.1,fun g hg=>?_⟩;have hm:g∈pl.F:=aD9 _ (hF1 g hg);exact⟨(hG.ge h pl hp g hm).2,.inr ⟨h,pl,by simp,hp,hm⟩⟩
   cases hp1)
  (fun x x' p p' hne' hp1 hp2 g hg hg' =>by
   split at hp1
   ·split at hp2
    ·rename_i a b;exact hne' (a.trans b.symm)
    cases hp2
   cases hp1)
  (fun x r hr2=>by
   simp only[aS] at hr2;split at hr2
   ·rename_i ex;injection hr2 with hr2;subst hr2
    exact⟨p1,by simp[ex],css,q1,q2,rfl,q4.rdRows fun g hg=> .inr (by rw[q3];exact hg)⟩
   cases hr2)
  (fun x hr2=>by
   simp only[aS] at hr2;split at hr2
   ·cases hr2
   rename_i ex;rw[if_neg ex])
  (fun _ hb=> .inl hb)
  (fun b hb=>by
   rcases hb with hb | hb
   ·exact .inl hb
   have hm:b∈pl.F:=aD4 _ hb;refine .inr ⟨(hG.ge h pl hp b hm).2,.inr ⟨h,pl,by simp,hp,hm⟩,fun x p hp1 hb1=>?_⟩;split at hp1
   ·injection hp1 with hp1;subst hp1
    exact hnd.2.2 b (hF1 b hb1) b hb rfl
   cases hp1)
  (fun t x p hm hp1=>by
   split at hp1
   ·rename_i ex;injection hp1 with hp1;subst hp1;subst ex
    exact⟨pl,hp,rfl,rfl,fun q=>absurd q (hv1 t)⟩
   cases hp1)
  (fun h2 r x p _ hr2 hm hp1=>by
   split at hp1
   ·rename_i ex;injection hp1 with hp1;subst hp1;subst ex
    exact⟨pl,hp,rfl,rfl,fun q=>absurd q (hv2 h2 r hr2)⟩
   cases hp1)
  (fun x p hp1=>by
   split at hp1
   ·rename_i ex;injection hp1 with hp1;subst hp1;subst ex
    exact .inl ⟨pl,hp,rfl,rfl⟩
   cases hp1)
 exact⟨_,_,hst⟩
theorem aOv {h:Nat}{r r' :Rs}(hr:aR rs h=some r)(hH: ∀K φ pl,dM K φ w pl r->dM K φ w pl r')(hg:qK A w0 N (mk sl rs) a w):qK A w0 N ((mk sl rs).apply none ⟨.no,[h],[(h,r')]⟩) a w:=by
 obtain⟨K,φ,hG⟩:=hg;refine⟨K,φ,fun h1 r1 h2=>?_,fun h1 h2=>?_,hG.disj,hG.nodup,hG.ge,hG.kin,hG.kout,hG.aK,hG.slots,hG.bel,hG.nd,hG.size,hG.pin⟩
 ·simp only[St.apply,St.put,eC,aS,aHr] at h2;by_cases e:h1=h
  ·subst e;simp only[if_true,Option.some.injEq] at h2;subst h2;obtain⟨pl,hp,hh⟩:=hG.dom h1 r hr;exact⟨pl,hp,hH K φ pl hh⟩
  simp only[if_neg e] at h2;exact hG.dom h1 r1 h2
 simp only[St.apply,St.put,eC,aS,aHr] at h2;by_cases e:h1=h
 ·subst e;simp at h2
 simp only[if_neg e] at h2;exact hG.non h1 h2
theorem aAk {K:Nat->Prop}{φ:fR}{w:World}{e k:Nat}: ∀{cs:List AV} {vs:List Value} {off:Nat},cs[off]? =some .nil->aG K φ w cs vs->aG K φ w (cs.set off (.p none (.sl e k []))) vs
 | [],_,_,h,_=>by simp at h
 | c::cs,vs,0,h,hm=>by
   simp at h;subst h;rw[List.set_cons_zero];unfold aG at*;obtain⟨v,vs',rfl,h1,h2⟩:=hm;refine⟨v,vs',rfl,?_,h2⟩;unfold aB at*;rw[h1];exact pE
 | c::cs,vs,off+1,h,hm=>by
   rw[List.set_cons_succ];unfold aG at*;obtain⟨v,vs',rfl,h1,h2⟩:=hm;exact⟨v,vs',rfl,h1,aAk (by simpa using h) h2⟩
theorem aMY {h off e k ty:Nat}{cs:List AV}(hr:aR rs h=some (.box ty cs))(hc:cs[off]? =some .nil)(hg:qK A w0 N (mk sl rs) a w):qK A w0 N ((mk sl rs).apply none ⟨.no,[h],[(h,.box ty (cs.set off (.p none (.sl e k []))))]⟩) a w:=
 aOv hr (fun K φ pl ⟨g,vs,q1,q2,q3,q4⟩=>⟨g,vs,q1,q2,q3,aAk hc q4⟩) hg
end
theorem aMZ {A:Nat->Prop}{w0:rK}{N:Nat}{sl:Sl}{rs:Rl}{a:Act}{w:World}{h ty:Nat}{cs ys:List AV}{hs:List Nat}(hr:aR rs h=some (.box ty cs))(hq:aHt rs cs=some (ys,hs))(hnd:(h::hs).Nodup)(hg:qK A w0 N (mk sl rs) a w):qK A w0 N ((mk sl rs).apply none ⟨.no,h::hs,[(h,.box ty ys)]⟩) a w:=by
 obtain⟨K,φ,hG⟩:=hg;obtain⟨pl,hp,g,vs,q1,q2,q3,q4⟩:=hG.dom h _ hr;have hne: ∀h0∈hs,h0≠h:=fun h0 hm e=>(List.nodup_cons.1 hnd).1 (e▸hm)
 have hst:=hG.step (C:=(· ∈h::hs)) (φr:=fun x=>if x=h then some pl else none) (ρ:=aS [(h,.box ty ys)]) (K' :=fun b=>K b\/eQ φ (· ∈hs) b) (w' :=w)
  ⟨rfl,rfl,rfl,aHF _,fun _ _ _=>rfl⟩
  (fun x pl' e=>by
   split at e
   ·rename_i ex;injection e with e
    subst e;subst ex;exact⟨hG.nodup _ _ hp,fun b hb=>⟨(hG.ge _ _ hp b hb).2,.inr ⟨_,_,aHa,hp,hb⟩⟩⟩
   cases e)
  (fun x x' pl1 pl2 hx e e' =>by
   split at e
   ·split at e'
    ·subst_vars;exact absurd rfl hx
    cases e'
   cases e)
  (fun x r e=>by
   simp only[aS] at e;split at e
   ·rename_i ex;injection e with e
    subst e;subst ex;exact⟨pl,by simp,g,vs,q1,q2,q3,aFJ hG (fun _ hb=> .inl hb) hq (fun _ hb=> .inr hb) q4⟩
   cases e)
  (fun x e=>by
   simp only[aS] at e;split at e
   ·cases e
   rename_i ex;rw[if_neg ex])
  (fun _ hb=> .inl hb)
  (fun b hb=>by
   rcases hb with hb | hb
   ·exact .inl hb
   obtain⟨h0,pl0,hm,hp0,hb'⟩:=hb;refine .inr ⟨(hG.ge h0 pl0 hp0 b hb').2,.inr ⟨h0,pl0,aHb _ hm,hp0,hb'⟩,fun x pl' e=>?_⟩;split at e
   ·rename_i ex;injection e with e
    subst e;subst ex;exact hG.disj h0 x pl0 pl (hne h0 hm) hp0 hp b hb'
   cases e)
  (fun _ x pl' _ e=>by
   split at e
   ·rename_i ex;injection e with e
    subst e;subst ex;exact⟨hp,fun _ _=>rfl⟩
   cases e)
  (fun _ _ x pl' _ _ _ e=>by
   split at e
   ·rename_i ex;injection e with e
    subst e;subst ex;exact⟨hp,fun _ _=>rfl⟩
   cases e)
  (fun x pl' e=>by
   split at e
   ·rename_i ex;injection e with e
    subst e;subst ex;exact .inl hp
   cases e)
 exact⟨_,_,hst⟩
def gh1 (id:Nat)(sl:Sl)(rs:Rl)(t:T)(K:Rl->T->Prop):Prop:=match t with
 | .split rid h i j h' α enc l t=>(match Nat.beq rid id with
  | false=>K [] (.split rid h i j h' α enc l t)
  | true=>(match aR rs h with
   | some (.arr e k true xs)=>(match fD sl rs h' &&pJ sl rs h with
     | true=>xs=l.map enc/\i<l.length/\ ∀x,l[i]? =some x->(match (enc x)[j]? with
       | some (.sl e' k' ys)=>K (lO [(h,.hole e k (l.map enc) i j h'),(h',.arr e' k' true ys)]++iD [h]) (t x)
       | _=>False)
     | false=>False)
   | _=>False))
 | .join rid h h' α enc l y t=>(match Nat.beq rid id with
  | false=>K [] (.join rid h h' α enc l y t)
  | true=>(match aR rs h with
   | some (.hole e k xs i j h2)=>(match aR rs h' with
     | some (.arr e' k' true ys)=>(match Nat.beq h2 h' &&pJ sl rs h with
       | true=>xs=l.map enc/\i<l.length/\ ∀x,l[i]? =some x->(enc x).take j++ .sl e' k' ys::(enc x).drop (j+1)=enc (y x)/\K (lO [(h,.arr e k true ((l.set i (y x)).map enc))]++iD [h,h']) (t x)
       | false=>False)
     | _=>False)
   | _=>False))
 | .takeg rid h n h' α enc l t=>(match Nat.beq rid id with
  | false=>K [] (.takeg rid h n h' α enc l t)
  | true=>(match aR rs h with
   | some (.arr e k true xs)=>(match fD sl rs h' &&pJ sl rs h with
     | true=>xs=List.replicate n [.gone]++l.map enc/\l≠[]/\ ∀x l',l=x::l' ->(match enc x with
       | .sl e' k' ys::[]=>K (lO [(h,.hole e k (List.replicate n [.gone]++(x::l').map enc) n 0 h'),(h',.arr e' k' true ys)]++iD [h]) (t x l')
       | _=>False)
     | false=>False)
   | _=>False))
 | .leave rid h n h' α enc x l t=>(match Nat.beq rid id with
  | false=>K [] (.leave rid h n h' α enc x l t)
  | true=>(match aR rs h with
   | some (.hole e k xs i j h2)=>(match Nat.beq j 0&&pJ sl rs h with
     | true=>(match enc x with
       | _::[]=>xs=List.replicate n [.gone]++(x::l).map enc/\i=n/\K (lO [(h,.arr e k true (List.replicate (n+1) [.gone]++l.map enc))]++iD [h]) t
       | _=>False)
     | false=>False)
   | _=>False))
 | .shal rid h t=>(match Nat.beq rid id with
  | false=>K [] (.shal rid h t)
  | true=>(match aR rs h with
   | some (.arr e k true xs)=>(match pJ sl rs h with
     | true=>K (lO [(h,.arr e k false xs)]++iD [h]) t
     | false=>False)
   | _=>False))
 | .nilt rid h off e k t=>(match Nat.beq rid id with
  | false=>K [] (.nilt rid h off e k t)
  | true=>(match aR rs h with
   | some (.box ty cs)=>(match cs[off]? with
     | some .nil=>K (lO [(h,.box ty (cs.set off (.p none (.sl e k []))))]++iD [h]) t
     | _=>False)
   | _=>False))
 | .stlb rid h t=>(match Nat.beq rid id with
  | false=>K [] (.stlb rid h t)
  | true=>(match aR rs h with
   | some (.box ty cs)=>(match aHt rs cs with
     | some q=>(match jP (h::q.2) with
       | true=>K (lO [(h,.box ty q.1)]++iD (h::q.2)) t
       | false=>False)
     | none=>False)
   | _=>False))
 | t=>K [] t
theorem aCU {α β:Type}(f:α->β)(l:List α)(i:Nat)(x:α):(l.set i x).map f=(l.map f).set i (f x):=by rw[List.map_set]
theorem aM0 {id:Nat}{sl:Sl}{rs:Rl}{t:T}{K:Rl->T->Prop}(h:gh1 id sl rs t K): ∃new t',(∀A w0 N a w,qK A w0 N (mk sl rs) a w->qK A w0 N (mk sl (new++rs)) a w)/\K new t' :=by
 unfold gh1 at h;split at h
 ·rename_i rid h0 i j h' α enc l t';split at h
  ·exact⟨[],_,fun _ _ _ _ _ h=>h,h⟩
  split at h
  ·rename_i e k xs hr;split at h
   ·rename_i hb;rw[aA1] at hb;obtain⟨rfl,hi,h⟩:=h;have hx:=aBM hi;have h:=h _ hx;split at h
    ·rename_i e' k' ys hj;refine⟨_,_,fun A w0 N a w hg=>?_,h⟩;have:=aEZ hr (aAH hx) hj (eA hb.1) hb.2 hg;rw[gY] at this;rw[aE2];exact this
    cases h
   cases h
  cases h
 ·rename_i rid h0 h' α enc l y t';split at h
  ·exact⟨[],_,fun _ _ _ _ _ h=>h,h⟩
  split at h
  ·rename_i e k xs i j h2 hr;split at h
   ·rename_i e' k' ys hr';split at h
    ·rename_i hb;rw[aA1] at hb;have:=aB1 hb.1;subst this;obtain⟨rfl,hi,h⟩:=h;have hx:=aBM hi;obtain⟨h3,h4⟩:=h _ hx;refine⟨_,_,fun A w0 N a w hg=>?_,h4⟩;have:=aMW hr hr' (aAH hx) hb.2 hg;rw[gY,h3,<-aCU] at this;rw[aE2];exact this
    cases h
   cases h
  cases h
 ·rename_i rid h0 n h' α enc l t';split at h
  ·exact⟨[],_,fun _ _ _ _ _ h=>h,h⟩
  split at h
  ·rename_i e k xs hr;split at h
   ·rename_i hb;rw[aA1] at hb;obtain⟨rfl,hne,h⟩:=h;cases l with
    | nil=>exact absurd rfl hne
    | cons x l' =>
      have h:=h x l' rfl;split at h
      ·rename_i e' k' ys hj;refine⟨_,_,fun A w0 N a w hg=>?_,h⟩
       have hx:(List.replicate n [bF.gone]++(x::l').map enc)[n]? =some (enc x):=by
        rw[aEc (by simp)];simp
       have:=aEZ (j:=0) hr hx (by rw[hj];rfl) (eA hb.1) hb.2 hg;rw[gY] at this;rw[aE2];exact this
      cases h
   cases h
  cases h
 ·rename_i rid h0 n h' α enc x l t';split at h
  ·exact⟨[],_,fun _ _ _ _ _ h=>h,h⟩
  split at h
  ·rename_i e k xs i j h2 hr;split at h
   ·rename_i hb;simp only[aA1] at hb;have:=aB1 hb.1;subst this;split at h
    ·rename_i d0 hd;obtain⟨rfl,rfl,h4⟩:=h;refine⟨_,_,fun A w0 N a w hg=>?_,h4⟩;have:=aK3 (pre:=List.replicate i [bF.gone]) (post:=l.map enc) (d0:=d0) hr (by rw[aDa,hd]) (by simp) hb.2 hg;rw[gY] at this;rw[aE2]
     have e2:List.replicate (i+1) [bF.gone]++l.map enc=List.replicate i [bF.gone]++[bF.gone]::l.map enc:=by
      rw[List.replicate_succ',aE2];rfl
     rw[e2];exact this
    cases h
   cases h
  cases h
 ·rename_i rid h0 t';split at h
  ·exact⟨[],_,fun _ _ _ _ _ h=>h,h⟩
  split at h
  ·rename_i e k xs hr;split at h
   ·rename_i hb;refine⟨_,_,fun A w0 N a w hg=>?_,h⟩;have:=aMX hr hb hg;rw[gY] at this;rw[aE2];exact this
   cases h
  cases h
 ·rename_i rid h0 off e k t';split at h
  ·exact⟨[],_,fun _ _ _ _ _ h=>h,h⟩
  split at h
  ·rename_i ty cs hr;split at h
   ·rename_i hc;refine⟨_,_,fun A w0 N a w hg=>?_,h⟩;have:=aMY (e:=e) (k:=k) hr hc hg;rw[gY] at this;rw[aE2];exact this
   cases h
  cases h
 ·rename_i rid h0 t';split at h
  ·exact⟨[],_,fun _ _ _ _ _ h=>h,h⟩
  split at h
  ·rename_i ty cs hr;split at h
   ·rename_i q hq;split at h
    ·rename_i hn;refine⟨_,_,fun A w0 N a w hg=>?_,h⟩;have:=aMZ hr (ys:=q.1) (hs:=q.2) (by rw[hq]) (mD hn) hg;rw[gY] at this;rw[aE2];exact this
    cases h
   cases h
  cases h
 exact⟨[],t,fun _ _ _ _ _ h=>h,h⟩
theorem G.reput {K:Nat->Prop}{φ:fR}{A:Nat->Prop}{w0:rK}{N:Nat}{S:St}{a:Act}{w:World}(hG:G K φ A w0 N S a w){d:Nat}{x:AV}(hx:aB K φ w x (a.tmps.getD d undef)):G K φ A w0 N (S.put (some d) x) a w:=by
 refine⟨hG.dom,hG.non,hG.disj,hG.nodup,hG.ge,hG.kin,hG.kout,hG.aK,fun t=>?_,hG.bel,hG.nd,hG.size,hG.pin⟩;simp only[St.put,upd];by_cases e:t=d
 ·subst e;rw[if_pos rfl];exact hx
 rw[if_neg e];exact hG.slots t
theorem aM1 {A:Nat->Prop}{w0:rK}{N:Nat}{sl:Sl}{rs:Rl}{a:Act}{w:World}{d:Nat}{y:AV}{hs:List Nat}(h:aKV rs (bM sl d)=some (y,hs))(hg:qK A w0 N (mk sl rs) a w):qK A w0 N (mk ((d,y)::sl) (iD hs++rs)) a w:=by
 obtain⟨K,φ,hG⟩:=hg
 have hst:=hG.step (C:=(· ∈hs)) (φr:=fun _=>none) (ρ:=aS []) (K' :=fun b=>K b\/eQ φ (· ∈hs) b) (w' :=w)
  ⟨rfl,rfl,rfl,aHF _,fun _ _ _=>rfl⟩
  (fun _ _ hp=>by cases hp) (fun _ _ _ _ _ hp=>by cases hp) (fun _ _ hp=>by simp[aS] at hp) (fun _ _=>rfl) (fun _ hb=> .inl hb)
  (fun b hb=>by
   rcases hb with hb | hb
   ·exact .inl hb
   refine .inr ⟨?_,.inr hb,fun _ _ hp=>by cases hp⟩;obtain⟨h0,pl,_,hp,hb'⟩:=hb;exact(hG.ge h0 pl hp b hb').2)
  (fun _ _ _ _ hp=>by cases hp) (fun _ _ _ _ _ _ _ hp=>by cases hp) (fun _ _ hp=>by cases hp)
 have hmv:aB (fun b=>K b\/eQ φ (· ∈hs) b) (cB (· ∈hs) (fun _=>none) φ) w y (a.tmps.getD d undef):=aJL hG h (fun _ hb=> .inl hb) (fun _ hb=> .inr hb) (hG.slots d);have h2:=hst.reput hmv;have e:=aGJ sl rs d y hs [];have h3:G (fun b=>K b\/eQ φ (· ∈hs) b) (cB (· ∈hs) (fun _=>none) φ) A w0 N ((mk sl rs).apply (some d) ⟨y,hs,[]⟩) a w:=h2;rw[e] at h3;exact⟨_,_,h3⟩
def gsW (id:Nat)(sl:Sl)(rs:Rl)(t:T)(K:Sl->Rl->T->Prop):Prop:=match t with
 | .stls rid d t=>(match Nat.beq rid id with
   | false=>K [] [] (.stls rid d t)
   | true=>(match aKV rs (bM sl d) with | some q=>K [(d,q.1)] (iD q.2) t | none=>False))
 | t=>K [] [] t
theorem aQq {id:Nat}{sl:Sl}{rs:Rl}{t:T}{K:Sl->Rl->T->Prop}(h:gsW id sl rs t K): ∃n1 n2 t',(∀A w0 N a w,qK A w0 N (mk sl rs) a w->qK A w0 N (mk (n1++sl) (n2++rs)) a w)/\K n1 n2 t' :=by
 unfold gsW at h;split at h
 ·split at h
  ·exact⟨[],[],_,fun _ _ _ _ _ h=>h,h⟩
  split at h
  ·rename_i q hq;exact⟨_,_,_,fun A w0 N a w hg=>aM1 hq hg,h⟩
  cases h
 exact⟨[],[],_,fun _ _ _ _ _ h=>h,h⟩
def ghW (id:Nat)(sl:Sl)(rs:Rl)(t:T)(K:Rl->T->Prop):Prop:=gh1 id sl rs t fun n1 t=>gh1 id sl (n1++rs) t fun n2 t=>K (n2++n1) t
theorem aQr {id:Nat}{sl:Sl}{rs:Rl}{t:T}{K:Rl->T->Prop}(h:ghW id sl rs t K): ∃new t',(∀A w0 N a w,qK A w0 N (mk sl rs) a w->qK A w0 N (mk sl (new++rs)) a w)/\K new t' :=by
 unfold ghW at h;obtain⟨n1,t1,h1,h⟩:=aM0 h;obtain⟨n2,t2,h2,h⟩:=aM0 h;exact⟨n2++n1,t2,fun A w0 N a w hg=>by rw[aE2];exact h2 A w0 N a w (h1 A w0 N a w hg),h⟩
section
variable {sl:Sl} {rs:Rl} {P:Program}
theorem aJN {α:Type}{l1 l2:List α}{x y:α}{i:Nat}(h:l1.length=i):(l1++x::l2).set i y=l1++y::l2:=by
 rw[List.set_append_right _ _ (by omega)];simp[h]
theorem aHz {o:Oper}{x y:Operand}{t:TypeId}{ag:Bool}{n bt off:Nat}{z:Value}{h e k i:Nat}{xs:List (List bF)}{row ys:List bF}{hs:List Nat}(ho:o.op= .store t x y)(ht:eX P t=some (ag,n,bt,z))(hx:cL sl x= .ep h k i off)
 (hh:aR rs h=some (.arr e k true xs)) (hr:xs[i]? =some row) (hc1:kY (mk sl rs) (cL sl y)) (hm:pD (mk sl rs) (dJ (cL sl y)) ys hs) (hn:ys.length=n) (hl:off+n<=row.length) (hnd:(h::hs).Nodup) (hv:pJ sl rs h=true):
 pZ P o (mk sl rs) ⟨.no,h::hs,[(h,.arr e k true (xs.set i (row.take off++ys++row.drop (off+n))))]⟩:=by
 intro K φ A w0 N a w Q hd hG;have hev:=hG.ev y;rw[bO] at hev;obtain⟨hml,hone⟩:=kL hG hc1 hev;have hn2:=List.nodup_cons.1 hnd;obtain⟨F,r1,r2,r3⟩:=mW hG hm hn2.2 hml;obtain⟨pl,hp,css,Fs,q1,q2,q3,q4⟩:=hG.dom h _ hh;obtain⟨xs1,xs2,css1,c,css2,Fs1,F0,Fs2,e1,e2,e3,e4,s1,s2,s3,s4⟩:=q4.split hr
 have er:row=row.take off++((row.drop off).take n++row.drop (off+n)):=by
  rw[show row.drop (off+n)=(row.drop off).drop n by rw[List.drop_drop],List.take_append_drop,List.take_append_drop]
 rw[er] at s3;obtain⟨ca,c',Fa,F',rfl,rfl,t1,t2⟩:=s3.split;obtain⟨cb,cc,Fb,Fc,rfl,rfl,t3,t4⟩:=t2.split;have la:=t1.len;have lb:=t3.len;have lc:=t4.len;have lu:=r1.len;simp only[aIx,aJm] at la lb lc;have a1:ca.length=off:=by omega
 have a2:cb.length=n:=by omega
 have a3:(a.eval y).cells.toList.length=n:=by omega
 have a5:css1.length=i:=by have:=s1.len.1;omega
 have a6:(row.take off++(ys++row.drop (off+n))).length=k:=by simp;omega
 have a7:off+n<=(ca++(cb++cc)).length:=by simp;omega
 obtain⟨b,cap,hvl,_,_,hb⟩:=fY q1;have hi:i<xs.length:=(aBa.1 hr).1;obtain⟨g,rfl,_,_⟩:=hb (by omega);have h2:=hG.ev x;rw[bO,hx] at h2;unfold aB at h2;obtain⟨g',hg',he⟩:=h2 pl hp;have htop:pl.top= [g]:=by rw[q2,hvl];rfl
 rw[htop] at hg';simp only[List.cons.injEq,and_true] at hg';subst hg';generalize hus:(a.eval y).cells.toList=us at*
 have hlt:i*k+off+us.length<=xs.length*k:=by
  have:(i+1)*k<=xs.length*k:=Nat.mul_le_mul_right k (by omega);rw[Nat.add_mul] at this;omega
 have q1' :=q1;rw[hvl] at q1';have hrun:=iF (P:=P) (o0:=i*k+off) us 0 w _ q1' (by omega) hone;have hsz:=(fN ht w).2.1;unfold Oper.wp
 have hex:(execOp a.eval o).run P w= .ok .skip (dC w g (i*k+off+0) us):=by
  have hsize:(a.eval y).cells.size=n:=by rw[<-aLb,hus];omega
  simp only[execOp,ho,he,Instr.storeAt,Instr.sureAddr,storeVar,Sem.run_bind,Sem.run_pure,Result.andThen_ok,hsz,hsize,ne_eq,not_true_eq_false,if_false,hus,hrun]
 rw[hex,Oper.upon_skip,Nat.add_zero];have hchg:sO (· ∈[g]) w (dC w g (i*k+off) us):=rL us;have hgF:g∈pl.F:=by unfold Pl.F;rw[htop];simp
 have hglt:=(hG.ge h pl hp g hgF).2;have hsub:pl.sub=Fs1.flatten++((Fa++(Fb++Fc))++Fs2.flatten):=by rw[q3,e3];simp
 have hnd0:=hG.nodup h pl hp;unfold Pl.F at hnd0;rw[htop,hsub] at hnd0;have hgn:=(List.nodup_cons.1 hnd0).1;have hnd1:=(List.nodup_cons.1 hnd0).2;have hsubF: ∀q,q∈pl.sub->q∈pl.F:=fun q hq=>aD4 _ hq;have hkeep: ∀(L:List Nat),(∀q∈L,q<w.heap.size/\q≠g)->gX L w (dC w g (i*k+off) us):=fun L hL q hq=>hchg.block q (hL q hq).1 (by simpa using (hL q hq).2);have hin: ∀q,q∈Fs1.flatten++((Fa++(Fb++Fc))++Fs2.flatten)->q<w.heap.size/\q≠g:=fun q hq=>⟨(hG.ge h pl hp q (hsubF q (by rw[hsub];exact hq))).2,fun eq=>by subst eq;exact hgn hq⟩
 have hF: ∀q∈F,¬q∈pl.F:=fun q hq hq' =>by
  obtain⟨h3,pl3,m3,p3,b3⟩:=r3 q hq;exact hG.disj h3 h pl3 pl (fun eq=>by subst eq;exact hn2.1 m3) p3 hp q b3 hq'
 have hFl: ∀q∈F,q<w.heap.size/\q≠g:=fun q hq=>by
  obtain⟨h3,pl3,m3,p3,b3⟩:=r3 q hq;exact⟨(hG.ge h3 pl3 p3 q b3).2,fun eq=>by subst eq;exact hF q hq hgF⟩
 let p1:Pl:=⟨pl.val,pl.top,Fs1.flatten++((Fa++(F++Fc))++Fs2.flatten)⟩
 have hmem: ∀q,q∈p1.F->q∈pl.F\/q∈F:=fun q hq=>by
  simp only[p1,Pl.F,aD5] at hq;unfold Pl.F;rw[hsub];simp only[aD5];rcases hq with q | q | (q | q | q) | q
  ·exact .inl (.inl q)
  ·exact .inl (.inr (.inl q))
  ·exact .inl (.inr (.inr (.inl (.inl q))))
  ·exact .inr q
  ·exact .inl (.inr (.inr (.inl (.inr (.inr q)))))
  exact .inl (.inr (.inr (.inr q)))
 have hnd2:p1.F.Nodup:=by
  have hperm:p1.F.Perm ((pl.top++(Fs1.flatten++((Fa++Fc)++Fs2.flatten)))++F):=by
   simp only[p1,Pl.F];refine(List.perm_iff_count).2 fun x=>?_;simp only[List.count_append];omega
  refine hperm.nodup_iff.2 ?_;rw[aH4]
  have hsl:(pl.top++(Fs1.flatten++((Fa++Fc)++Fs2.flatten))).Sublist pl.F:=by
   unfold Pl.F;rw[hsub];refine List.Sublist.append (List.Sublist.refl _) (List.Sublist.append (List.Sublist.refl _) (List.Sublist.append (List.Sublist.append (List.Sublist.refl _) (List.sublist_append_right _ _)) (List.Sublist.refl _)))
  exact⟨hsl.nodup (hG.nodup h pl hp),r2,fun q hq q' hq' eq=>by subst eq;exact hF q hq' (hsl.subset hq)⟩
 obtain⟨hv1,hv2⟩:=qP hv
 have hcs:css[i]? =some (ca++(cb++cc)):=by
  rw[e2,aEc (by rw[a5];exact aHF _)];simp[a5]
 have hown:=jT us (o:=i*k+off) q1';rw[qI us css i off _ q4.len.2 hcs (by omega),yC (by rw[a3];exact a7)] at hown
 have hst:=hG.stepV (C:=(· ∈h::hs)) (φr:=fun x=>if x=h then some p1 else none) (ρ:=aS [(h,.arr e k true (xs.set i (row.take off++ys++row.drop (off+n))))]) (K' :=K) (w' :=dC w g (i*k+off) us)
  (hchg.mono fun b hb=>⟨h,pl,by simp,hp,by simp at hb;subst hb;exact hgF⟩)
  (fun x p hp1=>by
   split at hp1
   ·injection hp1 with hp1;subst hp1
    refine⟨hnd2,fun q hq=>?_⟩;rcases hmem q hq with hq | hq
    ·exact⟨aHG (hG.ge h pl hp q hq).2 hchg.size,.inr ⟨h,pl,by simp,hp,hq⟩⟩
    obtain⟨h3,pl3,m3,p3,b3⟩:=r3 q hq;exact⟨aHG (hFl q hq).1 hchg.size,.inr ⟨h3,pl3,aHb _ m3,p3,b3⟩⟩
   cases hp1)
  (fun x x' p p' hne' hp1 hp2 g hg hg' =>by
   split at hp1
   ·split at hp2
    ·rename_i a b;exact hne' (a.trans b.symm)
    cases hp2
   cases hp1)
  (fun x r hr2=>by
   simp only[aS] at hr2;split at hr2
   ·rename_i ex;injection hr2 with hr2;subst hr2
    have exs:xs.set i (row.take off++ys++row.drop (off+n))=xs1++(row.take off++(ys++row.drop (off+n)))::xs2:=by rw[e1,aJN e4];simp
    rw[exs];refine⟨p1,by simp[ex],css1++(ca++(us++cc))::css2,Fs1++(Fa++(F++Fc))::Fs2,?_,q2,by simp[p1],(cH.kept _ _ _ _ (hkeep _ fun q hq=>hin q (by simp only[aD5];exact .inl hq)) s1).append ?_⟩
    ·have l2:(xs1++(row.take off++(ys++row.drop (off+n)))::xs2).length=xs.length:=by rw[e1];simp
     have l3:css.set i ((ca++(cb++cc)).take off++us++(ca++(cb++cc)).drop (off+us.length))=css1++(ca++(us++cc))::css2:=by
      rw[e2,aJN a5]
      congr 2
      have a8:off+us.length=(ca++cb).length:=by rw[aFu,a1,a2,a3]
      rw[a8,<-aE2 ca cb cc,List.drop_left,aE2 ca cb cc,<-a1,List.take_left,aE2]
     rw[l2];show (dC w g (i*k+off) us).ownsRow 0 e k pl.val xs.length _;rw[hvl,<-l3];exact hown
    unfold cH;refine⟨_,_,_,_,rfl,rfl,a6,(cX.kept _ _ _ (hkeep _ fun q hq=>hin q (by simp only[aD5];exact .inr (.inl (.inl hq)))) t1).join ((cX.kept _ _ _ (hkeep _ hFl) r1).join (cX.kept _ _ _ (hkeep _ fun q hq=>hin q (by simp only[aD5];exact .inr (.inl (.inr (.inr hq))))) t4)),cH.kept _ _ _ _ (hkeep _ fun q hq=>hin q (by simp only[aD5];exact .inr (.inr hq))) s4⟩
   cases hr2)
  (fun x hr2=>by
   simp only[aS] at hr2;split at hr2
   ·cases hr2
   rename_i ex;rw[if_neg ex])
  (fun _ h=>h) (fun _ h=> .inl h)
  (fun t x p hm hp1=>by
   split at hp1
   ·rename_i ex;injection hp1 with hp1;subst hp1;subst ex
    exact⟨pl,hp,rfl,rfl,fun q=>absurd q (hv1 t)⟩
   cases hp1)
  (fun h9 r x p _ hr2 hm hp1=>by
   split at hp1
   ·rename_i ex;injection hp1 with hp1;subst hp1;subst ex
    exact⟨pl,hp,rfl,rfl,fun q=>absurd q (hv2 h9 r hr2)⟩
   cases hp1)
  (fun x p hp1=>by
   split at hp1
   ·rename_i ex;injection hp1 with hp1;subst hp1;subst ex
    exact .inl ⟨pl,hp,rfl,rfl⟩
   cases hp1)
 exact⟨K,_,_,rfl,hst.put hd (by unfold aB;trivial)⟩
end
def aM2 (tb:Tb)(sl:Sl)(rs:Rl)(ty:TypeId)(x y:AV)(t:T)(K:AV->List Nat->List (Nat × Rs)->T->Prop):Prop:=match cA tb.ty ty with
 | some (_,n,_,_)=>(match x with
   | .ep h k i off=>(match aR rs h with
     | some (.arr e k' true xs)=>(match Nat.beq k k' &&qC rs y&&pJ sl rs h&&jP (h::tL (dJ y))&&Nat.beq (dJ y).length n with
       | true=>(match t with
         | .setm _ enc l f t=>xs=l.map enc/\i<l.length/\ ∀x,l[i]? =some x->off+n<=(enc x).length/\(enc x).take off++((enc (f x)).drop off).take n++(enc x).drop (off+n)=enc (f x)/\wD rs (dJ y) (((enc (f x)).drop off).take n) (K .no (h::tL (dJ y)) [(h,.arr e k true ((l.set i (f x)).map enc))] (t x))
         | _=>False)
       | false=>False)
     | _=>False)
   | _=>False)
 | none=>False
theorem aE0 {S:St}: ∀{cs:List AV} {row:List bF} {hs:List Nat},pD S cs row hs->row.length=cs.length
 | [],row,hs,h=>by unfold pD at h;rw[h.1];rfl
 | c::cs,row,hs,h=>by
   unfold pD at h;obtain⟨x,row',h1,h2,rfl,rfl,_,h3⟩:=h;simp[aE0 h3]
theorem aM3 {P:Program}{tb:Tb}{sl:Sl}{rs:Rl}{o:Oper}{ty:TypeId}{x y:Operand}{t:T}{K:AV->List Nat->List (Nat × Rs)->T->Prop}(hT:iU P tb)(ho:o.op= .store ty x y)(h:aM2 tb sl rs ty (cL sl x) (cL sl y) t K): ∃v del new t',pZ P o (mk sl rs) ⟨v,del,new⟩/\K v del new t' :=by
 unfold aM2 at h;split at h
 ·rename_i ag n bt z hq;have hq:=cC hT.ty hq;split at h
  ·rename_i h0 k i off hx;split at h
   ·rename_i e k' xs hr;split at h
    ·rename_i hb;simp only[aA1] at hb;obtain⟨⟨⟨⟨b1,b2⟩,b3⟩,b4⟩,b5⟩:=hb;have b1:=aB1 b1;subst b1;split at h
     ·rename_i enc l f t';obtain⟨rfl,hi,h⟩:=h;have hx' :=aBM hi;obtain⟨h1,h2,h3⟩:=h _ hx';obtain⟨h4,h5⟩:=jZ (sl:=sl) h3;have hs:=aHz (P:=P) (o:=o) ho hq hx hr (aAH hx') (tM b2) h4 ((aE0 h4).trans (aB1 b5)) h1 (mD b4) b3;rw[h2,<-aCU] at hs;exact⟨_,_,_,_,hs,h5⟩
     cases h
    cases h
   cases h
  cases h
 cases h
def roP:List AV->List bF->Prop->Prop
 | [],row,K=>(match row with | []=>K | _=>False)
 | c::cs,row,K=>(match row with
   | []=>False
   | x::row=>(match c with
     | .p none y=>EqD y x/\roP cs row K
     | .nil=>(match x with | .sl _ _ ys=>ys= []/\roP cs row K | _=>False)
     | _=>False))
theorem aIA {K:Prop}: ∀{cs:List AV} {row:List bF},roP cs row K->RoC cs row/\row.length=cs.length/\K
 | [],row,h=>by
   unfold roP at h;split at h
   ·exact⟨by unfold RoC;rfl,rfl,h⟩
   cases h
 | c::cs,row,h=>by
   unfold roP at h;split at h
   ·cases h
   split at h
   ·obtain⟨h1,h2⟩:=h;obtain⟨q1,q2,q3⟩:=aIA h2;exact⟨by unfold RoC;exact⟨_,by rw[h1.eq],q1⟩,by simp[q2],q3⟩
   ·split at h
    ·obtain⟨rfl,h2⟩:=h;obtain⟨q1,q2,q3⟩:=aIA h2;exact⟨by unfold RoC;exact⟨_,_,_,rfl,q1⟩,by simp[q2],q3⟩
    cases h
   cases h
def aJO (tb:Tb)(rs:Rl)(ty:TypeId)(x y:AV)(t:T)(K:AV->List Nat->List (Nat × Rs)->T->Prop):Prop:=match cA tb.ty ty with
 | some (_,n,_,_)=>(match x with
   | .ep h k i off=>(match aR rs h with
     | some (.arr e k' false xs)=>(match Nat.beq k k' &&qC rs y&&Nat.beq (dJ y).length n with
       | true=>(match t with
         | .setr _ enc l f t=>xs=l.map enc/\i<l.length/\ ∀x,l[i]? =some x->off+n<=(enc x).length/\(enc x).take off++((enc (f x)).drop off).take n++(enc x).drop (off+n)=enc (f x)/\roP (dJ y) (((enc (f x)).drop off).take n) (K .no [h] [(h,.arr e k false ((l.set i (f x)).map enc))] (t x))
         | _=>False)
       | false=>False)
     | _=>False)
   | _=>False)
 | none=>False
theorem aG8 {P:Program}{tb:Tb}{sl:Sl}{rs:Rl}{o:Oper}{ty:TypeId}{x y:Operand}{t:T}{K:AV->List Nat->List (Nat × Rs)->T->Prop}(hT:iU P tb)(ho:o.op= .store ty x y)(h:aJO tb rs ty (cL sl x) (cL sl y) t K): ∃v del new t',aZ P o (mk sl rs) ⟨v,del,new⟩/\K v del new t' :=by
 unfold aJO at h;split at h
 ·rename_i ag n bt z hq;have hq:=cC hT.ty hq;split at h
  ·rename_i h0 k i off hx;split at h
   ·rename_i e k' xs hr;split at h
    ·rename_i hb;simp only[aA1] at hb;obtain⟨⟨b1,b2⟩,b5⟩:=hb;have b1:=aB1 b1;subst b1;split at h
     ·rename_i enc l f t';obtain⟨rfl,hi,h⟩:=h;have hx' :=aBM hi;obtain⟨h1,h2,h3⟩:=h _ hx';obtain⟨h4,h5,h6⟩:=aIA h3;have hs:=aBr (P:=P) (o:=o) (S:=mk sl rs) ho hq (by rw[bO];exact hx) hr (aAH hx') (by rw[bO];exact tM b2) (by rw[bO];exact h4) (h5.trans (aB1 b5)) h1;rw[h2,<-aCU] at hs;exact⟨_,_,_,_,hs,h6⟩
     cases h
    cases h
   cases h
  cases h
 cases h
def aOw (N:Nat):Option Nat->Bool
 | none=>true
 | some d=>Nat.blt d N
theorem aJP {N:Nat}: ∀{o:Option Nat},aOw N o=true-> ∀d,o=some d->d<N
 | some d,h,_,rfl=>by simpa [aOw,Nat.blt_eq] using h
def brW (b:Bool)(t:T)(K:Bool->T->Prop):Prop:=match t with
 | .br t1 t2=>(b=true->K true t1)/\(b=false->K false t2)
 | .lit t=>(match b with | true=>K true t | false=>K false t)
 | .yes t=>b=true/\K true t
 | .no t=>b=false/\K false t
 | t=>(match b with | true=>K true t | false=>K false t)
theorem aIB {b:Bool}{t:T}{K:Bool->T->Prop}(h:brW b t K): ∃t',K b t' :=by
 unfold brW at h;split at h
 ·cases b with
  | true=>exact⟨_,h.1 rfl⟩
  | false=>exact⟨_,h.2 rfl⟩
 ·cases b with
  | true=>exact⟨_,h⟩
  | false=>exact⟨_,h⟩
 ·obtain⟨rfl,h⟩:=h;exact⟨_,h⟩
 ·obtain⟨rfl,h⟩:=h;exact⟨_,h⟩
 cases b with
 | true=>exact⟨_,h⟩
 | false=>exact⟨_,h⟩
def lB (pre:Sl)(s:Option Nat)(b:Bool):Sl:=match s with | some s=>(s,vB b)::pre | none=>pre
def gdW (N:Nat)(all:List Oper)(sl:Sl)(j:Nat)(want:Bool)(t:T)(K:Option Nat->Bool->T->Prop):Prop:=match all[j]? with
 | some o=>(match o.dst with
   | some dj=>(match Nat.blt dj N with
     | true=>(match bM sl dj with
       | .p none (.bool b)=>brW b t (fun b t=>K (some dj) b t)
       | .tup []=>K none (!want) t
       | _=>False)
     | false=>False)
   | none=>False)
 | none=>False
theorem aCV {sl:Sl}{d:Nat}{v:AV}(h:bM sl d=v):bM ((d,v)::sl)=bM sl:=by
 funext t;simp only[bM];split
 ·rename_i e;rw[e,h]
 rfl
theorem aOx {sl:Sl}{rs:Rl}{d:Nat}{v:AV}(h:bM sl d=v):mk ((d,v)::sl) rs=mk sl rs:=by
 unfold mk;rw[aCV h]
theorem aM4 {N:Nat}{all:List Oper}{sl:Sl}{j:Nat}{want:Bool}{t:T}{K:Option Nat->Bool->T->Prop}(h:gdW N all sl j want t K): ∃dj y b s t',(all.toArray[j]?).bind (·.dst)=some dj/\dj<N/\gvA (bM sl dj)=some y/\(b==want)=(y==some want)/\bM (lB sl s b)=bM sl/\K s b t' :=by
 unfold gdW at h;split at h
 ·rename_i o ho;split at h
  ·rename_i dj hd;split at h
   ·rename_i hN;split at h
    ·rename_i b hb;obtain⟨t',h⟩:=aIB h;exact⟨dj,some b,b,some dj,t',by simp[ho,hd],by simpa [Nat.blt_eq] using hN,aLg hb,rfl,aCV hb,h⟩
    ·rename_i hb;exact⟨dj,none,!want,none,t,by simp[ho,hd],by simpa [Nat.blt_eq] using hN,by rw[hb];rfl,by cases want<;>rfl,rfl,h⟩
    cases h
   cases h
  cases h
 cases h
theorem mE (pre bs:Sl)(s:Option Nat)(b:Bool):lB (pre++bs) s b=lB pre s b++bs:=by cases s<;>rfl
theorem nC (pre bs:Sl)(d:Option Nat)(v:AV):mY pre d v++bs=mY (pre++bs) d v:=by cases d<;>rfl
def aJQ (tb:Tb)(sl:Sl)(rs:Rl)(dst:Option Nat)(o:Op):Option (AV × Rl):=match dst with
 | some _=>(match o with
   | .fieldAddr s (.tmp t) f=>(match bM sl t with
     | .ptr h o' =>(match cA tb.fl s with | some l=>(match cA l f with | some q=>some (.ptr h (o' +q.1),[]) | none=>none) | none=>none)
     | _=>none)
   | .load ty (.tmp t)=>(match bM sl t with
     | .ptr h off=>(match Nat.beq h 99 with
       | true=>none
       | false=>(match aR rs h with
         | some (.box bt cs)=>(match cA tb.ty ty with
           | some (ag,n,_,_)=>(match ag with
             | true=>(match Nat.ble (off+n) cs.length with | true=>some (.agg ((cs.drop off).take n),[(h,some (.box bt cs))]) | false=>none)
             | false=>(match cs[off]? with | some v=>some (v,[(h,some (.box bt cs))]) | none=>none))
           | none=>none)
         | _=>none))
     | _=>none)
   | .move (.tmp t)=>(match bM sl t with
     | .ptr h o' =>some (.ptr h o',[])
     | _=>none)
   | _=>none)
 | none=>none
theorem aCW {P:Program}{tb:Tb}{sl:Sl}{rs:Rl}{o:Oper}{v:AV}{b:Rl}{i:Nat}(hT:iU P tb)(h:aJQ tb sl rs o.dst o.op=some (v,b)):wQ P (jY i o sl v b)/\ ∀k∈b.map (·.1),aR rs k=aR ((99,none)::b) k:=by
 obtain⟨dst,op,ty,pos,aft,gd⟩:=o;unfold aJQ at h
 dsimp only at h
 split at h
 ·split at h
  ·rename_i s t f;split at h
   ·rename_i hh o' hx;split at h
    ·rename_i l hl;split at h
     ·rename_i q hq;injection h with h
      injection h with h1 h2
      subst h1;subst h2;refine⟨⟨fun e=>by simp[fP.fr,jY] at e,fun _ S hS _=>?_⟩,by simp⟩;have hf:=cC (cC hT.fl hl) hq;have hs:=hS t (by simp[jY,kN,nR,opL]);refine qH rfl hf ?_;show S.slots t=_;rw[hs];simp only[jY,kN,opL,nR,bM,if_true];exact hx
     cases h
    cases h
   cases h
  ·rename_i ty' t;split at h
   ·rename_i hh off hx;split at h
    ·cases h
    rename_i h99;have h99: ¬hh=99:=fun e=>by rw[e] at h99;cases h99
    have fnd: ∀r:Option Rs,aR [(99,none),(hh,r)] hh=r:=fun r=>by
     simp only[aR];simp[h99]
    have key: ∀S:St,(∀u∈(kN (.load ty' (.tmp t)) sl).map (·.1),S.slots u=bM (kN (.load ty' (.tmp t)) sl) u)->S.slots t= .ptr hh off:=fun S hS=>by
     rw[hS t (by simp[kN,nR,opL])];simp only[kN,opL,nR,bM,if_true];exact hx
    split at h
    ·rename_i bt cs hr;split at h
     ·rename_i ag n bt' z hq;have hq:=cC hT.ty hq;split at h
      ·split at h
       ·rename_i hn;injection h with h
        injection h with h1 h2
        subst h1;subst h2;refine⟨⟨fun e=>by simp[fP.fr,jY] at e,fun _ S hS hR=>?_⟩,fun k hk=>?_⟩
        ·exact tD rfl hq (key S hS) (by rw[hR hh (by simp[jY,fP.T,fP.fr])];exact fnd _) (aAu hn)
        simp only[aDa,List.map_nil,aHr] at hk;rw[hk,fnd,hr]
       cases h
      split at h
      ·rename_i y hy;injection h with h
       injection h with h1 h2
       subst h1;subst h2;refine⟨⟨fun e=>by simp[fP.fr,jY] at e,fun _ S hS hR=>?_⟩,fun k hk=>?_⟩
       ·exact sP rfl hq (key S hS) (by rw[hR hh (by simp[jY,fP.T,fP.fr])];exact fnd _) hy
       simp only[aDa,List.map_nil,aHr] at hk;rw[hk,fnd,hr]
      cases h
     cases h
    cases h
   cases h
  ·rename_i t;split at h
   ·rename_i hh o' hx;injection h with h
    injection h with h1 h2
    subst h1;subst h2;refine⟨⟨fun e=>by simp[fP.fr,jY] at e,fun _ S hS _=>?_⟩,by simp⟩;have hs:=hS t (by simp[jY,kN,nR,opL])
    have hv:S.slots t= .ptr hh o' :=by
     rw[hs];simp only[jY,kN,opL,nR,bM,if_true];exact hx
    show aZ P _ S ⟨.ptr hh o',[],[]⟩;rw[<-hv];exact wN (x:= .tmp t) (.inl rfl)
   cases h
  cases h
 cases h
def opX (P:Program)(tb:Tb)(sl:Sl)(rs:Rl)(dst:Option Nat)(o:Op)(t:T)(K:AV->List Nat->List (Nat × Rs)->T->Prop):Prop:=match t with
 | .callx fs ri ren rv ro t=>(match dst with
   | some d=>(match o with
     | .call ⟨.value x,⟨args⟩,_⟩=>(match cL sl x with
       | .fn f caps=>tS P sl rs d f (args.map (cL sl)++caps) (.callx fs ri ren rv ro t) K
       | _=>False)
     | o=>opW P tb sl rs (some d) o (.callx fs ri ren rv ro t) K)
   | none=>opW P tb sl rs none o (.callx fs ri ren rv ro t) K)
 | .callxs fs ri ren rv ro t=>(match dst with
   | some d=>(match o with
     | .call ⟨.value x,⟨args⟩,_⟩=>(match cL sl x with
       | .fn f caps=>tS P sl rs d f (args.map (cL sl)++caps) (.callxs fs ri ren rv ro t) K
       | _=>False)
     | o=>opW P tb sl rs (some d) o (.callxs fs ri ren rv ro t) K)
   | none=>opW P tb sl rs none o (.callxs fs ri ren rv ro t) K)
 | .setm α enc l y t=>(match dst with
   | none=>(match o with
     | .store ty x z=>aM2 tb sl rs ty (cL sl x) (cL sl z) (.setm α enc l y t) K
     | _=>False)
   | some d=>opW P tb sl rs (some d) o (.setm α enc l y t) K)
 | .setr α enc l y t=>(match dst with
   | none=>(match o with
     | .store ty x z=>aJO tb rs ty (cL sl x) (cL sl z) (.setr α enc l y t) K
     | _=>False)
   | some d=>opW P tb sl rs (some d) o (.setr α enc l y t) K)
 | t=>opW P tb sl rs dst o t K
theorem aM5 {P:Program}{tb:Tb}{sl:Sl}{rs:Rl}{o:Oper}{t:T}{K:AV->List Nat->List (Nat × Rs)->T->Prop}(hT:iU P tb)(h:opX P tb sl rs o.dst o.op t K): ∃v del new t',pZ P o (mk sl rs) ⟨v,del,new⟩/\K v del new t' :=by
 have plain: ∀t,opW P tb sl rs o.dst o.op t K-> ∃v del new t',pZ P o (mk sl rs) ⟨v,del,new⟩/\K v del new t' :=fun t h=>by
  obtain⟨v,del,new,t',h1,h2⟩:=aMM hT h;exact⟨v,del,new,t',h1.to0,h2⟩
 obtain⟨dst,op,ty,pos,aft,gd⟩:=o;unfold opX at h
 dsimp only at h plain
 split at h
 ·split at h
  ·split at h
   ·split at h
    ·rename_i hx;exact aEY (fun hc=>qM rfl hc hx) h
    cases h
   exact plain _ h
  exact plain _ h
 ·split at h
  ·split at h
   ·split at h
    ·rename_i hx;exact aEY (fun hc=>qM rfl hc hx) h
    cases h
   exact plain _ h
  exact plain _ h
 ·split at h
  ·split at h
   ·exact aM3 hT rfl h
   cases h
  exact plain _ h
 ·split at h
  ·split at h
   ·obtain⟨v,del,new,t',h1,h2⟩:=aG8 (P:=P) (sl:=sl) (o:=⟨none,.store _ _ _,ty,pos,aft,gd⟩) hT rfl h;exact⟨v,del,new,t',h1.to0,h2⟩
   cases h
  exact plain _ h
 exact plain _ h
def opD (P:Program)(tb:Tb)(sl:Sl)(rs:Rl)(dst:Option Nat)(o:Op)(t:T)(K:AV->List Nat->List (Nat × Rs)->T->Prop):Prop:=match t with
 | .callx fs ri ren rv ro t=>(match dst with
   | some d=>(match o with
     | .call ⟨.value x,⟨args⟩,_⟩=>(match cL sl x with
       | .fn f caps=>(match aHy ri ren ro with
         | true=>tS P sl rs d f (args.map (cL sl)++caps) (.callx fs ri ren rv ro t) K
         | false=>False)
       | _=>False)
     | o=>opW P tb sl rs (some d) o (.callx fs ri ren rv ro t) K)
   | none=>opW P tb sl rs none o (.callx fs ri ren rv ro t) K)
 | .callxs fs ri ren rv ro t=>(match dst with
   | some d=>(match o with
     | .call ⟨.value x,⟨args⟩,_⟩=>(match cL sl x with
       | .fn f caps=>(match aHy ri ren ro with
         | true=>tS P sl rs d f (args.map (cL sl)++caps) (.callxs fs ri ren rv ro t) K
         | false=>False)
       | _=>False)
     | o=>opW P tb sl rs (some d) o (.callxs fs ri ren rv ro t) K)
   | none=>opW P tb sl rs none o (.callxs fs ri ren rv ro t) K)
 | .setr α enc l y t=>(match dst with
   | none=>(match o with
     | .store ty x z=>aJO tb rs ty (cL sl x) (cL sl z) (.setr α enc l y t) K
     | _=>False)
   | some d=>opW P tb sl rs (some d) o (.setr α enc l y t) K)
 | t=>opW P tb sl rs dst o t K
theorem aM6 {P:Program}{tb:Tb}{sl:Sl}{rs:Rl}{o:Oper}{t:T}{K:AV->List Nat->List (Nat × Rs)->T->Prop}(hT:iU P tb)(h:opD P tb sl rs o.dst o.op t K): ∃v del new t',aZ P o (mk sl rs) ⟨v,del,new⟩/\K v del new t' :=by
 have plain: ∀t,opW P tb sl rs o.dst o.op t K-> ∃v del new t',aZ P o (mk sl rs) ⟨v,del,new⟩/\K v del new t' :=fun t h=>aMM hT h;obtain⟨dst,op,ty,pos,aft,gd⟩:=o;unfold opD at h
 dsimp only at h plain
 split at h
 ·split at h
  ·split at h
   ·split at h
    ·rename_i hx;split at h
     ·rename_i hb;exact aCT (fun hc=>qM rfl hc hx) h hb
     cases h
    cases h
   exact plain _ h
  exact plain _ h
 ·split at h
  ·split at h
   ·split at h
    ·rename_i hx;split at h
     ·rename_i hb;exact aCT (fun hc=>qM rfl hc hx) h hb
     cases h
    cases h
   exact plain _ h
  exact plain _ h
 ·split at h
  ·split at h
   ·exact aG8 hT rfl h
   cases h
  exact plain _ h
 exact plain _ h
section
variable (P:Program) (tb:Tb) (N:Nat)
def aIC (all:List Oper)(bs:Sl)(br:Rl):List Oper->Sl->Rl->T->(Sl->Rl->T->Prop)->Prop
 | [],pre,prr,t,K=>K pre prr t
 | o::rest,pre,prr,t,K=>(match aOw N o.dst with
   | false=>False
   | true=>(match o.guard with
     | none=>opX P tb (pre++bs) (prr++br) o.dst o.op t (fun v del new t=>aIC all bs br rest (mY pre o.dst v) (lO new++(iD del++prr)) t K)
     | some (j,want)=>gdW N all (pre++bs) j want t (fun dj b t=>(match b==want with
       | true=>opX P tb (lB (pre++bs) dj b) (prr++br) o.dst o.op t (fun v del new t=>aIC all bs br rest (mY (lB pre dj b) o.dst v) (lO new++(iD del++prr)) t K)
       | false=>aIC all bs br rest (mY (lB pre dj b) o.dst (.tup [])) prr t K))))
def yR (all:List Oper)(bs:Sl)(br:Rl):Nat->List Oper->Sl->Rl->List fP->T->(Sl->Rl->List fP->T->Prop)->Prop
 | _,[],pre,prr,acc,t,K=>K pre prr acc t
 | i,o::rest,pre,prr,acc,t,K=>(match aOw N o.dst with
   | false=>False
   | true=>(match o.guard with
     | none=>(match aJQ tb (pre++bs) (prr++br) o.dst o.op with
      | some (v,b)=>yR all bs br (i+1) rest (mY pre o.dst v) prr (jY i o (pre++bs) v b::acc) t K
      | none=>opD P tb (kN o.op (pre++bs)) (sQ o.op (pre++bs) (prr++br)) o.dst o.op t (fun v del new t=>(match tOk (iX i o (pre++bs) (prr++br) v del new) (prr++br) with
       | true=>yR all bs br (i+1) rest (mY pre o.dst v) (lO new++(iD del++prr)) (iX i o (pre++bs) (prr++br) v del new::acc) t K
       | false=>False)))
     | some (j,want)=>gdW N all (pre++bs) j want t (fun dj b t=>(match b==want with
       | true=>(match aJQ tb (lB (pre++bs) dj b) (prr++br) o.dst o.op with
        | some (v,b')=>yR all bs br (i+1) rest (mY (lB pre dj b) o.dst v) prr (jY i o (lB (pre++bs) dj b) v b' ::acc) t K
        | none=>opD P tb (kN o.op (lB (pre++bs) dj b)) (sQ o.op (lB (pre++bs) dj b) (prr++br)) o.dst o.op t (fun v del new t=>(match tOk (iX i o (lB (pre++bs) dj b) (prr++br) v del new) (prr++br) with
         | true=>yR all bs br (i+1) rest (mY (lB pre dj b) o.dst v) (lO new++(iD del++prr)) (iX i o (lB (pre++bs) dj b) (prr++br) v del new::acc) t K
         | false=>False)))
       | false=>yR all bs br (i+1) rest (mY (lB pre dj b) o.dst (.tup [])) prr (⟨i,o,true,[],[],⟨.no,[],[]⟩⟩::acc) t K))))
end
section
variable {P:Program} {tb:Tb} {N:Nat} {all:List Oper} {bs:Sl} {br:Rl}
theorem aB3 (new:List (Nat × Rs))(del:List Nat)(prr br:Rl):lO new++(iD del++(prr++br))=(lO new++(iD del++prr))++br:=by simp
theorem aB4 (hT:iU P tb){K:Sl->Rl->T->Prop}: ∀(l:List Oper) (pre:Sl) (prr:Rl) (t:T),aIC P tb N all bs br l pre prr t K->Ops P N all.toArray l (mk (pre++bs) (prr++br)) (fun S=> ∃pre' prr' t',S=mk (pre' ++bs) (prr' ++br)/\K pre' prr' t')
 | [],pre,prr,t,h=>by unfold Ops;unfold aIC at h;exact⟨pre,prr,t,rfl,h⟩
 | o::rest,pre,prr,t,h=>by
   unfold aIC at h;split at h
   ·cases h
   rename_i hd;have hd:=aJP hd;unfold Ops;refine⟨hd,?_⟩;split at h
   ·rename_i hg;rw[hg];obtain⟨v,del,new,t',hs,h⟩:=aM5 hT h;refine⟨_,hs,?_⟩;rw[gY,<-nC,aB3];exact aB4 hT rest _ _ _ h
   rename_i j want hg;rw[hg];obtain⟨dj,y,b,s,t',h1,h2,h3,h4,h5,h⟩:=aM4 h;have h6:mk (lB (pre++bs) s b) (prr++br)=mk (pre++bs) (prr++br):=by unfold mk;rw[h5]
   refine⟨dj,y,h1,h2,h3,fun e=>?_,fun e=>?_⟩
   ·rw[e] at h4;split at h
    ·obtain⟨v,del,new,t',hs,h⟩:=aM5 hT h;rw[h6] at hs;refine⟨_,hs,?_⟩;rw[<-h6,gY,mE,<-nC,aB3];exact aB4 hT rest _ _ _ h
    rename_i hb;rw[hb] at h4;simp at h4
   split at h
   ·rename_i hb;rw[hb] at h4;exact absurd (by simpa using h4.symm) e
   rw[<-h6,aJD,mE,<-nC];exact aB4 hT rest _ _ _ h
theorem nD {sl sl' :Sl}(h:bM sl=bM sl'): ∀(l:List Operand),nR sl l=nR sl' l
 | []=>rfl
 | .tmp t::l=>by simp only[nR,h,nD h l]
 | .const _::l=>nD h l
 | .func _::l=>nD h l
 | .global _::l=>nD h l
theorem nE {sl sl' :Sl}(h:bM sl=bM sl')(o:Op):kN o sl=kN o sl' :=nD h _
theorem tT {sl sl' :Sl}(h:bM sl=bM sl')(o:Op)(rs:Rl):sQ o sl rs=sQ o sl' rs:=by unfold sQ;rw[nE h]
theorem tU {sl sl' :Sl}(h:bM sl=bM sl')(i:Nat)(o:Oper)(rs:Rl)(v:AV)(del:List Nat)(new:List (Nat × Rs)):iX i o sl rs v del new=iX i o sl' rs v del new:=by unfold iX;rw[nE h,tT h]
theorem aCX {sl sl' :Sl}(h:bM sl=bM sl')(i:Nat)(o:Oper)(v:AV)(b:Rl):jY i o sl v b=jY i o sl' v b:=by unfold jY;rw[nE h]
theorem mF {sl sl' :Sl}(h:bM sl=bM sl')(d:Option Nat)(v:AV):bM (mY sl d v)=bM (mY sl' d v):=by
 cases d with
 | none=>exact h
 | some d=>funext t;simp only[mY,bM,h]
theorem mG {A:Array Oper}{K:St->List fP->Prop}: ∀(l:List Oper) (i:Nat) (sl sl' :Sl) (rs:Rl) (acc:List fP),bM sl=bM sl' ->mZ P N A i l sl rs acc K->mZ P N A i l sl' rs acc K
 | [],i,sl,sl',rs,acc,h,hd=>by unfold mZ at*;unfold mk at*;rw[<-h];exact hd
 | o::rest,i,sl,sl',rs,acc,h,hd=>by
   unfold mZ at*;obtain⟨h1,h2,h3⟩:=hd;refine⟨h1,h2,?_⟩
   have execF:(∃v b,wQ P (jY i o sl v b)/\(∀k∈b.map (·.1),aR rs k=aR ((99,none)::b) k)/\mZ P N A (i+1) rest (mY sl o.dst v) rs (jY i o sl v b::acc) K)-> ∃v b,wQ P (jY i o sl' v b)/\(∀k∈b.map (·.1),aR rs k=aR ((99,none)::b) k)/\mZ P N A (i+1) rest (mY sl' o.dst v) rs (jY i o sl' v b::acc) K:=fun ⟨v,b,q1,q0,q2⟩=>by
    rw[aCX h] at q1 q2;exact⟨v,b,q1,q0,mG rest _ _ _ _ _ (mF h _ _) q2⟩
   have exec:(∃v del new,aZ P o (mk (kN o.op sl) (sQ o.op sl rs)) ⟨v,del,new⟩/\tOk (iX i o sl rs v del new) rs=true/\mZ P N A (i+1) rest (mY sl o.dst v) (lO new++(iD del++rs)) (iX i o sl rs v del new::acc) K)->
    ∃v del new,aZ P o (mk (kN o.op sl') (sQ o.op sl' rs)) ⟨v,del,new⟩/\tOk (iX i o sl' rs v del new) rs=true/\mZ P N A (i+1) rest (mY sl' o.dst v) (lO new++(iD del++rs)) (iX i o sl' rs v del new::acc) K:=fun ⟨v,del,new,q1,q2,q3⟩=>by
    refine⟨v,del,new,by rw[<-nE h,<-tT h];exact q1,by rw[<-tU h];exact q2,?_⟩;rw[<-tU h];exact mG rest _ _ _ _ _ (mF h _ _) q3
   split
   ·rename_i hg;rw[hg] at h3;exact h3.imp exec execF
   rename_i j want hg;rw[hg] at h3;obtain⟨d,b,q1,q2,q3,q4,q5⟩:=h3;exact⟨d,b,q1,q2,by rw[<-h];exact q3,fun e=>(q4 e).imp exec execF,fun e=>mG rest _ _ _ _ _ (mF h _ _) (q5 e)⟩
theorem nZ {A:Array Oper}{K K' :St->List fP->Prop}(hK: ∀S recs,K S recs->K' S recs): ∀(l:List Oper) (i:Nat) (sl:Sl) (rs:Rl) (acc:List fP),mZ P N A i l sl rs acc K->mZ P N A i l sl rs acc K'
 | [],i,sl,rs,acc,hd=>by unfold mZ at*;exact hK _ _ hd
 | o::rest,i,sl,rs,acc,hd=>by
   unfold mZ at*;obtain⟨h1,h2,h3⟩:=hd;refine⟨h1,h2,?_⟩;split
   ·rename_i hg;rw[hg] at h3;rcases h3 with ⟨v,del,new,q1,q2,q3⟩ | ⟨v,b,q1,q0,q2⟩
    ·exact .inl ⟨v,del,new,q1,q2,nZ hK rest _ _ _ _ q3⟩
    exact .inr ⟨v,b,q1,q0,nZ hK rest _ _ _ _ q2⟩
   rename_i j want hg;rw[hg] at h3;obtain⟨d,b,q1,q2,q3,q4,q5⟩:=h3;refine⟨d,b,q1,q2,q3,fun e=>?_,fun e=>nZ hK rest _ _ _ _ (q5 e)⟩;rcases q4 e with ⟨v,del,new,p1,p2,p3⟩ | ⟨v,b',p1,p0,p2⟩
   ·exact .inl ⟨v,del,new,p1,p2,nZ hK rest _ _ _ _ p3⟩
   exact .inr ⟨v,b',p1,p0,nZ hK rest _ _ _ _ p2⟩
theorem aG9 (hT:iU P tb){K:Sl->Rl->List fP->T->Prop}: ∀(l done:List Oper) (pre:Sl) (prr:Rl) (acc:List fP) (t:T),all=done++l->yR P tb N all bs br done.length l pre prr acc t K->mZ P N all.toArray done.length l (pre++bs) (prr++br) acc (fun S recs=> ∃pre' prr' acc' t',S=mk (pre' ++bs) (prr' ++br)/\recs=acc'.reverse/\K pre' prr' acc' t')
 | [],done,pre,prr,acc,t,e,h=>by unfold mZ;unfold yR at h;exact⟨pre,prr,acc,t,rfl,rfl,h⟩
 | o::rest,done,pre,prr,acc,t,e,h=>by
   unfold yR at h;split at h
   ·cases h
   rename_i hd;have hd:=aJP hd;have hi:all.toArray[done.length]? =some o:=by rw[e];simp
   have e' :all=(done++[o])++rest:=by rw[e];simp
   have el:(done++[o]).length=done.length+1:=by simp
   have ih:=fun pre prr acc t=>aG9 hT (K:=K) rest (done++[o]) pre prr acc t e';rw[el] at ih;unfold mZ;refine⟨hi,hd,?_⟩;split at h
   ·rename_i hg;rw[hg];split at h
    ·rename_i v b' hv;refine .inr ⟨v,b',(aCW hT hv).1,(aCW (i:=0) hT hv).2,?_⟩;rw[<-nC];exact ih _ _ _ _ h
    obtain⟨v,del,new,t',hs,h⟩:=aM6 hT h;split at h
    ·rename_i ht;refine .inl ⟨v,del,new,hs,ht,?_⟩;rw[<-nC,aB3];exact ih _ _ _ _ h
    cases h
   rename_i j want hg;rw[hg];obtain⟨dj,y,b,s,t',h1,h2,h3,h4,hp,h⟩:=aM4 h;refine⟨dj,y,h1,h2,h3,fun e=>?_,fun e=>?_⟩
   ·rw[e] at h4;split at h
    ·split at h
     ·rename_i v b' hv;have hs:=aCW (i:=done.length) hT hv;rw[aCX hp] at hs h;refine .inr ⟨v,b',hs.1,hs.2,?_⟩;have:=ih _ _ _ _ h;rw[nC,<-mE] at this;exact mG _ _ _ _ _ _ (mF hp _ _) this
     obtain⟨v,del,new,t',hs,h⟩:=aM6 hT h;split at h
     ·rename_i ht;rw[nE hp,tT hp] at hs;rw[tU hp] at ht h;refine .inl ⟨v,del,new,hs,ht,?_⟩;have:=ih _ _ _ _ h;rw[nC,<-aB3,<-mE] at this;exact mG _ _ _ _ _ _ (mF hp _ _) this
     cases h
    rename_i hb;rw[hb] at h4;simp at h4
   split at h
   ·rename_i hb;rw[hb] at h4;exact absurd (by simpa using h4.symm) e
   have:=ih _ _ _ _ h;rw[nC,<-mE] at this;exact mG _ _ _ _ _ _ (mF hp _ _) this
end
def nF (W:List Nat):Sl:=W.map fun t=>(t,AV.no)
def kA (V:List Nat):Rl:=V.map fun h=>(h,none)
def gmF (ren:List (Nat × Nat))(hd:List Nat)(h:Nat):Option Nat:=match cA ren h with | some g=>some g | none=>(match hd.contains h with | true=>none | false=>some h)
def EqS (sl:Sl)(gm:Nat->Option Nat):Sl->Prop->Prop
 | [],K=>K
 | (t,x)::l,K=>kG gm x (bM sl t) (EqS sl gm l K)
def aDo (rs:Rl)(gm:Nat->Option Nat):Rl->Prop->Prop
 | [],K=>K
 | (h,some r)::l,K=>(match gm h with
   | some g=>(match aR rs g with
     | some r' =>(match r with
       | .box t cs=>(match r' with | .box t' cs' =>EqN t' t (qN gm cs cs' (aDo rs gm l K)) | _=>False)
       | .arr e k d xs=>EqR r' (.arr e k d xs) (aDo rs gm l K)
       | .hole e k xs i j hp=>(match r' with | .hole e' k' xs' i' j' hp' =>(match Nat.beq e' e&&Nat.beq k' k&&Nat.beq j' j&&(match gm hp with | some q=>Nat.beq q hp' | none=>false) with | true=>xs' =xs/\i' =i/\aDo rs gm l K | false=>False) | _=>False))
     | none=>False)
   | none=>(match r with | .arr _ _ _ xs=>[]=xs/\aDo rs gm l K | _=>False))
 | (_,none)::_,_=>False
def aFM (gm:Nat->Option Nat)(h:Nat):Bool:=match gm h with | some g=>Nat.beq g h | none=>false
def aID (gm:Nat->Option Nat)(l:List Nat):Bool:=l.all (aFM gm)
def tV (rs:Rl):List Nat:=(rs.map (·.1)).filter fun h=>(aR rs h).isSome
def aQs (gm:Nat->Option Nat)(l:List Nat):Bool:=l.all fun h=>l.all fun h' =>Nat.beq h h' || (match gm h with | none=>true | some g=>(match gm h' with | none=>true | some g' => !Nat.beq g g'))
def aJR (W V:List Nat)(gm:Nat->Option Nat)(pre:Sl)(prr:Rl)(b1:Sl)(b2:Rl)(hd:Rl):Bool:=
 hd.all (fun q=>Nat.ble 100 q.1 || aFM gm q.1)&&pre.all (fun q=>W.contains q.1)&&prr.all (fun q=>V.contains q.1)&&b1.all (fun q=>W.contains q.1 || aID gm (bV (bM b1 q.1)))&&
 b2.all (fun q=>V.contains q.1 || (match aR b2 q.1 with | some r=>aFM gm q.1&&aID gm (gA r) | none=>true))&&aQs gm (tV (hd++b2))
theorem aB5 {gm:Nat->Option Nat}{h:Nat}(hx:aFM gm h=true):gm h=some h:=by
 unfold aFM at hx;split at hx
 ·rename_i g hg;rw[hg,aB1 hx]
 cases hx
theorem aJS {gm:Nat->Option Nat}{l:List Nat}{h:Nat}(hx:aID gm l=true)(hm:h∈l):gm h=some h:=aB5 (aDW.1 hx h hm)
theorem aIE {sl:Sl}{gm:Nat->Option Nat}{K:Prop}: ∀{l:Sl},EqS sl gm l K->(∀t x,(t,x)∈l-> ∃Q,kG gm x (bM sl t) Q)/\K
 | [],h=>⟨by simp,h⟩
 | (t,x)::l,h=>by
   unfold EqS at h;obtain⟨h3,h4⟩:=aIE (aG1 _ _ _ h);refine⟨fun t' x' hm=>?_,h4⟩;rcases aEx.1 hm with e | hm
   ·injection e with e1 e2;subst e1;subst e2;exact⟨_,h⟩
   exact h3 t' x' hm
def aOy (rs:Rl)(gm:Nat->Option Nat)(h:Nat)(r:Rs):Prop:=
 (∀g,gm h=some g-> ∃r',aR rs g=some r' /\((r=r' /\aBu r=true)\/(∃t cs cs' Q,r= .box t cs/\r' = .box t cs' /\qN gm cs cs' Q)\/ ∃e k xs i j hp hp',r= .hole e k xs i j hp/\r' = .hole e k xs i j hp' /\gm hp=some hp'))/\(gm h=none-> ∃e k d,r= .arr e k d [])
theorem aFN {rs:Rl}{gm:Nat->Option Nat}{K:Prop}: ∀{l:Rl},aDo rs gm l K->(∀h r,(h,r)∈l-> ∃r',r=some r' /\aOy rs gm h r')/\K
 | [],h=>⟨by simp,h⟩
 | (h,some r)::l,hh=>by
   unfold aDo at hh
   have key:aOy rs gm h r->aDo rs gm l K->(∀h' r0,(h',r0)∈(h,some r)::l-> ∃r',r0=some r' /\aOy rs gm h' r')/\K:=fun h1 h2=>by
    obtain⟨h3,h4⟩:=aFN h2;refine⟨fun t' x' hm=>?_,h4⟩;rcases aEx.1 hm with e | hm
    ·injection e with e1 e2;subst e1;subst e2;exact⟨r,rfl,h1⟩
    exact h3 t' x' hm
   split at hh
   ·rename_i g hg;split at hh
    ·rename_i r' hr;split at hh
     ·rename_i t cs;split at hh
      ·rename_i t' cs';obtain⟨e1,hq⟩:=hh.eq;refine key ⟨fun g' hg' =>?_,fun hn=>by rw[hg] at hn;cases hn⟩ (qO _ _ _ hq);rw[hg] at hg';injection hg' with hg';subst hg'
       exact⟨_,hr,.inr (.inl ⟨t,cs,cs',_,rfl,by rw[e1],hq⟩)⟩
      cases hh
     ·obtain⟨e1,hq⟩:=hh.eq;refine key ⟨fun g' hg' =>?_,fun hn=>by rw[hg] at hn;cases hn⟩ hq;rw[hg] at hg';injection hg' with hg';subst hg'
      exact⟨_,hr,.inl ⟨e1.symm,rfl⟩⟩
     split at hh
     ·rename_i e k xs i j hp _ e' k' xs' i' j' hp';split at hh
      ·rename_i hb;simp only[aA1] at hb;obtain⟨⟨⟨b1,b2⟩,b3⟩,b4⟩:=hb;split at b4
       ·rename_i q hq;obtain rfl:=aB1 b1;obtain rfl:=aB1 b2;obtain rfl:=aB1 b3;obtain rfl:=aB1 b4;obtain⟨rfl,rfl,hh⟩:=hh;refine key ⟨fun g' hg' =>?_,fun hn=>by rw[hg] at hn;cases hn⟩ hh;rw[hg] at hg';injection hg' with hg';subst hg'
        exact⟨_,hr,.inr (.inr ⟨_,_,_,_,_,_,_,rfl,rfl,hq⟩)⟩
       cases b4
      cases hh
     cases hh
    cases hh
   rename_i hg;split at hh
   ·obtain⟨e1,hq⟩:=hh;exact key ⟨fun g' hg' =>(by rw[hg] at hg';cases hg'),fun _=>⟨_,_,_,by rw[<-e1]⟩⟩ hq
   cases hh
 | (h,none)::l,hh=>by unfold aDo at hh;cases hh
theorem aE1 {o b:Sl}{t:Nat}:(∃x,(t,x)∈o/\bM (o++b) t=x)\/(t ∉ o.map (·.1)/\bM (o++b) t=bM b t):=by
 induction o with
 | nil=>exact .inr ⟨by simp,rfl⟩
 | cons q o ih=>
   obtain⟨k,v⟩:=q;simp only[List.cons_append,bM];by_cases e:t=k
   ·subst e;exact .inl ⟨v,by simp,by simp⟩
   rw[if_neg e];rcases ih with ⟨x,h1,h2⟩ | ⟨h1,h2⟩
   ·exact .inl ⟨x,by simp[h1],h2⟩
   exact .inr ⟨by simp only[aDa,aEx,not_or];exact⟨e,h1⟩,h2⟩
theorem aAP {o b:Rl}{t:Nat}:(∃x,(t,x)∈o/\aR (o++b) t=x)\/(t ∉ o.map (·.1)/\aR (o++b) t=aR b t):=by
 induction o with
 | nil=>exact .inr ⟨by simp,rfl⟩
 | cons q o ih=>
   obtain⟨k,v⟩:=q;simp only[List.cons_append,aR];by_cases e:t=k
   ·subst e;exact .inl ⟨v,by simp,by simp⟩
   rw[if_neg e];rcases ih with ⟨x,h1,h2⟩ | ⟨h1,h2⟩
   ·exact .inl ⟨x,by simp[h1],h2⟩
   exact .inr ⟨by simp only[aDa,aEx,not_or];exact⟨e,h1⟩,h2⟩
theorem aCY {W:List Nat}{b:Sl}{t:Nat}:bM (nF W++b) t=if t∈W then .no else bM b t:=by
 induction W with
 | nil=>simp[nF]
 | cons w W ih=>
   simp only[nF,aDa,List.cons_append,bM] at ih ⊢;rw[ih];by_cases e:t=w<;>simp[e]
theorem wV {W:List Nat}{b:Rl}{t:Nat}:aR (kA W++b) t=if t∈W then none else aR b t:=by
 induction W with
 | nil=>simp[kA]
 | cons w W ih=>
   simp only[kA,aDa,List.cons_append,aR] at ih ⊢;rw[ih];by_cases e:t=w<;>simp[e]
theorem aK4 {b:Sl}{t:Nat}(h:bM b t≠ .no):t∈b.map (·.1):=by
 induction b with
 | nil=>simp[bM] at h
 | cons q b ih=>
   obtain⟨k,v⟩:=q;simp only[bM] at h;by_cases e:t=k
   ·simp[e]
   rw[if_neg e] at h;simp[ih h]
theorem aAQ {b:Rl}{t:Nat}{r:Rs}(h:aR b t=some r):t∈b.map (·.1):=by
 induction b with
 | nil=>simp[aR] at h
 | cons q b ih=>
   obtain⟨k,v⟩:=q;simp only[aR] at h;by_cases e:t=k
   ·simp[e]
   rw[if_neg e] at h;simp[ih h]
theorem aGa {A:Nat->Prop}{w0:rK}{N:Nat}{a:Act}{w:World}{W V:List Nat}{gm:Nat->Option Nat}{cur:Sl}{cur2:Rl}{b1:Sl}{b2:Rl}{o:Sl}{r:Rl}
 (k0: ∀q∈r,Nat.ble 100 q.1=true\/aFM gm q.1=true) (k3: ∀q∈nF W++b1,q.1∈W\/aID gm (bV (bM (nF W++b1) q.1))=true) (k4: ∀q∈kA V++b2,q.1∈V\/ ∀r,aR (kA V++b2) q.1=some r->aFM gm q.1=true/\aID gm (gA r)=true)
 (k5:aQs gm (tV (r++(kA V++b2)))=true) (c1: ∀t,t ∉ W->bM cur t=bM (nF W++b1) t) (c2: ∀h,h ∉ V->aR cur2 h=aR (kA V++b2) h)
 (h1: ∀t x,(t,x)∈o-> ∃Q,kG gm x (bM cur t) Q) (h2: ∀h x,(h,x)∈r-> ∃r',x=some r' /\aOy cur2 gm h r') (hG:qK A w0 N (mk cur cur2) a w):qK A w0 N (mk (o++(nF W++b1)) (r++(kA V++b2))) a w:=by
 obtain⟨K,φ,hG⟩:=hG
 let S2:=r++(kA V++b2)
 let φ' :fR:=fun h=>match aR S2 h with | none=>none | some _=>(match gm h with | some g=>φ g | none=>some gB)
 have p1: ∀h g pl,gm h=some g->φ' h=some pl->φ g=some pl:=fun h g pl e e' =>by
  simp only[φ',e] at e';split at e'
  ·cases e'
  exact e'
 have p2: ∀h pl,gm h=none->φ' h=some pl->pl=gB:=fun h pl e e' =>by
  simp only[φ',e] at e';split at e'
  ·cases e'
  injection e' with e';exact e'.symm
 have p0: ∀h pl,φ' h=some pl-> ∃x,aR S2 h=some x:=fun h pl e=>by
  simp only[φ'] at e;split at e
  ·cases e
  rename_i x hx;exact⟨x,hx⟩
 have p3: ∀h pl,φ' h=some pl->(∃g,gm h=some g/\φ g=some pl)\/pl=gB:=fun h pl e=>by
  cases hl:gm h with
  | some g=>exact .inl ⟨g,rfl,p1 h g pl hl e⟩
  | none=>exact .inr (p2 h pl hl e)
 have live: ∀{h x},aR S2 h=some x->h∈tV S2:=fun {h x} hx=>by
  unfold tV;rw[aL4];exact⟨aAQ hx,by rw[hx];rfl⟩
 refine⟨K,φ',fun h x hx=>?_,fun h hx=>?_,fun h h' pl pl' hne e e' g hg=>?_,fun h pl e=>?_,fun h pl e=>?_,hG.kin,fun b hb h pl e=>?_,hG.aK,fun t=>?_,hG.bel,hG.nd,hG.size,fun h pl pl0 e e0=>?_⟩
 ·have hx' :aR S2 h=some x:=hx;rcases aAP (o:=r) (b:=kA V++b2) (t:=h) with ⟨y,q1,q2⟩ | ⟨_,q2⟩
  ·obtain⟨r',e1,q3,q4⟩:=h2 h y q1;have ex:r' =x:=by have:=hx';simp only[S2] at this;rw[q2,e1] at this;injection this
   subst ex;cases hl:gm h with
   | some g=>
     obtain⟨r2,hr2,q⟩:=q3 g hl;obtain⟨pl,hp,hh⟩:=hG.dom g r2 hr2;refine⟨pl,by simp only[φ',hx',hl];exact hp,?_⟩;rcases q with ⟨rfl,ha⟩ | ⟨t,cs,cs',Q,rfl,rfl,hq⟩ | ⟨e,k,xs,i,j,hp0,hp',rfl,rfl,hq⟩
     ·exact dM.arrPhi ha hh
     ·obtain⟨g',vs',f1,f2,f3,f4⟩:=hh;exact⟨g',vs',f1,f2,f3,(tP (φ' :=φ') p1 p2 _ _ _ _ hq f4).1⟩
     obtain⟨xs1,x1,d,x2,xs2,css1,c1,v,c2,css2,Fs1,F1,F2,Fs2,e0,e1,e2,e3,t1,t2,t3,t4,t5,t6,t7,t8⟩:=hh;exact⟨xs1,x1,d,x2,xs2,css1,c1,v,c2,css2,Fs1,F1,F2,Fs2,e0,e1,e2,e3,t1,t2,t3,t4,t5,t6,t7,t8.1,fun pl' e' =>t8.2 pl' (p1 hp0 hp' pl' hq e')⟩
   | none=>
     obtain⟨e,k,d,rfl⟩:=q4 hl;refine⟨gB,by simp only[φ',hx',hl],?_⟩;cases d with
     | true=>exact⟨[],[],World.ownsRow_nil w 0 e k,rfl,rfl,by unfold cH;exact⟨rfl,rfl⟩⟩
     | false=>exact⟨[],World.ownsRow_nil w 0 e k,rfl,rfl,rfl⟩
  have hb:aR (kA V++b2) h=some x:=by rw[<-q2];exact hx'
  obtain⟨q,hq,rfl⟩:=aFm.1 (aAQ hb);have hv:q.1 ∉ V:=fun hv=>by rw[wV,if_pos hv] at hb;cases hb
  obtain⟨f1,f2⟩:=(k4 q hq).resolve_left hv x hb;obtain⟨pl,hp,hh⟩:=hG.dom q.1 x (by simp only[mk];rw[c2 _ hv];exact hb);refine⟨pl,by simp only[φ',hx',aB5 f1];exact hp,?_⟩;exact dM.mono (fun _ _=>rfl) (fun _ h=>h) (fun _ _=>rfl) x (fun h3 pl3 hm3 e3=>⟨p1 h3 h3 pl3 (aJS f2 hm3) e3,fun _ _=>rfl⟩) hh
 ·have hx' :aR S2 h=none:=hx;simp only[φ',hx']
 ·rcases p3 h pl e with ⟨q,l1,e1⟩ | e1
  ·rcases p3 h' pl' e' with ⟨q',l1',e1'⟩ | e1'
   ·refine hG.disj q q' pl pl' (fun x=>?_) e1 e1' g hg;subst x;obtain⟨x,hx⟩:=p0 h pl e;obtain⟨x',hx'⟩:=p0 h' pl' e';have:=aDW.1 (aDW.1 k5 h (live hx)) h' (live hx');simp only[Bool.or_eq_true,l1,l1',Nat.beq_refl,Bool.not_true] at this;rcases this with q3 | q3
    ·exact hne (aB1 q3)
    cases q3
   rw[e1'];simp[gB,Pl.F]
  rw[e1] at hg;simp[gB,Pl.F] at hg
 ·rcases p3 h pl e with ⟨g,_,e⟩ | e
  ·exact hG.nodup g pl e
  rw[e];simp[gB,Pl.F]
 ·rcases p3 h pl e with ⟨g,_,e⟩ | e
  ·exact hG.ge g pl e
  rw[e];simp[gB,Pl.F]
 ·rcases p3 h pl e with ⟨g,_,e⟩ | e
  ·exact hG.kout b hb g pl e
  rw[e];simp[gB,Pl.F]
 ·simp only[mk];have hs:=hG.slots t;simp only[mk] at hs;rcases aE1 (o:=o) (b:=nF W++b1) (t:=t) with ⟨x,q1,q2⟩ | ⟨_,q2⟩
  ·rw[q2];obtain⟨Q,hQ⟩:=h1 t x q1;exact(aFK (φ' :=φ') p1 p2 _ _ _ _ hQ hs).1
  rw[q2];by_cases hn:bM (nF W++b1) t= .no
  ·rw[hn];unfold aB;trivial
  obtain⟨q,hq,rfl⟩:=aFm.1 (aK4 hn);have hw:q.1 ∉ W:=fun hw=>hn (by rw[aCY,if_pos hw]);have f:=(k3 q hq).resolve_left hw;rw[c1 _ hw] at hs;exact aB.mono (fun _ _=>rfl) (fun _ h=>h) _ _ (fun h3 pl3 hm3 e3=>⟨p1 h3 h3 pl3 (aJS f hm3) e3,fun _ _=>rfl⟩) hs
 obtain⟨x,hx⟩:=p0 h pl e;have hlt:=w0.dom h pl0 e0
 have hfx:gm h=some h:=by
  rcases aAP (o:=r) (b:=kA V++b2) (t:=h) with ⟨y,q1,q2⟩ | ⟨_,q2⟩
  ·rcases k0 _ q1 with q | q
   ·have:=aAu q;dsimp only at this;omega
   exact aB5 q
  have hb:aR (kA V++b2) h=some x:=by rw[<-q2];exact hx
  obtain⟨q,hq,rfl⟩:=aFm.1 (aAQ hb);have hv:q.1 ∉ V:=fun hv=>by rw[wV,if_pos hv] at hb;cases hb
  exact aB5 ((k4 q hq).resolve_left hv x hb).1
 exact hG.pin h pl pl0 (p1 h h pl hfx e) e0
theorem aJT {W V:List Nat}{gm:Nat->Option Nat}{pre:Sl}{prr:Rl}{b1:Sl}{b2:Rl}{r:Rl}(hb:aJR W V gm pre prr b1 b2 r=true):(∀q∈r,Nat.ble 100 q.1=true\/aFM gm q.1=true)/\(∀q∈pre,q.1∈W)/\(∀q∈prr,q.1∈V)/\(∀q∈b1,q.1∈W\/aID gm (bV (bM b1 q.1))=true)/\(∀q∈b2,q.1∈V\/ ∀r,aR b2 q.1=some r->aFM gm q.1=true/\aID gm (gA r)=true)/\aQs gm (tV (r++b2))=true:=by
 unfold aJR at hb;simp only[aA1,aDW,Bool.or_eq_true,List.contains_eq_mem,aH9] at hb;obtain⟨⟨⟨⟨⟨k0,k1⟩,k2⟩,k3⟩,k4⟩,k5⟩:=hb;refine⟨k0,k1,k2,k3,fun q hq=>(k4 q hq).imp id fun h r hr=>?_,k5⟩;rw[hr] at h;simpa using h
def aM7 (rs:Rl)(hd:Rl):List (Nat × Nat):=(hd.filter fun q=>(aR rs q.1).isSome).map fun q=>(q.1,q.1)
def aQt (sl:Sl)(c:Operand)(t:T)(K:Option Nat->Bool->T->Prop):Prop:=match c with
 | .tmp s=>(match bM sl s with | .p none (.bool b)=>brW b t (fun b t=>K (some s) b t) | _=>False)
 | .const (.bool b)=>brW b t (fun b t=>K none b t)
 | _=>False
theorem aOz {sl:Sl}{rs:Rl}{c:Operand}{t:T}{K:Option Nat->Bool->T->Prop}(h:aQt sl c t K): ∃s b t',(mk sl rs).ev c= .p none (.bool b)/\(∀rs',mk (lB sl s b) rs' =mk sl rs')/\K s b t' :=by
 unfold aQt at h;split at h
 ·rename_i s;split at h
  ·rename_i b hb;obtain⟨t',h⟩:=aIB h;exact⟨some s,b,t',hb,fun rs' =>aOx hb,h⟩
  cases h
 ·rename_i b;obtain⟨t',h⟩:=aIB h;exact⟨none,b,t',rfl,fun _=>rfl,h⟩
 cases h
def frc {α:Type}(n:Nat)(k:Nat->α):α:=match n with | 0=>k 0 | m+1=>k (m+1)
theorem aQu {α:Type}(n:Nat)(k:Nat->α):frc n k=k n:=by cases n<;>rfl
def bm:List Nat->Nat
 | []=>0
 | h::l=>Nat.lor (Nat.shiftLeft 1 h) (bm l)
theorem aPA (h:Nat):(Nat.shiftLeft 1 h).testBit h=true:=by
 show (1<<<h).testBit h=true;rw[Nat.testBit_shiftLeft];simp
theorem aM8 {h j:Nat}(e:(Nat.shiftLeft 1 h).testBit j=true):j=h:=by
 have e:(1<<<h).testBit j=true:=e;rw[Nat.one_shiftLeft,Nat.testBit_two_pow] at e;simpa using (of_decide_eq_true e).symm
theorem aB6 (a b j:Nat):(Nat.lor a b).testBit j=(a.testBit j || b.testBit j):=Nat.testBit_or a b j
theorem tW: ∀{l:List Nat} {h:Nat},h∈l->(bm l).testBit h=true
 | a::l,h,hm=>by
   rw[bm,aB6];rcases aEx.1 hm with rfl | q
   ·rw[aPA];rfl
   rw[tW q];simp
structure Sm where
 d:Nat
 L:Nat
 W:Nat
 T:Nat
 M:Nat
 N:Nat
 R:Nat
def tX (a b:Nat):Bool:=Nat.beq (Nat.land a b) 0
theorem aPB {a b:Nat}(h:tX a b=true){j:Nat}(ha:a.testBit j=true):b.testBit j=false:=by
 have h1:a&&&b=0:=aB1 h;have h2:=Nat.testBit_and a b j;rw[h1,Nat.zero_testBit,ha,Bool.true_and] at h2;exact h2.symm
theorem vG {a b:List Nat}{A B:Nat}(ha: ∀h∈a,A.testBit h=true)(hb: ∀h∈b,B.testBit h=true)(h:tX A B=true):yJ a b=true:=by
 rw[yJ,aDW];intro x hx;have h1:=aPB h (ha x hx);rw[Bool.not_eq_true',List.contains_eq_mem,decide_eq_false_iff_not];intro hm;rw[hb x hm] at h1;cases h1
def rOf (acc:List Sm)(n:Nat):List Edge->Nat
 | []=>0
 | e::es=>(match Region.binds .any e with
   | true=>Nat.lor (Nat.shiftLeft 1 e.on) (Nat.lor (match acc[n - 1 - e.on]? with | some s=>s.R | none=>0) (rOf acc n es))
   | false=>rOf acc n es)
def aPC (y:Sm):Nat->List Sm->Bool
 | k+1,x::l=>(match tX y.R (Nat.shiftLeft 1 k) with
  | false=>true
  | true=>tX x.d (Nat.lor y.L y.d)&&tX y.d x.L&&tX x.W (Nat.lor y.T y.W)&&tX y.W x.T&&tX x.N y.M)&&tX y.N x.M&&aPC y k l
 | _,_=>true
def aR9 (n:Nat)(y:fP):Bool:=(y.o.after.toList.all fun e=> !Region.binds .any e || Nat.blt e.on n)&&(y.skip || y.e.new.all fun q=> !y.e.del.contains q.1 || (aR y.vr q.1).isSome)
def aJU (ops:Array Oper):Nat->List Sm->List fP->Bool
 | _,_,[]=>true
 | n,acc,y::l=>aR9 n y&&frc (bm y.o.dst.toList) fun d=>frc (bm (y.looks ops)) fun L=>frc (bm y.W) fun W=>frc (bm y.T) fun T=>frc (Nat.lor (bm y.M) W) fun M=>frc (bm y.Nw) fun N=>frc (rOf acc n y.o.after.toList) fun R=>
  aPC ⟨d,L,W,T,M,N,R⟩ n acc&&aJU ops (n+1) (⟨d,L,W,T,M,N,R⟩::acc) l
structure aRa (ops:Array Oper) (s:Sm) (x:fP):Prop where
 d: ∀h∈x.o.dst.toList,s.d.testBit h=true
 L: ∀h∈x.looks ops,s.L.testBit h=true
 W: ∀h∈x.W,s.W.testBit h=true
 T: ∀h∈x.T,s.T.testBit h=true
 M: ∀h∈x.M++x.W,s.M.testBit h=true
 N: ∀h∈x.Nw,s.N.testBit h=true
 R: ∀j,s.R.testBit j=true->oF ops (x.i+1) j x.o.after=true
theorem wW {ops:Array Oper}: ∀{n m x:Nat} {es:Array Edge},n<=m->oF ops n x es=true->oF ops m x es=true
 | 0,_,_,_,_,h=>by simp[oF] at h
 | n+1,0,_,_,hm,_=>by omega
 | n+1,m+1,x,es,hm,h=>by
   rw[oF,Array.any_eq_true] at h ⊢;obtain⟨i,hi,h⟩:=h;refine⟨i,hi,?_⟩;rw[aA1,Bool.or_eq_true] at h ⊢;refine⟨h.1,h.2.imp id fun h=>?_⟩;split at h
   ·exact wW (by omega) h
   cases h
theorem aFO {acc:List Sm}{n j:Nat}: ∀{es:List Edge},(rOf acc n es).testBit j=true-> ∃e∈es,Region.binds .any e=true/\(e.on=j\/ ∃s,acc[n - 1 - e.on]? =some s/\s.R.testBit j=true)
 | [],h=>by simp[rOf] at h
 | e::es,h=>by
   rw[rOf] at h;split at h
   ·rename_i hb;rw[aB6,aB6,Bool.or_eq_true,Bool.or_eq_true] at h;rcases h with h | h | h
    ·exact⟨e,by simp,hb,.inl (aM8 h).symm⟩
    ·split at h
     ·rename_i s hs;exact⟨e,by simp,hb,.inr ⟨s,hs,h⟩⟩
     simp at h
    obtain⟨e',he,h⟩:=aFO h;exact⟨e',by simp[he],h⟩
   obtain⟨e',he,h⟩:=aFO h;exact⟨e',by simp[he],h⟩
theorem aJV {y:Sm}: ∀{k:Nat} {l:List Sm},k=l.length->aPC y k l=true-> ∀j x,j<k->l[k - 1 - j]? =some x->((tX y.R (Nat.shiftLeft 1 j)=false)\/(tX x.d (Nat.lor y.L y.d)=true/\tX y.d x.L=true/\tX x.W (Nat.lor y.T y.W)=true/\tX y.W x.T=true/\tX x.N y.M=true))/\tX y.N x.M=true
 | 0,l,_,_,j,x,hj,_=>by omega
 | k+1,[],hk,_,_,_,_,_=>by simp at hk
 | k+1,z::l,hk,h,j,x,hj,hx=>by
   rw[aPC,aA1,aA1] at h;obtain⟨⟨h1,h2⟩,h3⟩:=h;by_cases e:j=k
   ·subst e;rw[show j+1 - 1 - j=0 by omega] at hx;simp only[List.getElem?_cons_zero,Option.some.injEq] at hx;subst hx;refine⟨?_,h2⟩;split at h1
    ·rename_i q;exact .inl q
    simp only[aA1] at h1;exact .inr ⟨h1.1.1.1.1,h1.1.1.1.2,h1.1.1.2,h1.1.2,h1.2⟩
   rw[show k+1 - 1 - j=(k - 1 - j)+1 by omega,List.getElem?_cons_succ] at hx;exact aJV (by simpa using hk) h3 j x (by omega) hx
def aM9 (y:fP):Prop:=(y.o.after.all (fun e=> !Region.binds .any e || decide (e.on<y.i))&&(y.skip || y.e.new.all fun q=> !y.e.del.contains q.1 || (aR y.vr q.1).isSome))=true
theorem aGb {ops:Array Oper}: ∀{l:List fP},l.Pairwise (fun x y=>x.i<y.i/\tI ops x y=true)->(∀y∈l,aM9 y)->oG ops l=true
 | [],_,_=>rfl
 | x::l,h,ho=>by
   obtain⟨h1,h2⟩:=List.pairwise_cons.1 h;have h3:=ho x (by simp);rw[aM9,aA1] at h3;rw[oG,aGb h2 fun y hy=>ho y (by simp[hy]),h3.1,h3.2,Bool.and_true,Bool.and_true,Bool.and_true,aDW];intro y hy;rw[(h1 y hy).2,decide_eq_true (h1 y hy).1];rfl
theorem aQv {A B:Nat}{l m:List Nat}(h1: ∀h∈l,A.testBit h=true)(h2: ∀h∈m,B.testBit h=true): ∀h∈l++m,(Nat.lor A B).testBit h=true:=fun h hm=>by
 rw[aB6,Bool.or_eq_true];rcases aD5.1 hm with q | q
 ·exact .inl (h1 h q)
 exact .inr (h2 h q)
theorem aJW {ops:Array Oper}: ∀(l done:List fP) (acc:List Sm),acc.length=done.length->(∀k x,done[k]? =some x->x.i=k/\ ∃s,acc[done.length - 1 - k]? =some s/\aRa ops s x)->(∀k x,l[k]? =some x->x.i=done.length+k)->(∀x∈done++l,ops[x.i]? =some x.o)->done.length+l.length<=ops.size->aJU ops done.length acc l=true->
 (∀y∈l,aM9 y)/\(∀x∈done,∀y∈l,x.i<y.i/\tI ops x y=true)/\l.Pairwise (fun x y=>x.i<y.i/\tI ops x y=true)
 | [],done,acc,_,_,_,_,_,_=>⟨by simp,by simp,List.Pairwise.nil⟩
 | y::l,done,acc,hal,hd,hl,ho,hs,h=>by
   rw[aJU] at h;simp only[aQu] at h;rw[aA1,aA1] at h;obtain⟨hown,hall,hrest⟩:=h;have hyi:y.i=done.length:=by have:=hl 0 y rfl;omega
   rw[aR9,aA1] at hown;have hafter:=aDW.1 hown.1
   have hsm:aRa ops ⟨bm y.o.dst.toList,bm (y.looks ops),bm y.W,bm y.T,Nat.lor (bm y.M) (bm y.W),bm y.Nw,rOf acc done.length y.o.after.toList⟩ y:=by
    refine⟨fun h hm=>tW hm,fun h hm=>tW hm,fun h hm=>tW hm,fun h hm=>tW hm,aQv (fun h hm=>tW hm) (fun h hm=>tW hm),fun h hm=>tW hm,fun j hj=>?_⟩;obtain⟨e,he,hb,hq⟩:=aFO hj
    have hlt:e.on<done.length:=by
     have:=hafter e he;rw[hb] at this;simpa [Nat.blt_eq] using this
    rw[hyi,oF,Array.any_eq_true];obtain⟨i,hi,hie⟩:=List.mem_iff_getElem.1 he;refine⟨i,by simpa using hi,?_⟩;rw[show y.o.after[i]'(by simpa using hi)=e by simpa using hie,hb,Bool.true_and,Bool.or_eq_true];rcases hq with q | ⟨s,hs1,hs2⟩
    ·left;rw[q];exact Nat.beq_refl j
    right;have hx:done[e.on]? =some (done[e.on]'hlt):=aBM hlt;obtain⟨x1,s',x2,x3⟩:=hd e.on _ hx;rw[x2] at hs1;injection hs1 with hs1
    subst hs1;have h4:=x3.R j hs2;rw[x1] at h4;have h5:=ho (done[e.on]'hlt) (aD9 _ (aL5 hlt));rw[x1] at h5;rw[h5];exact wW (by omega) h4
   have hpair: ∀x∈done,x.i<y.i/\tI ops x y=true:=fun x hx=>by
    obtain⟨k,hk,hkx⟩:=List.mem_iff_getElem.1 hx;obtain⟨x1,s,x2,x3⟩:=hd k x (by rw[aBM hk,hkx]);refine⟨by omega,?_⟩;have h1:=aJV hal.symm hall k s hk x2;rw[tI,aA1];refine⟨?_,vG hsm.N x3.M h1.2⟩;rw[Bool.or_eq_true];rcases h1.1 with q | ⟨q1,q2,q3,q4,q5⟩
    ·left
     have hbit:(rOf acc done.length y.o.after.toList).testBit k=true:=by
      cases hb:(rOf acc done.length y.o.after.toList).testBit k with
      | true=>rfl
      | false=>
        exfalso
        have hz:(rOf acc done.length y.o.after.toList)&&&(1<<<k)=0:=by
         apply Nat.eq_of_testBit_eq;intro j;rw[Nat.testBit_and,Nat.zero_testBit];by_cases e:j=k
         ·subst e;rw[hb];rfl
         rw[Nat.one_shiftLeft,Nat.testBit_two_pow,decide_eq_false (fun q=>e q.symm),Bool.and_false]
        have:tX (rOf acc done.length y.o.after.toList) (Nat.shiftLeft 1 k)=true:=by
         show Nat.beq ((rOf acc done.length y.o.after.toList)&&&(1<<<k)) 0=true;rw[hz];rfl
        rw[this] at q;cases q
     have:=hsm.R k hbit;rw[aFG,x1];simp only[aFt] at hs;exact wW (by omega) this
    right;rw[aA1,aCF];simp only[aA1];exact⟨⟨⟨⟨vG x3.d (aQv hsm.L hsm.d) q1,vG hsm.d x3.L q2⟩,vG x3.W (aQv hsm.T hsm.W) q3⟩,vG hsm.W x3.T q4⟩,vG x3.N hsm.M q5⟩
   have hownP:aM9 y:=by
    rw[aM9,aA1];refine⟨?_,hown.2⟩;rw[<-Array.all_toList,aDW];intro e he;have:=hafter e he;rw[hyi]
    rwa [show Nat.blt e.on done.length=decide (e.on<done.length) from Bool.eq_iff_iff.2 (by rw[Nat.blt_eq,aH9])] at this
   have hlen:(done++[y]).length=done.length+1:=by simp
   have ih:=aJW (ops:=ops) l (done++[y]) (_::acc) (by simp[hal]) (fun k x hk=>by
    by_cases e:k=done.length
    ·subst e;rw[aEc (aHF _),Nat.sub_self] at hk;simp only[List.getElem?_cons_zero,Option.some.injEq] at hk;subst hk;exact⟨hyi,_,by rw[hlen,show done.length+1 - 1 - done.length=0 by omega];rfl,hsm⟩
    ·have hk' :k<done.length:=by
      have:=(aBa.1 hk).1;omega
     rw[aH1 hk'] at hk;obtain⟨x1,s,x2,x3⟩:=hd k x hk;exact⟨x1,s,by rw[hlen,show done.length+1 - 1 - k=(done.length - 1 - k)+1 by omega,List.getElem?_cons_succ];exact x2,x3⟩)
    (fun k x hk=>by have:=hl (k+1) x (by simpa using hk);rw[hlen];omega) (fun x hx=>ho x (by simpa using hx)) (by simp only[aFt] at hs;rw[hlen];omega) (by rw[hlen];exact hrest)
   obtain⟨i1,i2,i3⟩:=ih;refine⟨fun z hz=>?_,fun x hx z hz=>?_,List.pairwise_cons.2 ⟨fun z hz=>i2 y (by simp) z hz,i3⟩⟩
   ·rcases aEx.1 hz with rfl | q
    ·exact hownP
    exact i1 z q
   rcases aEx.1 hz with rfl | q
   ·exact hpair x hx
   exact i2 x (by simp[hx]) z q
theorem aGc {P:Program}{N:Nat}{ops:Array Oper}{K:St->Prop}: ∀{l:List fP} {S:St},wR P N ops l S K-> ∀x∈l,ops[x.i]? =some x.o
 | [],_,_,x,hx=>by simp at hx
 | r::l,S,h,x,hx=>by
   obtain⟨h1,h2⟩:=h;rcases aEx.1 hx with rfl | q
   ·exact h1.1
   exact aGc h2 x q
def aQw (all:Array Oper)(sl:Sl)(rs:Rl)(recs:List fP):Bool:=aJU all 0 [] recs&&recs.all fun r=>r.Nw.all fun k=>fD sl rs k
theorem aK5 {P:Program}{N:Nat}{id:Nat}{l:List Oper}{sl:Sl}{rs:Rl}{Q:Exit->St->Prop}(hm:P.follows .mixedOrders=true)(h:mZ P N l.toArray 0 l sl rs [] (fun S recs=>aQw l.toArray sl rs recs=true/\Q .normal S)):VC P N (.region id l.toArray true) (mk sl rs) Q:=by
 intro A w0 a w hG;obtain⟨recs,S',h1,⟨h2,h3⟩,h4⟩:=vD l 0 sl rs [] h;simp only[List.reverse_nil,aKt] at h2;unfold aQw at h2;rw[aA1,aDW] at h2
 have hmem: ∀i,(∃r∈recs,r.i=i)↔i<l.length:=fun i=>by
  have:(∃r∈recs,r.i=i)↔i∈recs.map (·.i):=by simp
  rw[this,h4];simp[List.mem_range']
 have hsz:l.toArray.size=l.length:=by simp
 have hlen:recs.length=l.length:=by have:=congrArg List.length h4;simpa using this
 have hlk:oG l.toArray recs=true:=by
  obtain⟨q1,_,q3⟩:=aJW recs [] [] rfl (fun k x hk=>by simp at hk) (fun k x hk=>by
   have h5:(recs.map (·.i))[k]? =some x.i:=by rw[aL2,hk];rfl
   rw[h4] at h5;have:=(aBa.1 h5).2;simp only[List.getElem_range'] at this;simp only[List.length_nil];omega) (fun x hx=>aGc h1 x (by simpa using hx)) (by simp[hlen]) h2.1
  exact aGb q3 q1
 refine wp_region_any hm (aKU (Kn:=fun S=>S=S') (fun S a w hS hG=>⟨S,hG,by rw[hS];exact h3⟩) _ recs _ (mk sl rs) a _ (by rw[hsz,<-aA0 (f:=fun r:fP=>r.i),h4];simp) h1 hlk (fun i hi=>?_) (fun i hi=>?_) (fun r hr=>?_) (fun r hr k hk=>eA (aDW.1 (h2.2 r hr) k hk)) (fun i o hi _ hl' =>by exfalso;rw[hsz] at hi;rw[Array.getD_eq_getD_getElem?] at hl';simp[hi] at hl') hG.drew)
 ·rw[hmem];rw[hsz] at hi;simp[hi]
 ·rw[hsz] at hi;simp[hi]
 rw[hsz];exact(hmem r.i).1 ⟨r,hr,rfl⟩
theorem VC.ghost {P:Program}{N:Nat}{c:Code}{S S' :St}{Q:Exit->St->Prop}(h:VC P N c S' Q)(hg: ∀A w0 N a w,qK A w0 N S a w->qK A w0 N S' a w):VC P N c S Q:=fun A w0 a w hG=>h A w0 a w (hg A w0 N a w hG)
section
variable (P:Program) (tb:Tb) (N:Nat)
def wpC:Code->Sl->Rl->Sl->Rl->T->(Exit->Sl->Rl->T->Prop)->Prop
 | .skip,_,_,pre,prr,t,K=>K .normal pre prr t
 | .ret,_,_,pre,prr,t,K=>K .ret pre prr t
 | .exit id,_,_,pre,prr,t,K=>K (.exit id) pre prr t
 | .region id ops draw,bs,br,pre,prr,t,K=>gsW id (pre++bs) (prr++br) t fun n1 n2 t=>ghW id ((n1++pre)++bs) ((n2++prr)++br) t fun new t=>(match ops with
   | ⟨l⟩=>(match draw with
     | false=>aIC P tb N l bs br l (n1++pre) (new++(n2++prr)) t (fun pre prr t=>K .normal pre prr t)
     | true=>yR P tb N l bs br 0 l (n1++pre) (new++(n2++prr)) [] t (fun pre' prr' acc t=>(match aQw l.toArray ((n1++pre)++bs) ((new++(n2++prr))++br) acc.reverse with
       | true=>K .normal pre' prr' t
       | false=>False))))
 | .seq a b,bs,br,pre,prr,t,K=>wpC a bs br pre prr t (fun e pre prr t=>(match e with
   | .normal=>wpC b bs br pre prr t K
   | e=>K e pre prr t))
 | .cond c x y,bs,br,pre,prr,t,K=>aQt (pre++bs) c t (fun s b t=>(match b with
   | true=>wpC x bs br (lB pre s true) prr t K
   | false=>wpC y bs br (lB pre s false) prr t K))
 | .block id c,bs,br,pre,prr,t,K=>wpC c bs br pre prr t (fun e pre prr t=>(match e with
   | .exit id' =>(match Nat.beq id' id with | true=>K .normal pre prr t | false=>K (.exit id') pre prr t)
   | e=>K e pre prr t))
 | .loop c,bs,br,pre,prr,t,K=>(match t with
   | .loop _ q W V osl ors inv m t=>
     (q.ex 0 fun y=>(match aJR W V (gmF (aM7 (prr++br) (ors y)) ((ors y).map (·.1))) [] [] (nF W++(pre++bs)) (kA V++(prr++br)) (ors y) with | true=>EqS (pre++bs) (gmF (aM7 (prr++br) (ors y)) ((ors y).map (·.1))) (osl y) (aDo (prr++br) (gmF (aM7 (prr++br) (ors y)) ((ors y).map (·.1))) (ors y) (inv y)) | false=>False))/\
     q.all fun x=>inv x->wpC c (nF W++(pre++bs)) (kA V++(prr++br)) (osl x) (ors x) (t x) (fun e pre' prr' t' =>(match e with
      | .normal=>(match t' with
        | .back ren n=>q.ex n fun y=>(match aJR W V (gmF ren ((ors y).map (·.1))) pre' prr' (nF W++(pre++bs)) (kA V++(prr++br)) (ors y) with
          | true=>EqS (pre' ++(nF W++(pre++bs))) (gmF ren ((ors y).map (·.1))) (osl y) (aDo (prr' ++(kA V++(prr++br))) (gmF ren ((ors y).map (·.1))) (ors y) (inv y/\m y<m x))
          | false=>False)
        | _=>False)
      | e=>K e (pre' ++(nF W++pre)) (prr' ++(kA V++prr)) t'))
   | _=>False)
 | _,_,_,_,_,_,_=>False
end
section
variable {P:Program} {tb:Tb} {N:Nat}
open Classical in
theorem aMa {S:St}{Q:Exit->St->Prop}{c:Code}(I:Nat->St->Prop)(n:Nat)(h0:I n S)(round: ∀n S,I n S->VC P N c S (aPn (fun S' => ∃m S'',m<n/\(∀A w0 a w,qK A w0 N S' a w->qK A w0 N S'' a w)/\I m S'') Q)):VC P N (.loop c) S Q:=fun A w0 a w hG=>by
 let J:Act->World->Nat->Prop:=fun a w n=> ∃S,I n S/\qK A w0 N S a w
 refine wp_loop (fun a w=> ∃n,J a w n) (fun a w=>if h: ∃n,J a w n then Classical.choose (wP _ h) else 0) ⟨n,S,h0,hG⟩ fun a w hI=>?_;have hmin:=Classical.choose_spec (wP _ hI);obtain⟨⟨S1,hI1,hG1⟩,_⟩:=hmin;refine Code.wp_mono (fun e a' w' ⟨S',h1,h2⟩=>?_) (round _ S1 hI1 A w0 a w hG1);cases e with
 | normal=>
   obtain⟨m,S'',hm,hl,hI2⟩:=h2;have hex: ∃n,J a' w' n:=⟨m,S'',hI2,hl A w0 a' w' h1⟩;refine⟨hex,?_⟩;simp only[dif_pos hI,dif_pos hex];exact Nat.lt_of_le_of_lt ((Classical.choose_spec (wP _ hex)).2 m ⟨S'',hI2,hl A w0 a' w' h1⟩) hm
 | _=>exact⟨S',h1,h2⟩
theorem tY (hT:iU P tb)(hm:P.follows .mixedOrders=true): ∀(c:Code) (bs:Sl) (br:Rl) (pre:Sl) (prr:Rl) (t:T) (K:Exit->Sl->Rl->T->Prop),wpC P tb N c bs br pre prr t K->VC P N c (mk (pre++bs) (prr++br)) (fun e S=> ∃pre' prr' t',S=mk (pre' ++bs) (prr' ++br)/\K e pre' prr' t')
 | .skip,bs,br,pre,prr,t,K,h=>aOS ⟨pre,prr,t,rfl,h⟩
 | .ret,bs,br,pre,prr,t,K,h=>aQK ⟨pre,prr,t,rfl,h⟩
 | .exit id,bs,br,pre,prr,t,K,h=>aOT ⟨pre,prr,t,rfl,h⟩
 | .region id ops draw,bs,br,pre,prr,t,K,h=>by
   obtain⟨l⟩:=ops;simp only[wpC] at h;obtain⟨n1,n2,t,hst,h⟩:=aQq h;rw[<-aE2,<-aE2] at hst;refine(?_:VC P N (.region id l.toArray draw) (mk ((n1++pre)++bs) ((n2++prr)++br)) _).ghost hst;generalize n1++pre=pre at h ⊢;generalize n2++prr=prr at h ⊢;obtain⟨new,t,hgh,h⟩:=aQr h;rw[<-aE2] at hgh;refine(?_:VC P N (.region id l.toArray draw) (mk (pre++bs) ((new++prr)++br)) _).ghost hgh;cases draw with
   | false=>
     dsimp only at h
     exact aQ0 (aB4 hT l pre (new++prr) t h)
   | true=>
     dsimp only at h
     refine aK5 hm ?_;have:=aG9 hT (all:=l) l [] pre (new++prr) [] t rfl h;refine nZ ?_ l 0 _ _ _ this;rintro S recs ⟨pre',prr',acc',t',e1,e2,h⟩;split at h
     ·rename_i hk;exact⟨by rw[e2];exact hk,pre',prr',t',e1,h⟩
     cases h
 | .seq a b,bs,br,pre,prr,t,K,h=>by
   simp only[wpC] at h;refine aQL fun Kn hKn=>aFF (tY hT hm a bs br pre prr t _ h) ?_;rintro e S ⟨pre',prr',t',rfl,h⟩;cases e with
   | normal=>exact hKn _ (tY hT hm b bs br pre' prr' t' K h)
   | _=>exact⟨pre',prr',t',rfl,h⟩
 | .cond c x y,bs,br,pre,prr,t,K,h=>by
   simp only[wpC] at h;obtain⟨s,b,t',h1,h2,h⟩:=aOz (rs:=prr++br) h;refine aOU h1 (fun e=>?_) (fun e=>?_)
   ·subst e;rw[<-h2,mE];exact tY hT hm x bs br _ prr t' K h
   subst e;rw[<-h2,mE];exact tY hT hm y bs br _ prr t' K h
 | .block id c,bs,br,pre,prr,t,K,h=>by
   simp only[wpC] at h;refine aLe (aFF (tY hT hm c bs br pre prr t _ h) ?_);rintro e S ⟨pre',prr',t',rfl,h⟩;cases e with
   | exit id' =>
     simp only[aHl]
     dsimp only at h
     split at h
     ·rename_i e;rw[if_pos (aB1 e)];exact⟨pre',prr',t',rfl,h⟩
     rename_i e;rw[if_neg (fun e' =>by rw[e',Nat.beq_refl] at e;cases e)];exact⟨pre',prr',t',rfl,h⟩
   | _=>exact⟨pre',prr',t',rfl,h⟩
 | .loop c,bs,br,pre,prr,t,K,h=>by
   simp only[wpC] at h;split at h
   ·rename_i τ q W V osl ors inv m t;obtain⟨hi,hr⟩:=h;obtain⟨y,hi⟩:=q.h2 _ _ hi;have hr:=q.h1 _ hr;split at hi
    ·rename_i hk;obtain⟨i1,i2⟩:=aIE hi;obtain⟨i3,i4⟩:=aFN i2;obtain⟨g0,_,_,g3,g4,g5⟩:=aJT hk;refine fun A w0 a w hG=>?_;refine(?_:VC P N (.loop c) (mk (osl y++(nF W++(pre++bs))) (ors y++(kA V++(prr++br)))) _) A w0 a w (aGa g0 g3 g4 g5 (fun t ht=>by rw[aCY,if_neg ht]) (fun h hh=>by rw[wV,if_neg hh]) i1 i3 hG);refine aMa (fun n S=> ∃x,S=mk (osl x++(nF W++(pre++bs))) (ors x++(kA V++(prr++br)))/\n=m x/\inv x) (m y) ⟨y,rfl,rfl,i4⟩ ?_;rintro n S ⟨x,rfl,rfl,hx⟩;refine aFF (tY hT hm c _ _ _ _ _ _ (hr x hx)) ?_;rintro e S ⟨pre',prr',t',rfl,h⟩;cases e with
     | normal=>
       dsimp only at h
       split at h
       ·rename_i ren;obtain⟨y,h⟩:=q.h2 _ _ h;split at h
        ·rename_i hk2;obtain⟨j1,j2⟩:=aIE h;obtain⟨j3,j4,j5⟩:=aFN j2;obtain⟨g0,g1,g2,g3,g4,g5⟩:=aJT hk2;refine⟨m y,_,j5,fun A w0 a w hG=>aGa g0 g3 g4 g5 (fun t ht=>?_) (fun h hh=>?_) j1 j3 hG,y,rfl,rfl,j4⟩
         ·rcases aE1 (o:=pre') (b:=nF W++(pre++bs)) (t:=t) with ⟨x,q1,_⟩ | ⟨_,q2⟩
          ·exact absurd (g1 _ q1) ht
          exact q2
         rcases aAP (o:=prr') (b:=kA V++(prr++br)) (t:=h) with ⟨x,q1,_⟩ | ⟨_,q2⟩
         ·exact absurd (g2 _ q1) hh
         exact q2
        cases h
       cases h
     | _=>exact⟨_,_,_,by simp only[aE2],h⟩
    cases hi
   cases h
 | .rangeFunc _ _ _ _,bs,br,pre,prr,t,K,h=>by simp only[wpC] at h
 | .scope _,bs,br,pre,prr,t,K,h=>by simp only[wpC] at h
 | .label _,bs,br,pre,prr,t,K,h=>by simp only[wpC] at h
 | .goto _,bs,br,pre,prr,t,K,h=>by simp only[wpC] at h
 | .refuse _,bs,br,pre,prr,t,K,h=>by simp only[wpC] at h
end
def aK6 (tb:Tb)(sl:Sl)(rs:Rl):List ResultVar->Option (List AV)
 | []=>some []
 | r::l=>(match (match r with
  | .tmp t=>some (bM sl t)
  | .cell t ty=>(match bM sl t with
    | .ptr h 0=>(match aR rs h with
      | some (.box _ cs)=>(match cA tb.ty ty with
        | some (true,n,_,_)=>(match Nat.beq n cs.length with | true=>some (.agg cs) | false=>none)
        | some (false,_,_,_)=>cs[0]?
        | none=>none)
      | _=>none)
    | _=>none)) with
   | some x=>(match aK6 tb sl rs l with | some xs=>some (x::xs) | none=>none)
   | none=>none)
mutual
def wX (ren:List (Nat × Nat)):AV->AV->Prop->Prop
 | .nil,y,K=>(match y with | .nil=>K | .own h=>(match cA ren h with | none=>K | some _=>False) | .p none (.sl _ _ xs)=>[]=xs/\K | _=>False)
 | .own g,y,K=>(match y with | .own h=>(match cA ren h with | some g' =>EqN g g' K | none=>False) | _=>False)
 | .p none x,y,K=>(match y with | .p none x' =>EqD x x' /\K | _=>False)
 | .agg cs,y,K=>(match y with | .agg cs' =>aK7 ren cs cs' K | _=>False)
 | .tup cs,y,K=>(match y with | .tup cs' =>aK7 ren cs cs' K | _=>False)
 | _,_,_=>False
def aK7 (ren:List (Nat × Nat)):List AV->List AV->Prop->Prop
 | [],ys,K=>(match ys with | []=>K | _=>False)
 | x::xs,ys,K=>(match ys with | y::ys=>wX ren x y (aK7 ren xs ys K) | []=>False)
end
def rrW (rs:Rl)(ren:List (Nat × Nat)):List (Nat × Rs)->Prop
 | []=>True
 | (h,r)::l=>(match cA ren h with
   | some g=>(match aR rs g with | some r' =>EqR r' r (rrW rs ren l) | none=>False)
   | none=>(match r with | .arr _ _ _ xs=>[]=xs/\rrW rs ren l | _=>False))
def aQx (tb:Tb)(res:List ResultVar)(rv:AV)(rr:List (Nat × Rs))(e:Exit)(sl:Sl)(rs:Rl)(t:T):Prop:=
 (match (match e with | .normal=>true | .ret=>true | _=>false) with
 | true=>(match t with
   | .fin ren=>(match aK6 tb sl rs res with
     | some xs=>(match jP (ren.map (·.2))&&jP (rr.map (·.1))&&(rr.all fun q=>aBu q.2)&&((bV rv).all fun h=>(aS rr h).isSome) with
       | true=>wX ren (aEF xs) rv (rrW rs ren rr)
       | false=>False)
     | none=>False)
   | _=>False)
 | false=>False)
theorem aFP {P:Program}{tb:Tb}(hT:iU P tb){sl:Sl}{rs:Rl}: ∀{l:List ResultVar} {xs:List AV},aK6 tb sl rs l=some xs->aLi P (mk sl rs) l xs
 | [],xs,h=>by simp only[aK6,Option.some.injEq] at h;subst h;exact rfl
 | r::l,xs,h=>by
   unfold aK6 at h;split at h
   ·rename_i x hx;split at h
    ·rename_i xs' hxs;injection h with h
     subst h;refine⟨x,xs',rfl,?_,aFP hT hxs⟩;cases r with
     | tmp t=>dsimp only at hx;injection hx with hx;subst hx;rfl
     | cell t ty=>
       dsimp only at hx
       split at hx
       ·rename_i hh hs;split at hx
        ·rename_i tq cs hr;split at hx
         ·rename_i n bt z hq;split at hx
          ·rename_i hn;injection hx with hx
           subst hx;exact⟨_,_,_,_,_,_,_,hs,hr,cC hT.ty hq,.inl ⟨rfl,aB1 hn,rfl⟩⟩
          cases hx
         ·rename_i n bt z hq;exact⟨_,_,_,_,_,_,_,hs,hr,cC hT.ty hq,.inr ⟨rfl,hx⟩⟩
         cases hx
        cases hx
       cases hx
    cases h
   cases h
mutual
theorem aJX {ren:List (Nat × Nat)}{K:Nat->Prop}{φ φ' :fR}{w:World}(h1: ∀h g pl,cA ren h=some g->φ' h=some pl->φ g=some pl)(h2: ∀h pl,cA ren h=none->φ' h=some pl->pl=gB): ∀(x y:AV) (Q:Prop) (v:Value),wX ren x y Q->aB K φ w x v->aB K φ' w y v/\Q
 | .nil,y,Q,v,h,hm=>by
   unfold wX at h;unfold aB at hm;split at h
   ·exact⟨by unfold aB;exact hm,h⟩
   ·split at h
    ·rename_i hl;refine⟨?_,h⟩;unfold aB;intro pl hp;rw[h2 _ pl hl hp,hm];rfl
    cases h
   ·refine⟨?_,h.2⟩;unfold aB;rw[hm,<-h.1];exact pE
   cases h
 | .own g,y,Q,v,h,hm=>by
   unfold wX at h;unfold aB at hm;split at h
   ·split at h
    ·rename_i g' hl;obtain⟨e,hQ⟩:=h.eq;subst e;refine⟨?_,hQ⟩;unfold aB;intro pl hp;exact hm pl (h1 _ _ pl hl hp)
    cases h
   cases h
 | .p none x,y,Q,v,h,hm=>by
   unfold wX at h;split at h
   ·refine⟨?_,h.2⟩;unfold aB at*;rw[<-h.1.eq];exact hm
   cases h
 | .p (some _) x,y,Q,v,h,hm=>by unfold wX at h;cases h
 | .agg cs,y,Q,v,h,hm=>by
   unfold wX at h;unfold aB at hm;obtain⟨vs,rfl,q1,q2⟩:=hm;split at h
   ·obtain⟨q3,q4⟩:=aFQ h1 h2 cs _ Q _ h q2;refine⟨?_,q4⟩;unfold aB;exact⟨vs,rfl,q1,q3⟩
   cases h
 | .tup cs,y,Q,v,h,hm=>by
   unfold wX at h;unfold aB at hm;obtain⟨vs,rfl,q2⟩:=hm;split at h
   ·obtain⟨q3,q4⟩:=aFQ h1 h2 cs _ Q _ h q2;refine⟨?_,q4⟩;unfold aB;exact⟨vs,rfl,q3⟩
   cases h
 | .ptr _ _,y,Q,v,h,hm=>by unfold wX at h;cases h
 | .ep _ _ _ _,y,Q,v,h,hm=>by unfold wX at h;cases h
 | .rp _ _,y,Q,v,h,hm=>by unfold wX at h;cases h
 | .fn _ _,y,Q,v,h,hm=>by unfold wX at h;cases h
 | .bsl _ _,y,Q,v,h,hm=>by unfold wX at h;cases h
 | .no,y,Q,v,h,hm=>by unfold wX at h;cases h
theorem aFQ {ren:List (Nat × Nat)}{K:Nat->Prop}{φ φ' :fR}{w:World}(h1: ∀h g pl,cA ren h=some g->φ' h=some pl->φ g=some pl)(h2: ∀h pl,cA ren h=none->φ' h=some pl->pl=gB): ∀(xs ys:List AV) (Q:Prop) (vs:List Value),aK7 ren xs ys Q->aG K φ w xs vs->aG K φ' w ys vs/\Q
 | [],ys,Q,vs,h,hm=>by
   unfold aK7 at h;split at h
   ·unfold aG at*;exact⟨hm,h⟩
   cases h
 | x::xs,ys,Q,vs,h,hm=>by
   unfold aK7 at h;unfold aG at hm;obtain⟨v,vs',rfl,q1,q2⟩:=hm;split at h
   ·obtain⟨q3,q4⟩:=aJX h1 h2 x _ _ v h q1;obtain⟨q5,q6⟩:=aFQ h1 h2 xs _ Q vs' q4 q2;refine⟨?_,q6⟩;unfold aG;exact⟨v,vs',rfl,q5 |>fun _=>q3,q5⟩
   cases h
end
theorem aIF {rs:Rl}{ren:List (Nat × Nat)}: ∀{l:List (Nat × Rs)},rrW rs ren l-> ∀h r,aS l h=some r->(∀g,cA ren h=some g->aR rs g=some r)/\(cA ren h=none-> ∃e k d,r= .arr e k d [])
 | [],_,h,r,e=>by simp[aS] at e
 | (k,r0)::l,hw,h,r,e=>by
   unfold rrW at hw;simp only[aS] at e;split at hw
   ·rename_i g hg;split at hw
    ·rename_i r' hr';obtain⟨e1,hw⟩:=hw.eq;split at e
     ·rename_i ek;subst ek;injection e with e
      subst e;exact⟨fun g' hg' =>by rw[hg] at hg';injection hg' with hg';subst hg';rw[hr',e1],fun hn=>by rw[hg] at hn;cases hn⟩
     exact aIF hw h r e
    cases hw
   rename_i hg;split at hw
   ·obtain⟨e1,hw⟩:=hw;split at e
    ·rename_i ek;subst ek;injection e with e
     subst e;exact⟨fun g' hg' =>(by rw[hg] at hg';cases hg'),fun _=>⟨_,_,_,by rw[<-e1]⟩⟩
    exact aIF hw h r e
   cases hw
def aQy:bF->Prop->Prop
 | .sl _ _ xs,K=>xs.length<=9223372036854775807->K
 | _,K=>K
def aPD:List bF->Prop->Prop
 | [],K=>K
 | x::xs,K=>aQy x (aPD xs K)
def aCZ:List Ar->Prop->Prop
 | [],K=>K
 | .one x::l,K=>aQy x (aCZ l K)
 | .agg xs::l,K=>aPD xs (aCZ l K)
 | .ref xs::l,K=>aPD xs (aCZ l K)
 | .fn _ _::l,K=>aCZ l K
theorem aJY {A:Nat->Prop}{w:World}{x:bF}{v:Value}{K:Prop}(h:fZ A w x v)(hk:aQy x K):K:=by
 cases x with
 | sl e k xs=>
   unfold fZ at h;obtain⟨a,c,_,h1,h2,_⟩:=h;exact hk (by unfold maxLen at h2;omega)
 | _=>exact hk
theorem aFR {A:Nat->Prop}{w:World}{K:Prop}: ∀{xs:List bF} {vs:List Value},jW A w xs vs->aPD xs K->K
 | [],_,_,hk=>hk
 | x::xs,_,⟨v,vs,_,h1,h2⟩,hk=>aFR h2 (aJY h1 hk)
theorem tZ {A:Nat->Prop}{w:World}{K:Prop}: ∀{xs:List Ar} {vs:List Value},qJ A w xs vs->aCZ xs K->K
 | [],_,_,hk=>hk
 | .one x::xs,_,⟨v,vs,_,h1,h2⟩,hk=>tZ h2 (aJY h1 hk)
 | .agg ys::xs,_,⟨v,vs,_,⟨us,_,h1⟩,h2⟩,hk=>tZ h2 (aFR h1 hk)
 | .ref ys::xs,_,⟨v,vs,_,⟨a,_,h1⟩,h2⟩,hk=>by
   obtain⟨_,_,us,_,_,hl,_⟩:=h1.vals;exact tZ h2 (aFR hl hk)
 | .fn _ _::xs,_,⟨v,vs,_,_,h2⟩,hk=>tZ h2 hk
theorem aRc {P : Program} {tb : Tb} (hT : iU P tb) (hm : P.follows .mixedOrders = true) {f : FuncId} {fn : Func} {c : Code} {args : List Ar} {rv : AV} {rr : List (Nat × Rs)} (hf : P.funcs[f]? = some fn) (hb : fn.body = some c) (hn : (fn.name == "runtime.NumGoroutine") = false) (hl : args.length ≤ fn.ntmps) (t : T)
 (h:aCZ args (wpC P tb fn.ntmps c [] [] (tJ 0 args) [] t (aQx tb fn.results.toList rv rr))):Con P f args rv rr:=by
 refine⟨by simp[iW,hf,hb,hn],fun A w vs hA hargs=>?_⟩;have h:=tZ hargs h;refine calls_of_wp hf hb ?_;have hlen:=aEG hargs;simp only[aLb] at hlen
 have hG0:qK A ⟨w,fun _=>False,fun _=>none,by simp⟩ fn.ntmps (S0 args) { tmps:=vs++Array.replicate (fn.ntmps - vs.size) undef,defers:=[] } w:=by
  refine⟨A,fun _=>none,by simp[S0],by simp[S0],by simp,by simp,by simp,fun b hb=>⟨hA b hb,.inl hb⟩,by simp,fun _ h=>h,fun t=>?_,⟨rfl,rfl,rfl,aHF _,fun _ _ _=>rfl⟩,rfl,by simp;omega,by simp⟩;simp only[S0];split
  ·rename_i x hx;obtain⟨v,hv,hr⟩:=aGI hargs hx;have ht:t<vs.size:=by have:=(aBa.1 hv).1;simpa using this
   rw[Array.getD_eq_getD_getElem?,Array.getElem?_append_left ht,<-Array.getElem?_toList,hv];exact aHn hr
  unfold aB;trivial
 have hvc:=tY hT hm c [] [] (tJ 0 args) [] t _ h;simp only[aJp] at hvc;rw[<-aR3] at hvc;refine Code.wp_mono (fun e a' w' ⟨S,⟨K,φ,hG⟩,pre,prr,t',hS,hfin⟩=>?_) (hvc A _ _ w hG0);subst hS;unfold aQx at hfin;split at hfin
 ·rename_i he;split at hfin
  ·rename_i ren;split at hfin
   ·rename_i xs hxs;split at hfin
    ·rename_i hb;simp only[aA1,aDW] at hb;obtain⟨⟨⟨b1,b2⟩,b3⟩,b4⟩:=hb;obtain⟨v,hrun,hmv⟩:=wC hG (aFP hT hxs)
     let φ' :fR:=fun h=>match aS rr h with | some _=>(match cA ren h with | some g=>φ g | none=>some gB) | none=>none
     have p1: ∀h g pl,cA ren h=some g->φ' h=some pl->φ g=some pl:=fun h g pl e e' =>by
      simp only[φ',e] at e';split at e'
      ·exact e'
      cases e'
     have p2: ∀h pl,cA ren h=none->φ' h=some pl->pl=gB:=fun h pl e e' =>by
      simp only[φ',e] at e';split at e'
      ·injection e' with e';exact e'.symm
      cases e'
     have p3: ∀h pl,φ' h=some pl->(∃g,cA ren h=some g/\φ g=some pl)\/pl=gB:=fun h pl e=>by
      cases hl:cA ren h with
      | some g=>exact .inl ⟨g,rfl,p1 h g pl hl e⟩
      | none=>exact .inr (p2 h pl hl e)
     obtain⟨m1,m2⟩:=aJX (φ' :=φ') p1 p2 _ _ _ v hfin hmv
     have hR:aPm A w rv rr (.returned v) w' :=by
      refine⟨v,K,φ',rfl,aLj hG.bel,fun b hb=>⟨(hG.kin b hb).1,(hG.kin b hb).2.imp id aJB⟩,fun b hb h pl e=>?_,fun h r hr=>?_,fun h hr=>by simp[φ',hr],fun h h' pl pl' hne e e' g hg=>?_,fun h pl e=>?_,fun h pl e=>?_,m1⟩
      ·rcases p3 h pl e with ⟨g,_,e⟩ | e
       ·exact hG.kout b hb g pl e
       rw[e];simp[gB,Pl.F]
      ·obtain⟨q1,q2⟩:=aIF m2 h r hr;cases hl:cA ren h with
       | some g=>
         obtain⟨pl,hp,hh⟩:=hG.dom g r (q1 g hl);exact⟨pl,by simp[φ',hr,hl,hp],dM.arrPhi (b3 _ (bZ hr)) hh⟩
       | none=>
         obtain⟨e,k,d,rfl⟩:=q2 hl;refine⟨gB,by simp[φ',hr,hl],?_⟩;cases d with
         | true=>exact⟨[],[],World.ownsRow_nil w' 0 e k,rfl,rfl,by unfold cH;exact⟨rfl,rfl⟩⟩
         | false=>exact⟨[],World.ownsRow_nil w' 0 e k,rfl,rfl,rfl⟩
      ·rcases p3 h pl e with ⟨q,l1,e1⟩ | e1
       ·rcases p3 h' pl' e' with ⟨q',l1',e1'⟩ | e1'
        ·exact hG.disj q q' pl pl' (fun x=>by subst x;exact hne (aCM b1 l1 l1')) e1 e1' g hg
        rw[e1'];simp[gB,Pl.F]
       rw[e1] at hg;simp[gB,Pl.F] at hg
      ·rcases p3 h pl e with ⟨g,_,e⟩ | e
       ·exact hG.nodup g pl e
       rw[e];simp[gB,Pl.F]
      rcases p3 h pl e with ⟨g,_,e⟩ | e
      ·exact fun q hq=>⟨aJB (hG.ge g pl e q hq).1,(hG.ge g pl e q hq).2⟩
      rw[e];simp[gB,Pl.F]
     cases e with
     | normal=>exact⟨hG.nd,v,hrun,hR⟩
     | ret=>exact⟨hG.nd,v,hrun,hR⟩
     | _=>cases he
    cases hfin
   cases hfin
  cases hfin
 cases hfin
def aDp (fn : Func) (n : Nat) : Bool := (!(fn.name == "runtime.NumGoroutine") && fn.body.isSome) && Nat.ble n fn.ntmps
def aJZ (P:Program)(tb:Tb)(fn:Func)(args:List Ar)(rv:AV)(rr:List (Nat × Rs))(t:T):Prop:=aCZ args (match fn.body with | some c=>wpC P tb fn.ntmps c [] [] (tJ 0 args) [] t (aQx tb fn.results.toList rv rr) | none=>False)
theorem aRd {P:Program}{tb:Tb}(hT:iU P tb)(hm:P.follows .mixedOrders=true){f:FuncId}{fn:Func}{args:List Ar}{rv:AV}{rr:List (Nat × Rs)}(hf:P.funcs[f]? =some fn)(hc:aDp fn args.length=true)(t:T)(h:aJZ P tb fn args rv rr t):Con P f args rv rr:=by
 unfold aDp at hc;rw[aA1] at hc;have hl:=aAu hc.2;cases hb:fn.body with
 | some c=>
   rw[aA1] at hc;refine aRc hT hm hf hb (by simpa using hc.1.1) hl t ?_;unfold aJZ at h;rw[hb] at h;exact h
 | none=>
   rw[hb] at hc;simp at hc
theorem aRe {P:Program}{tb:Tb}(hT:iU P tb)(hm:P.follows .mixedOrders=true){f:FuncId}{fn:Func}{args:List Ar}{rv:AV}{rr:List (Nat × Rs)}(hf:P.funcs[f]? =some fn)(hc:aDp fn args.length=true)(t:T){p:Prop}(h:aJZ P tb fn args rv rr t=p)(hp:p):Con P f args rv rr:=aRd hT hm hf hc t (Eq.mpr h hp)
theorem nt {b:Bool}(h:(!b)=true):b=false:=by cases b<;>simp_all
theorem nf {b:Bool}(h:(!b)=false):b=true:=by cases b<;>simp_all
def rrB (rs:Rl)(ren:List (Nat × Nat)):List (Nat × Rs)->Prop
 | []=>True
 | (h,r)::l=>(match cA ren h with
   | some g=>(match aR rs g with
     | some r' =>(match r with
       | .box t cs=>(match r' with | .box t' cs' =>EqN t' t (qN (cA ren) cs cs' (rrB rs ren l)) | _=>False)
       | .arr e k d xs=>EqR r' (.arr e k d xs) (rrB rs ren l)
       | .hole _ _ _ _ _ _=>False)
     | none=>False)
   | none=>(match r with | .arr _ _ _ xs=>[]=xs/\rrB rs ren l | _=>False))
def aSV (rs:Rl)(ren:List (Nat × Nat))(h:Nat)(r:Rs):Prop:=
 (∀g,cA ren h=some g-> ∃r',aR rs g=some r' /\((r=r' /\aBu r=true)\/ ∃t cs cs' Q,r= .box t cs/\r' = .box t cs' /\qN (cA ren) cs cs' Q))/\(cA ren h=none-> ∃e k d,r= .arr e k d [])
theorem aFS {rs:Rl}{ren:List (Nat × Nat)}: ∀{l:List (Nat × Rs)},rrB rs ren l-> ∀h r,aS l h=some r->aSV rs ren h r
 | [],_,h,r,e=>by simp[aS] at e
 | (k,r0)::l,hw,h,r,e=>by
   unfold rrB at hw;simp only[aS] at e;split at hw
   ·rename_i g hg;split at hw
    ·rename_i r' hr';split at hw
     ·rename_i t cs;split at hw
      ·rename_i t' cs';obtain⟨e1,hw1⟩:=hw.eq;split at e
       ·rename_i ek;subst ek;injection e with e
        subst e;exact⟨fun g' hg' =>by rw[hg] at hg';injection hg' with hg';subst hg';exact⟨_,hr',.inr ⟨_,cs,cs',_,rfl,by rw[e1],hw1⟩⟩,fun hn=>by rw[hg] at hn;cases hn⟩
       exact aFS (qO _ _ _ hw1) h r e
      cases hw
     ·obtain⟨e1,hw⟩:=hw.eq;split at e
      ·rename_i ek;subst ek;injection e with e
       subst e;exact⟨fun g' hg' =>by rw[hg] at hg';injection hg' with hg';subst hg';exact⟨_,hr',.inl ⟨e1.symm,rfl⟩⟩,fun hn=>by rw[hg] at hn;cases hn⟩
      exact aFS hw h r e
     cases hw
    cases hw
   rename_i hg;split at hw
   ·obtain⟨e1,hw⟩:=hw;split at e
    ·rename_i ek;subst ek;injection e with e
     subst e;exact⟨fun g' hg' =>(by rw[hg] at hg';cases hg'),fun _=>⟨_,_,_,by rw[<-e1]⟩⟩
    exact aFS hw h r e
   cases hw
def wY:Nat->List AV->Sl
 | _,[]=>[]
 | i,x::xs=>(i,x)::wY (i+1) xs
theorem yS: ∀(xs:List AV) (i t:Nat),bM (wY i xs) t=if i<=t then (match xs[t - i]? with | some x=>x | none=> .no) else .no
 | [],i,t=>by simp[wY,bM]
 | x::xs,i,t=>by
   simp only[wY,bM,yS xs (i+1) t];by_cases e:t=i
   ·subst e;simp
   by_cases h:i<=t
   ·have:t - i=(t - (i+1))+1:=by omega
    rw[if_neg e,if_pos (by omega),if_pos h,this,List.getElem?_cons_succ]
   rw[if_neg e,if_neg (by omega),if_neg h]
def aRf (tb:Tb)(res:List ResultVar)(ri:List (Nat × Rs))(rv:AV)(ro:List (Nat × Rs))(e:Exit)(sl:Sl)(rs:Rl)(t:T):Prop:=
 (match (match e with | .normal=>true | .ret=>true | _=>false) with
 | true=>(match t with
   | .fin ren=>(match aK6 tb sl rs res with
     | some xs=>(match jP (ren.map (·.2))&&(ro.all fun q=>match aS ri q.1 with | some _=>(match cA ren q.1 with | some g=>Nat.beq g q.1 | none=>false) | none=>true) with
       | true=>kG (cA ren) rv (aEF xs) (rrB rs ren ro)
       | false=>False)
     | none=>False)
   | _=>False)
 | false=>False)
def aJ0 (P:Program)(tb:Tb)(fn:Func)(args:List AV)(ri:List (Nat × Rs))(rv:AV)(ro:List (Nat × Rs))(t:T):Prop:=match fn.body with | some c=>wpC P tb fn.ntmps c [] [] (wY 0 args) (lO ri) t (aRf tb fn.results.toList ri rv ro) | none=>False
theorem aQz {P:Program}{tb:Tb}(hT:iU P tb)(hm:P.follows .mixedOrders=true){f:FuncId}{fn:Func}{args:List AV}{ri:List (Nat × Rs)}{rv:AV}{ro:List (Nat × Rs)}(hf:P.funcs[f]? =some fn)(hc:aDp fn args.length=true)(hlow:(ri.all fun q=>Nat.blt q.1 100)=true)(t:T)(h:aJ0 P tb fn args ri rv ro t):aG2 P f args ri rv ro:=by
 unfold aDp at hc;simp only[aA1] at hc;obtain⟨⟨hn,hbs⟩,hl⟩:=hc;have hl:=aAu hl;obtain⟨c,hb⟩:=Option.isSome_iff_exists.1 hbs;unfold aJ0 at h;rw[hb] at h;have hlow' : ∀q∈ri,q.1<100:=fun q hq=>by have:=aDW.1 hlow q hq;simpa [Nat.blt_eq] using this
 refine⟨by simp only[iW,hf,hb];simpa using hn,hlow',fun A φ w vs hI hargs=>?_⟩;refine calls_of_wp hf hb ?_;have hlen:=iE hargs;simp only[aLb] at hlen
 have hres: ∀h,aR (lO ri) h=aS ri h:=fun h=>by
  have:=aAE ri [] h;rw[aJp] at this;rw[this];cases aS ri h<;>rfl
 have hdom: ∀h pl,φ h=some pl->h<100:=fun h pl e=>by
  cases hr:aS ri h with
  | none=>rw[hI.non h hr] at e;cases e
  | some r=>exact hlow' _ (bZ hr)
 have hG0:qK A ⟨w,aMO φ,φ,hdom⟩ fn.ntmps (mk (wY 0 args) (lO ri)) { tmps:=vs++Array.replicate (fn.ntmps - vs.size) undef,defers:=[] } w:=by
  refine⟨A,φ,fun h r hr=>?_,fun h hr=>?_,hI.disj,hI.nodup,fun h pl e g hg=>⟨.inr ⟨h,pl,trivial,e,hg⟩,hI.ge h pl e g hg⟩,fun b hb=>⟨hI.lt b hb,.inl hb⟩,hI.out,fun _ h=>h,fun t=>?_,⟨rfl,rfl,rfl,aHF _,fun _ _ _=>rfl⟩,rfl,by simp;omega,fun h pl pl0 e e0=>by dsimp only at e0;rw[e] at e0;injection e0 with q;subst q;exact⟨rfl,rfl⟩⟩
  ·simp only[mk,hres] at hr;exact hI.dom h r hr
  ·simp only[mk,hres] at hr;exact hI.non h hr
  simp only[mk,yS,aAc,if_true,Nat.sub_zero];split
  ·rename_i x hx;obtain⟨v,hv,hr⟩:=mA hargs hx;have ht:t<vs.size:=by have:=(aBa.1 hv).1;simpa using this
   rw[Array.getD_eq_getD_getElem?,Array.getElem?_append_left ht,<-Array.getElem?_toList,hv];exact hr
  unfold aB;trivial
 have hvc:=tY hT hm c [] [] (wY 0 args) (lO ri) t _ h;simp only[aJp] at hvc;refine Code.wp_mono (fun e a' w' ⟨S,⟨K,φ1,hG⟩,pre,prr,t',hS,hfin⟩=>?_) (hvc A _ _ w hG0);subst hS;unfold aRf at hfin;split at hfin
 ·rename_i he;split at hfin
  ·rename_i ren;split at hfin
   ·rename_i xs hxs;split at hfin
    ·rename_i hbb;simp only[aA1,aDW] at hbb;obtain⟨b1,b3⟩:=hbb;obtain⟨v,hrun,hmv⟩:=wC hG (aFP hT hxs)
     let φ' :fR:=fun h=>match aS ro h with | some _=>(match cA ren h with | some g=>φ1 g | none=>some gB) | none=>none
     have p1: ∀h g pl,cA ren h=some g->φ' h=some pl->φ1 g=some pl:=fun h g pl e e' =>by
      simp only[φ',e] at e';split at e'
      ·exact e'
      cases e'
     have p2: ∀h pl,cA ren h=none->φ' h=some pl->pl=gB:=fun h pl e e' =>by
      simp only[φ',e] at e';split at e'
      ·injection e' with e';exact e'.symm
      cases e'
     have p0: ∀h pl,φ' h=some pl-> ∃r,aS ro h=some r:=fun h pl e=>by
      simp only[φ'] at e;split at e
      ·rename_i r hr;exact⟨r,hr⟩
      cases e
     have p3: ∀h pl,φ' h=some pl->(∃g,cA ren h=some g/\φ1 g=some pl)\/pl=gB:=fun h pl e=>by
      cases hl:cA ren h with
      | some g=>exact .inl ⟨g,rfl,p1 h g pl hl e⟩
      | none=>exact .inr (p2 h pl hl e)
     obtain⟨m1,m2⟩:=aFK (φ' :=φ') p1 p2 _ _ _ v hfin hmv
     have hO:aR5 A φ w ro K φ' w' :=by
      refine⟨hG.bel,hG.aK,fun b hb=>⟨(hG.kin b hb).1,(hG.kin b hb).2⟩,fun b hb h pl e=>?_,fun h r hr=>?_,fun h hr=>by simp[φ',hr],fun h h' pl pl' hne e e' g hg=>?_,fun h pl e=>?_,fun h pl e g hg=>?_,fun h pl pl0 e e0=>?_⟩
      ·rcases p3 h pl e with ⟨g,_,e⟩ | e
       ·exact hG.kout b hb g pl e
       rw[e];simp[gB,Pl.F]
      ·obtain⟨q1,q2⟩:=aFS m2 h r hr;cases hl:cA ren h with
       | some g=>
         obtain⟨r',hr',q⟩:=q1 g hl;obtain⟨pl,hp,hh⟩:=hG.dom g r' hr';refine⟨pl,by simp[φ',hr,hl,hp],?_⟩;rcases q with ⟨rfl,ha⟩ | ⟨t,cs,cs',Q,rfl,rfl,hq⟩
         ·exact dM.arrPhi ha hh
         obtain⟨g',vs',e1,e2,e3,e4⟩:=hh;exact⟨g',vs',e1,e2,e3,(tP (φ' :=φ') p1 p2 _ _ _ _ hq e4).1⟩
       | none=>
         obtain⟨e,k,d,rfl⟩:=q2 hl;refine⟨gB,by simp[φ',hr,hl],?_⟩;cases d with
         | true=>exact⟨[],[],World.ownsRow_nil w' 0 e k,rfl,rfl,by unfold cH;exact⟨rfl,rfl⟩⟩
         | false=>exact⟨[],World.ownsRow_nil w' 0 e k,rfl,rfl,rfl⟩
      ·rcases p3 h pl e with ⟨q,l1,e1⟩ | e1
       ·rcases p3 h' pl' e' with ⟨q',l1',e1'⟩ | e1'
        ·exact hG.disj q q' pl pl' (fun x=>by subst x;exact hne (aCM b1 l1 l1')) e1 e1' g hg
        rw[e1'];simp[gB,Pl.F]
       rw[e1] at hg;simp[gB,Pl.F] at hg
      ·rcases p3 h pl e with ⟨g,_,e⟩ | e
       ·exact hG.nodup g pl e
       rw[e];simp[gB,Pl.F]
      ·rcases p3 h pl e with ⟨q,_,e⟩ | e
       ·exact hG.ge q pl e g hg
       rw[e] at hg;simp[gB,Pl.F] at hg
      obtain⟨r,hr⟩:=p0 h pl e;have:=b3 _ (bZ hr);cases hri:aS ri h with
      | none=>rw[hI.non h hri] at e0;cases e0
      | some r0=>
        simp only[hri] at this;cases hl:cA ren h with
        | none=>rw[hl] at this;cases this
        | some g=>
          rw[hl] at this;have hg:=aB1 this;subst hg;exact hG.pin _ pl pl0 (p1 _ _ pl hl e) e0
     cases e with
     | normal=>exact⟨hG.nd,v,hrun,v,K,φ',rfl,hO,m1⟩
     | ret=>exact⟨hG.nd,v,hrun,v,K,φ',rfl,hO,m1⟩
     | _=>cases he
    cases hfin
   cases hfin
  cases hfin
 cases hfin
theorem aRA {P:Program}{tb:Tb}(hT:iU P tb)(hm:P.follows .mixedOrders=true){f:FuncId}{fn:Func}{args:List AV}{ri:List (Nat × Rs)}{rv:AV}{ro:List (Nat × Rs)}(hf:P.funcs[f]? =some fn)(hc:aDp fn args.length=true)(hlow:(ri.all fun q=>Nat.blt q.1 100)=true)(t:T){p:Prop}(h:aJ0 P tb fn args ri rv ro t=p)(hp:p):aG2 P f args ri rv ro:=aQz hT hm hf hc hlow t (Eq.mpr h hp)
end Go.Proofs.Ytafmaholhcgakaa
