/-
  Contracts and plain laws, joined: part 3.
-/
import Derived.Test.YtafmaholhcgakaaGreatlb1
namespace Go.Proofs.YtafmaholhcgakaaGreat
open Go.ChangeShapes Go.WideShapes Go.ChangeAt Go.RowKit
set_option linter.unusedVariables false
set_option linter.unusedSimpArgs false
mutual
def sA:AV->List Nat
 | .p (some h) _=>[h]
 | .rp (some h) _=>[h]
 | .agg cs=>wV cs
 | .tup cs=>wV cs
 | .fn _ cs=>wV cs
 | _=>[]
def wV:List AV->List Nat
 | []=>[]
 | x::xs=>sA x++wV xs
end
def aC7:Rs->List Nat
 | .box _ cs=>wV cs
 | .arr _ _ _ _=>[]
 | .hole _ _ _ _ _ _=>[]
def wW (φ:gS)(w w' :World)(h:Nat)(pl:Pl)(V:Prop):Prop:= ∃pl0,φ h=some pl0/\pl.val=pl0.val/\pl.top=pl0.top/\(V->pl=pl0/\dM (· ∈pl.sub) w w')
theorem wW.of {φ:gS}{w w' :World}{h:Nat}{pl:Pl}{V:Prop}(h1:φ h=some pl)(h2:V->dM (· ∈pl.sub) w w'):wW φ w w' h pl V:=⟨pl,h1,rfl,rfl,fun v=>⟨rfl,h2 v⟩⟩
theorem wW.imp {φ:gS}{w w' :World}{h:Nat}{pl:Pl}{V V' :Prop}(h1:wW φ w w' h pl V)(f:V' ->V):wW φ w w' h pl V' :=by
 obtain⟨pl0,a,b,c,d⟩:=h1;exact⟨pl0,a,b,c,fun v=>d (f v)⟩
mutual
theorem aC.monoV {K K' :Nat->Prop}{φ φ' :gS}{w w' :World}(hs:dM K w w')(hK: ∀b,K b->K' b):
 ∀(x:AV) (v:Value),(∀h pl,h∈bZ x->φ' h=some pl->wW φ w w' h pl (h∈sA x))->aC K φ w x v->aC K' φ' w' x v
 | .p none x,v,_,hx=>by unfold aC at*;exact iB.mono hs hK x v hx
 | .p (some h) x,v,hm,hx=>by
   unfold aC at*;intro pl hp;obtain⟨pl0,h1,_,_,hq⟩:=hm h pl (by simp[bZ]) hp;obtain⟨rfl,h2⟩:=hq (by simp[sA]);exact iB.mono (fun b hb=>by rcases hb with hb | hb;exact hs b hb;exact h2 b hb) (fun b hb=>by rcases hb with hb | hb;exact .inl (hK b hb);exact .inr hb) x v (hx pl h1)
 | .own h,v,hm,hx=>by
   unfold aC at*;intro pl hp;obtain⟨pl0,h1,h2,_⟩:=hm h pl (by simp[bZ]) hp;rw[h2];exact hx pl0 h1
 | .ptr h off,v,hm,hx=>by
   unfold aC at*;obtain⟨g,e,q⟩:=hx;refine⟨g,e,fun pl hp=>?_⟩;obtain⟨pl0,h1,_,h3,_⟩:=hm h pl (by simp[bZ]) hp;rw[h3];exact q pl0 h1
 | .ep h k i off,v,hm,hx=>by
   unfold aC at*;intro pl hp;obtain⟨pl0,h1,_,h3,_⟩:=hm h pl (by simp[bZ]) hp;rw[h3];exact hx pl0 h1
 | .rp none x,v,_,hx=>by
   unfold aC at*;obtain⟨a,e,hr⟩:=hx;exact⟨a,e,jB.mono hs hK x a 0 hr⟩
 | .rp (some h) x,v,hm,hx=>by
   unfold aC at*;intro pl hp;obtain⟨pl0,h1,_,_,hq⟩:=hm h pl (by simp[bZ]) hp;obtain⟨rfl,h2⟩:=hq (by simp[sA]);obtain⟨a,e,hr⟩:=hx pl h1;exact⟨a,e,jB.mono (fun b hb=>by rcases hb with hb | hb;exact hs b hb;exact h2 b hb) (fun b hb=>by rcases hb with hb | hb;exact .inl (hK b hb);exact .inr hb) x a 0 hr⟩
 | .agg cs,v,hm,hx=>by
   unfold aC at*;obtain⟨vs,e,h1,hl⟩:=hx;exact⟨vs,e,h1,aM.monoV hs hK cs _ (fun h pl hh e=>(hm h pl (by simpa [bZ] using hh) e).imp fun hv=>by simpa [sA] using hv) hl⟩
 | .tup cs,v,hm,hx=>by
   unfold aC at*;obtain⟨vs,e,hl⟩:=hx;exact⟨vs,e,aM.monoV hs hK cs _ (fun h pl hh e=>(hm h pl (by simpa [bZ] using hh) e).imp fun hv=>by simpa [sA] using hv) hl⟩
 | .fn f cs,v,hm,hx=>by
   unfold aC at*;obtain⟨vs,e,hl⟩:=hx;exact⟨vs,e,aM.monoV hs hK cs _ (fun h pl hh e=>(hm h pl (by simpa [bZ] using hh) e).imp fun hv=>by simpa [sA] using hv) hl⟩
 | .nil,v,_,hx=>by unfold aC at*;exact hx
 | .bsl h n,v,hm,hx=>by
   unfold aC at*;intro pl hp;obtain⟨pl0,h1,_,h3,_⟩:=hm h pl (by simp[bZ]) hp;rw[h3];exact hx pl0 h1
 | .no,_,_,_=>by unfold aC;trivial
theorem aM.monoV {K K' :Nat->Prop}{φ φ' :gS}{w w' :World}(hs:dM K w w')(hK: ∀b,K b->K' b):
 ∀(xs:List AV) (vs:List Value),(∀h pl,h∈fE xs->φ' h=some pl->wW φ w w' h pl (h∈wV xs))->aM K φ w xs vs->aM K' φ' w' xs vs
 | [],_,_,hx=>by unfold aM at*;exact hx
 | x::xs,vs,hm,hx=>by
   unfold aM at*;obtain⟨v,vs',e,h1,h2⟩:=hx;exact⟨v,vs',e,aC.monoV hs hK x v (fun h pl hh e=>(hm h pl (by simp[fE,hh]) e).imp fun hv=>by simp[wV,hv]) h1,aM.monoV hs hK xs vs' (fun h pl hh e=>(hm h pl (by simp[fE,hh]) e).imp fun hv=>by simp[wV,hv]) h2⟩
end
theorem Holds.monoV {K K' :Nat->Prop}{φ φ' :gS}{w w' :World}{pl:Pl}(hs:dM K w w')(hK: ∀b,K b->K' b)(hk:iO pl.F w w'):
 ∀(r:Rs),(∀h pl,h∈iE r->φ' h=some pl->wW φ w w' h pl (h∈aC7 r))->Holds K φ w pl r->Holds K' φ' w' pl r
 | .box t cs,hm,⟨g,vs,e,hb,h1,hl⟩=>by
   subst e;exact⟨g,vs,rfl,(hk g (by simp[Pl.F])).trans hb,h1,aM.monoV hs hK cs _ hm hl⟩
 | .arr e k true xs,_,⟨css,Fs,h1,h2,h3,h4⟩=>
   ⟨css,Fs,iT h1 (hk.mono fun g hg=>by unfold Pl.F;rw[h2];exact aGM _ hg),h2,h3,cA.kept k xs css Fs (hk.mono fun g hg=>by unfold Pl.F;rw[h3];exact aDa _ hg) h4⟩
 | .arr e k false xs,_,⟨css,h1,h2,h3,h4⟩=>
   ⟨css,iT h1 (hk.mono fun g hg=>by unfold Pl.F;rw[h2];exact aGM _ hg),h2,h3,h4.mono hs hK⟩
 | .hole e k xs i j h,hm,⟨xs1,x1,d,x2,xs2,css1,c1,v,c2,css2,Fs1,F1,F2,Fs2,e0,e1,e2,e3,h1,h2,h3,h4,h5,h6,h7,h8⟩=>
   ⟨xs1,x1,d,x2,xs2,css1,c1,v,c2,css2,Fs1,F1,F2,Fs2,e0,e1,e2,e3,iT h1 (hk.mono fun g hg=>by unfold Pl.F;rw[h2];exact aGM _ hg),h2,h3,
    cA.kept k xs1 css1 Fs1 (hk.mono fun g hg=>by unfold Pl.F;rw[h3];simp only[aDy];exact .inr (.inl hg)) h4,cN.kept x1 c1 F1 (hk.mono fun g hg=>by unfold Pl.F;rw[h3];simp only[aDy];exact .inr (.inr (.inl (.inl hg)))) h5,
    cN.kept x2 c2 F2 (hk.mono fun g hg=>by unfold Pl.F;rw[h3];simp only[aDy];exact .inr (.inr (.inl (.inr hg)))) h6,cA.kept k xs2 css2 Fs2 (hk.mono fun g hg=>by unfold Pl.F;rw[h3];simp only[aDy];exact .inr (.inr (.inr hg))) h7,⟨h8.1,fun pl' e' =>by obtain⟨pl0,q1,q2,_⟩:=hm h pl' (by simp[iE]) e';rw[q2];exact h8.2 pl0 q1⟩⟩
section
variable {K:Nat->Prop} {φ:gS} {A:Nat->Prop} {w0:uF} {N:Nat} {S:St} {a:Act} {w:World}
theorem G.stepV (hG:G K φ A w0 N S a w){C:Nat->Prop}[DecidablePred C]{φr:gS}{ρ:Nat->Option Rs}{K' :Nat->Prop}{w' :World}
 (hU:vV (fH φ C) w w')
 (hR: ∀h pl,φr h=some pl->pl.F.Nodup/\ ∀g∈pl.F,g<w'.heap.size/\(w.heap.size<=g\/fH φ C g))
 (hD: ∀h h' pl pl',h≠h' ->φr h=some pl->φr h' =some pl' -> ∀g∈pl.F,g ∉ pl'.F)
 (hρ: ∀h r,ρ h=some r-> ∃pl,φr h=some pl/\Holds K' (cF C φr φ) w' pl r)
 (hρn: ∀h,ρ h= .none->φr h= .none)
 (hK: ∀b,K b->K' b)
 (hK' : ∀b,K' b->K b\/(b<w'.heap.size/\(w.heap.size<=b\/fH φ C b)/\ ∀h pl,φr h=some pl->b ∉ pl.F))
 (hM: ∀t h pl,h∈bZ (S.slots t)->φr h=some pl->wW φ w w' h pl (h∈sA (S.slots t)))
 (hMr: ∀h' r h pl,¬C h' ->S.res h' =some r->h∈iE r->φr h=some pl->wW φ w w' h pl (h∈aC7 r))
 (hP: ∀h pl,φr h=some pl->(∃pl0,φ h=some pl0/\pl.val=pl0.val/\pl.top=pl0.top)\/100<=h):
 G K' (cF C φr φ) A w0 N { S with res:=eY C ρ S.res } a w' :=by
 have hF: ∀b,fH φ C b->w0.mine b/\b<w.heap.size:=fun b ⟨h,pl,_,hp,hb⟩=>hG.ge h pl hp b hb;have hsz:w0.w.heap.size<=w.heap.size:=hG.bel.size;have hsame:dM K w w' :=fun b hb=>hU.block b (hG.kin b hb).1 (fun ⟨h,pl,_,hp,hm⟩=>hG.kout b hb h pl hp hm)
 have hkeep: ∀h pl,¬C h->φ h=some pl->iO pl.F w w' :=fun h pl hc hp g hg=>
  hU.block g (hG.ge h pl hp g hg).2 (fun ⟨h',pl',hc',hp',hm⟩=>by
   by_cases e:h=h'
   ·subst e;exact hc hc'
   exact hG.disj h h' pl pl' e hp hp' g hg hm)
 have hsub: ∀h pl,¬C h->φ h=some pl->dM (· ∈pl.sub) w w' :=fun h pl hc hp g hg=>hkeep h pl hc hp g (aDa _ hg)
 have hslot: ∀x v,(∀h pl,h∈bZ x->φr h=some pl->wW φ w w' h pl (h∈sA x))->aC K φ w x v->aC K' (cF C φr φ) w' x v:=fun x v hm hx=>
  aC.monoV hsame hK x v (fun h pl hh e=>by
   rcases bN e with e | ⟨_,hc,e⟩
   ·exact hm h pl hh e
   exact .of e fun _=>hsub h pl hc e) hx
 refine⟨?_,?_,?_,?_,?_,?_,?_,fun b hb=>hK b (hG.aK b hb),fun t=>hslot _ _ (hM t) (hG.slots t),vV.more hG.bel hU (fun b hb=>(hF b hb).1),hG.nd,hG.size,fun h pl pl0 e e0=>?_⟩
 ·intro h r hr;simp only[eY] at hr;split at hr
  ·rename_i r' hr';injection hr with hr
   subst hr;obtain⟨pl,hp,hh⟩:=hρ h _ hr';exact⟨pl,by simp[cF,hp],hh⟩
  rename_i hn;split at hr
  ·cases hr
  rename_i hc;obtain⟨pl,hp,hh⟩:=hG.dom h r hr;refine⟨pl,by simp[cF,hρn h hn,hc,hp],Holds.monoV hsame hK (hkeep h pl hc hp) r (fun h2 pl2 hm e=>?_) hh⟩;rcases bN e with e | ⟨_,hc2,e⟩
  ·exact hMr h r h2 pl2 hc hr hm e
  exact .of e fun _=>hsub h2 pl2 hc2 e
 ·intro h hr;simp only[eY] at hr;split at hr
  ·cases hr
  rename_i hn;simp only[cF,hρn h hn];split at hr
  ·rename_i hc;simp[hc]
  rename_i hc;simp[hc,hG.non h hr]
 ·intro h h' pl pl' hne e e' g hg hg';rcases bN e with e | ⟨_,hc,e⟩<;>rcases bN e' with e' | ⟨_,hc',e'⟩
  ·exact hD h h' pl pl' hne e e' g hg hg'
  ·rcases((hR h pl e).2 g hg).2 with h1 | ⟨h2,pl2,hc2,e2,hm⟩
   ·have:=(hG.ge h' pl' e' g hg').2;omega
   exact hG.disj h2 h' pl2 pl' (fun e=>by subst e;exact hc' hc2) e2 e' g hm hg'
  ·rcases((hR h' pl' e').2 g hg').2 with h1 | ⟨h2,pl2,hc2,e2,hm⟩
   ·have:=(hG.ge h pl e g hg).2;omega
   exact hG.disj h2 h pl2 pl (fun e=>by subst e;exact hc hc2) e2 e g hm hg
  exact hG.disj h h' pl pl' hne e e' g hg hg'
 ·intro h pl e;rcases bN e with e | ⟨_,_,e⟩
  ·exact(hR h pl e).1
  exact hG.nodup h pl e
 ·intro h pl e g hg;rcases bN e with e | ⟨_,_,e⟩
  ·obtain⟨h1,h2⟩:=(hR h pl e).2 g hg;refine⟨?_,h1⟩;rcases h2 with h2 | h2
   ·exact .inl (by omega)
   exact(hF g h2).1
  have:=hG.ge h pl e g hg;exact⟨this.1,aKV this.2 hU.size⟩
 ·intro b hb;rcases hK' b hb with hb | ⟨h1,h2,_⟩
  ·have:=hG.kin b hb;exact⟨aKV this.1 hU.size,this.2⟩
  refine⟨h1,.inr ?_⟩;rcases h2 with h2 | h2
  ·exact .inl (by omega)
  exact(hF b h2).1
 ·intro b hb h pl e hm;rcases hK' b hb with hb | ⟨_,h2,h3⟩
  ·rcases bN e with e | ⟨_,_,e⟩
   ·rcases((hR h pl e).2 b hm).2 with h1 | ⟨h2,pl2,hc2,e2,hm2⟩
    ·have:=(hG.kin b hb).1;omega
    exact hG.kout b hb h2 pl2 e2 hm2
   exact hG.kout b hb h pl e hm
  rcases bN e with e | ⟨_,hc,e⟩
  ·exact h3 h pl e hm
  rcases h2 with h2 | ⟨h4,pl4,hc4,e4,hm4⟩
  ·have:=(hG.ge h pl e b hm).2;omega
  exact hG.disj h4 h pl4 pl (fun e=>by subst e;exact hc hc4) e4 e b hm4 hm
 rcases bN e with e | ⟨_,_,e⟩
 ·rcases hP h pl e with ⟨pl1,q,q1,q2⟩ | q
  ·have:=hG.pin h pl1 pl0 q e0;exact⟨q1.trans this.1,q2.trans this.2⟩
  have:=w0.dom h pl0 e0;omega
 exact hG.pin h pl pl0 e e0
end
def aPa (ren:List (Nat × Nat))(h:Nat):Nat:=match cE ren h with | some g=>g | none=>h
theorem aEd {ren:List (Nat × Nat)}(hn:lR (ren.map (·.2))=true){h h' g:Nat}(e:cE ren h=some g)(e' :cE ren h' =some g):h=h' :=by
 have mem: ∀{l:List (Nat × Nat)} {h g:Nat},cE l h=some g->g∈l.map (·.2):=by
  intro l
  induction l with
  | nil=>intro h g e;simp[cE] at e
  | cons q l ih=>
    obtain⟨k,v⟩:=q;intro h g e;unfold cE at e;split at e
    ·injection e with e;simp[e]
    simp only[aGN,aG7];exact .inr (ih e)
 induction ren with
 | nil=>simp[cE] at e
 | cons q l ih=>
   obtain⟨k,v⟩:=q;simp only[aGN,lR,aAS,Bool.not_eq_true',List.contains_eq_mem,decide_eq_false_iff_not] at hn;unfold cE at e e';split at e<;>split at e'
   ·rename_i _ a _ b;rw[aBq a,aBq b]
   ·injection e with e;subst e;exact absurd (mem e') hn.1
   ·injection e' with e';subst e';exact absurd (mem e) hn.1
   exact ih hn.2 e e'
def iF:Pl:=⟨.slice none 0 0,[],[]⟩
mutual
def mH (gm:Nat->Option Nat):AV->AV->Prop->Prop
 | .no,_,K=>K
 | .nil,x,K=>(match x with | .nil=>K | _=>False)
 | .own h,x,K=>(match x with
   | .nil=>(match gm h with | none=>K | some _=>False)
   | .own g=>(match gm h with | some g' =>EqN g g' K | none=>False)
   | _=>False)
 | .ptr h o,x,K=>(match x with
   | .ptr g o' =>(match gm h with | some g' =>EqN g g' (EqN o' o K) | none=>False)
   | _=>False)
 | .p none y,x,K=>(match x with
   | .p none z=>EqD z y/\K
   | .nil=>(match y with | .sl _ _ xs=>[]=xs/\K | _=>False)
   | _=>False)
 | .agg ys,x,K=>(match x with | .agg xs=>tE gm ys xs K | _=>False)
 | .tup ys,x,K=>(match x with | .tup xs=>tE gm ys xs K | _=>False)
 | _,_,_=>False
def tE (gm:Nat->Option Nat):List AV->List AV->Prop->Prop
 | [],xs,K=>(match xs with | []=>K | _=>False)
 | y::ys,xs,K=>(match xs with | x::xs=>mH gm y x (tE gm ys xs K) | []=>False)
end
mutual
theorem aHy {gm:Nat->Option Nat}{K:Nat->Prop}{φ φ' :gS}{w:World}(h1: ∀h g pl,gm h=some g->φ' h=some pl->φ g=some pl)(h2: ∀h pl,gm h=none->φ' h=some pl->pl=iF): ∀(y x:AV) (Q:Prop) (v:Value),mH gm y x Q->aC K φ w x v->aC K φ' w y v/\Q
 | .no,x,Q,v,h,hm=>by unfold mH at h;exact⟨by unfold aC;trivial,h⟩
 | .nil,x,Q,v,h,hm=>by
   unfold mH at h;split at h
   ·unfold aC at*;exact⟨hm,h⟩
   cases h
 | .own k,x,Q,v,h,hm=>by
   unfold mH at h;split at h
   ·split at h
    ·rename_i hl;refine⟨?_,h⟩;unfold aC at*;intro pl hp;rw[h2 _ pl hl hp,hm];rfl
    cases h
   ·split at h
    ·rename_i g' hl;obtain⟨e,hQ⟩:=h.eq;subst e;refine⟨?_,hQ⟩;unfold aC at*;intro pl hp;exact hm pl (h1 _ _ pl hl hp)
    cases h
   cases h
 | .ptr k o,x,Q,v,h,hm=>by
   unfold mH at h;split at h
   ·split at h
    ·rename_i g' hl;obtain⟨e,hQ1⟩:=h.eq;obtain⟨e2,hQ⟩:=hQ1.eq;subst e;subst e2;refine⟨?_,hQ⟩;unfold aC at*;obtain⟨g2,e3,q⟩:=hm;exact⟨g2,e3,fun pl hp=>q pl (h1 _ _ pl hl hp)⟩
    cases h
   cases h
 | .p none y,x,Q,v,h,hm=>by
   unfold mH at h;split at h
   ·refine⟨?_,h.2⟩;unfold aC at*;rw[<-h.1.eq];exact hm
   ·split at h
    ·refine⟨?_,h.2⟩;unfold aC at*;rw[hm,<-h.1];exact rW
    cases h
   cases h
 | .p (some _) y,x,Q,v,h,hm=>by unfold mH at h;cases h
 | .agg ys,x,Q,v,h,hm=>by
   unfold mH at h;split at h
   ·unfold aC at hm;obtain⟨vs,rfl,q1,q2⟩:=hm;obtain⟨q3,q4⟩:=wX h1 h2 ys _ Q _ h q2;refine⟨?_,q4⟩;unfold aC;exact⟨vs,rfl,q1,q3⟩
   cases h
 | .tup ys,x,Q,v,h,hm=>by
   unfold mH at h;split at h
   ·unfold aC at hm;obtain⟨vs,rfl,q2⟩:=hm;obtain⟨q3,q4⟩:=wX h1 h2 ys _ Q _ h q2;refine⟨?_,q4⟩;unfold aC;exact⟨vs,rfl,q3⟩
   cases h
 | .ep _ _ _ _,x,Q,v,h,hm=>by unfold mH at h;cases h
 | .rp _ _,x,Q,v,h,hm=>by unfold mH at h;cases h
 | .fn _ _,x,Q,v,h,hm=>by unfold mH at h;cases h
 | .bsl _ _,x,Q,v,h,hm=>by unfold mH at h;cases h
theorem wX {gm:Nat->Option Nat}{K:Nat->Prop}{φ φ' :gS}{w:World}(h1: ∀h g pl,gm h=some g->φ' h=some pl->φ g=some pl)(h2: ∀h pl,gm h=none->φ' h=some pl->pl=iF): ∀(ys xs:List AV) (Q:Prop) (vs:List Value),tE gm ys xs Q->aM K φ w xs vs->aM K φ' w ys vs/\Q
 | [],xs,Q,vs,h,hm=>by
   unfold tE at h;split at h
   ·unfold aM at*;exact⟨hm,h⟩
   cases h
 | y::ys,xs,Q,vs,h,hm=>by
   unfold tE at h;split at h
   ·unfold aM at hm;obtain⟨v,vs',rfl,q1,q2⟩:=hm;obtain⟨q3,q4⟩:=aHy h1 h2 y _ _ v h q1;obtain⟨q5,q6⟩:=wX h1 h2 ys _ Q vs' q4 q2;refine⟨?_,q6⟩;unfold aM;exact⟨v,vs',rfl,q3,q5⟩
   cases h
end
mutual
theorem aJY {gm:Nat->Option Nat}: ∀(y x:AV) (Q:Prop),mH gm y x Q->Q
 | .no,x,Q,h=>by unfold mH at h;exact h
 | .nil,x,Q,h=>by
   unfold mH at h;split at h
   ·exact h
   cases h
 | .own k,x,Q,h=>by
   unfold mH at h;split at h
   ·split at h
    ·exact h
    cases h
   ·split at h
    ·exact h.eq.2
    cases h
   cases h
 | .ptr k o,x,Q,h=>by
   unfold mH at h;split at h
   ·split at h
    ·exact h.eq.2.eq.2
    cases h
   cases h
 | .p none y,x,Q,h=>by
   unfold mH at h;split at h
   ·exact h.2
   ·split at h
    ·exact h.2
    cases h
   cases h
 | .p (some _) y,x,Q,h=>by unfold mH at h;cases h
 | .agg ys,x,Q,h=>by
   unfold mH at h;split at h
   ·exact tF ys _ Q h
   cases h
 | .tup ys,x,Q,h=>by
   unfold mH at h;split at h
   ·exact tF ys _ Q h
   cases h
 | .ep _ _ _ _,x,Q,h=>by unfold mH at h;cases h
 | .rp _ _,x,Q,h=>by unfold mH at h;cases h
 | .fn _ _,x,Q,h=>by unfold mH at h;cases h
 | .bsl _ _,x,Q,h=>by unfold mH at h;cases h
theorem tF {gm:Nat->Option Nat}: ∀(ys xs:List AV) (Q:Prop),tE gm ys xs Q->Q
 | [],xs,Q,h=>by
   unfold tE at h;split at h
   ·exact h
   cases h
 | y::ys,xs,Q,h=>by
   unfold tE at h;split at h
   ·exact tF ys _ Q (aJY y _ _ h)
   cases h
end
abbrev aHz (φ:gS):Nat->Prop:=fH φ (fun _=>True)
structure In2 (A:Nat->Prop) (φ:gS) (w:World) (ri:List (Nat × Rs)):Prop where
 lt: ∀b,A b->b<w.heap.size
 dom: ∀h r,aY ri h=some r-> ∃pl,φ h=some pl/\Holds A φ w pl r
 non: ∀h,aY ri h=none->φ h=none
 disj: ∀h h' pl pl',h≠h' ->φ h=some pl->φ h' =some pl' -> ∀g∈pl.F,g ∉ pl'.F
 nodup: ∀h pl,φ h=some pl->pl.F.Nodup
 ge: ∀h pl,φ h=some pl-> ∀g∈pl.F,g<w.heap.size
 out: ∀b,A b-> ∀h pl,φ h=some pl->b ∉ pl.F
structure aNk (A:Nat->Prop) (φ0:gS) (w:World) (ro:List (Nat × Rs)) (K:Nat->Prop) (φ:gS) (w' :World):Prop where
 chg:vV (aHz φ0) w w'
 kk: ∀b,A b->K b
 kin: ∀b,K b->b<w'.heap.size/\(A b\/w.heap.size<=b\/aHz φ0 b)
 kout: ∀b,K b-> ∀h pl,φ h=some pl->b ∉ pl.F
 dom: ∀h r,aY ro h=some r-> ∃pl,φ h=some pl/\Holds K φ w' pl r
 non: ∀h,aY ro h=none->φ h=none
 disj: ∀h h' pl pl',h≠h' ->φ h=some pl->φ h' =some pl' -> ∀g∈pl.F,g ∉ pl'.F
 nodup: ∀h pl,φ h=some pl->pl.F.Nodup
 ge: ∀h pl,φ h=some pl-> ∀g∈pl.F,(w.heap.size<=g\/aHz φ0 g)/\g<w'.heap.size
 pin: ∀h pl pl0,φ h=some pl->φ0 h=some pl0->pl.val=pl0.val/\pl.top=pl0.top
def pN (P:Program)(f:FuncId)(args:List AV)(ri:List (Nat × Rs))(rv:AV)(ro:List (Nat × Rs)):Prop:=
 jL P f=true/\(∀q∈ri,q.1<100)/\ ∀(A:Nat->Prop) (φ:gS) (w:World) (vs:Array Value),In2 A φ w ri->aM A φ w args vs.toList->
  Calls P f vs w (fun e w' => ∃v K φ',e= .returned v/\aNk A φ w ro K φ' w' /\aC K φ' w' rv v)
def sS (K:Nat->Prop)(φ:gS)(w:World)(C:Nat->Prop):Nat->Prop:=fun b=>b<w.heap.size/\ ¬fH φ C b
section
variable {K:Nat->Prop} {φ:gS} {A:Nat->Prop} {w0:uF} {N:Nat} {S:St} {a:Act} {w:World} {P:Program}
theorem qW (hG:G K φ A w0 N S a w)(C:Nat->Prop): ∀b,K b->sS K φ w C b:=fun b hb=>⟨(hG.kin b hb).1,fun ⟨h,pl,_,hp,hm⟩=>hG.kout b hb h pl hp hm⟩
theorem wY (hG:G K φ A w0 N S a w){C:Nat->Prop}{h:Nat}{pl:Pl}(hp:φ h=some pl)(hc: ¬C h): ∀b∈pl.F,sS K φ w C b:=fun b hb=>⟨(hG.ge h pl hp b hb).2,fun ⟨h',pl',hc',hp',hm⟩=>by
 by_cases e:h=h'
 ·subst e;exact hc hc'
 exact hG.disj h h' pl pl' e hp hp' b hb hm⟩
theorem G.rdOwnB (hG:G K φ A w0 N S a w){C:Nat->Prop}{h:Nat}{e k:Nat}{d:Bool}{xs:List (List bG)}{v:Value}(hr:S.res h=some (.arr e k d xs))(hc: ¬C h)(hm:aC K φ w (.own h) v):iB (sS K φ w C) w (.sl e k xs) v:=by
 obtain⟨pl,css,hp,ho,hcl,hck,htop,hrow⟩:=hG.owned hr;unfold aC at hm;rw[hm pl hp];obtain⟨b,c,e1,h1,h2,h3,h4⟩:=mF ho hck hcl;unfold iB;refine⟨b,c,e1,h1,h2,?_⟩;by_cases hn:0<xs.length
 ·obtain⟨g,rfl,hg⟩:=h3 hn;have hlt:sS K φ w C g:=wY hG hp hc g (aGM _ (by rw[htop,hg];simp));refine zB hlt hcl (fun i x c hx hc' =>⟨(hrow i x c hx hc').1,lQ.mono (fun _ _=>rfl) (fun b hb=>?_) x c (hrow i x c hx hc').2.1⟩) fun i c hc' j u hu=>?_
  ·rcases hb with hb | hb
   ·exact qW hG C b hb
   exact wY hG hp hc b (aDa _ hb)
  obtain⟨g',e2,_,hcell⟩:=h4 i c hc';simp only[Option.some.injEq,Addr.mk.injEq,and_true] at e2;subst e2;rw[Nat.zero_add];exact hcell j u hu
 have:xs= []:=aFh (by omega);subst this;unfold fQ;trivial
end
def aNl (ren:List (Nat × Nat))(g:Nat):Bool:=ren.all fun q=> !Nat.beq q.2 g
def aNm (rs:Rl)(ren:List (Nat × Nat))(y:bG)(x:AV)(Q:Prop):Prop:=match x with
 | .p none z=>EqD z y/\Q
 | .p (some g) z=>(match oY rs (some g)&&aNl ren g with | true=>EqD z y/\Q | false=>False)
 | .own g=>(match bA rs g with
   | some (.arr e k _ xs)=>(match aNl ren g with | true=>EqD (.sl e k xs) y/\Q | false=>False)
   | _=>False)
 | .nil=>(match y with | .sl _ _ xs=>[]=xs/\Q | _=>False)
 | _=>False
def aDK (rs:Rl)(ren:List (Nat × Nat)):List bG->List AV->Prop->Prop
 | [],_,Q=>Q
 | y::ys,xs,Q=>(match xs with | x::xs=>aNm rs ren y x (aDK rs ren ys xs Q) | []=>False)
def aB1:List bG->List bG->Prop->Prop
 | [],xs,Q=>(match xs with | []=>Q | _=>False)
 | y::ys,xs,Q=>(match xs with | x::xs=>EqD x y/\aB1 ys xs Q | []=>False)
def aLL (rs:Rl)(ren:List (Nat × Nat))(ys:List bG)(x:AV)(Q:Prop):Prop:=match x with
 | .rp none zs=>aB1 ys zs Q
 | .ptr g off=>(match bA rs g with
   | some (.box _ cs)=>(match aNl ren g with | true=>aDK rs ren ys (cs.drop off) Q | false=>False)
   | _=>False)
 | _=>False
mutual
def iL (rs:Rl)(ren:List (Nat × Nat)):AV->AV->Prop->Prop
 | .no,_,Q=>Q
 | .nil,x,Q=>(match x with | .nil=>Q | _=>False)
 | .own h,x,Q=>(match x with | .own g=>(match cE ren h with | some g' =>EqN g g' Q | none=>False) | _=>False)
 | .ptr h o,x,Q=>(match x with | .ptr g o' =>(match cE ren h with | some g' =>EqN g g' (EqN o' o Q) | none=>False) | _=>False)
 | .p none y,x,Q=>(match x with
   | .p none z=>EqD z y/\Q
   | .p (some g) z=>(match oY rs (some g)&&aNl ren g with | true=>EqD z y/\Q | false=>False)
   | .own g=>(match bA rs g with
     | some (.arr e k _ xs)=>(match aNl ren g with | true=>EqD (.sl e k xs) y/\Q | false=>False)
     | _=>False)
   | .nil=>(match y with | .sl _ _ xs=>[]=xs/\Q | _=>False)
   | _=>False)
 | .agg ys,x,Q=>(match x with | .agg xs=>oZ rs ren ys xs Q | _=>False)
 | .rp none ys,x,Q=>aLL rs ren ys x Q
 | .fn f [],x,Q=>(match x with | .fn g []=>EqN g f Q | _=>False)
 | _,_,_=>False
def oZ (rs:Rl)(ren:List (Nat × Nat)):List AV->List AV->Prop->Prop
 | [],xs,Q=>(match xs with | []=>Q | _=>False)
 | y::ys,xs,Q=>(match xs with | x::xs=>iL rs ren y x (oZ rs ren ys xs Q) | []=>False)
end
section
variable {K:Nat->Prop} {φ:gS} {A:Nat->Prop} {w0:uF} {N:Nat} {sl:Sl} {rs:Rl} {a:Act} {w:World} {P:Program} {ren:List (Nat × Nat)}
theorem aEe {g:Nat}(h:aNl ren g=true): ¬g∈ren.map (·.2):=fun hm=>by
 obtain⟨q,hq,e⟩:=aH5.1 hm;have:=aDP.1 h q hq;rw[e,Nat.beq_refl] at this;cases this
theorem aS9 (hG:G K φ A w0 N (mk sl rs) a w){y:bG}{x:AV}{Q:Prop}{v:Value}(h:aNm rs ren y x Q)(hm:aC K φ w x v):iB (sS K φ w (· ∈ren.map (·.2))) w y v/\Q:=by
 unfold aNm at h;split at h
 ·refine⟨?_,h.2⟩;unfold aC at hm;rw[<-h.1.eq];exact iB.mono (fun _ _=>rfl) (qW hG _) _ _ hm
 ·rename_i g z;split at h
  ·rename_i hb;rw[aAS] at hb;refine⟨?_,h.2⟩;obtain⟨r,hr⟩:=zH hb.1;obtain⟨pl,hp,_⟩:=hG.dom g r hr;unfold aC at hm;rw[<-h.1.eq]
   exact iB.mono (fun _ _=>rfl) (fun b hb' =>by
    rcases hb' with hb' | hb'
    ·exact qW hG _ b hb'
    exact wY hG hp (aEe hb.2) b (aDa _ hb')) _ _ (hm pl hp)
  cases h
 ·rename_i g;split at h
  ·rename_i e k d xs hr;split at h
   ·rename_i hb;refine⟨?_,h.2⟩;rw[<-h.1.eq];have:=hG.rdOwnB (C:=(· ∈ren.map (·.2))) hr (aEe hb) hm;exact this
   cases h
  cases h
 ·split at h
  ·refine⟨?_,h.2⟩;unfold aC at hm;rw[hm,<-h.1];exact rW
  cases h
 cases h
theorem aJZ (hG:G K φ A w0 N (mk sl rs) a w){Q:Prop}: ∀{ys:List bG} {xs:List AV} {vs:List Value},aDK rs ren ys xs Q->aM K φ w xs vs->(∃us ws,vs=us++ws/\lQ (sS K φ w (· ∈ren.map (·.2))) w ys us)/\Q
 | [],xs,vs,h,hm=>⟨⟨[],vs,rfl,rfl⟩,h⟩
 | y::ys,xs,vs,h,hm=>by
   unfold aDK at h;split at h
   ·unfold aM at hm;obtain⟨v,vs',rfl,q1,q2⟩:=hm;obtain⟨q3,q4⟩:=aS9 hG h q1;obtain⟨⟨us,ws,rfl,q5⟩,q6⟩:=aJZ hG q4 q2;exact⟨⟨v::us,ws,rfl,v,us,rfl,q3,q5⟩,q6⟩
   cases h
theorem aEf {Q:Prop}: ∀{ys zs:List bG},aB1 ys zs Q->zs=ys/\Q
 | [],zs,h=>by
   unfold aB1 at h;split at h
   ·exact⟨rfl,h⟩
   cases h
 | y::ys,zs,h=>by
   unfold aB1 at h;split at h
   ·obtain⟨q1,q2⟩:=aEf h.2;exact⟨by rw[h.1.eq,q1],q2⟩
   cases h
theorem aSa (hG:G K φ A w0 N (mk sl rs) a w){ys:List bG}{x:AV}{Q:Prop}{v:Value}(h:aLL rs ren ys x Q)(hm:aC K φ w x v):aMN (sS K φ w (· ∈ren.map (·.2))) w ys v/\Q:=by
 unfold aLL at h;split at h
 ·obtain⟨rfl,hQ⟩:=aEf h;unfold aC at hm;obtain⟨a,e,hr⟩:=hm;exact⟨⟨a,e,jB.mono (fun _ _=>rfl) (qW hG _) _ _ _ hr⟩,hQ⟩
 ·rename_i g0 off;split at h
  ·rename_i t cs hr;split at h
   ·rename_i hb;obtain⟨g,vs,hp,hB,h1,hl⟩:=hG.boxed hr;unfold aC at hm;obtain⟨g',rfl,hg⟩:=hm;have hgg:=hg _ hp;simp only[List.cons.injEq,and_true] at hgg;subst hgg;obtain⟨⟨us,ws,e,q1⟩,hQ⟩:=aJZ hG h (uJ off hl);refine⟨⟨_,rfl,jB.mk (fun _=>wY hG hp (aEe hb) g (by simp[Pl.F])) q1 fun j u hu=>?_⟩,hQ⟩
    have hu' :(vs.toList.drop off)[j]? =some u:=by
     rw[e,aKn (aCx.1 hu).1];exact hu
    rw[List.getElem?_drop] at hu';rw[Nat.add_zero,hB.cell (off+j)];simpa using hu'
   cases h
  cases h
 cases h
mutual
theorem aSb (hG:G K φ A w0 N (mk sl rs) a w){φi:gS}(hi: ∀h pl,φi h=some pl-> ∃g,cE ren h=some g/\φ g=some pl): ∀(y x:AV) (Q:Prop) (v:Value),iL rs ren y x Q->aC K φ w x v->aC (sS K φ w (· ∈ren.map (·.2))) φi w y v/\Q
 | .no,x,Q,v,h,hm=>by unfold iL at h;exact⟨by unfold aC;trivial,h⟩
 | .nil,x,Q,v,h,hm=>by
   unfold iL at h;split at h
   ·unfold aC at*;exact⟨hm,h⟩
   cases h
 | .own k,x,Q,v,h,hm=>by
   unfold iL at h;split at h
   ·split at h
    ·rename_i g' hl;obtain⟨e,hQ⟩:=h.eq;subst e;refine⟨?_,hQ⟩;unfold aC at*;intro pl hp;obtain⟨g2,e1,e2⟩:=hi _ pl hp;rw[hl] at e1;injection e1 with e1;subst e1
     exact hm pl e2
    cases h
   cases h
 | .ptr k o,x,Q,v,h,hm=>by
   unfold iL at h;split at h
   ·split at h
    ·rename_i g' hl;obtain⟨e,hQ1⟩:=h.eq;obtain⟨e2,hQ⟩:=hQ1.eq;subst e;subst e2;refine⟨?_,hQ⟩;unfold aC at*;obtain⟨g3,e3,q⟩:=hm;refine⟨g3,e3,fun pl hp=>?_⟩;obtain⟨g2,e1,e2⟩:=hi _ pl hp;rw[hl] at e1;injection e1 with e1;subst e1
     exact q pl e2
    cases h
   cases h
 | .p none y,x,Q,v,h,hm=>by
   unfold iL at h;split at h
   ·refine⟨?_,h.2⟩;unfold aC at*;rw[<-h.1.eq];exact iB.mono (fun _ _=>rfl) (qW hG _) _ _ hm
   ·rename_i g z;split at h
    ·rename_i hb;rw[aAS] at hb;refine⟨?_,h.2⟩;obtain⟨r,hr⟩:=zH hb.1;obtain⟨pl,hp,_⟩:=hG.dom g r hr;unfold aC at*;rw[<-h.1.eq]
     exact iB.mono (fun _ _=>rfl) (fun b hb' =>by
      rcases hb' with hb' | hb'
      ·exact qW hG _ b hb'
      exact wY hG hp (aEe hb.2) b (aDa _ hb')) _ _ (hm pl hp)
    cases h
   ·rename_i g;split at h
    ·rename_i e k d xs hr;split at h
     ·rename_i hb;refine⟨?_,h.2⟩;rw[<-h.1.eq];have:=hG.rdOwnB (C:=(· ∈ren.map (·.2))) hr (aEe hb) hm;unfold aC;exact this
     cases h
    cases h
   ·split at h
    ·refine⟨?_,h.2⟩;unfold aC at*;rw[hm,<-h.1];exact rW
    cases h
   cases h
 | .p (some _) y,x,Q,v,h,hm=>by unfold iL at h;cases h
 | .agg ys,x,Q,v,h,hm=>by
   unfold iL at h;split at h
   ·unfold aC at hm;obtain⟨vs,rfl,q1,q2⟩:=hm;obtain⟨q3,q4⟩:=aEg hG hi ys _ Q _ h q2;refine⟨?_,q4⟩;unfold aC;exact⟨vs,rfl,q1,q3⟩
   cases h
 | .tup ys,x,Q,v,h,hm=>by unfold iL at h;cases h
 | .ep _ _ _ _,x,Q,v,h,hm=>by unfold iL at h;cases h
 | .rp none ys,x,Q,v,h,hm=>by
   unfold iL at h;obtain⟨q1,q2⟩:=aSa hG h hm;refine⟨?_,q2⟩;unfold aC;exact q1
 | .rp (some _) _,x,Q,v,h,hm=>by unfold iL at h;cases h
 | .fn f [],x,Q,v,h,hm=>by
   unfold iL at h;split at h
   ·obtain⟨rfl,hQ⟩:=h.eq;refine⟨?_,hQ⟩;unfold aC at hm ⊢;obtain⟨vs',e1,e2⟩:=hm;refine⟨vs',e1,?_⟩;unfold aM at e2 ⊢;exact e2
   cases h
 | .fn _ (_::_),x,Q,v,h,hm=>by unfold iL at h;cases h
 | .bsl _ _,x,Q,v,h,hm=>by unfold iL at h;cases h
theorem aEg (hG:G K φ A w0 N (mk sl rs) a w){φi:gS}(hi: ∀h pl,φi h=some pl-> ∃g,cE ren h=some g/\φ g=some pl): ∀(ys xs:List AV) (Q:Prop) (vs:List Value),oZ rs ren ys xs Q->aM K φ w xs vs->aM (sS K φ w (· ∈ren.map (·.2))) φi w ys vs/\Q
 | [],xs,Q,vs,h,hm=>by
   unfold oZ at h;split at h
   ·unfold aM at*;exact⟨hm,h⟩
   cases h
 | y::ys,xs,Q,vs,h,hm=>by
   unfold oZ at h;split at h
   ·unfold aM at hm;obtain⟨v,vs',rfl,q1,q2⟩:=hm;obtain⟨q3,q4⟩:=aSb hG hi y _ _ v h q1;obtain⟨q5,q6⟩:=aEg hG hi ys _ Q vs' q4 q2;refine⟨?_,q6⟩;unfold aM;exact⟨v,vs',rfl,q3,q5⟩
   cases h
end
end
theorem aPb {rs:Rl}{ren:List (Nat × Nat)}{Q Q' :Prop}{y:bG}{x:AV}(h:aNm rs ren y x Q):Q/\(Q' ->aNm rs ren y x Q'):=by
 unfold aNm at*;split at h
 ·exact⟨h.2,fun q=>⟨h.1,q⟩⟩
 ·split at h
  ·exact⟨h.2,fun q=>⟨h.1,q⟩⟩
  cases h
 ·split at h
  ·split at h
   ·exact⟨h.2,fun q=>⟨h.1,q⟩⟩
   cases h
  cases h
 ·split at h
  ·exact⟨h.2,fun q=>⟨h.1,q⟩⟩
  cases h
 cases h
theorem aGz {rs:Rl}{ren:List (Nat × Nat)}{Q Q' :Prop}: ∀{ys:List bG} {xs:List AV},aDK rs ren ys xs Q->Q/\(Q' ->aDK rs ren ys xs Q')
 | [],xs,h=>⟨h,id⟩
 | y::ys,xs,h=>by
   unfold aDK at*;split at h
   ·obtain⟨q1,q2⟩:=aPb (Q' :=aDK rs ren ys _ Q') h;obtain⟨q3,q4⟩:=aGz (Q' :=Q') q1;exact⟨q3,fun q=>q2 (q4 q)⟩
   cases h
theorem aHA {Q Q' :Prop}: ∀{ys zs:List bG},aB1 ys zs Q->Q/\(Q' ->aB1 ys zs Q')
 | [],zs,h=>by
   unfold aB1 at*;split at h
   ·exact⟨h,id⟩
   cases h
 | y::ys,zs,h=>by
   unfold aB1 at*;split at h
   ·obtain⟨q1,q2⟩:=aHA (Q' :=Q') h.2;exact⟨q1,fun q=>⟨h.1,q2 q⟩⟩
   cases h
theorem aPc {rs:Rl}{ren:List (Nat × Nat)}{Q Q' :Prop}{ys:List bG}{x:AV}(h:aLL rs ren ys x Q):Q/\(Q' ->aLL rs ren ys x Q'):=by
 unfold aLL at*;split at h
 ·exact aHA h
 ·split at h
  ·split at h
   ·exact aGz h
   cases h
  cases h
 cases h
mutual
theorem aJ0 {rs:Rl}{ren:List (Nat × Nat)}{Q' :Prop}: ∀(y x:AV) (Q:Prop),iL rs ren y x Q->Q/\(Q' ->iL rs ren y x Q')
 | .no,x,Q,h=>by unfold iL at*;exact⟨h,id⟩
 | .nil,x,Q,h=>by
   unfold iL at*;split at h
   ·exact⟨h,id⟩
   cases h
 | .own k,x,Q,h=>by
   unfold iL at*;split at h
   ·split at h
    ·refine⟨h.eq.2,fun q=>?_⟩;have:=h.eq.1;subst this;simp only[EqN,Nat.beq_refl];exact q
    cases h
   cases h
 | .ptr k o,x,Q,h=>by
   unfold iL at*;split at h
   ·split at h
    ·refine⟨h.eq.2.eq.2,fun q=>?_⟩;have e1:=h.eq.1;have e2:=h.eq.2.eq.1;subst e1;subst e2;simp only[EqN,Nat.beq_refl];exact q
    cases h
   cases h
 | .p none y,x,Q,h=>by
   unfold iL at*;split at h
   ·exact⟨h.2,fun q=>⟨h.1,q⟩⟩
   ·split at h
    ·exact⟨h.2,fun q=>⟨h.1,q⟩⟩
    cases h
   ·split at h
    ·split at h
     ·exact⟨h.2,fun q=>⟨h.1,q⟩⟩
     cases h
    cases h
   ·split at h
    ·exact⟨h.2,fun q=>⟨h.1,q⟩⟩
    cases h
   cases h
 | .p (some _) y,x,Q,h=>by unfold iL at h;cases h
 | .agg ys,x,Q,h=>by
   unfold iL at*;split at h
   ·exact aC8 ys _ Q h
   cases h
 | .tup ys,x,Q,h=>by unfold iL at h;cases h
 | .ep _ _ _ _,x,Q,h=>by unfold iL at h;cases h
 | .rp none ys,x,Q,h=>by
   unfold iL at*;exact aPc h
 | .rp (some _) _,x,Q,h=>by unfold iL at h;cases h
 | .fn f [],x,Q,h=>by
   unfold iL at*;split at h
   ·obtain⟨rfl,hQ⟩:=h.eq;exact⟨hQ,fun q=>by simp only[EqN,Nat.beq_refl];exact q⟩
   cases h
 | .fn _ (_::_),x,Q,h=>by unfold iL at h;cases h
 | .bsl _ _,x,Q,h=>by unfold iL at h;cases h
theorem aC8 {rs:Rl}{ren:List (Nat × Nat)}{Q' :Prop}: ∀(ys xs:List AV) (Q:Prop),oZ rs ren ys xs Q->Q/\(Q' ->oZ rs ren ys xs Q')
 | [],xs,Q,h=>by
   unfold oZ at*;split at h
   ·exact⟨h,id⟩
   cases h
 | y::ys,xs,Q,h=>by
   unfold oZ at*;split at h
   ·obtain⟨q1,q2⟩:=aJ0 (Q' :=oZ rs ren ys _ Q') y _ _ h;obtain⟨q3,q4⟩:=aC8 (Q' :=Q') ys _ Q q1;exact⟨q3,fun q=>q2 (q4 q)⟩
   cases h
end
mutual
def aPd:AV->AV->Bool
 | .p none _,x=>(match x with | .p none _=>true | .nil=>true | _=>false)
 | .agg ys,x=>(match x with | .agg xs=>aEh ys xs | _=>false)
 | .rp none _,x=>(match x with | .rp none _=>true | _=>false)
 | _,_=>true
def aEh:List AV->List AV->Bool
 | [],_=>true
 | y::ys,xs=>(match xs with | x::xs=>aPd y x&&aEh ys xs | []=>true)
end
section
variable {K:Nat->Prop} {φ:gS} {w:World} {rs:Rl} {ren:List (Nat × Nat)}
mutual
theorem aPe {φi:gS}(hi: ∀h pl,φi h=some pl-> ∃g,cE ren h=some g/\φ g=some pl): ∀(y x:AV) (Q:Prop) (v:Value),aPd y x=true->iL rs ren y x Q->aC K φ w x v->aC K φi w y v
 | .no,x,Q,v,_,h,hm=>by unfold aC;trivial
 | .nil,x,Q,v,_,h,hm=>by
   unfold iL at h;split at h
   ·unfold aC at*;exact hm
   cases h
 | .own k,x,Q,v,_,h,hm=>by
   unfold iL at h;split at h
   ·split at h
    ·rename_i g' hl;obtain⟨e,hQ⟩:=h.eq;subst e;unfold aC at*;intro pl hp;obtain⟨g2,e1,e2⟩:=hi _ pl hp;rw[hl] at e1;injection e1 with e1;subst e1
     exact hm pl e2
    cases h
   cases h
 | .ptr k o,x,Q,v,_,h,hm=>by
   unfold iL at h;split at h
   ·split at h
    ·rename_i g' hl;obtain⟨e,hQ1⟩:=h.eq;obtain⟨e2,hQ⟩:=hQ1.eq;subst e;subst e2;unfold aC at*;obtain⟨g3,e3,q⟩:=hm;refine⟨g3,e3,fun pl hp=>?_⟩;obtain⟨g2,e1,e2⟩:=hi _ pl hp;rw[hl] at e1;injection e1 with e1;subst e1
     exact q pl e2
    cases h
   cases h
 | .p none y,x,Q,v,hs,h,hm=>by
   unfold aPd at hs;unfold iL at h;split at h
   ·unfold aC at*;rw[<-h.1.eq];exact hm
   ·cases hs
   ·cases hs
   ·split at h
    ·unfold aC at*;rw[hm,<-h.1];exact rW
    cases h
   cases h
 | .p (some _) y,x,Q,v,_,h,hm=>by unfold iL at h;cases h
 | .agg ys,x,Q,v,hs,h,hm=>by
   unfold aPd at hs;unfold iL at h;split at h
   ·unfold aC at hm;obtain⟨vs,rfl,q1,q2⟩:=hm;unfold aC;exact⟨vs,rfl,q1,aC9 hi ys _ Q _ hs h q2⟩
   cases h
 | .tup ys,x,Q,v,_,h,hm=>by unfold iL at h;cases h
 | .ep _ _ _ _,x,Q,v,_,h,hm=>by unfold iL at h;cases h
 | .rp none ys,x,Q,v,hs,h,hm=>by
   unfold aPd at hs;unfold iL at h;split at hs
   ·unfold aLL at h;obtain⟨rfl,hQ⟩:=aEf h;unfold aC at*;exact hm
   cases hs
 | .rp (some _) _,x,Q,v,_,h,hm=>by unfold iL at h;cases h
 | .fn f [],x,Q,v,_,h,hm=>by
   unfold iL at h;split at h
   ·obtain⟨rfl,hQ⟩:=h.eq;unfold aC at hm ⊢;obtain⟨vs',e1,e2⟩:=hm;refine⟨vs',e1,?_⟩;unfold aM at e2 ⊢;exact e2
   cases h
 | .fn _ (_::_),x,Q,v,_,h,hm=>by unfold iL at h;cases h
 | .bsl _ _,x,Q,v,_,h,hm=>by unfold iL at h;cases h
theorem aC9 {φi:gS}(hi: ∀h pl,φi h=some pl-> ∃g,cE ren h=some g/\φ g=some pl): ∀(ys xs:List AV) (Q:Prop) (vs:List Value),aEh ys xs=true->oZ rs ren ys xs Q->aM K φ w xs vs->aM K φi w ys vs
 | [],xs,Q,vs,_,h,hm=>by
   unfold oZ at h;split at h
   ·unfold aM at*;exact hm
   cases h
 | y::ys,xs,Q,vs,hs,h,hm=>by
   unfold aEh at hs;unfold oZ at h;split at h
   ·simp only[aAS] at hs;unfold aM at hm;obtain⟨v,vs',rfl,q1,q2⟩:=hm;unfold aM;exact⟨v,vs',rfl,aPe hi y _ _ v hs.1 h q1,aC9 hi ys _ Q vs' hs.2 (aJ0 (Q' :=True) _ _ _ h).1 q2⟩
   cases h
end
end
def uM (ren:List (Nat × Nat))(hb h:Nat):Nat:=match cE ren h with | some g=>g | none=>hb+h
mutual
def nC:AV->Bool
 | .p none x=>x.val?.isSome
 | .own _=>true
 | .ptr _ _=>true
 | .nil=>true
 | .no=>true
 | .agg cs=>qX cs
 | .tup cs=>qX cs
 | _=>false
def qX:List AV->Bool
 | []=>true
 | x::xs=>nC x&&qX xs
end
mutual
theorem aAP {K K' :Nat->Prop}{φ:gS}{w:World}: ∀(x:AV) (v:Value),nC x=true->aC K φ w x v->aC K' φ w x v
 | .p none x,v,hc,h=>by
   unfold nC at hc;unfold aC at*;cases hx:x.val? with
   | none=>simp[hx] at hc
   | some u=>exact(iB.scalar hx).2 ((iB.scalar hx).1 h)
 | .p (some k) x,v,hc,h=>by simp[nC] at hc
 | .own k,v,_,h=>by unfold aC at*;exact h
 | .ptr k o,v,_,h=>by unfold aC at*;exact h
 | .ep k _ _ _,v,hc,_=>by simp[nC] at hc
 | .rp _ x,v,hc,h=>by simp[nC] at hc
 | .fn _ _,v,hc,h=>by simp[nC] at hc
 | .bsl _ _,v,hc,h=>by simp[nC] at hc
 | .nil,v,_,h=>by unfold aC at*;exact h
 | .no,v,_,_=>by unfold aC;trivial
 | .agg cs,v,hc,h=>by
   unfold nC at hc;unfold aC at*;obtain⟨vs,e,h1,h2⟩:=h;exact⟨vs,e,h1,nD cs _ hc h2⟩
 | .tup cs,v,hc,h=>by
   unfold nC at hc;unfold aC at*;obtain⟨vs,e,h2⟩:=h;exact⟨vs,e,nD cs _ hc h2⟩
theorem nD {K K' :Nat->Prop}{φ:gS}{w:World}: ∀(xs:List AV) (vs:List Value),qX xs=true->aM K φ w xs vs->aM K' φ w xs vs
 | [],vs,_,h=>by unfold aM at*;exact h
 | x::xs,vs,hc,h=>by
   unfold qX at hc;simp only[aAS] at hc;unfold aM at*;obtain⟨v,vs',e,h1,h2⟩:=h;exact⟨v,vs',e,aAP x v hc.1 h1,nD xs vs' hc.2 h2⟩
end
def aB2 (on:Nat->Nat):List (Nat × Rs)->Nat->Option Nat
 | [],_=>none
 | (h,_)::l,g=>if on h=g then some h else aB2 on l g
theorem wZ {on:Nat->Nat}: ∀{ro:List (Nat × Rs)} {g h:Nat},aB2 on ro g=some h->on h=g/\ ∃r,aY ro h=some r
 | [],_,_,e=>by simp[aB2] at e
 | (k,r)::l,g,h,e=>by
   simp only[aB2] at e;split at e
   ·injection e with e;subst e;rename_i q;exact⟨q,r,by simp[aY]⟩
   obtain⟨h1,r',h2⟩:=wZ e;refine⟨h1,?_⟩;simp only[aY];split
   ·exact⟨r,rfl⟩
   exact⟨r',h2⟩
theorem aPf {on:Nat->Nat}{h:Nat}: ∀{ro:List (Nat × Rs)} {r:Rs},(∀h' r',aY ro h' =some r' ->on h' =on h->h' =h)->aY ro h=some r->aB2 on ro (on h)=some h:=by
 intro ro r hi hr;cases hv:aB2 on ro (on h) with
 | some h' =>
   obtain⟨e,r',hr'⟩:=wZ hv;rw[hi h' r' hr' e]
 | none=>
   exfalso
   have: ∀(l:List (Nat × Rs)),aB2 on l (on h)=none->aY l h=none:=by
    intro l
    induction l with
    | nil=>intro _;rfl
    | cons q l ih=>
      obtain⟨k,r0⟩:=q;intro e;simp only[aB2] at e;split at e
      ·cases e
      rename_i hne;simp only[aY];rw[if_neg (fun e' =>hne (by rw[e']))];exact ih e
   rw[this ro hv] at hr;cases hr
theorem aJ1 {on:Nat->Nat}{m:Rs->Rs}: ∀{ro:List (Nat × Rs)} {g:Nat} {r:Rs},aY (ro.map fun q=>(on q.1,m q.2)) g=some r-> ∃h r0,aB2 on ro g=some h/\aY ro h=some r0/\r=m r0
 | [],g,r,e=>by simp[aY] at e
 | (k,r1)::l,g,r,e=>by
   simp only[aGN,aY] at e;split at e
   ·rename_i q;injection e with e
    exact⟨k,r1,by simp[aB2,q],by simp[aY],e.symm⟩
   rename_i q;obtain⟨h,r0,h1,h2,h3⟩:=aJ1 e;refine⟨h,r0,by simp only[aB2];rw[if_neg (fun e=>q e.symm)];exact h1,?_,h3⟩;simp only[aY];rw[if_neg (fun e=>by subst e;exact q (wZ h1).1.symm)];exact h2
theorem sT {on:Nat->Nat}{m:Rs->Rs}: ∀{ro:List (Nat × Rs)} {g:Nat},aY (ro.map fun q=>(on q.1,m q.2)) g=none->aB2 on ro g=none
 | [],g,e=>rfl
 | (k,r1)::l,g,e=>by
   simp only[aGN,aY] at e;split at e
   ·cases e
   rename_i q;simp only[aB2];rw[if_neg (fun e=>q e.symm)];exact sT e
theorem aJ2 {ren:List (Nat × Nat)}{h g:Nat}(e:cE ren h=some g):g∈ren.map (·.2):=by
 induction ren with
 | nil=>simp[cE] at e
 | cons q l ih=>
   obtain⟨k,v⟩:=q;unfold cE at e;split at e
   ·injection e with e;simp[e]
   simp only[aGN,aG7];exact .inr (ih e)
def aDp (st:Bool)(x:AV):Bool:=st || nC x
def aEi (st:Bool):Rs->Bool
 | .box _ cs=>st || qX cs
 | .arr _ _ d _=>st || d
 | .hole _ _ _ _ _ _=>false
section
variable {P:Program} {sl:Sl} {rs:Rl}
def aHB:Rs->Bool
 | .box _ _=>true
 | _=>false
def aLM (ri:List (Nat × Rs))(ren:List (Nat × Nat))(ro:List (Nat × Rs)):Bool:=ro.all fun q=>match cE ren q.1 with | some _=>aHB q.2&&(match aY ri q.1 with | some r=>aHB r | none=>false) | none=>true
def aA2 (P:Program)(o:Oper)(S:St)(e:Eff)(B:Prop):Prop:=
 ∀(K:Nat->Prop) (φ:gS) (A:Nat->Prop) (w0:uF) (N:Nat) (a:Act) (w:World) (Q:Exit->Act->World->Prop),(∀d,o.dst=some d->d<N)->G K φ A w0 N S a w->
  o.wp P a w (fun a' w' => ∃K' φ' v,a' =a.put o.dst v/\G K' φ' A w0 N (S.apply o.dst e) a' w' /\(B->Tr K φ w (· ∈e.del) (aY e.new) K' φ' w')) Q
theorem aA2.to0 {P:Program}{S:St}{o:Oper}{e:Eff}{B:Prop}(h:aA2 P o S e B):sO P o S e:=fun K φ A w0 N a w Q hd hG=>Oper.wp_mono (fun a' w' ⟨K',φ',v,h1,h2,_⟩=>⟨K',φ',v,h1,h2⟩) (h K φ A w0 N a w Q hd hG)
theorem aA2.full {P:Program}{S:St}{o:Oper}{e:Eff}{B:Prop}(h:aA2 P o S e B)(b:B):bE P o S e:=fun K φ A w0 N a w Q hd hG=>Oper.wp_mono (fun a' w' ⟨K',φ',v,h1,h2,h3⟩=>⟨K',φ',v,h1,h2,h3 b⟩) (h K φ A w0 N a w Q hd hG)
theorem aJ3 {o:Oper}{f:FuncId}{avs fs:List AV}{ri ro:List (Nat × Rs)}{ren:List (Nat × Nat)}{rv:AV}{hb:Nat}{st:Bool}(hset:st=true->aEh fs avs=true)
 (hrun: ∀K φ A w0 N a w,G K φ A w0 N (mk sl rs) a w-> ∃vs:Array Value,(execOp a.eval o).run P w= .ok (.enter f vs) w/\aM K φ w avs vs.toList)
 (hC:pN P f fs ri rv ro) (ha:oZ rs ren fs avs True)
 (hres: ∀h r,aY ri h=some r-> ∃g,cE ren h=some g/\bA rs g=some (aG2 (aPa ren) r)) (hkey: ∀h g,cE ren h=some g-> ∃r,aY ri h=some r) (hinj:lR (ren.map (·.2))=true)
 (hcl:aDp st rv=true) (hclr: ∀q∈ro,aEi st q.2=true) (hfr: ∀q∈ro,cE ren q.1=none->gJ (mk sl rs) (hb+q.1))
 (hmt: ∀h∈bZ rv,∃r,aY ro h=some r) (hmr: ∀q∈ro,∀h∈iE q.2,∃r,aY ro h=some r)
 (hon: ∀h h' r r',aY ro h=some r->aY ro h' =some r' ->uM ren hb h=uM ren hb h' ->h=h')
 (hvw: ∀q∈ro,∀g,cE ren q.1=some g->(∀t,g ∉ sA (bQ sl t))/\ ∀h' r,bA rs h' =some r->g ∉ aC7 r):
 aA2 P o (mk sl rs) ⟨kX (uM ren hb) rv,ren.map (·.2),ro.map fun q=>(uM ren hb q.1,aG2 (uM ren hb) q.2)⟩ (aLM ri ren ro=true):=by
 intro K φ A w0 N a w Q hd hG;obtain⟨vs,hrn,hmv⟩:=hrun K φ A w0 N a w hG;unfold Oper.wp;rw[hrn,Oper.upon_enter]
 let φi:gS:=fun h=>match cE ren h with | some g=>φ g | none=>none
 have hi: ∀h pl,φi h=some pl-> ∃g,cE ren h=some g/\φ g=some pl:=fun h pl e=>by
  simp only[φi] at e;split at e
  ·rename_i g hg;exact⟨g,hg,e⟩
  cases e
 have hren: ∀h g,cE ren h=some g->aPa ren h=g:=fun h g e=>by unfold aPa;rw[e]
 have hBx: ∃B:Nat->Prop,(∀b,K b->B b)/\(∀b,B b->b<w.heap.size/\ ¬fH φ (· ∈ren.map (·.2)) b)/\aM B φi w fs vs.toList/\(st=true-> ∀b,B b->K b):=by
  cases hst:st with
  | false=>exact⟨sS K φ w (· ∈ren.map (·.2)),qW hG _,(by intro b h;exact h),(aEg hG hi fs avs True vs.toList ha hmv).1,fun e=>by cases e⟩
  | true=>exact⟨K,fun _ h=>h,fun b hb=>⟨(hG.kin b hb).1,fun ⟨h,pl,_,hp,hm⟩=>hG.kout b hb h pl hp hm⟩,aC9 hi fs avs True vs.toList (hset hst) ha hmv,fun _ _ h=>h⟩
 obtain⟨B,hKB,hBB,hargs,hBK⟩:=hBx
 have hI:In2 B φi w ri:=by
  refine⟨fun b hb=>(hBB b hb).1,fun h r hr=>?_,fun h hr=>?_,fun h h' pl pl' hne e e' =>?_,fun h pl e=>?_,fun h pl e g hg=>?_,fun b hb' h pl e hm=>?_⟩
  ·obtain⟨g,hg,hf⟩:=hres h r hr;obtain⟨pl,hp,hh⟩:=hG.dom g _ hf;refine⟨pl,by simp only[φi,hg];exact hp,?_⟩;cases r with
   | box t cs=>
     obtain⟨g',vs',e1,e2,e3,e4⟩:=hh;refine⟨g',vs',e1,e2,e3,?_⟩;have:=aM.unmap (φ' :=φi) cs _ (fun k pl' _ e=>by obtain⟨g2,q1,q2⟩:=hi k pl' e;rw[hren k g2 q1];exact q2) e4;exact aM.mono (fun _ _=>rfl) hKB cs _ (fun _ _ _ e=>⟨e,fun _ _=>rfl⟩) this
   | hole e k xs i j q=>
     obtain⟨xs1,x1,d,x2,xs2,css1,c1,v,c2,css2,Fs1,F1,F2,Fs2,e0,e1,e2,e3,h1,h2,h3,h4,h5,h6,h7,h8⟩:=hh;exact⟨xs1,x1,d,x2,xs2,css1,c1,v,c2,css2,Fs1,F1,F2,Fs2,e0,e1,e2,e3,h1,h2,h3,h4,h5,h6,h7,⟨h8.1,fun pl' e' =>by obtain⟨g2,q1,q2⟩:=hi q pl' e';exact h8.2 pl' (by rw[hren q g2 q1];exact q2)⟩⟩
   | arr e k d xs=>
     have:=Holds.mono (K' :=B) (φ' :=φi) (w' :=w) (pl:=pl) (fun _ _=>rfl) hKB (fun _ _=>rfl) (.arr e k d xs) (fun _ _ hm _=>by simp[iE] at hm) hh;exact this
  ·simp only[φi];cases hl:cE ren h with
   | none=>rfl
   | some g=>
     obtain⟨r,hr'⟩:=hkey h g hl;rw[hr] at hr';cases hr'
  ·obtain⟨g,q1,q2⟩:=hi h pl e;obtain⟨g',q1',q2'⟩:=hi h' pl' e';exact hG.disj g g' pl pl' (fun x=>by subst x;exact hne (aEd hinj q1 q1')) q2 q2'
  ·obtain⟨g,_,q2⟩:=hi h pl e;exact hG.nodup g pl q2
  ·obtain⟨g',_,q2⟩:=hi h pl e;exact(hG.ge g' pl q2 g hg).2
  obtain⟨g,q1,q2⟩:=hi h pl e;exact(hBB b hb').2 ⟨g,pl,aJ2 q1,q2,hm⟩
 refine(hC.2.2 _ φi w vs hI hargs).mono ?_;rintro e w' ⟨v,Kr,φ',rfl,hO,hmr'⟩
 have hfoot: ∀b,aHz φi b->fH φ (· ∈ren.map (·.2)) b:=fun b ⟨h,pl,_,e,hb⟩=>by
  obtain⟨g,q1,q2⟩:=hi h pl e;exact⟨g,pl,aJ2 q1,q2,hb⟩
 let on:=uM ren hb
 have hou: ∀h g,cE ren h=some g->on h=g:=fun h g e=>by simp only[on,uM,e]
 have hou' : ∀h,cE ren h=none->on h=hb+h:=fun h e=>by simp only[on,uM,e]
 let φr:gS:=fun g=>match aB2 on ro g with | some h=>φ' h | none=>none
 have r1: ∀g pl,φr g=some pl-> ∃h r,on h=g/\aY ro h=some r/\φ' h=some pl:=fun g pl e=>by
  simp only[φr] at e;split at e
  ·rename_i h hh;obtain⟨q1,r,q2⟩:=wZ hh;exact⟨h,r,q1,q2,e⟩
  cases e
 have r2: ∀h r,aY ro h=some r->φr (on h)=φ' h:=fun h r hr=>by
  simp only[φr];rw[aPf (on:=on) (fun h' r' hr' e=>hon h' h r' r hr' hr e) hr]
 have r3: ∀g pl,φr g=some pl->((∃pl0,φ g=some pl0/\pl.val=pl0.val/\pl.top=pl0.top)/\(∀t,g ∉ sA (bQ sl t))/\ ∀h' r,bA rs h' =some r->g ∉ aC7 r)\/gJ (mk sl rs) g:=fun g pl e=>by
  obtain⟨h,r,e1,e2,e3⟩:=r1 g pl e;cases hl:cE ren h with
  | some g' =>
    rw[hou h g' hl] at e1;subst e1;obtain⟨r0,hr0⟩:=hkey h _ hl;obtain⟨pl0,hp0,_⟩:=hI.dom h r0 hr0;have hpn:=hO.pin h pl pl0 e3 hp0;have hp:φ g' =some pl0:=by simp only[φi,hl] at hp0;exact hp0
    have:=hvw _ (cC e2) g' hl;exact .inl ⟨⟨pl0,hp,hpn⟩,this⟩
  | none=>
    rw[hou' h hl] at e1;rw[<-e1];exact .inr (hfr _ (cC e2) hl)
 have hKx: ∃K' :Nat->Prop,(∀b,K b->K' b)/\(∀b,K' b->K b\/(b<w'.heap.size/\(w.heap.size<=b\/fH φ (· ∈ren.map (·.2)) b)/\ ∀h pl,φr h=some pl->b ∉ pl.F))/\(aDp st rv=true->aC Kr φ' w' rv v->aC K' φ' w' rv v)/\(∀cs vs',(st || qX cs)=true->aM Kr φ' w' cs vs' ->aM K' φ' w' cs vs')/\(∀e k d xs pl,(st || d)=true->Holds Kr φ' w' pl (.arr e k d xs)->Holds K' φ' w' pl (.arr e k d xs)):=by
  cases hst:st with
  | false=>
    refine⟨K,fun _ h=>h,fun _ h=> .inl h,fun hc hm=>?_,fun cs vs' hc hm=>?_,fun e k d xs pl hc hm=>?_⟩
    ·exact aAP rv v (by simpa [aDp] using hc) hm
    ·exact nD cs vs' (by simpa using hc) hm
    have hd' :d=true:=by simpa using hc
    subst hd';exact hm
  | true=>
    refine⟨Kr,fun b hb=>hO.kk b (hKB b hb),fun b hb=>?_,fun _ hm=>hm,fun _ _ _ hm=>hm,fun _ _ _ _ _ _ hm=>hm⟩;obtain⟨q1,q2⟩:=hO.kin b hb;rcases q2 with q2 | q2 | q2
    ·exact .inl (hBK hst b q2)
    ·exact .inr ⟨q1,.inl q2,fun h pl e=>by obtain⟨h',r,_,_,e3⟩:=r1 h pl e;exact hO.kout b hb h' pl e3⟩
    exact .inr ⟨q1,.inr (hfoot b q2),fun h pl e=>by obtain⟨h',r,_,_,e3⟩:=r1 h pl e;exact hO.kout b hb h' pl e3⟩
 obtain⟨K',kx1,kx2,kx3,kx4,kx5⟩:=hKx
 have hst:=hG.stepV (C:=(· ∈ren.map (·.2))) (φr:=φr) (ρ:=aY (ro.map fun q=>(on q.1,aG2 on q.2))) (K' :=K') (w' :=w')
  (hO.chg.mono hfoot)
  (fun g pl e=>by
   obtain⟨h,r,_,_,e3⟩:=r1 g pl e;refine⟨hO.nodup h pl e3,fun b hb=>⟨(hO.ge h pl e3 b hb).2,(hO.ge h pl e3 b hb).1.imp id (hfoot b)⟩⟩)
  (fun g g' pl pl' hne e e' =>by
   obtain⟨h,r,q1,_,e3⟩:=r1 g pl e;obtain⟨h',r',q1',_,e3'⟩:=r1 g' pl' e';exact hO.disj h h' pl pl' (fun x=>by subst x;exact hne (q1.symm.trans q1')) e3 e3')
  (fun g r hr=>by
   obtain⟨h,r0,q1,q2,q3⟩:=aJ1 hr;subst q3;obtain⟨pl,hp,hh⟩:=hO.dom h r0 q2;have hin:=(wZ q1).1;refine⟨pl,by rw[<-hin,r2 h r0 q2];exact hp,?_⟩;cases r0 with
   | box t cs=>
     obtain⟨g',vs',e1,e2,e3,e4⟩:=hh;refine⟨g',vs',e1,e2,e3,?_⟩;refine aM.map cs _ (fun k pl' hk e=>?_) (kx4 cs _ (hclr _ (cC q2)) e4);obtain⟨rk,hrk⟩:=hmr _ (cC q2) k hk;obtain⟨plk,hpk,_⟩:=hO.dom k rk hrk;have:cF (· ∈ren.map (·.2)) φr φ (on k)=some plk:=by simp only[cF,r2 k rk hrk,hpk]
     rw[this] at e;injection e with e
     subst e;exact hpk
   | hole e k xs i j q=>
     have hd' :=hclr _ (cC q2);simp[aEi] at hd'
   | arr e k d xs=>
     have hk5:=kx5 e k d xs pl (hclr _ (cC q2)) hh;cases d<;>exact hk5)
  (fun g hr=>by simp only[φr];rw[sT hr])
  kx1 kx2
  (fun t g pl hm' e=>by
   rcases r3 g pl e with ⟨⟨pl0,q1,q3,q4⟩,q2,_⟩ | q
   ·exact⟨pl0,q1,q3,q4,fun hv=>absurd hv (q2 t)⟩
   exact absurd hm' (q.1 t))
  (fun h' r g pl _ hr hm' e=>by
   rcases r3 g pl e with ⟨⟨pl0,q1,q3,q4⟩,_,q2⟩ | q
   ·exact⟨pl0,q1,q3,q4,fun hv=>absurd hv (q2 h' r hr)⟩
   exact absurd hm' (q.2.1 h' r hr))
  (fun g pl e=>by
   rcases r3 g pl e with ⟨q1,_⟩ | q
   ·exact .inl q1
   exact .inr q.2.2.2)
 have hTr:aLM ri ren ro=true->Tr K φ w (· ∈ren.map (·.2)) (aY (ro.map fun q=>(on q.1,aG2 on q.2))) K' (cF (· ∈ren.map (·.2)) φr φ) w' :=fun hB=>by
  have same: ∀g pl,φr g=some pl->(φ g=some pl/\pl.sub= [])\/(gJ (mk sl rs) g/\ ∃h r,on h=g/\aY ro h=some r/\φ' h=some pl):=fun g pl e=>by
   obtain⟨h,r,e1,e2,e3⟩:=r1 g pl e;cases hl:cE ren h with
   | some g' =>
     rw[hou h g' hl] at e1;subst e1;obtain⟨r0,hr0⟩:=hkey h _ hl;obtain⟨pl0,hp0,hh0⟩:=hI.dom h r0 hr0;obtain⟨pl1,hp1,hh1⟩:=hO.dom h r e2;have hpn:=hO.pin h pl pl0 e3 hp0;have hp:φ g' =some pl0:=by simp only[φi,hl] at hp0;exact hp0
     rw[e3] at hp1;injection hp1 with hp1
     subst hp1;have hb1:=aDP.1 hB _ (cC e2);simp only[hl,hr0,aAS] at hb1;obtain⟨c1,c2⟩:=hb1;cases r with
     | box t cs=>
       cases r0 with
       | box t0 cs0=>
         obtain⟨ga,_,ea,_⟩:=hh1;obtain⟨gb,_,eb,_⟩:=hh0;have hv:=hpn.1;rw[ea,eb] at hv;simp only[Value.pointer.injEq,Option.some.injEq] at hv;injection hv with hv
         subst hv;exact .inl ⟨by rw[hp,ea,eb],by rw[ea]⟩
       | arr _ _ _ _=>simp[aHB] at c2
       | hole _ _ _ _ _ _=>simp[aHB] at c2
     | arr _ _ _ _=>simp[aHB] at c1
     | hole _ _ _ _ _ _=>simp[aHB] at c1
   | none=>
     rw[hou' h hl] at e1;refine .inr ⟨by rw[<-e1];exact hfr _ (cC e2) hl,h,r,by rw[hou' h hl];exact e1,e2,e3⟩
  refine⟨hO.chg.mono hfoot,kx1,fun b h=>(kx2 b h).imp id (fun q=>q.2.1),fun g pl e=>?_,fun g pl e e' b hb=>?_⟩
  ·rcases bN e with q | ⟨_,_,q⟩
   ·rcases same g pl q with ⟨q1,_⟩ | ⟨q1,h,r,q2,q3,q4⟩
    ·exact .inl q1
    refine .inr ⟨hG.non g q1.2.2.1,?_,fun b hb=>(hO.ge h pl q4 b hb).1.imp id (hfoot b)⟩;cases hf:aY (ro.map fun q=>(on q.1,aG2 on q.2)) g with
    | some r' =>exact⟨r',rfl⟩
    | none=>
      have:=sT hf;rw[<-q2,aPf (on:=on) (fun h' r' hr' e=>hon h' h r' r hr' q3 e) q3] at this;cases this
   exact .inl q
  rcases bN e with q | ⟨_,hc,_⟩
  ·rcases same g pl q with ⟨_,q1⟩ | ⟨q1,_⟩
   ·rw[q1] at hb;cases hb
   rw[hG.non g q1.2.2.1] at e';cases e'
  refine hO.chg.block b (hG.ge g pl e' b (aDa _ hb)).2 (fun hm=>?_);obtain⟨g2,pl2,hc2,hp2,hb2⟩:=hfoot b hm;by_cases ex:g=g2
  ·subst ex;exact hc hc2
  exact hG.disj g g2 pl pl2 ex e' hp2 b (aDa _ hb) hb2
 refine⟨K',cF (· ∈ren.map (·.2)) φr φ,v,rfl,hst.put hd (aC.map rv v (fun k pl hk e=>?_) (kx3 hcl hmr')),hTr⟩;obtain⟨rk,hrk⟩:=hmt k hk;obtain⟨plk,hpk,_⟩:=hO.dom k rk hrk;have:cF (· ∈ren.map (·.2)) φr φ (on k)=some plk:=by simp only[cF,r2 k rk hrk,hpk]
 rw[this] at e;injection e with e
 subst e;exact hpk
end
def riW (rs:Rl)(ren:List (Nat × Nat)):List (Nat × Rs)->Prop->Prop
 | [],K=>K
 | (h,r)::l,K=>(match cE ren h with
   | some g=>(match bA rs g with | some r' =>EqR r' (aG2 (aPa ren) r) (riW rs ren l K) | none=>False)
   | none=>False)
theorem aPg {rs:Rl}{ren:List (Nat × Nat)}{K:Prop}: ∀{l:List (Nat × Rs)},riW rs ren l K->(∀h r,aY l h=some r-> ∃g,cE ren h=some g/\bA rs g=some (aG2 (aPa ren) r))/\K
 | [],h=>⟨by simp[aY],h⟩
 | (k,r0)::l,hw=>by
   unfold riW at hw;split at hw
   ·rename_i g hg;split at hw
    ·rename_i r' hr';obtain⟨e1,hw1⟩:=hw.eq;obtain⟨q1,q2⟩:=aPg hw1;refine⟨fun h r e=>?_,q2⟩;simp only[aY] at e;split at e
     ·rename_i ek;subst ek;injection e with e
      subst e;exact⟨g,hg,by rw[hr',e1]⟩
     exact q1 h r e
    cases hw
   cases hw
def sB (sl:Sl)(rs:Rl)(g:Nat):Bool:=sl.all (fun p=> !(sA (bQ sl p.1)).contains g)&&rs.all (fun p=>match bA rs p.1 with | some r=> !(aC7 r).contains g | none=>true)
def aIA (st:Bool)(sl:Sl)(rs:Rl)(hb:Nat)(ri:List (Nat × Rs))(ren:List (Nat × Nat))(rv:AV)(ro:List (Nat × Rs)):Bool:=
 ren.all (fun q=>(aY ri q.1).isSome)&&lR (ren.map (·.2))&&aDp st rv&&(ro.all fun q=>aEi st q.2)&&(ro.all fun q=>match cE ren q.1 with | some g=>sB sl rs g | none=>fW sl rs (hb+q.1))&&
 ((bZ rv).all fun h=>(aY ro h).isSome)&&(ro.all fun q=>(iE q.2).all fun h=>(aY ro h).isSome)&&(ro.all fun q=>ro.all fun q' =>Nat.beq q.1 q'.1 || !Nat.beq (uM ren hb q.1) (uM ren hb q'.1))
def xA (P:Program)(sl:Sl)(rs:Rl)(d:Nat)(f:FuncId)(avs:List AV)(t:T)(K:AV->List Nat->List (Nat × Rs)->T->Prop):Prop:=match t with
 | .callx fs ri ren rv ro t=>(match aIA false sl rs (100*d) ri ren rv ro with
   | true=>pN P f fs ri rv ro/\oZ rs ren fs avs (riW rs ren ri (K (kX (uM ren (100*d)) rv) (ren.map (·.2)) (ro.map fun q=>(uM ren (100*d) q.1,aG2 (uM ren (100*d)) q.2)) t))
   | false=>False)
 | .callxs fs ri ren rv ro t=>(match aIA true sl rs (100*d) ri ren rv ro&&aEh fs avs with
   | true=>pN P f fs ri rv ro/\oZ rs ren fs avs (riW rs ren ri (K (kX (uM ren (100*d)) rv) (ren.map (·.2)) (ro.map fun q=>(uM ren (100*d) q.1,aG2 (uM ren (100*d)) q.2)) t))
   | false=>False)
 | _=>False
theorem aSc {ren:List (Nat × Nat)}{h g:Nat}(e:cE ren h=some g):(h,g)∈ren:=by
 induction ren with
 | nil=>simp[cE] at e
 | cons q l ih=>
   obtain⟨k,v⟩:=q;unfold cE at e;split at e
   ·rename_i hb;injection e with e;have:=aBq hb;subst this;subst e;simp
   exact aML _ (ih e)
theorem tG {sl:Sl}{rs:Rl}{g:Nat}(h:sB sl rs g=true):(∀t,g ∉ sA (bQ sl t))/\ ∀h' r,bA rs h' =some r->g ∉ aC7 r:=by
 unfold sB at h;simp only[aAS,aDP] at h;refine⟨fun t ht=>?_,fun h' r hr hm=>?_⟩
 ·have hk: ∀(l:Sl),bQ l t≠ .no->t∈l.map (·.1):=by
   intro l
   induction l with
   | nil=>intro h;simp[bQ] at h
   | cons q l ih=>
     obtain⟨k,v⟩:=q;intro h;simp only[bQ] at h;by_cases e:t=k
     ·simp[e]
     rw[if_neg e] at h;simp[ih h]
  have hne:bQ sl t≠ .no:=fun e=>by rw[e] at ht;simp[sA] at ht
  obtain⟨q,hq,rfl⟩:=aH5.1 (hk sl hne);have:=h.1 q hq;simp only[Bool.not_eq_true',List.contains_eq_mem,decide_eq_false_iff_not] at this;exact this ht
 have hk: ∀(l:Rl),bA l h' =some r->h' ∈l.map (·.1):=by
  intro l
  induction l with
  | nil=>intro h;simp[bA] at h
  | cons q l ih=>
    obtain⟨k,v⟩:=q;intro h;simp only[bA] at h;by_cases e:h' =k
    ·simp[e]
    rw[if_neg e] at h;simp[ih h]
 obtain⟨q,hq,rfl⟩:=aH5.1 (hk rs hr);have:=h.2 q hq;rw[hr] at this;simp only[Bool.not_eq_true',List.contains_eq_mem,decide_eq_false_iff_not] at this;exact this hm
def aV8:T->Bool
 | .callx _ ri ren _ ro _=>aLM ri ren ro
 | .callxs _ ri ren _ ro _=>aLM ri ren ro
 | _=>false
theorem aHC {P:Program}{sl:Sl}{rs:Rl}{d:Nat}{f:FuncId}{avs fs:List AV}{ri ro:List (Nat × Rs)}{ren:List (Nat × Nat)}{rv:AV}{o:Oper}{t:T}{st:Bool}{K:AV->List Nat->List (Nat × Rs)->T->Prop}(hrun:jL P f=true-> ∀K φ A w0 N a w,G K φ A w0 N (mk sl rs) a w-> ∃vs:Array Value,(execOp a.eval o).run P w= .ok (.enter f vs) w/\aM K φ w avs vs.toList)(hset:st=true->aEh fs avs=true)(hb:aIA st sl rs (100*d) ri ren rv ro=true)
 (h:pN P f fs ri rv ro/\oZ rs ren fs avs (riW rs ren ri (K (kX (uM ren (100*d)) rv) (ren.map (·.2)) (ro.map fun q=>(uM ren (100*d) q.1,aG2 (uM ren (100*d)) q.2)) t))): ∃v del new t',aA2 P o (mk sl rs) ⟨v,del,new⟩ (aLM ri ren ro=true)/\K v del new t' :=by
 unfold aIA at hb;simp only[aAS,aDP] at hb;obtain⟨⟨⟨⟨⟨⟨⟨b1,b2⟩,b3⟩,b4⟩,b5⟩,b6⟩,b7⟩,b8⟩:=hb;obtain⟨hC,h⟩:=h;obtain⟨h1,h2⟩:=aC8 (Q' :=True) _ _ _ h;obtain⟨h3,h4⟩:=aPg h1;refine⟨_,_,_,_,aJ3 hset (hrun hC.1) hC (h2 trivial) h3 (fun h g e=>Option.isSome_iff_exists.1 (b1 _ (aSc e))) b2 b3 b4 (fun q hq hn=>?_) (fun k hk=>Option.isSome_iff_exists.1 (b6 k hk)) (fun q hq k hk=>Option.isSome_iff_exists.1 (b7 q hq k hk)) (fun k k' r r' e e' ex=>?_) (fun q hq g hg=>?_),h4⟩
 ·have:=b5 q hq;rw[hn] at this;exact eU this
 ·have:=b8 _ (cC e) _ (cC e');simp only[Bool.or_eq_true,Bool.not_eq_true'] at this;rcases this with q | q
  ·exact aBq q
  rw[ex,Nat.beq_refl] at q;cases q
 have:=b5 q hq;rw[hg] at this;exact tG this
theorem aEj {P:Program}{sl:Sl}{rs:Rl}{d:Nat}{f:FuncId}{avs:List AV}{o:Oper}{t:T}{K:AV->List Nat->List (Nat × Rs)->T->Prop}(hrun:jL P f=true-> ∀K φ A w0 N a w,G K φ A w0 N (mk sl rs) a w-> ∃vs:Array Value,(execOp a.eval o).run P w= .ok (.enter f vs) w/\aM K φ w avs vs.toList)(h:xA P sl rs d f avs t K): ∃v del new t',aA2 P o (mk sl rs) ⟨v,del,new⟩ (aV8 t=true)/\K v del new t' :=by
 unfold xA at h;split at h
 ·split at h
  ·rename_i hb;obtain⟨v,del,new,t',h1,h2⟩:=aHC (st:=false) hrun (fun e=>by cases e) hb h;exact⟨v,del,new,t',h1,h2⟩
  cases h
 ·split at h
  ·rename_i hb;rw[aAS] at hb;obtain⟨v,del,new,t',h1,h2⟩:=aHC (st:=true) hrun (fun _=>hb.2) hb.1 h;exact⟨v,del,new,t',h1,h2⟩
  cases h
 cases h
theorem aHD {P:Program}{sl:Sl}{rs:Rl}{d:Nat}{f:FuncId}{avs:List AV}{o:Oper}{t:T}{K:AV->List Nat->List (Nat × Rs)->T->Prop}(hrun:jL P f=true-> ∀K φ A w0 N a w,G K φ A w0 N (mk sl rs) a w-> ∃vs:Array Value,(execOp a.eval o).run P w= .ok (.enter f vs) w/\aM K φ w avs vs.toList)(h:xA P sl rs d f avs t K): ∃v del new t',sO P o (mk sl rs) ⟨v,del,new⟩/\K v del new t' :=by
 obtain⟨v,del,new,t',h1,h2⟩:=aEj hrun h;exact⟨v,del,new,t',h1.to0,h2⟩
theorem aEk {P:Program}{sl:Sl}{rs:Rl}{d:Nat}{f:FuncId}{avs:List AV}{o:Oper}{t:T}{K:AV->List Nat->List (Nat × Rs)->T->Prop}(hrun:jL P f=true-> ∀K φ A w0 N a w,G K φ A w0 N (mk sl rs) a w-> ∃vs:Array Value,(execOp a.eval o).run P w= .ok (.enter f vs) w/\aM K φ w avs vs.toList)(h:xA P sl rs d f avs t K)(hb:aV8 t=true): ∃v del new t',bE P o (mk sl rs) ⟨v,del,new⟩/\K v del new t' :=by
 obtain⟨v,del,new,t',h1,h2⟩:=aEj hrun h;exact⟨v,del,new,t',h1.full hb,h2⟩
theorem bF {α:Type}{l:List α}{k:Nat}{x y:α}(h:l[k]? =some x)(h' :l[k]? =some y):y=x:=by rw[h] at h';injection h' with e;exact e.symm
theorem cA.split {w:World}{k:Nat}: ∀{xs:List (List bG)} {css:List (List Value)} {Fs:List (List Nat)} {i:Nat} {x:List bG},cA w k xs css Fs->xs[i]? =some x->
 ∃xs1 xs2 css1 c css2 Fs1 F Fs2,xs=xs1++x::xs2/\css=css1++c::css2/\Fs=Fs1++F::Fs2/\xs1.length=i/\cA w k xs1 css1 Fs1/\x.length=k/\cN w x c F/\cA w k xs2 css2 Fs2
 | [],_,_,_,_,_,h=>by simp at h
 | y::xs,css,Fs,0,x,ho,h=>by
   unfold cA at ho;obtain⟨c,css',F,Fs',rfl,rfl,h1,h2,h3⟩:=ho;simp at h;subst h;exact⟨[],xs,[],c,css',[],F,Fs',rfl,rfl,rfl,rfl,by unfold cA;exact⟨rfl,rfl⟩,h1,h2,h3⟩
 | y::xs,css,Fs,i+1,x,ho,h=>by
   unfold cA at ho;obtain⟨c,css',F,Fs',rfl,rfl,h1,h2,h3⟩:=ho;simp at h;obtain⟨xs1,xs2,css1,c',css2,Fs1,F',Fs2,rfl,rfl,rfl,e,q1,q2,q3,q4⟩:=cA.split h3 h;exact⟨y::xs1,xs2,c::css1,c',css2,F::Fs1,F',Fs2,rfl,rfl,rfl,by simp[e],by unfold cA;exact⟨c,css1,F,Fs1,rfl,rfl,h1,h2,q1⟩,q2,q3,q4⟩
theorem cN.split {w:World}: ∀{x1 x2:List bG} {c:List Value} {F:List Nat},cN w (x1++x2) c F-> ∃c1 c2 F1 F2,c=c1++c2/\F=F1++F2/\cN w x1 c1 F1/\cN w x2 c2 F2
 | [],x2,c,F,h=>⟨[],c,[],F,rfl,rfl,by unfold cN;exact⟨rfl,rfl⟩,h⟩
 | p::x1,x2,c,F,h=>by
   rw[List.cons_append] at h;unfold cN at h;obtain⟨v,cs',F1,F2,rfl,rfl,h1,h2⟩:=h;obtain⟨c1,c2,G1,G2,rfl,rfl,q1,q2⟩:=cN.split h2;exact⟨v::c1,c2,F1++G1,G2,rfl,by simp,by unfold cN;exact⟨v,c1,F1,G1,rfl,rfl,h1,q1⟩,q2⟩
theorem cN.join {w:World}: ∀{x1 x2:List bG} {c1 c2:List Value} {F1 F2:List Nat},cN w x1 c1 F1->cN w x2 c2 F2->cN w (x1++x2) (c1++c2) (F1++F2)
 | [],x2,c1,c2,F1,F2,h,h' =>by unfold cN at h;rw[h.1,h.2];exact h'
 | p::x1,x2,c1,c2,F1,F2,h,h' =>by
   unfold cN at h;obtain⟨v,cs',G1,G2,rfl,rfl,h1,h2⟩:=h;rw[List.cons_append];unfold cN;exact⟨v,cs' ++c2,G1,G2++F2,rfl,by simp,h1,cN.join h2 h'⟩
theorem aPh {α:Type}{l:List α}{j:Nat}{y:α}(h:l[j]? =some y):l=l.take j++y::l.drop (j+1):=by
 obtain⟨hj,rfl⟩:=aCx.1 h;rw[List.getElem_cons_drop,List.take_append_drop]
section
variable {A:Nat->Prop} {w0:uF} {N:Nat} {sl:Sl} {rs:Rl} {a:Act} {w:World} {P:Program}
theorem aHE {h i j h' e k e' k' :Nat}{xs:List (List bG)}{row:List bG}{ys:List (List bG)}(hr:bA rs h=some (.arr e k true xs))(hx:xs[i]? =some row)(hj:row[j]? =some (.sl e' k' ys))(hfr:gJ (mk sl rs) h')(hv:sB sl rs h=true)
 (hg:tB A w0 N (mk sl rs) a w):tB A w0 N ((mk sl rs).apply none ⟨.no,[h],[(h,.hole e k xs i j h'),(h',.arr e' k' true ys)]⟩) a w:=by
 obtain⟨K,φ,hG⟩:=hg;obtain⟨pl,hp,css,Fs,q1,q2,q3,q4⟩:=hG.dom h _ hr;obtain⟨xs1,xs2,css1,c,css2,Fs1,F,Fs2,e1,e2,e3,e4,r1,r2,r3,r4⟩:=q4.split hx;have er:=aPh hj;rw[er] at r3;obtain⟨c1,c',F1,F',rfl,rfl,s1,s2⟩:=r3.split;unfold cN at s2;obtain⟨v,c2,Fd,F2,rfl,rfl,s3,s4⟩:=s2;have hvone:v.oneCell' =true:=aHm (qN.rd (A:=fun _=>True) _ _ _ (fun _ _=>trivial) s3);unfold qN at s3;obtain⟨css',Fs',t1,t2,t3⟩:=s3;have hjl:j<row.length:=(aCx.1 hj).1;have hne:h≠h' :=fun q=>by subst q;have:=hfr.2.2.1;rw[show (mk sl rs).res h=_ from hr] at this;cases this
 have hsub:pl.sub=Fs1.flatten++((F1++((v.ownBlock.toList++Fs'.flatten)++F2))++Fs2.flatten):=by rw[q3,e3,<-t2];simp
 have hnd:=hG.nodup h pl hp;unfold Pl.F at hnd;rw[hsub] at hnd
 let p1:Pl:=⟨pl.val,pl.top,Fs1.flatten++((F1++F2)++Fs2.flatten)⟩
 let p2:Pl:=⟨v,v.ownBlock.toList,Fs'.flatten⟩
 have hin1: ∀g∈p1.F,g∈pl.F:=fun g hg=>by
  simp only[p1,Pl.F,aDy] at hg;unfold Pl.F;rw[hsub];simp only[aDy];rcases hg with q | q | (q | q) | q
  ·exact .inl q
  ·exact .inr (.inl q)
  ·exact .inr (.inr (.inl (.inl q)))
  ·exact .inr (.inr (.inl (.inr (.inr q))))
  exact .inr (.inr (.inr q))
 have hin2: ∀g∈p2.F,g∈pl.F:=fun g hg=>by
  simp only[p2,Pl.F,aDy] at hg;unfold Pl.F;rw[hsub];simp only[aDy];rcases hg with q | q
  ·exact .inr (.inr (.inl (.inr (.inl (.inl q)))))
  exact .inr (.inr (.inl (.inr (.inl (.inr q)))))
 have hperm:(pl.top++(Fs1.flatten++((F1++((v.ownBlock.toList++Fs'.flatten)++F2))++Fs2.flatten))).Perm (p1.F++p2.F):=by
  simp only[p1,p2,Pl.F];generalize v.ownBlock.toList++Fs'.flatten=M;refine(List.perm_iff_count).2 fun x=>?_;simp only[List.count_append];omega
 have hnd2:=hperm.nodup_iff.1 hnd;have hnd3:=aKo.1 hnd2;obtain⟨hv1,hv2⟩:=tG hv
 have hst:=hG.stepV (C:=(· ∈[h])) (φr:=fun x=>if x=h then some p1 else if x=h' then some p2 else none) (ρ:=aY [(h,.hole e k xs i j h'),(h',.arr e' k' true ys)]) (K' :=K) (w' :=w)
  ⟨rfl,rfl,rfl,aKU _,fun _ _ _=>rfl⟩
  (fun x p hp' =>by
   split at hp'
   ·injection hp' with hp';subst hp'
    exact⟨hnd3.1,fun g hg=>⟨(hG.ge h pl hp g (hin1 g hg)).2,.inr ⟨h,pl,by simp,hp,hin1 g hg⟩⟩⟩
   split at hp'
   ·injection hp' with hp';subst hp'
    exact⟨hnd3.2.1,fun g hg=>⟨(hG.ge h pl hp g (hin2 g hg)).2,.inr ⟨h,pl,by simp,hp,hin2 g hg⟩⟩⟩
   cases hp')
  (fun x x' p p' hne' hp1 hp2 g hg hg' =>by
   split at hp1
   ·injection hp1 with hp1;subst hp1
    split at hp2
    ·rename_i a b;exact hne' (a.trans b.symm)
    split at hp2
    ·injection hp2 with hp2;subst hp2
     exact hnd3.2.2 g hg g hg' rfl
    cases hp2
   split at hp1
   ·injection hp1 with hp1;subst hp1
    split at hp2
    ·injection hp2 with hp2;subst hp2
     exact hnd3.2.2 g hg' g hg rfl
    split at hp2
    ·rename_i a _ b;exact hne' (a.trans b.symm)
    cases hp2
   cases hp1)
  (fun x r hr' =>by
   simp only[aY] at hr';split at hr'
   ·rename_i ex;injection hr' with hr';subst hr'
    refine⟨p1,by simp[ex],xs1,row.take j,.sl e' k' ys,row.drop (j+1),xs2,css1,c1,v,c2,css2,Fs1,F1,F2,Fs2,by rw[<-er];exact e1,e4,by simp;omega,by rw[<-er];exact r2,by rw[<-e2];exact q1,q2,rfl,r1,s1,s4,r4,hvone,fun pl' e'' =>?_⟩;simp only[cF] at e'';rw[if_neg (Ne.symm hne)] at e'';simp only[if_true,Option.some.injEq] at e'';subst e'';rfl
   rename_i ex;split at hr'
   ·rename_i ex';injection hr' with hr';subst hr'
    exact⟨p2,by rw[if_neg ex,if_pos ex'],css',Fs',t1,rfl,rfl,t3⟩
   cases hr')
  (fun x hr' =>by
   simp only[aY] at hr';split at hr'
   ·cases hr'
   rename_i ex;split at hr'
   ·cases hr'
   rename_i ex';rw[if_neg ex,if_neg ex'])
  (fun _ h=>h) (fun _ h=> .inl h)
  (fun t x p hm hp' =>by
   split at hp'
   ·rename_i ex;injection hp' with hp';subst hp';subst ex
    exact⟨pl,hp,rfl,rfl,fun q=>absurd q (hv1 t)⟩
   split at hp'
   ·rename_i ex;subst ex;exact absurd hm (hfr.1 t)
   cases hp')
  (fun h2 r x p _ hr' hm hp' =>by
   split at hp'
   ·rename_i ex;injection hp' with hp';subst hp';subst ex
    exact⟨pl,hp,rfl,rfl,fun q=>absurd q (hv2 h2 r hr')⟩
   split at hp'
   ·rename_i ex;subst ex;exact absurd hm (hfr.2.1 h2 r hr')
   cases hp')
  (fun x p hp' =>by
   split at hp'
   ·rename_i ex;injection hp' with hp';subst hp';subst ex
    exact .inl ⟨pl,hp,rfl,rfl⟩
   split at hp'
   ·rename_i ex;subst ex;exact .inr hfr.2.2.2
   cases hp')
 exact⟨K,_,hst⟩
theorem aPi {h i j h' e k e' k' :Nat}{xs:List (List bG)}{row:List bG}{ys:List (List bG)}(hr:bA rs h=some (.hole e k xs i j h'))(hr' :bA rs h' =some (.arr e' k' true ys))(hx:xs[i]? =some row)(hv:sB sl rs h=true)
 (hg:tB A w0 N (mk sl rs) a w):tB A w0 N ((mk sl rs).apply none ⟨.no,[h,h'],[(h,.arr e k true (xs.set i (row.take j++ .sl e' k' ys::row.drop (j+1))))]⟩) a w:=by
 obtain⟨K,φ,hG⟩:=hg;obtain⟨pl,hp,xs1,x1,d,x2,xs2,css1,c1,v,c2,css2,Fs1,F1,F2,Fs2,e0,e1,e2,e3,h1,h2,h3,h4,h5,h6,h7,h8⟩:=hG.dom h _ hr;obtain⟨pl',hp',css',Fs',q1,q2,q3,q4⟩:=hG.dom h' _ hr';have hvv:=h8.2 pl' hp';have hne:h≠h' :=fun q=>by subst q;rw[hr] at hr';cases hr'
 have erow:row=x1++d::x2:=by
  rw[e0,aGZ (by omega)] at hx;simp[e1] at hx;exact hx.symm
 have eset:xs.set i (row.take j++ .sl e' k' ys::row.drop (j+1))=xs1++(x1++ .sl e' k' ys::x2)::xs2:=by
  rw[e0,List.set_append_right _ _ (by omega),erow,<-e2];simp[e1]
 have hdis:=hG.disj h h' pl pl' hne hp hp'
 let p1:Pl:=⟨pl.val,pl.top,Fs1.flatten++((F1++(pl'.F++F2))++Fs2.flatten)⟩
 have hperm:p1.F.Perm (pl.F++pl'.F):=by
  simp only[p1,Pl.F,h3];refine(List.perm_iff_count).2 fun x=>?_;simp only[List.count_append];omega
 have hmem: ∀g,g∈p1.F->g∈pl.F\/g∈pl'.F:=fun g hg=>by
  have:=hperm.mem_iff.1 hg;simpa using this
 have hnd:p1.F.Nodup:=hperm.nodup_iff.2 (by
  rw[aKo];exact⟨hG.nodup h pl hp,hG.nodup h' pl' hp',fun x hx y hy exy=>by subst exy;exact hdis x hx hy⟩)
 obtain⟨hv1,hv2⟩:=tG hv
 have hst:=hG.stepV (C:=(· ∈[h,h'])) (φr:=fun x=>if x=h then some p1 else none) (ρ:=aY [(h,.arr e k true (xs.set i (row.take j++ .sl e' k' ys::row.drop (j+1))))]) (K' :=K) (w' :=w)
  ⟨rfl,rfl,rfl,aKU _,fun _ _ _=>rfl⟩
  (fun x p hp1=>by
   split at hp1
   ·injection hp1 with hp1;subst hp1
    refine⟨hnd,fun g hg=>?_⟩;rcases hmem g hg with q | q
    ·exact⟨(hG.ge h pl hp g q).2,.inr ⟨h,pl,by simp,hp,q⟩⟩
    exact⟨(hG.ge h' pl' hp' g q).2,.inr ⟨h',pl',by simp,hp',q⟩⟩
   cases hp1)
  (fun x x' p p' hne' hp1 hp2 g hg hg' =>by
   split at hp1
   ·split at hp2
    ·rename_i a b;exact hne' (a.trans b.symm)
    cases hp2
   cases hp1)
  (fun x r hr2=>by
   simp only[aY] at hr2;split at hr2
   ·rename_i ex;injection hr2 with hr2;subst hr2
    rw[eset];refine⟨p1,by simp[ex],css1++(c1++v::c2)::css2,Fs1++(F1++(pl'.F++F2))::Fs2,?_,h2,by simp[p1],h4.append ?_⟩
    ·have:(xs1++(x1++bG.sl e' k' ys::x2)::xs2).length=xs.length:=by rw[e0];simp
     rw[this];exact h1
    unfold cA;refine⟨_,_,_,_,rfl,rfl,by rw[<-e3];simp,h5.join ?_,h7⟩;unfold cN;refine⟨v,c2,pl'.F,F2,rfl,rfl,?_,h6⟩;unfold qN;exact⟨css',Fs',by rw[hvv];exact q1,by rw[hvv];unfold Pl.F;rw[q2,q3],q4⟩
   cases hr2)
  (fun x hr2=>by
   simp only[aY] at hr2;split at hr2
   ·cases hr2
   rename_i ex;rw[if_neg ex])
  (fun _ h=>h) (fun _ h=> .inl h)
  (fun t x p hm hp1=>by
   split at hp1
   ·rename_i ex;injection hp1 with hp1;subst hp1;subst ex
    exact⟨pl,hp,rfl,rfl,fun q=>absurd q (hv1 t)⟩
   cases hp1)
  (fun h2 r x p _ hr2 hm hp1=>by
   split at hp1
   ·rename_i ex;injection hp1 with hp1;subst hp1;subst ex
    exact⟨pl,hp,rfl,rfl,fun q=>absurd q (hv2 h2 r hr2)⟩
   cases hp1)
  (fun x p hp1=>by
   split at hp1
   ·rename_i ex;injection hp1 with hp1;subst hp1;subst ex
    exact .inl ⟨pl,hp,rfl,rfl⟩
   cases hp1)
 exact⟨K,_,hst⟩
theorem aNn {h i h' e k:Nat}{xs pre post:List (List bG)}{d0:bG}(hr:bA rs h=some (.hole e k xs i 0 h'))(hxs:xs=pre++[d0]::post)(hi:pre.length=i)(hv:sB sl rs h=true)
 (hg:tB A w0 N (mk sl rs) a w):tB A w0 N ((mk sl rs).apply none ⟨.no,[h],[(h,.arr e k true (pre++[.gone]::post))]⟩) a w:=by
 obtain⟨K,φ,hG⟩:=hg;obtain⟨pl,hp,xs1,x1,d,x2,xs2,css1,c1,v,c2,css2,Fs1,F1,F2,Fs2,e0,e1,e2,e3,h1,h2,h3,h4,h5,h6,h7,h8⟩:=hG.dom h _ hr;have ex1:x1= []:=aFh e2;subst ex1
 have epre:xs1=pre/\(([]:List bG)++d::x2)= [d0]/\xs2=post:=by
  rw[e0] at hxs;have hl:xs1.length=pre.length:=by omega
  have:=List.append_inj hxs hl;simp only[List.cons.injEq] at this;exact⟨this.1,this.2.1,this.2.2⟩
 obtain⟨rfl,er,rfl⟩:=epre;have ex2:x2= []:=by simpa using (List.cons.inj er).2
 subst ex2;unfold cN at h5 h6;obtain⟨rfl,rfl⟩:=h5;obtain⟨rfl,rfl⟩:=h6;have hcell:v.oneCell' =true:=h8.1;obtain⟨hv1,hv2⟩:=tG hv
 have hst:=hG.stepV (C:=(· ∈[h])) (φr:=fun x=>if x=h then some pl else none) (ρ:=aY [(h,.arr e k true (xs1++[.gone]::xs2))]) (K' :=K) (w' :=w)
  ⟨rfl,rfl,rfl,aKU _,fun _ _ _=>rfl⟩
  (fun x p hp1=>by
   split at hp1
   ·injection hp1 with hp1;subst hp1
    exact⟨hG.nodup h pl hp,fun g hg=>⟨(hG.ge h pl hp g hg).2,.inr ⟨h,pl,by simp,hp,hg⟩⟩⟩
   cases hp1)
  (fun x x' p p' hne' hp1 hp2 g hg hg' =>by
   split at hp1
   ·split at hp2
    ·rename_i a b;exact hne' (a.trans b.symm)
    cases hp2
   cases hp1)
  (fun x r hr2=>by
   simp only[aY] at hr2;split at hr2
   ·rename_i ex;injection hr2 with hr2;subst hr2
    refine⟨pl,by simp[ex],css1++([]++v::[])::css2,Fs1++([]:List Nat)::Fs2,?_,h2,by rw[h3];simp,h4.append ?_⟩
    ·have:(xs1++[bG.gone]::xs2).length=xs.length:=by rw[e0];simp
     rw[this];exact h1
    unfold cA;refine⟨_,_,_,_,rfl,rfl,by rw[<-e3];simp,?_,h7⟩;unfold cN;refine⟨v,[],[],[],rfl,rfl,?_,?_⟩
    ·unfold qN;exact⟨hcell,rfl⟩
    unfold cN;exact⟨rfl,rfl⟩
   cases hr2)
  (fun x hr2=>by
   simp only[aY] at hr2;split at hr2
   ·cases hr2
   rename_i ex;rw[if_neg ex])
  (fun _ h=>h) (fun _ h=> .inl h)
  (fun t x p hm hp1=>by
   split at hp1
   ·rename_i ex;injection hp1 with hp1;subst hp1;subst ex
    exact⟨pl,hp,rfl,rfl,fun q=>absurd q (hv1 t)⟩
   cases hp1)
  (fun h2 r x p _ hr2 hm hp1=>by
   split at hp1
   ·rename_i ex;injection hp1 with hp1;subst hp1;subst ex
    exact⟨pl,hp,rfl,rfl,fun q=>absurd q (hv2 h2 r hr2)⟩
   cases hp1)
  (fun x p hp1=>by
   split at hp1
   ·rename_i ex;injection hp1 with hp1;subst hp1;subst ex
    exact .inl ⟨pl,hp,rfl,rfl⟩
   cases hp1)
 exact⟨K,_,hst⟩
theorem cA.rdRows {K:Nat->Prop}{w:World}{k:Nat}: ∀{xs:List (List bG)} {css:List (List Value)} {Fs:List (List Nat)},(∀g∈Fs.flatten,K g)->cA w k xs css Fs->eA K w k xs css
 | [],_,_,_,h=>by unfold cA at h;exact h.1
 | x::xs,_,_,hF,h=>by
   unfold cA at h;obtain⟨c,css',F,Fs',rfl,rfl,h1,h2,h3⟩:=h;exact⟨c,css',rfl,h1,cN.rd x c F (fun g hg=>hF g (by simp[hg])) h2,cA.rdRows (fun g hg=>hF g (by simp only[aHH,aDy];exact .inr hg)) h3⟩
theorem aPj {h e k:Nat}{xs:List (List bG)}(hr:bA rs h=some (.arr e k true xs))(hv:sB sl rs h=true)
 (hg:tB A w0 N (mk sl rs) a w):tB A w0 N ((mk sl rs).apply none ⟨.no,[h],[(h,.arr e k false xs)]⟩) a w:=by
 obtain⟨K,φ,hG⟩:=hg;obtain⟨pl,hp,css,Fs,q1,q2,q3,q4⟩:=hG.dom h _ hr;obtain⟨hv1,hv2⟩:=tG hv
 let p1:Pl:=⟨pl.val,pl.top,[]⟩
 have hnd:=aKo.1 (hG.nodup h pl hp);have hF1: ∀g∈p1.F,g∈pl.top:=fun g hg=>by simpa [p1,Pl.F] using hg
 have hst:=hG.stepV (C:=(· ∈[h])) (φr:=fun x=>if x=h then some p1 else none) (ρ:=aY [(h,.arr e k false xs)]) (K' :=fun b=>K b\/b∈pl.sub) (w' :=w)
  ⟨rfl,rfl,rfl,aKU _,fun _ _ _=>rfl⟩
  (fun x p hp1=>by
   split at hp1
   ·injection hp1 with hp1;subst hp1
    refine⟨by simpa [p1,Pl.F] using hnd.1,fun g hg=>?_⟩;have hm:g∈pl.F:=aGM _ (hF1 g hg);exact⟨(hG.ge h pl hp g hm).2,.inr ⟨h,pl,by simp,hp,hm⟩⟩
   cases hp1)
  (fun x x' p p' hne' hp1 hp2 g hg hg' =>by
   split at hp1
   ·split at hp2
    ·rename_i a b;exact hne' (a.trans b.symm)
    cases hp2
   cases hp1)
  (fun x r hr2=>by
   simp only[aY] at hr2;split at hr2
   ·rename_i ex;injection hr2 with hr2;subst hr2
    exact⟨p1,by simp[ex],css,q1,q2,rfl,q4.rdRows fun g hg=> .inr (by rw[q3];exact hg)⟩
   cases hr2)
  (fun x hr2=>by
   simp only[aY] at hr2;split at hr2
   ·cases hr2
   rename_i ex;rw[if_neg ex])
  (fun _ hb=> .inl hb)
  (fun b hb=>by
   rcases hb with hb | hb
   ·exact .inl hb
   have hm:b∈pl.F:=aDa _ hb;refine .inr ⟨(hG.ge h pl hp b hm).2,.inr ⟨h,pl,by simp,hp,hm⟩,fun x p hp1 hb1=>?_⟩;split at hp1
   ·injection hp1 with hp1;subst hp1
    exact hnd.2.2 b (hF1 b hb1) b hb rfl
   cases hp1)
  (fun t x p hm hp1=>by
   split at hp1
   ·rename_i ex;injection hp1 with hp1;subst hp1;subst ex
    exact⟨pl,hp,rfl,rfl,fun q=>absurd q (hv1 t)⟩
   cases hp1)
  (fun h2 r x p _ hr2 hm hp1=>by
   split at hp1
   ·rename_i ex;injection hp1 with hp1;subst hp1;subst ex
    exact⟨pl,hp,rfl,rfl,fun q=>absurd q (hv2 h2 r hr2)⟩
   cases hp1)
  (fun x p hp1=>by
   split at hp1
   ·rename_i ex;injection hp1 with hp1;subst hp1;subst ex
    exact .inl ⟨pl,hp,rfl,rfl⟩
   cases hp1)
 exact⟨_,_,hst⟩
theorem aSd {h:Nat}{r r' :Rs}(hr:bA rs h=some r)(hH: ∀K φ pl,Holds K φ w pl r->Holds K φ w pl r')(hg:tB A w0 N (mk sl rs) a w):tB A w0 N ((mk sl rs).apply none ⟨.no,[h],[(h,r')]⟩) a w:=by
 obtain⟨K,φ,hG⟩:=hg;refine⟨K,φ,fun h1 r1 h2=>?_,fun h1 h2=>?_,hG.disj,hG.nodup,hG.ge,hG.kin,hG.kout,hG.aK,hG.slots,hG.bel,hG.nd,hG.size,hG.pin⟩
 ·simp only[St.apply,St.put,eY,aY,aNQ] at h2;by_cases e:h1=h
  ·subst e;simp only[if_true,Option.some.injEq] at h2;subst h2;obtain⟨pl,hp,hh⟩:=hG.dom h1 r hr;exact⟨pl,hp,hH K φ pl hh⟩
  simp only[if_neg e] at h2;exact hG.dom h1 r1 h2
 simp only[St.apply,St.put,eY,aY,aNQ] at h2;by_cases e:h1=h
 ·subst e;simp at h2
 simp only[if_neg e] at h2;exact hG.non h1 h2
theorem aDL {K:Nat->Prop}{φ:gS}{w:World}{e k:Nat}: ∀{cs:List AV} {vs:List Value} {off:Nat},cs[off]? =some .nil->aM K φ w cs vs->aM K φ w (cs.set off (.p none (.sl e k []))) vs
 | [],_,_,h,_=>by simp at h
 | c::cs,vs,0,h,hm=>by
   simp at h;subst h;rw[List.set_cons_zero];unfold aM at*;obtain⟨v,vs',rfl,h1,h2⟩:=hm;refine⟨v,vs',rfl,?_,h2⟩;unfold aC at*;rw[h1];exact rW
 | c::cs,vs,off+1,h,hm=>by
   rw[List.set_cons_succ];unfold aM at*;obtain⟨v,vs',rfl,h1,h2⟩:=hm;exact⟨v,vs',rfl,h1,aDL (by simpa using h) h2⟩
theorem aPk {h off e k ty:Nat}{cs:List AV}(hr:bA rs h=some (.box ty cs))(hc:cs[off]? =some .nil)(hg:tB A w0 N (mk sl rs) a w):tB A w0 N ((mk sl rs).apply none ⟨.no,[h],[(h,.box ty (cs.set off (.p none (.sl e k []))))]⟩) a w:=
 aSd hr (fun K φ pl ⟨g,vs,q1,q2,q3,q4⟩=>⟨g,vs,q1,q2,q3,aDL hc q4⟩) hg
end
theorem aPl {A:Nat->Prop}{w0:uF}{N:Nat}{sl:Sl}{rs:Rl}{a:Act}{w:World}{h ty:Nat}{cs ys:List AV}{hs:List Nat}(hr:bA rs h=some (.box ty cs))(hq:aLH rs cs=some (ys,hs))(hnd:(h::hs).Nodup)(hg:tB A w0 N (mk sl rs) a w):tB A w0 N ((mk sl rs).apply none ⟨.no,h::hs,[(h,.box ty ys)]⟩) a w:=by
 obtain⟨K,φ,hG⟩:=hg;obtain⟨pl,hp,g,vs,q1,q2,q3,q4⟩:=hG.dom h _ hr;have hne: ∀h0∈hs,h0≠h:=fun h0 hm e=>(List.nodup_cons.1 hnd).1 (e▸hm)
 have hst:=hG.step (C:=(· ∈h::hs)) (φr:=fun x=>if x=h then some pl else none) (ρ:=aY [(h,.box ty ys)]) (K' :=fun b=>K b\/fH φ (· ∈hs) b) (w' :=w)
  ⟨rfl,rfl,rfl,aKU _,fun _ _ _=>rfl⟩
  (fun x pl' e=>by
   split at e
   ·rename_i ex;injection e with e
    subst e;subst ex;exact⟨hG.nodup _ _ hp,fun b hb=>⟨(hG.ge _ _ hp b hb).2,.inr ⟨_,_,aLu,hp,hb⟩⟩⟩
   cases e)
  (fun x x' pl1 pl2 hx e e' =>by
   split at e
   ·split at e'
    ·subst_vars;exact absurd rfl hx
    cases e'
   cases e)
  (fun x r e=>by
   simp only[aY] at e;split at e
   ·rename_i ex;injection e with e
    subst e;subst ex;exact⟨pl,by simp,g,vs,q1,q2,q3,aHx hG (fun _ hb=> .inl hb) hq (fun _ hb=> .inr hb) q4⟩
   cases e)
  (fun x e=>by
   simp only[aY] at e;split at e
   ·cases e
   rename_i ex;rw[if_neg ex])
  (fun _ hb=> .inl hb)
  (fun b hb=>by
   rcases hb with hb | hb
   ·exact .inl hb
   obtain⟨h0,pl0,hm,hp0,hb'⟩:=hb;refine .inr ⟨(hG.ge h0 pl0 hp0 b hb').2,.inr ⟨h0,pl0,aML _ hm,hp0,hb'⟩,fun x pl' e=>?_⟩;split at e
   ·rename_i ex;injection e with e
    subst e;subst ex;exact hG.disj h0 x pl0 pl (hne h0 hm) hp0 hp b hb'
   cases e)
  (fun _ x pl' _ e=>by
   split at e
   ·rename_i ex;injection e with e
    subst e;subst ex;exact⟨hp,fun _ _=>rfl⟩
   cases e)
  (fun _ _ x pl' _ _ _ e=>by
   split at e
   ·rename_i ex;injection e with e
    subst e;subst ex;exact⟨hp,fun _ _=>rfl⟩
   cases e)
  (fun x pl' e=>by
   split at e
   ·rename_i ex;injection e with e
    subst e;subst ex;exact .inl hp
   cases e)
 exact⟨_,_,hst⟩
def gh1 (id:Nat)(sl:Sl)(rs:Rl)(t:T)(K:Rl->T->Prop):Prop:=match t with
 | .split rid h i j h' α enc l t=>(match Nat.beq rid id with
  | false=>K [] (.split rid h i j h' α enc l t)
  | true=>(match bA rs h with
   | some (.arr e k true xs)=>(match fW sl rs h' &&sB sl rs h with
     | true=>xs=l.map enc/\i<l.length/\ ∀x,l[i]? =some x->(match (enc x)[j]? with
       | some (.sl e' k' ys)=>K (nP [(h,.hole e k (l.map enc) i j h'),(h',.arr e' k' true ys)]++jW [h]) (t x)
       | _=>False)
     | false=>False)
   | _=>False))
 | .join rid h h' α enc l y t=>(match Nat.beq rid id with
  | false=>K [] (.join rid h h' α enc l y t)
  | true=>(match bA rs h with
   | some (.hole e k xs i j h2)=>(match bA rs h' with
     | some (.arr e' k' true ys)=>(match Nat.beq h2 h' &&sB sl rs h with
       | true=>xs=l.map enc/\i<l.length/\ ∀x,l[i]? =some x->(enc x).take j++ .sl e' k' ys::(enc x).drop (j+1)=enc (y x)/\K (nP [(h,.arr e k true ((l.set i (y x)).map enc))]++jW [h,h']) (t x)
       | false=>False)
     | _=>False)
   | _=>False))
 | .takeg rid h n h' α enc l t=>(match Nat.beq rid id with
  | false=>K [] (.takeg rid h n h' α enc l t)
  | true=>(match bA rs h with
   | some (.arr e k true xs)=>(match fW sl rs h' &&sB sl rs h with
     | true=>xs=List.replicate n [.gone]++l.map enc/\l≠[]/\ ∀x l',l=x::l' ->(match enc x with
       | .sl e' k' ys::[]=>K (nP [(h,.hole e k (List.replicate n [.gone]++(x::l').map enc) n 0 h'),(h',.arr e' k' true ys)]++jW [h]) (t x l')
       | _=>False)
     | false=>False)
   | _=>False))
 | .leave rid h n h' α enc x l t=>(match Nat.beq rid id with
  | false=>K [] (.leave rid h n h' α enc x l t)
  | true=>(match bA rs h with
   | some (.hole e k xs i j h2)=>(match Nat.beq j 0&&sB sl rs h with
     | true=>(match enc x with
       | _::[]=>xs=List.replicate n [.gone]++(x::l).map enc/\i=n/\K (nP [(h,.arr e k true (List.replicate (n+1) [.gone]++l.map enc))]++jW [h]) t
       | _=>False)
     | false=>False)
   | _=>False))
 | .shal rid h t=>(match Nat.beq rid id with
  | false=>K [] (.shal rid h t)
  | true=>(match bA rs h with
   | some (.arr e k true xs)=>(match sB sl rs h with
     | true=>K (nP [(h,.arr e k false xs)]++jW [h]) t
     | false=>False)
   | _=>False))
 | .nilt rid h off e k t=>(match Nat.beq rid id with
  | false=>K [] (.nilt rid h off e k t)
  | true=>(match bA rs h with
   | some (.box ty cs)=>(match cs[off]? with
     | some .nil=>K (nP [(h,.box ty (cs.set off (.p none (.sl e k []))))]++jW [h]) t
     | _=>False)
   | _=>False))
 | .stlb rid h t=>(match Nat.beq rid id with
  | false=>K [] (.stlb rid h t)
  | true=>(match bA rs h with
   | some (.box ty cs)=>(match aLH rs cs with
     | some q=>(match lR (h::q.2) with
       | true=>K (nP [(h,.box ty q.1)]++jW (h::q.2)) t
       | false=>False)
     | none=>False)
   | _=>False))
 | t=>K [] t
theorem aEl {α β:Type}(f:α->β)(l:List α)(i:Nat)(x:α):(l.set i x).map f=(l.map f).set i (f x):=by rw[List.map_set]
theorem aPm {id:Nat}{sl:Sl}{rs:Rl}{t:T}{K:Rl->T->Prop}(h:gh1 id sl rs t K): ∃new t',(∀A w0 N a w,tB A w0 N (mk sl rs) a w->tB A w0 N (mk sl (new++rs)) a w)/\K new t' :=by
 unfold gh1 at h;split at h
 ·rename_i rid h0 i j h' α enc l t';split at h
  ·exact⟨[],_,fun _ _ _ _ _ h=>h,h⟩
  split at h
  ·rename_i e k xs hr;split at h
   ·rename_i hb;rw[aAS] at hb;obtain⟨rfl,hi,h⟩:=h;have hx:=aBJ hi;have h:=h _ hx;split at h
    ·rename_i e' k' ys hj;refine⟨_,_,fun A w0 N a w hg=>?_,h⟩;have:=aHE hr (aC2 hx) hj (eU hb.1) hb.2 hg;rw[jM] at this;rw[aGP];exact this
    cases h
   cases h
  cases h
 ·rename_i rid h0 h' α enc l y t';split at h
  ·exact⟨[],_,fun _ _ _ _ _ h=>h,h⟩
  split at h
  ·rename_i e k xs i j h2 hr;split at h
   ·rename_i e' k' ys hr';split at h
    ·rename_i hb;rw[aAS] at hb;have:=aBq hb.1;subst this;obtain⟨rfl,hi,h⟩:=h;have hx:=aBJ hi;obtain⟨h3,h4⟩:=h _ hx;refine⟨_,_,fun A w0 N a w hg=>?_,h4⟩;have:=aPi hr hr' (aC2 hx) hb.2 hg;rw[jM,h3,<-aEl] at this;rw[aGP];exact this
    cases h
   cases h
  cases h
 ·rename_i rid h0 n h' α enc l t';split at h
  ·exact⟨[],_,fun _ _ _ _ _ h=>h,h⟩
  split at h
  ·rename_i e k xs hr;split at h
   ·rename_i hb;rw[aAS] at hb;obtain⟨rfl,hne,h⟩:=h;cases l with
    | nil=>exact absurd rfl hne
    | cons x l' =>
      have h:=h x l' rfl;split at h
      ·rename_i e' k' ys hj;refine⟨_,_,fun A w0 N a w hg=>?_,h⟩
       have hx:(List.replicate n [bG.gone]++(x::l').map enc)[n]? =some (enc x):=by
        rw[aGZ (by simp)];simp
       have:=aHE (j:=0) hr hx (by rw[hj];rfl) (eU hb.1) hb.2 hg;rw[jM] at this;rw[aGP];exact this
      cases h
   cases h
  cases h
 ·rename_i rid h0 n h' α enc x l t';split at h
  ·exact⟨[],_,fun _ _ _ _ _ h=>h,h⟩
  split at h
  ·rename_i e k xs i j h2 hr;split at h
   ·rename_i hb;simp only[aAS] at hb;have:=aBq hb.1;subst this;split at h
    ·rename_i d0 hd;obtain⟨rfl,rfl,h4⟩:=h;refine⟨_,_,fun A w0 N a w hg=>?_,h4⟩;have:=aNn (pre:=List.replicate i [bG.gone]) (post:=l.map enc) (d0:=d0) hr (by rw[aGN,hd]) (by simp) hb.2 hg;rw[jM] at this;rw[aGP]
     have e2:List.replicate (i+1) [bG.gone]++l.map enc=List.replicate i [bG.gone]++[bG.gone]::l.map enc:=by
      rw[List.replicate_succ',aGP];rfl
     rw[e2];exact this
    cases h
   cases h
  cases h
 ·rename_i rid h0 t';split at h
  ·exact⟨[],_,fun _ _ _ _ _ h=>h,h⟩
  split at h
  ·rename_i e k xs hr;split at h
   ·rename_i hb;refine⟨_,_,fun A w0 N a w hg=>?_,h⟩;have:=aPj hr hb hg;rw[jM] at this;rw[aGP];exact this
   cases h
  cases h
 ·rename_i rid h0 off e k t';split at h
  ·exact⟨[],_,fun _ _ _ _ _ h=>h,h⟩
  split at h
  ·rename_i ty cs hr;split at h
   ·rename_i hc;refine⟨_,_,fun A w0 N a w hg=>?_,h⟩;have:=aPk (e:=e) (k:=k) hr hc hg;rw[jM] at this;rw[aGP];exact this
   cases h
  cases h
 ·rename_i rid h0 t';split at h
  ·exact⟨[],_,fun _ _ _ _ _ h=>h,h⟩
  split at h
  ·rename_i ty cs hr;split at h
   ·rename_i q hq;split at h
    ·rename_i hn;refine⟨_,_,fun A w0 N a w hg=>?_,h⟩;have:=aPl hr (ys:=q.1) (hs:=q.2) (by rw[hq]) (nY hn) hg;rw[jM] at this;rw[aGP];exact this
    cases h
   cases h
  cases h
 exact⟨[],t,fun _ _ _ _ _ h=>h,h⟩
theorem G.reput {K:Nat->Prop}{φ:gS}{A:Nat->Prop}{w0:uF}{N:Nat}{S:St}{a:Act}{w:World}(hG:G K φ A w0 N S a w){d:Nat}{x:AV}(hx:aC K φ w x (a.tmps.getD d undef)):G K φ A w0 N (S.put (some d) x) a w:=by
 refine⟨hG.dom,hG.non,hG.disj,hG.nodup,hG.ge,hG.kin,hG.kout,hG.aK,fun t=>?_,hG.bel,hG.nd,hG.size,hG.pin⟩;simp only[St.put,upd];by_cases e:t=d
 ·subst e;rw[if_pos rfl];exact hx
 rw[if_neg e];exact hG.slots t
theorem aPn {A:Nat->Prop}{w0:uF}{N:Nat}{sl:Sl}{rs:Rl}{a:Act}{w:World}{d:Nat}{y:AV}{hs:List Nat}(h:aNe rs (bQ sl d)=some (y,hs))(hg:tB A w0 N (mk sl rs) a w):tB A w0 N (mk ((d,y)::sl) (jW hs++rs)) a w:=by
 obtain⟨K,φ,hG⟩:=hg
 have hst:=hG.step (C:=(· ∈hs)) (φr:=fun _=>none) (ρ:=aY []) (K' :=fun b=>K b\/fH φ (· ∈hs) b) (w' :=w)
  ⟨rfl,rfl,rfl,aKU _,fun _ _ _=>rfl⟩
  (fun _ _ hp=>by cases hp) (fun _ _ _ _ _ hp=>by cases hp) (fun _ _ hp=>by simp[aY] at hp) (fun _ _=>rfl) (fun _ hb=> .inl hb)
  (fun b hb=>by
   rcases hb with hb | hb
   ·exact .inl hb
   refine .inr ⟨?_,.inr hb,fun _ _ hp=>by cases hp⟩;obtain⟨h0,pl,_,hp,hb'⟩:=hb;exact(hG.ge h0 pl hp b hb').2)
  (fun _ _ _ _ hp=>by cases hp) (fun _ _ _ _ _ _ _ hp=>by cases hp) (fun _ _ hp=>by cases hp)
 have hmv:aC (fun b=>K b\/fH φ (· ∈hs) b) (cF (· ∈hs) (fun _=>none) φ) w y (a.tmps.getD d undef):=aMZ hG h (fun _ hb=> .inl hb) (fun _ hb=> .inr hb) (hG.slots d);have h2:=hst.reput hmv;have e:=aJF sl rs d y hs [];have h3:G (fun b=>K b\/fH φ (· ∈hs) b) (cF (· ∈hs) (fun _=>none) φ) A w0 N ((mk sl rs).apply (some d) ⟨y,hs,[]⟩) a w:=h2;rw[e] at h3;exact⟨_,_,h3⟩
def gsW (id:Nat)(sl:Sl)(rs:Rl)(t:T)(K:Sl->Rl->T->Prop):Prop:=match t with
 | .stls rid d t=>(match Nat.beq rid id with
   | false=>K [] [] (.stls rid d t)
   | true=>(match aNe rs (bQ sl d) with | some q=>K [(d,q.1)] (jW q.2) t | none=>False))
 | t=>K [] [] t
theorem aUl {id:Nat}{sl:Sl}{rs:Rl}{t:T}{K:Sl->Rl->T->Prop}(h:gsW id sl rs t K): ∃n1 n2 t',(∀A w0 N a w,tB A w0 N (mk sl rs) a w->tB A w0 N (mk (n1++sl) (n2++rs)) a w)/\K n1 n2 t' :=by
 unfold gsW at h;split at h
 ·split at h
  ·exact⟨[],[],_,fun _ _ _ _ _ h=>h,h⟩
  split at h
  ·rename_i q hq;exact⟨_,_,_,fun A w0 N a w hg=>aPn hq hg,h⟩
  cases h
 exact⟨[],[],_,fun _ _ _ _ _ h=>h,h⟩
def ghW (id:Nat)(sl:Sl)(rs:Rl)(t:T)(K:Rl->T->Prop):Prop:=gh1 id sl rs t fun n1 t=>gh1 id sl (n1++rs) t fun n2 t=>K (n2++n1) t
theorem aUm {id:Nat}{sl:Sl}{rs:Rl}{t:T}{K:Rl->T->Prop}(h:ghW id sl rs t K): ∃new t',(∀A w0 N a w,tB A w0 N (mk sl rs) a w->tB A w0 N (mk sl (new++rs)) a w)/\K new t' :=by
 unfold ghW at h;obtain⟨n1,t1,h1,h⟩:=aPm h;obtain⟨n2,t2,h2,h⟩:=aPm h;exact⟨n2++n1,t2,fun A w0 N a w hg=>by rw[aGP];exact h2 A w0 N a w (h1 A w0 N a w hg),h⟩
section
variable {sl:Sl} {rs:Rl} {P:Program}
theorem aM1 {α:Type}{l1 l2:List α}{x y:α}{i:Nat}(h:l1.length=i):(l1++x::l2).set i y=l1++y::l2:=by
 rw[List.set_append_right _ _ (by omega)];simp[h]
theorem aLN {o:Oper}{x y:Operand}{t:TypeId}{ag:Bool}{n bt off:Nat}{z:Value}{h e k i:Nat}{xs:List (List bG)}{row ys:List bG}{hs:List Nat}(ho:o.op= .store t x y)(ht:fK P t=some (ag,n,bt,z))(hx:cR sl x= .ep h k i off)
 (hh:bA rs h=some (.arr e k true xs)) (hr:xs[i]? =some row) (hc1:nB (mk sl rs) (cR sl y)) (hm:rV (mk sl rs) (dT (cR sl y)) ys hs) (hn:ys.length=n) (hl:off+n<=row.length) (hnd:(h::hs).Nodup) (hv:sB sl rs h=true):
 sO P o (mk sl rs) ⟨.no,h::hs,[(h,.arr e k true (xs.set i (row.take off++ys++row.drop (off+n))))]⟩:=by
 intro K φ A w0 N a w Q hd hG;have hev:=hG.ev y;rw[bU] at hev;obtain⟨hml,hone⟩:=mM hG hc1 hev;have hn2:=List.nodup_cons.1 hnd;obtain⟨F,r1,r2,r3⟩:=oU hG hm hn2.2 hml;obtain⟨pl,hp,css,Fs,q1,q2,q3,q4⟩:=hG.dom h _ hh;obtain⟨xs1,xs2,css1,c,css2,Fs1,F0,Fs2,e1,e2,e3,e4,s1,s2,s3,s4⟩:=q4.split hr
 have er:row=row.take off++((row.drop off).take n++row.drop (off+n)):=by
  rw[show row.drop (off+n)=(row.drop off).drop n by rw[List.drop_drop],List.take_append_drop,List.take_append_drop]
 rw[er] at s3;obtain⟨ca,c',Fa,F',rfl,rfl,t1,t2⟩:=s3.split;obtain⟨cb,cc,Fb,Fc,rfl,rfl,t3,t4⟩:=t2.split;have la:=t1.len;have lb:=t3.len;have lc:=t4.len;have lu:=r1.len;simp only[aOe,aOs] at la lb lc;have a1:ca.length=off:=by omega
 have a2:cb.length=n:=by omega
 have a3:(a.eval y).cells.toList.length=n:=by omega
 have a5:css1.length=i:=by have:=s1.len.1;omega
 have a6:(row.take off++(ys++row.drop (off+n))).length=k:=by simp;omega
 have a7:off+n<=(ca++(cb++cc)).length:=by simp;omega
 obtain⟨b,cap,hvl,_,_,hb⟩:=iD q1;have hi:i<xs.length:=(aCx.1 hr).1;obtain⟨g,rfl,_,_⟩:=hb (by omega);have h2:=hG.ev x;rw[bU,hx] at h2;unfold aC at h2;obtain⟨g',hg',he⟩:=h2 pl hp;have htop:pl.top= [g]:=by rw[q2,hvl];rfl
 rw[htop] at hg';simp only[List.cons.injEq,and_true] at hg';subst hg';generalize hus:(a.eval y).cells.toList=us at*
 have hlt:i*k+off+us.length<=xs.length*k:=by
  have:(i+1)*k<=xs.length*k:=Nat.mul_le_mul_right k (by omega);rw[Nat.add_mul] at this;omega
 have q1' :=q1;rw[hvl] at q1';have hrun:=jZ (P:=P) (o0:=i*k+off) us 0 w _ q1' (by omega) hone;have hsz:=(fV ht w).2.1;unfold Oper.wp
 have hex:(execOp a.eval o).run P w= .ok .skip (setCells w g (i*k+off+0) us):=by
  have hsize:(a.eval y).cells.size=n:=by rw[<-aRB,hus];omega
  simp only[execOp,ho,he,Instr.storeAt,Instr.sureAddr,storeVar,Sem.run_bind,Sem.run_pure,Result.andThen_ok,hsz,hsize,ne_eq,not_true_eq_false,if_false,hus,hrun]
 rw[hex,Oper.upon_skip,Nat.add_zero];have hchg:vV (· ∈[g]) w (setCells w g (i*k+off) us):=uG us;have hgF:g∈pl.F:=by unfold Pl.F;rw[htop];simp
 have hglt:=(hG.ge h pl hp g hgF).2;have hsub:pl.sub=Fs1.flatten++((Fa++(Fb++Fc))++Fs2.flatten):=by rw[q3,e3];simp
 have hnd0:=hG.nodup h pl hp;unfold Pl.F at hnd0;rw[htop,hsub] at hnd0;have hgn:=(List.nodup_cons.1 hnd0).1;have hnd1:=(List.nodup_cons.1 hnd0).2;have hsubF: ∀q,q∈pl.sub->q∈pl.F:=fun q hq=>aDa _ hq;have hkeep: ∀(L:List Nat),(∀q∈L,q<w.heap.size/\q≠g)->iO L w (setCells w g (i*k+off) us):=fun L hL q hq=>hchg.block q (hL q hq).1 (by simpa using (hL q hq).2);have hin: ∀q,q∈Fs1.flatten++((Fa++(Fb++Fc))++Fs2.flatten)->q<w.heap.size/\q≠g:=fun q hq=>⟨(hG.ge h pl hp q (hsubF q (by rw[hsub];exact hq))).2,fun eq=>by subst eq;exact hgn hq⟩
 have hF: ∀q∈F,¬q∈pl.F:=fun q hq hq' =>by
  obtain⟨h3,pl3,m3,p3,b3⟩:=r3 q hq;exact hG.disj h3 h pl3 pl (fun eq=>by subst eq;exact hn2.1 m3) p3 hp q b3 hq'
 have hFl: ∀q∈F,q<w.heap.size/\q≠g:=fun q hq=>by
  obtain⟨h3,pl3,m3,p3,b3⟩:=r3 q hq;exact⟨(hG.ge h3 pl3 p3 q b3).2,fun eq=>by subst eq;exact hF q hq hgF⟩
 let p1:Pl:=⟨pl.val,pl.top,Fs1.flatten++((Fa++(F++Fc))++Fs2.flatten)⟩
 have hmem: ∀q,q∈p1.F->q∈pl.F\/q∈F:=fun q hq=>by
  simp only[p1,Pl.F,aDy] at hq;unfold Pl.F;rw[hsub];simp only[aDy];rcases hq with q | q | (q | q | q) | q
  ·exact .inl (.inl q)
  ·exact .inl (.inr (.inl q))
  ·exact .inl (.inr (.inr (.inl (.inl q))))
  ·exact .inr q
  ·exact .inl (.inr (.inr (.inl (.inr (.inr q)))))
  exact .inl (.inr (.inr (.inr q)))
 have hnd2:p1.F.Nodup:=by
  have hperm:p1.F.Perm ((pl.top++(Fs1.flatten++((Fa++Fc)++Fs2.flatten)))++F):=by
   simp only[p1,Pl.F];refine(List.perm_iff_count).2 fun x=>?_;simp only[List.count_append];omega
  refine hperm.nodup_iff.2 ?_;rw[aKo]
  have hsl:(pl.top++(Fs1.flatten++((Fa++Fc)++Fs2.flatten))).Sublist pl.F:=by
   unfold Pl.F;rw[hsub];refine List.Sublist.append (List.Sublist.refl _) (List.Sublist.append (List.Sublist.refl _) (List.Sublist.append (List.Sublist.append (List.Sublist.refl _) (List.sublist_append_right _ _)) (List.Sublist.refl _)))
  exact⟨hsl.nodup (hG.nodup h pl hp),r2,fun q hq q' hq' eq=>by subst eq;exact hF q hq' (hsl.subset hq)⟩
 obtain⟨hv1,hv2⟩:=tG hv
 have hcs:css[i]? =some (ca++(cb++cc)):=by
  rw[e2,aGZ (by rw[a5];exact aKU _)];simp[a5]
 have hown:=lV us (o:=i*k+off) q1';rw[tA us css i off _ q4.len.2 hcs (by omega),aBO (by rw[a3];exact a7)] at hown
 have hst:=hG.stepV (C:=(· ∈h::hs)) (φr:=fun x=>if x=h then some p1 else none) (ρ:=aY [(h,.arr e k true (xs.set i (row.take off++ys++row.drop (off+n))))]) (K' :=K) (w' :=setCells w g (i*k+off) us)
  (hchg.mono fun b hb=>⟨h,pl,by simp,hp,by simp at hb;subst hb;exact hgF⟩)
  (fun x p hp1=>by
   split at hp1
   ·injection hp1 with hp1;subst hp1
    refine⟨hnd2,fun q hq=>?_⟩;rcases hmem q hq with hq | hq
    ·exact⟨aKV (hG.ge h pl hp q hq).2 hchg.size,.inr ⟨h,pl,by simp,hp,hq⟩⟩
    obtain⟨h3,pl3,m3,p3,b3⟩:=r3 q hq;exact⟨aKV (hFl q hq).1 hchg.size,.inr ⟨h3,pl3,aML _ m3,p3,b3⟩⟩
   cases hp1)
  (fun x x' p p' hne' hp1 hp2 g hg hg' =>by
   split at hp1
   ·split at hp2
    ·rename_i a b;exact hne' (a.trans b.symm)
    cases hp2
   cases hp1)
  (fun x r hr2=>by
   simp only[aY] at hr2;split at hr2
   ·rename_i ex;injection hr2 with hr2;subst hr2
    have exs:xs.set i (row.take off++ys++row.drop (off+n))=xs1++(row.take off++(ys++row.drop (off+n)))::xs2:=by rw[e1,aM1 e4];simp
    rw[exs];refine⟨p1,by simp[ex],css1++(ca++(us++cc))::css2,Fs1++(Fa++(F++Fc))::Fs2,?_,q2,by simp[p1],(cA.kept _ _ _ _ (hkeep _ fun q hq=>hin q (by simp only[aDy];exact .inl hq)) s1).append ?_⟩
    ·have l2:(xs1++(row.take off++(ys++row.drop (off+n)))::xs2).length=xs.length:=by rw[e1];simp
     have l3:css.set i ((ca++(cb++cc)).take off++us++(ca++(cb++cc)).drop (off+us.length))=css1++(ca++(us++cc))::css2:=by
      rw[e2,aM1 a5]
      congr 2
      have a8:off+us.length=(ca++cb).length:=by rw[aJP,a1,a2,a3]
      rw[a8,<-aGP ca cb cc,List.drop_left,aGP ca cb cc,<-a1,List.take_left,aGP]
     rw[l2];show (setCells w g (i*k+off) us).ownsRow 0 e k pl.val xs.length _;rw[hvl,<-l3];exact hown
    unfold cA;refine⟨_,_,_,_,rfl,rfl,a6,(cN.kept _ _ _ (hkeep _ fun q hq=>hin q (by simp only[aDy];exact .inr (.inl (.inl hq)))) t1).join ((cN.kept _ _ _ (hkeep _ hFl) r1).join (cN.kept _ _ _ (hkeep _ fun q hq=>hin q (by simp only[aDy];exact .inr (.inl (.inr (.inr hq))))) t4)),cA.kept _ _ _ _ (hkeep _ fun q hq=>hin q (by simp only[aDy];exact .inr (.inr hq))) s4⟩
   cases hr2)
  (fun x hr2=>by
   simp only[aY] at hr2;split at hr2
   ·cases hr2
   rename_i ex;rw[if_neg ex])
  (fun _ h=>h) (fun _ h=> .inl h)
  (fun t x p hm hp1=>by
   split at hp1
   ·rename_i ex;injection hp1 with hp1;subst hp1;subst ex
    exact⟨pl,hp,rfl,rfl,fun q=>absurd q (hv1 t)⟩
   cases hp1)
  (fun h9 r x p _ hr2 hm hp1=>by
   split at hp1
   ·rename_i ex;injection hp1 with hp1;subst hp1;subst ex
    exact⟨pl,hp,rfl,rfl,fun q=>absurd q (hv2 h9 r hr2)⟩
   cases hp1)
  (fun x p hp1=>by
   split at hp1
   ·rename_i ex;injection hp1 with hp1;subst hp1;subst ex
    exact .inl ⟨pl,hp,rfl,rfl⟩
   cases hp1)
 exact⟨K,_,_,rfl,hst.put hd (by unfold aC;trivial)⟩
end
def aPo (tb:Tb)(sl:Sl)(rs:Rl)(ty:TypeId)(x y:AV)(t:T)(K:AV->List Nat->List (Nat × Rs)->T->Prop):Prop:=match cE tb.ty ty with
 | some (_,n,_,_)=>(match x with
   | .ep h k i off=>(match bA rs h with
     | some (.arr e k' true xs)=>(match Nat.beq k k' &&sR rs y&&sB sl rs h&&lR (h::wT (dT y))&&Nat.beq (dT y).length n with
       | true=>(match t with
         | .setm _ enc l f t=>xs=l.map enc/\i<l.length/\ ∀x,l[i]? =some x->off+n<=(enc x).length/\(enc x).take off++((enc (f x)).drop off).take n++(enc x).drop (off+n)=enc (f x)/\aAO rs (dT y) (((enc (f x)).drop off).take n) (K .no (h::wT (dT y)) [(h,.arr e k true ((l.set i (f x)).map enc))] (t x))
         | _=>False)
       | false=>False)
     | _=>False)
   | _=>False)
 | none=>False
theorem aHF {S:St}: ∀{cs:List AV} {row:List bG} {hs:List Nat},rV S cs row hs->row.length=cs.length
 | [],row,hs,h=>by unfold rV at h;rw[h.1];rfl
 | c::cs,row,hs,h=>by
   unfold rV at h;obtain⟨x,row',h1,h2,rfl,rfl,_,h3⟩:=h;simp[aHF h3]
theorem aPp {P:Program}{tb:Tb}{sl:Sl}{rs:Rl}{o:Oper}{ty:TypeId}{x y:Operand}{t:T}{K:AV->List Nat->List (Nat × Rs)->T->Prop}(hT:kQ P tb)(ho:o.op= .store ty x y)(h:aPo tb sl rs ty (cR sl x) (cR sl y) t K): ∃v del new t',sO P o (mk sl rs) ⟨v,del,new⟩/\K v del new t' :=by
 unfold aPo at h;split at h
 ·rename_i ag n bt z hq;have hq:=cG hT.ty hq;split at h
  ·rename_i h0 k i off hx;split at h
   ·rename_i e k' xs hr;split at h
    ·rename_i hb;simp only[aAS] at hb;obtain⟨⟨⟨⟨b1,b2⟩,b3⟩,b4⟩,b5⟩:=hb;have b1:=aBq b1;subst b1;split at h
     ·rename_i enc l f t';obtain⟨rfl,hi,h⟩:=h;have hx' :=aBJ hi;obtain⟨h1,h2,h3⟩:=h _ hx';obtain⟨h4,h5⟩:=mA (sl:=sl) h3;have hs:=aLN (P:=P) (o:=o) ho hq hx hr (aC2 hx') (wU b2) h4 ((aHF h4).trans (aBq b5)) h1 (nY b4) b3;rw[h2,<-aEl] at hs;exact⟨_,_,_,_,hs,h5⟩
     cases h
    cases h
   cases h
  cases h
 cases h
def roP:List AV->List bG->Prop->Prop
 | [],row,K=>(match row with | []=>K | _=>False)
 | c::cs,row,K=>(match row with
   | []=>False
   | x::row=>(match c with
     | .p none y=>EqD y x/\roP cs row K
     | .nil=>(match x with | .sl _ _ ys=>ys= []/\roP cs row K | _=>False)
     | _=>False))
theorem aLO {K:Prop}: ∀{cs:List AV} {row:List bG},roP cs row K->RoC cs row/\row.length=cs.length/\K
 | [],row,h=>by
   unfold roP at h;split at h
   ·exact⟨by unfold RoC;rfl,rfl,h⟩
   cases h
 | c::cs,row,h=>by
   unfold roP at h;split at h
   ·cases h
   split at h
   ·obtain⟨h1,h2⟩:=h;obtain⟨q1,q2,q3⟩:=aLO h2;exact⟨by unfold RoC;exact⟨_,by rw[h1.eq],q1⟩,by simp[q2],q3⟩
   ·split at h
    ·obtain⟨rfl,h2⟩:=h;obtain⟨q1,q2,q3⟩:=aLO h2;exact⟨by unfold RoC;exact⟨_,_,_,rfl,q1⟩,by simp[q2],q3⟩
    cases h
   cases h
def aM2 (tb:Tb)(rs:Rl)(ty:TypeId)(x y:AV)(t:T)(K:AV->List Nat->List (Nat × Rs)->T->Prop):Prop:=match cE tb.ty ty with
 | some (_,n,_,_)=>(match x with
   | .ep h k i off=>(match bA rs h with
     | some (.arr e k' false xs)=>(match Nat.beq k k' &&sR rs y&&Nat.beq (dT y).length n with
       | true=>(match t with
         | .setr _ enc l f t=>xs=l.map enc/\i<l.length/\ ∀x,l[i]? =some x->off+n<=(enc x).length/\(enc x).take off++((enc (f x)).drop off).take n++(enc x).drop (off+n)=enc (f x)/\roP (dT y) (((enc (f x)).drop off).take n) (K .no [h] [(h,.arr e k false ((l.set i (f x)).map enc))] (t x))
         | _=>False)
       | false=>False)
     | _=>False)
   | _=>False)
 | none=>False
theorem aJ4 {P:Program}{tb:Tb}{sl:Sl}{rs:Rl}{o:Oper}{ty:TypeId}{x y:Operand}{t:T}{K:AV->List Nat->List (Nat × Rs)->T->Prop}(hT:kQ P tb)(ho:o.op= .store ty x y)(h:aM2 tb rs ty (cR sl x) (cR sl y) t K): ∃v del new t',bE P o (mk sl rs) ⟨v,del,new⟩/\K v del new t' :=by
 unfold aM2 at h;split at h
 ·rename_i ag n bt z hq;have hq:=cG hT.ty hq;split at h
  ·rename_i h0 k i off hx;split at h
   ·rename_i e k' xs hr;split at h
    ·rename_i hb;simp only[aAS] at hb;obtain⟨⟨b1,b2⟩,b5⟩:=hb;have b1:=aBq b1;subst b1;split at h
     ·rename_i enc l f t';obtain⟨rfl,hi,h⟩:=h;have hx' :=aBJ hi;obtain⟨h1,h2,h3⟩:=h _ hx';obtain⟨h4,h5,h6⟩:=aLO h3;have hs:=aET (P:=P) (o:=o) (S:=mk sl rs) ho hq (by rw[bU];exact hx) hr (aC2 hx') (by rw[bU];exact wU b2) (by rw[bU];exact h4) (h5.trans (aBq b5)) h1;rw[h2,<-aEl] at hs;exact⟨_,_,_,_,hs,h6⟩
     cases h
    cases h
   cases h
  cases h
 cases h
def aSe (N:Nat):Option Nat->Bool
 | none=>true
 | some d=>Nat.blt d N
theorem aM3 {N:Nat}: ∀{o:Option Nat},aSe N o=true-> ∀d,o=some d->d<N
 | some d,h,_,rfl=>by simpa [aSe,Nat.blt_eq] using h
def brW (b:Bool)(t:T)(K:Bool->T->Prop):Prop:=match t with
 | .br t1 t2=>(b=true->K true t1)/\(b=false->K false t2)
 | .lit t=>(match b with | true=>K true t | false=>K false t)
 | .yes t=>b=true/\K true t
 | .no t=>b=false/\K false t
 | t=>(match b with | true=>K true t | false=>K false t)
theorem aLP {b:Bool}{t:T}{K:Bool->T->Prop}(h:brW b t K): ∃t',K b t' :=by
 unfold brW at h;split at h
 ·cases b with
  | true=>exact⟨_,h.1 rfl⟩
  | false=>exact⟨_,h.2 rfl⟩
 ·cases b with
  | true=>exact⟨_,h⟩
  | false=>exact⟨_,h⟩
 ·obtain⟨rfl,h⟩:=h;exact⟨_,h⟩
 ·obtain⟨rfl,h⟩:=h;exact⟨_,h⟩
 cases b with
 | true=>exact⟨_,h⟩
 | false=>exact⟨_,h⟩
def nE (pre:Sl)(s:Option Nat)(b:Bool):Sl:=match s with | some s=>(s,vB b)::pre | none=>pre
def gdW (N:Nat)(all:List Oper)(sl:Sl)(j:Nat)(want:Bool)(t:T)(K:Option Nat->Bool->T->Prop):Prop:=match all[j]? with
 | some o=>(match o.dst with
   | some dj=>(match Nat.blt dj N with
     | true=>(match bQ sl dj with
       | .p none (.bool b)=>brW b t (fun b t=>K (some dj) b t)
       | .tup []=>K none (!want) t
       | _=>False)
     | false=>False)
   | none=>False)
 | none=>False
theorem aEm {sl:Sl}{d:Nat}{v:AV}(h:bQ sl d=v):bQ ((d,v)::sl)=bQ sl:=by
 funext t;simp only[bQ];split
 ·rename_i e;rw[e,h]
 rfl
theorem aSf {sl:Sl}{rs:Rl}{d:Nat}{v:AV}(h:bQ sl d=v):mk ((d,v)::sl) rs=mk sl rs:=by
 unfold mk;rw[aEm h]
theorem aPq {N:Nat}{all:List Oper}{sl:Sl}{j:Nat}{want:Bool}{t:T}{K:Option Nat->Bool->T->Prop}(h:gdW N all sl j want t K): ∃dj y b s t',(all.toArray[j]?).bind (·.dst)=some dj/\dj<N/\gvA (bQ sl dj)=some y/\(b==want)=(y==some want)/\bQ (nE sl s b)=bQ sl/\K s b t' :=by
 unfold gdW at h;split at h
 ·rename_i o ho;split at h
  ·rename_i dj hd;split at h
   ·rename_i hN;split at h
    ·rename_i b hb;obtain⟨t',h⟩:=aLP h;exact⟨dj,some b,b,some dj,t',by simp[ho,hd],by simpa [Nat.blt_eq] using hN,aPE hb,rfl,aEm hb,h⟩
    ·rename_i hb;exact⟨dj,none,!want,none,t,by simp[ho,hd],by simpa [Nat.blt_eq] using hN,by rw[hb];rfl,by cases want<;>rfl,rfl,h⟩
    cases h
   cases h
  cases h
 cases h
theorem nZ (pre bs:Sl)(s:Option Nat)(b:Bool):nE (pre++bs) s b=nE pre s b++bs:=by cases s<;>rfl
theorem pA (pre bs:Sl)(d:Option Nat)(v:AV):oW pre d v++bs=oW (pre++bs) d v:=by cases d<;>rfl
def aM4 (tb:Tb)(sl:Sl)(rs:Rl)(dst:Option Nat)(o:Op):Option (AV × Rl):=match dst with
 | some _=>(match o with
   | .fieldAddr s (.tmp t) f=>(match bQ sl t with
     | .ptr h o' =>(match cE tb.fl s with | some l=>(match cE l f with | some q=>some (.ptr h (o' +q.1),[]) | none=>none) | none=>none)
     | _=>none)
   | .load ty (.tmp t)=>(match bQ sl t with
     | .ptr h off=>(match Nat.beq h 99 with
       | true=>none
       | false=>(match bA rs h with
         | some (.box bt cs)=>(match cE tb.ty ty with
           | some (ag,n,_,_)=>(match ag with
             | true=>(match Nat.ble (off+n) cs.length with | true=>some (.agg ((cs.drop off).take n),[(h,some (.box bt cs))]) | false=>none)
             | false=>(match cs[off]? with | some v=>some (v,[(h,some (.box bt cs))]) | none=>none))
           | none=>none)
         | _=>none))
     | _=>none)
   | .move (.tmp t)=>(match bQ sl t with
     | .ptr h o' =>some (.ptr h o',[])
     | _=>none)
   | _=>none)
 | none=>none
theorem aEn {P:Program}{tb:Tb}{sl:Sl}{rs:Rl}{o:Oper}{v:AV}{b:Rl}{i:Nat}(hT:kQ P tb)(h:aM4 tb sl rs o.dst o.op=some (v,b)):aAY P (lZ i o sl v b)/\ ∀k∈b.map (·.1),bA rs k=bA ((99,none)::b) k:=by
 obtain⟨dst,op,ty,pos,aft,gd⟩:=o;unfold aM4 at h
 dsimp only at h
 split at h
 ·split at h
  ·rename_i s t f;split at h
   ·rename_i hh o' hx;split at h
    ·rename_i l hl;split at h
     ·rename_i q hq;injection h with h
      injection h with h1 h2
      subst h1;subst h2;refine⟨⟨fun e=>by simp[gK.fr,lZ] at e,fun _ S hS _=>?_⟩,by simp⟩;have hf:=cG (cG hT.fl hl) hq;have hs:=hS t (by simp[lZ,mO,pQ,opL]);refine sZ rfl hf ?_;show S.slots t=_;rw[hs];simp only[lZ,mO,opL,pQ,bQ,if_true];exact hx
     cases h
    cases h
   cases h
  ·rename_i ty' t;split at h
   ·rename_i hh off hx;split at h
    ·cases h
    rename_i h99;have h99: ¬hh=99:=fun e=>by rw[e] at h99;cases h99
    have fnd: ∀r:Option Rs,bA [(99,none),(hh,r)] hh=r:=fun r=>by
     simp only[bA];simp[h99]
    have key: ∀S:St,(∀u∈(mO (.load ty' (.tmp t)) sl).map (·.1),S.slots u=bQ (mO (.load ty' (.tmp t)) sl) u)->S.slots t= .ptr hh off:=fun S hS=>by
     rw[hS t (by simp[mO,pQ,opL])];simp only[mO,opL,pQ,bQ,if_true];exact hx
    split at h
    ·rename_i bt cs hr;split at h
     ·rename_i ag n bt' z hq;have hq:=cG hT.ty hq;split at h
      ·split at h
       ·rename_i hn;injection h with h
        injection h with h1 h2
        subst h1;subst h2;refine⟨⟨fun e=>by simp[gK.fr,lZ] at e,fun _ S hS hR=>?_⟩,fun k hk=>?_⟩
        ·exact wL rfl hq (key S hS) (by rw[hR hh (by simp[lZ,gK.T,gK.fr])];exact fnd _) (aBI hn)
        simp only[aGN,List.map_nil,aNQ] at hk;rw[hk,fnd,hr]
       cases h
      split at h
      ·rename_i y hy;injection h with h
       injection h with h1 h2
       subst h1;subst h2;refine⟨⟨fun e=>by simp[gK.fr,lZ] at e,fun _ S hS hR=>?_⟩,fun k hk=>?_⟩
       ·exact vW rfl hq (key S hS) (by rw[hR hh (by simp[lZ,gK.T,gK.fr])];exact fnd _) hy
       simp only[aGN,List.map_nil,aNQ] at hk;rw[hk,fnd,hr]
      cases h
     cases h
    cases h
   cases h
  ·rename_i t;split at h
   ·rename_i hh o' hx;injection h with h
    injection h with h1 h2
    subst h1;subst h2;refine⟨⟨fun e=>by simp[gK.fr,lZ] at e,fun _ S hS _=>?_⟩,by simp⟩;have hs:=hS t (by simp[lZ,mO,pQ,opL])
    have hv:S.slots t= .ptr hh o' :=by
     rw[hs];simp only[lZ,mO,opL,pQ,bQ,if_true];exact hx
    show bE P _ S ⟨.ptr hh o',[],[]⟩;rw[<-hv];exact aAV (x:= .tmp t) (.inl rfl)
   cases h
  cases h
 cases h
def opX (P:Program)(tb:Tb)(sl:Sl)(rs:Rl)(dst:Option Nat)(o:Op)(t:T)(K:AV->List Nat->List (Nat × Rs)->T->Prop):Prop:=match t with
 | .callx fs ri ren rv ro t=>(match dst with
   | some d=>(match o with
     | .call ⟨.value x,⟨args⟩,_⟩=>(match cR sl x with
       | .fn f caps=>xA P sl rs d f (args.map (cR sl)++caps) (.callx fs ri ren rv ro t) K
       | _=>False)
     | o=>opW P tb sl rs (some d) o (.callx fs ri ren rv ro t) K)
   | none=>opW P tb sl rs none o (.callx fs ri ren rv ro t) K)
 | .callxs fs ri ren rv ro t=>(match dst with
   | some d=>(match o with
     | .call ⟨.value x,⟨args⟩,_⟩=>(match cR sl x with
       | .fn f caps=>xA P sl rs d f (args.map (cR sl)++caps) (.callxs fs ri ren rv ro t) K
       | _=>False)
     | o=>opW P tb sl rs (some d) o (.callxs fs ri ren rv ro t) K)
   | none=>opW P tb sl rs none o (.callxs fs ri ren rv ro t) K)
 | .setm α enc l y t=>(match dst with
   | none=>(match o with
     | .store ty x z=>aPo tb sl rs ty (cR sl x) (cR sl z) (.setm α enc l y t) K
     | _=>False)
   | some d=>opW P tb sl rs (some d) o (.setm α enc l y t) K)
 | .setr α enc l y t=>(match dst with
   | none=>(match o with
     | .store ty x z=>aM2 tb rs ty (cR sl x) (cR sl z) (.setr α enc l y t) K
     | _=>False)
   | some d=>opW P tb sl rs (some d) o (.setr α enc l y t) K)
 | t=>opW P tb sl rs dst o t K
theorem aPr {P:Program}{tb:Tb}{sl:Sl}{rs:Rl}{o:Oper}{t:T}{K:AV->List Nat->List (Nat × Rs)->T->Prop}(hT:kQ P tb)(h:opX P tb sl rs o.dst o.op t K): ∃v del new t',sO P o (mk sl rs) ⟨v,del,new⟩/\K v del new t' :=by
 have plain: ∀t,opW P tb sl rs o.dst o.op t K-> ∃v del new t',sO P o (mk sl rs) ⟨v,del,new⟩/\K v del new t' :=fun t h=>by
  obtain⟨v,del,new,t',h1,h2⟩:=aP9 hT h;exact⟨v,del,new,t',h1.to0,h2⟩
 obtain⟨dst,op,ty,pos,aft,gd⟩:=o;unfold opX at h
 dsimp only at h plain
 split at h
 ·split at h
  ·split at h
   ·split at h
    ·rename_i hx;exact aHD (fun hc=>tD rfl hc hx) h
    cases h
   exact plain _ h
  exact plain _ h
 ·split at h
  ·split at h
   ·split at h
    ·rename_i hx;exact aHD (fun hc=>tD rfl hc hx) h
    cases h
   exact plain _ h
  exact plain _ h
 ·split at h
  ·split at h
   ·exact aPp hT rfl h
   cases h
  exact plain _ h
 ·split at h
  ·split at h
   ·obtain⟨v,del,new,t',h1,h2⟩:=aJ4 (P:=P) (sl:=sl) (o:=⟨none,.store _ _ _,ty,pos,aft,gd⟩) hT rfl h;exact⟨v,del,new,t',h1.to0,h2⟩
   cases h
  exact plain _ h
 exact plain _ h
def opD (P:Program)(tb:Tb)(sl:Sl)(rs:Rl)(dst:Option Nat)(o:Op)(t:T)(K:AV->List Nat->List (Nat × Rs)->T->Prop):Prop:=match t with
 | .callx fs ri ren rv ro t=>(match dst with
   | some d=>(match o with
     | .call ⟨.value x,⟨args⟩,_⟩=>(match cR sl x with
       | .fn f caps=>(match aLM ri ren ro with
         | true=>xA P sl rs d f (args.map (cR sl)++caps) (.callx fs ri ren rv ro t) K
         | false=>False)
       | _=>False)
     | o=>opW P tb sl rs (some d) o (.callx fs ri ren rv ro t) K)
   | none=>opW P tb sl rs none o (.callx fs ri ren rv ro t) K)
 | .callxs fs ri ren rv ro t=>(match dst with
   | some d=>(match o with
     | .call ⟨.value x,⟨args⟩,_⟩=>(match cR sl x with
       | .fn f caps=>(match aLM ri ren ro with
         | true=>xA P sl rs d f (args.map (cR sl)++caps) (.callxs fs ri ren rv ro t) K
         | false=>False)
       | _=>False)
     | o=>opW P tb sl rs (some d) o (.callxs fs ri ren rv ro t) K)
   | none=>opW P tb sl rs none o (.callxs fs ri ren rv ro t) K)
 | .setr α enc l y t=>(match dst with
   | none=>(match o with
     | .store ty x z=>aM2 tb rs ty (cR sl x) (cR sl z) (.setr α enc l y t) K
     | _=>False)
   | some d=>opW P tb sl rs (some d) o (.setr α enc l y t) K)
 | t=>opW P tb sl rs dst o t K
theorem aPs {P:Program}{tb:Tb}{sl:Sl}{rs:Rl}{o:Oper}{t:T}{K:AV->List Nat->List (Nat × Rs)->T->Prop}(hT:kQ P tb)(h:opD P tb sl rs o.dst o.op t K): ∃v del new t',bE P o (mk sl rs) ⟨v,del,new⟩/\K v del new t' :=by
 have plain: ∀t,opW P tb sl rs o.dst o.op t K-> ∃v del new t',bE P o (mk sl rs) ⟨v,del,new⟩/\K v del new t' :=fun t h=>aP9 hT h;obtain⟨dst,op,ty,pos,aft,gd⟩:=o;unfold opD at h
 dsimp only at h plain
 split at h
 ·split at h
  ·split at h
   ·split at h
    ·rename_i hx;split at h
     ·rename_i hb;exact aEk (fun hc=>tD rfl hc hx) h hb
     cases h
    cases h
   exact plain _ h
  exact plain _ h
 ·split at h
  ·split at h
   ·split at h
    ·rename_i hx;split at h
     ·rename_i hb;exact aEk (fun hc=>tD rfl hc hx) h hb
     cases h
    cases h
   exact plain _ h
  exact plain _ h
 ·split at h
  ·split at h
   ·exact aJ4 hT rfl h
   cases h
  exact plain _ h
 exact plain _ h
section
variable (P:Program) (tb:Tb) (N:Nat)
def aLQ (all:List Oper)(bs:Sl)(br:Rl):List Oper->Sl->Rl->T->(Sl->Rl->T->Prop)->Prop
 | [],pre,prr,t,K=>K pre prr t
 | o::rest,pre,prr,t,K=>(match aSe N o.dst with
   | false=>False
   | true=>(match o.guard with
     | none=>opX P tb (pre++bs) (prr++br) o.dst o.op t (fun v del new t=>aLQ all bs br rest (oW pre o.dst v) (nP new++(jW del++prr)) t K)
     | some (j,want)=>gdW N all (pre++bs) j want t (fun dj b t=>(match b==want with
       | true=>opX P tb (nE (pre++bs) dj b) (prr++br) o.dst o.op t (fun v del new t=>aLQ all bs br rest (oW (nE pre dj b) o.dst v) (nP new++(jW del++prr)) t K)
       | false=>aLQ all bs br rest (oW (nE pre dj b) o.dst (.tup [])) prr t K))))
def aB3 (all:List Oper)(bs:Sl)(br:Rl):Nat->List Oper->Sl->Rl->List gK->T->(Sl->Rl->List gK->T->Prop)->Prop
 | _,[],pre,prr,acc,t,K=>K pre prr acc t
 | i,o::rest,pre,prr,acc,t,K=>(match aSe N o.dst with
   | false=>False
   | true=>(match o.guard with
     | none=>(match aM4 tb (pre++bs) (prr++br) o.dst o.op with
      | some (v,b)=>aB3 all bs br (i+1) rest (oW pre o.dst v) prr (lZ i o (pre++bs) v b::acc) t K
      | none=>opD P tb (mO o.op (pre++bs)) (vY o.op (pre++bs) (prr++br)) o.dst o.op t (fun v del new t=>(match tOk (kY i o (pre++bs) (prr++br) v del new) (prr++br) with
       | true=>aB3 all bs br (i+1) rest (oW pre o.dst v) (nP new++(jW del++prr)) (kY i o (pre++bs) (prr++br) v del new::acc) t K
       | false=>False)))
     | some (j,want)=>gdW N all (pre++bs) j want t (fun dj b t=>(match b==want with
       | true=>(match aM4 tb (nE (pre++bs) dj b) (prr++br) o.dst o.op with
        | some (v,b')=>aB3 all bs br (i+1) rest (oW (nE pre dj b) o.dst v) prr (lZ i o (nE (pre++bs) dj b) v b' ::acc) t K
        | none=>opD P tb (mO o.op (nE (pre++bs) dj b)) (vY o.op (nE (pre++bs) dj b) (prr++br)) o.dst o.op t (fun v del new t=>(match tOk (kY i o (nE (pre++bs) dj b) (prr++br) v del new) (prr++br) with
         | true=>aB3 all bs br (i+1) rest (oW (nE pre dj b) o.dst v) (nP new++(jW del++prr)) (kY i o (nE (pre++bs) dj b) (prr++br) v del new::acc) t K
         | false=>False)))
       | false=>aB3 all bs br (i+1) rest (oW (nE pre dj b) o.dst (.tup [])) prr (⟨i,o,true,[],[],⟨.no,[],[]⟩⟩::acc) t K))))
end
section
variable {P:Program} {tb:Tb} {N:Nat} {all:List Oper} {bs:Sl} {br:Rl}
theorem aDq (new:List (Nat × Rs))(del:List Nat)(prr br:Rl):nP new++(jW del++(prr++br))=(nP new++(jW del++prr))++br:=by simp
theorem aDr (hT:kQ P tb){K:Sl->Rl->T->Prop}: ∀(l:List Oper) (pre:Sl) (prr:Rl) (t:T),aLQ P tb N all bs br l pre prr t K->Ops P N all.toArray l (mk (pre++bs) (prr++br)) (fun S=> ∃pre' prr' t',S=mk (pre' ++bs) (prr' ++br)/\K pre' prr' t')
 | [],pre,prr,t,h=>by unfold Ops;unfold aLQ at h;exact⟨pre,prr,t,rfl,h⟩
 | o::rest,pre,prr,t,h=>by
   unfold aLQ at h;split at h
   ·cases h
   rename_i hd;have hd:=aM3 hd;unfold Ops;refine⟨hd,?_⟩;split at h
   ·rename_i hg;rw[hg];obtain⟨v,del,new,t',hs,h⟩:=aPr hT h;refine⟨_,hs,?_⟩;rw[jM,<-pA,aDq];exact aDr hT rest _ _ _ h
   rename_i j want hg;rw[hg];obtain⟨dj,y,b,s,t',h1,h2,h3,h4,h5,h⟩:=aPq h;have h6:mk (nE (pre++bs) s b) (prr++br)=mk (pre++bs) (prr++br):=by unfold mk;rw[h5]
   refine⟨dj,y,h1,h2,h3,fun e=>?_,fun e=>?_⟩
   ·rw[e] at h4;split at h
    ·obtain⟨v,del,new,t',hs,h⟩:=aPr hT h;rw[h6] at hs;refine⟨_,hs,?_⟩;rw[<-h6,jM,nZ,<-pA,aDq];exact aDr hT rest _ _ _ h
    rename_i hb;rw[hb] at h4;simp at h4
   split at h
   ·rename_i hb;rw[hb] at h4;exact absurd (by simpa using h4.symm) e
   rw[<-h6,aMR,nZ,<-pA];exact aDr hT rest _ _ _ h
theorem pB {sl sl' :Sl}(h:bQ sl=bQ sl'): ∀(l:List Operand),pQ sl l=pQ sl' l
 | []=>rfl
 | .tmp t::l=>by simp only[pQ,h,pB h l]
 | .const _::l=>pB h l
 | .func _::l=>pB h l
 | .global _::l=>pB h l
theorem pC {sl sl' :Sl}(h:bQ sl=bQ sl')(o:Op):mO o sl=mO o sl' :=pB h _
theorem xB {sl sl' :Sl}(h:bQ sl=bQ sl')(o:Op)(rs:Rl):vY o sl rs=vY o sl' rs:=by unfold vY;rw[pC h]
theorem xC {sl sl' :Sl}(h:bQ sl=bQ sl')(i:Nat)(o:Oper)(rs:Rl)(v:AV)(del:List Nat)(new:List (Nat × Rs)):kY i o sl rs v del new=kY i o sl' rs v del new:=by unfold kY;rw[pC h,xB h]
theorem aEo {sl sl' :Sl}(h:bQ sl=bQ sl')(i:Nat)(o:Oper)(v:AV)(b:Rl):lZ i o sl v b=lZ i o sl' v b:=by unfold lZ;rw[pC h]
theorem oA {sl sl' :Sl}(h:bQ sl=bQ sl')(d:Option Nat)(v:AV):bQ (oW sl d v)=bQ (oW sl' d v):=by
 cases d with
 | none=>exact h
 | some d=>funext t;simp only[oW,bQ,h]
theorem oB {A:Array Oper}{K:St->List gK->Prop}: ∀(l:List Oper) (i:Nat) (sl sl' :Sl) (rs:Rl) (acc:List gK),bQ sl=bQ sl' ->oX P N A i l sl rs acc K->oX P N A i l sl' rs acc K
 | [],i,sl,sl',rs,acc,h,hd=>by unfold oX at*;unfold mk at*;rw[<-h];exact hd
 | o::rest,i,sl,sl',rs,acc,h,hd=>by
   unfold oX at*;obtain⟨h1,h2,h3⟩:=hd;refine⟨h1,h2,?_⟩
   have execF:(∃v b,aAY P (lZ i o sl v b)/\(∀k∈b.map (·.1),bA rs k=bA ((99,none)::b) k)/\oX P N A (i+1) rest (oW sl o.dst v) rs (lZ i o sl v b::acc) K)-> ∃v b,aAY P (lZ i o sl' v b)/\(∀k∈b.map (·.1),bA rs k=bA ((99,none)::b) k)/\oX P N A (i+1) rest (oW sl' o.dst v) rs (lZ i o sl' v b::acc) K:=fun ⟨v,b,q1,q0,q2⟩=>by
    rw[aEo h] at q1 q2;exact⟨v,b,q1,q0,oB rest _ _ _ _ _ (oA h _ _) q2⟩
   have exec:(∃v del new,bE P o (mk (mO o.op sl) (vY o.op sl rs)) ⟨v,del,new⟩/\tOk (kY i o sl rs v del new) rs=true/\oX P N A (i+1) rest (oW sl o.dst v) (nP new++(jW del++rs)) (kY i o sl rs v del new::acc) K)->
    ∃v del new,bE P o (mk (mO o.op sl') (vY o.op sl' rs)) ⟨v,del,new⟩/\tOk (kY i o sl' rs v del new) rs=true/\oX P N A (i+1) rest (oW sl' o.dst v) (nP new++(jW del++rs)) (kY i o sl' rs v del new::acc) K:=fun ⟨v,del,new,q1,q2,q3⟩=>by
    refine⟨v,del,new,by rw[<-pC h,<-xB h];exact q1,by rw[<-xC h];exact q2,?_⟩;rw[<-xC h];exact oB rest _ _ _ _ _ (oA h _ _) q3
   split
   ·rename_i hg;rw[hg] at h3;exact h3.imp exec execF
   rename_i j want hg;rw[hg] at h3;obtain⟨d,b,q1,q2,q3,q4,q5⟩:=h3;exact⟨d,b,q1,q2,by rw[<-h];exact q3,fun e=>(q4 e).imp exec execF,fun e=>oB rest _ _ _ _ _ (oA h _ _) (q5 e)⟩
theorem qF {A:Array Oper}{K K' :St->List gK->Prop}(hK: ∀S recs,K S recs->K' S recs): ∀(l:List Oper) (i:Nat) (sl:Sl) (rs:Rl) (acc:List gK),oX P N A i l sl rs acc K->oX P N A i l sl rs acc K'
 | [],i,sl,rs,acc,hd=>by unfold oX at*;exact hK _ _ hd
 | o::rest,i,sl,rs,acc,hd=>by
   unfold oX at*;obtain⟨h1,h2,h3⟩:=hd;refine⟨h1,h2,?_⟩;split
   ·rename_i hg;rw[hg] at h3;rcases h3 with ⟨v,del,new,q1,q2,q3⟩ | ⟨v,b,q1,q0,q2⟩
    ·exact .inl ⟨v,del,new,q1,q2,qF hK rest _ _ _ _ q3⟩
    exact .inr ⟨v,b,q1,q0,qF hK rest _ _ _ _ q2⟩
   rename_i j want hg;rw[hg] at h3;obtain⟨d,b,q1,q2,q3,q4,q5⟩:=h3;refine⟨d,b,q1,q2,q3,fun e=>?_,fun e=>qF hK rest _ _ _ _ (q5 e)⟩;rcases q4 e with ⟨v,del,new,p1,p2,p3⟩ | ⟨v,b',p1,p0,p2⟩
   ·exact .inl ⟨v,del,new,p1,p2,qF hK rest _ _ _ _ p3⟩
   exact .inr ⟨v,b',p1,p0,qF hK rest _ _ _ _ p2⟩
theorem aJ5 (hT:kQ P tb){K:Sl->Rl->List gK->T->Prop}: ∀(l done:List Oper) (pre:Sl) (prr:Rl) (acc:List gK) (t:T),all=done++l->aB3 P tb N all bs br done.length l pre prr acc t K->oX P N all.toArray done.length l (pre++bs) (prr++br) acc (fun S recs=> ∃pre' prr' acc' t',S=mk (pre' ++bs) (prr' ++br)/\recs=acc'.reverse/\K pre' prr' acc' t')
 | [],done,pre,prr,acc,t,e,h=>by unfold oX;unfold aB3 at h;exact⟨pre,prr,acc,t,rfl,rfl,h⟩
 | o::rest,done,pre,prr,acc,t,e,h=>by
   unfold aB3 at h;split at h
   ·cases h
   rename_i hd;have hd:=aM3 hd;have hi:all.toArray[done.length]? =some o:=by rw[e];simp
   have e' :all=(done++[o])++rest:=by rw[e];simp
   have el:(done++[o]).length=done.length+1:=by simp
   have ih:=fun pre prr acc t=>aJ5 hT (K:=K) rest (done++[o]) pre prr acc t e';rw[el] at ih;unfold oX;refine⟨hi,hd,?_⟩;split at h
   ·rename_i hg;rw[hg];split at h
    ·rename_i v b' hv;refine .inr ⟨v,b',(aEn hT hv).1,(aEn (i:=0) hT hv).2,?_⟩;rw[<-pA];exact ih _ _ _ _ h
    obtain⟨v,del,new,t',hs,h⟩:=aPs hT h;split at h
    ·rename_i ht;refine .inl ⟨v,del,new,hs,ht,?_⟩;rw[<-pA,aDq];exact ih _ _ _ _ h
    cases h
   rename_i j want hg;rw[hg];obtain⟨dj,y,b,s,t',h1,h2,h3,h4,hp,h⟩:=aPq h;refine⟨dj,y,h1,h2,h3,fun e=>?_,fun e=>?_⟩
   ·rw[e] at h4;split at h
    ·split at h
     ·rename_i v b' hv;have hs:=aEn (i:=done.length) hT hv;rw[aEo hp] at hs h;refine .inr ⟨v,b',hs.1,hs.2,?_⟩;have:=ih _ _ _ _ h;rw[pA,<-nZ] at this;exact oB _ _ _ _ _ _ (oA hp _ _) this
     obtain⟨v,del,new,t',hs,h⟩:=aPs hT h;split at h
     ·rename_i ht;rw[pC hp,xB hp] at hs;rw[xC hp] at ht h;refine .inl ⟨v,del,new,hs,ht,?_⟩;have:=ih _ _ _ _ h;rw[pA,<-aDq,<-nZ] at this;exact oB _ _ _ _ _ _ (oA hp _ _) this
     cases h
    rename_i hb;rw[hb] at h4;simp at h4
   split at h
   ·rename_i hb;rw[hb] at h4;exact absurd (by simpa using h4.symm) e
   have:=ih _ _ _ _ h;rw[pA,<-nZ] at this;exact oB _ _ _ _ _ _ (oA hp _ _) this
end
def pD (W:List Nat):Sl:=W.map fun t=>(t,AV.no)
def mB (V:List Nat):Rl:=V.map fun h=>(h,none)
def gmF (ren:List (Nat × Nat))(hd:List Nat)(h:Nat):Option Nat:=match cE ren h with | some g=>some g | none=>(match hd.contains h with | true=>none | false=>some h)
def EqS (sl:Sl)(gm:Nat->Option Nat):Sl->Prop->Prop
 | [],K=>K
 | (t,x)::l,K=>mH gm x (bQ sl t) (EqS sl gm l K)
def aG5 (rs:Rl)(gm:Nat->Option Nat):Rl->Prop->Prop
 | [],K=>K
 | (h,some r)::l,K=>(match gm h with
   | some g=>(match bA rs g with
     | some r' =>(match r with
       | .box t cs=>(match r' with | .box t' cs' =>EqN t' t (tE gm cs cs' (aG5 rs gm l K)) | _=>False)
       | .arr e k d xs=>EqR r' (.arr e k d xs) (aG5 rs gm l K)
       | .hole e k xs i j hp=>(match r' with | .hole e' k' xs' i' j' hp' =>(match Nat.beq e' e&&Nat.beq k' k&&Nat.beq j' j&&(match gm hp with | some q=>Nat.beq q hp' | none=>false) with | true=>xs' =xs/\i' =i/\aG5 rs gm l K | false=>False) | _=>False))
     | none=>False)
   | none=>(match r with | .arr _ _ _ xs=>[]=xs/\aG5 rs gm l K | _=>False))
 | (_,none)::_,_=>False
def aIB (gm:Nat->Option Nat)(h:Nat):Bool:=match gm h with | some g=>Nat.beq g h | none=>false
def aLR (gm:Nat->Option Nat)(l:List Nat):Bool:=l.all (aIB gm)
def xD (rs:Rl):List Nat:=(rs.map (·.1)).filter fun h=>(bA rs h).isSome
def aUn (gm:Nat->Option Nat)(l:List Nat):Bool:=l.all fun h=>l.all fun h' =>Nat.beq h h' || (match gm h with | none=>true | some g=>(match gm h' with | none=>true | some g' => !Nat.beq g g'))
def aM5 (W V:List Nat)(gm:Nat->Option Nat)(pre:Sl)(prr:Rl)(b1:Sl)(b2:Rl)(hd:Rl):Bool:=
 hd.all (fun q=>Nat.ble 100 q.1 || aIB gm q.1)&&pre.all (fun q=>W.contains q.1)&&prr.all (fun q=>V.contains q.1)&&b1.all (fun q=>W.contains q.1 || aLR gm (bZ (bQ b1 q.1)))&&
 b2.all (fun q=>V.contains q.1 || (match bA b2 q.1 with | some r=>aIB gm q.1&&aLR gm (iE r) | none=>true))&&aUn gm (xD (hd++b2))
theorem aDs {gm:Nat->Option Nat}{h:Nat}(hx:aIB gm h=true):gm h=some h:=by
 unfold aIB at hx;split at hx
 ·rename_i g hg;rw[hg,aBq hx]
 cases hx
theorem aM6 {gm:Nat->Option Nat}{l:List Nat}{h:Nat}(hx:aLR gm l=true)(hm:h∈l):gm h=some h:=aDs (aDP.1 hx h hm)
theorem aLS {sl:Sl}{gm:Nat->Option Nat}{K:Prop}: ∀{l:Sl},EqS sl gm l K->(∀t x,(t,x)∈l-> ∃Q,mH gm x (bQ sl t) Q)/\K
 | [],h=>⟨by simp,h⟩
 | (t,x)::l,h=>by
   unfold EqS at h;obtain⟨h3,h4⟩:=aLS (aJY _ _ _ h);refine⟨fun t' x' hm=>?_,h4⟩;rcases aG7.1 hm with e | hm
   ·injection e with e1 e2;subst e1;subst e2;exact⟨_,h⟩
   exact h3 t' x' hm
def aSg (rs:Rl)(gm:Nat->Option Nat)(h:Nat)(r:Rs):Prop:=
 (∀g,gm h=some g-> ∃r',bA rs g=some r' /\((r=r' /\aG0 r=true)\/(∃t cs cs' Q,r= .box t cs/\r' = .box t cs' /\tE gm cs cs' Q)\/ ∃e k xs i j hp hp',r= .hole e k xs i j hp/\r' = .hole e k xs i j hp' /\gm hp=some hp'))/\(gm h=none-> ∃e k d,r= .arr e k d [])
theorem aIC {rs:Rl}{gm:Nat->Option Nat}{K:Prop}: ∀{l:Rl},aG5 rs gm l K->(∀h r,(h,r)∈l-> ∃r',r=some r' /\aSg rs gm h r')/\K
 | [],h=>⟨by simp,h⟩
 | (h,some r)::l,hh=>by
   unfold aG5 at hh
   have key:aSg rs gm h r->aG5 rs gm l K->(∀h' r0,(h',r0)∈(h,some r)::l-> ∃r',r0=some r' /\aSg rs gm h' r')/\K:=fun h1 h2=>by
    obtain⟨h3,h4⟩:=aIC h2;refine⟨fun t' x' hm=>?_,h4⟩;rcases aG7.1 hm with e | hm
    ·injection e with e1 e2;subst e1;subst e2;exact⟨r,rfl,h1⟩
    exact h3 t' x' hm
   split at hh
   ·rename_i g hg;split at hh
    ·rename_i r' hr;split at hh
     ·rename_i t cs;split at hh
      ·rename_i t' cs';obtain⟨e1,hq⟩:=hh.eq;refine key ⟨fun g' hg' =>?_,fun hn=>by rw[hg] at hn;cases hn⟩ (tF _ _ _ hq);rw[hg] at hg';injection hg' with hg';subst hg'
       exact⟨_,hr,.inr (.inl ⟨t,cs,cs',_,rfl,by rw[e1],hq⟩)⟩
      cases hh
     ·obtain⟨e1,hq⟩:=hh.eq;refine key ⟨fun g' hg' =>?_,fun hn=>by rw[hg] at hn;cases hn⟩ hq;rw[hg] at hg';injection hg' with hg';subst hg'
      exact⟨_,hr,.inl ⟨e1.symm,rfl⟩⟩
     split at hh
     ·rename_i e k xs i j hp _ e' k' xs' i' j' hp';split at hh
      ·rename_i hb;simp only[aAS] at hb;obtain⟨⟨⟨b1,b2⟩,b3⟩,b4⟩:=hb;split at b4
       ·rename_i q hq;obtain rfl:=aBq b1;obtain rfl:=aBq b2;obtain rfl:=aBq b3;obtain rfl:=aBq b4;obtain⟨rfl,rfl,hh⟩:=hh;refine key ⟨fun g' hg' =>?_,fun hn=>by rw[hg] at hn;cases hn⟩ hh;rw[hg] at hg';injection hg' with hg';subst hg'
        exact⟨_,hr,.inr (.inr ⟨_,_,_,_,_,_,_,rfl,rfl,hq⟩)⟩
       cases b4
      cases hh
     cases hh
    cases hh
   rename_i hg;split at hh
   ·obtain⟨e1,hq⟩:=hh;exact key ⟨fun g' hg' =>(by rw[hg] at hg';cases hg'),fun _=>⟨_,_,_,by rw[<-e1]⟩⟩ hq
   cases hh
 | (h,none)::l,hh=>by unfold aG5 at hh;cases hh
theorem aHG {o b:Sl}{t:Nat}:(∃x,(t,x)∈o/\bQ (o++b) t=x)\/(t ∉ o.map (·.1)/\bQ (o++b) t=bQ b t):=by
 induction o with
 | nil=>exact .inr ⟨by simp,rfl⟩
 | cons q o ih=>
   obtain⟨k,v⟩:=q;simp only[List.cons_append,bQ];by_cases e:t=k
   ·subst e;exact .inl ⟨v,by simp,by simp⟩
   rw[if_neg e];rcases ih with ⟨x,h1,h2⟩ | ⟨h1,h2⟩
   ·exact .inl ⟨x,by simp[h1],h2⟩
   exact .inr ⟨by simp only[aGN,aG7,not_or];exact⟨e,h1⟩,h2⟩
theorem aCa {o b:Rl}{t:Nat}:(∃x,(t,x)∈o/\bA (o++b) t=x)\/(t ∉ o.map (·.1)/\bA (o++b) t=bA b t):=by
 induction o with
 | nil=>exact .inr ⟨by simp,rfl⟩
 | cons q o ih=>
   obtain⟨k,v⟩:=q;simp only[List.cons_append,bA];by_cases e:t=k
   ·subst e;exact .inl ⟨v,by simp,by simp⟩
   rw[if_neg e];rcases ih with ⟨x,h1,h2⟩ | ⟨h1,h2⟩
   ·exact .inl ⟨x,by simp[h1],h2⟩
   exact .inr ⟨by simp only[aGN,aG7,not_or];exact⟨e,h1⟩,h2⟩
theorem aEp {W:List Nat}{b:Sl}{t:Nat}:bQ (pD W++b) t=if t∈W then .no else bQ b t:=by
 induction W with
 | nil=>simp[pD]
 | cons w W ih=>
   simp only[pD,aGN,List.cons_append,bQ] at ih ⊢;rw[ih];by_cases e:t=w<;>simp[e]
theorem aA3 {W:List Nat}{b:Rl}{t:Nat}:bA (mB W++b) t=if t∈W then none else bA b t:=by
 induction W with
 | nil=>simp[mB]
 | cons w W ih=>
   simp only[mB,aGN,List.cons_append,bA] at ih ⊢;rw[ih];by_cases e:t=w<;>simp[e]
theorem aNo {b:Sl}{t:Nat}(h:bQ b t≠ .no):t∈b.map (·.1):=by
 induction b with
 | nil=>simp[bQ] at h
 | cons q b ih=>
   obtain⟨k,v⟩:=q;simp only[bQ] at h;by_cases e:t=k
   ·simp[e]
   rw[if_neg e] at h;simp[ih h]
theorem aCb {b:Rl}{t:Nat}{r:Rs}(h:bA b t=some r):t∈b.map (·.1):=by
 induction b with
 | nil=>simp[bA] at h
 | cons q b ih=>
   obtain⟨k,v⟩:=q;simp only[bA] at h;by_cases e:t=k
   ·simp[e]
   rw[if_neg e] at h;simp[ih h]
theorem aJ6 {A:Nat->Prop}{w0:uF}{N:Nat}{a:Act}{w:World}{W V:List Nat}{gm:Nat->Option Nat}{cur:Sl}{cur2:Rl}{b1:Sl}{b2:Rl}{o:Sl}{r:Rl}
 (k0: ∀q∈r,Nat.ble 100 q.1=true\/aIB gm q.1=true) (k3: ∀q∈pD W++b1,q.1∈W\/aLR gm (bZ (bQ (pD W++b1) q.1))=true) (k4: ∀q∈mB V++b2,q.1∈V\/ ∀r,bA (mB V++b2) q.1=some r->aIB gm q.1=true/\aLR gm (iE r)=true)
 (k5:aUn gm (xD (r++(mB V++b2)))=true) (c1: ∀t,t ∉ W->bQ cur t=bQ (pD W++b1) t) (c2: ∀h,h ∉ V->bA cur2 h=bA (mB V++b2) h)
 (h1: ∀t x,(t,x)∈o-> ∃Q,mH gm x (bQ cur t) Q) (h2: ∀h x,(h,x)∈r-> ∃r',x=some r' /\aSg cur2 gm h r') (hG:tB A w0 N (mk cur cur2) a w):tB A w0 N (mk (o++(pD W++b1)) (r++(mB V++b2))) a w:=by
 obtain⟨K,φ,hG⟩:=hG
 let S2:=r++(mB V++b2)
 let φ' :gS:=fun h=>match bA S2 h with | none=>none | some _=>(match gm h with | some g=>φ g | none=>some iF)
 have p1: ∀h g pl,gm h=some g->φ' h=some pl->φ g=some pl:=fun h g pl e e' =>by
  simp only[φ',e] at e';split at e'
  ·cases e'
  exact e'
 have p2: ∀h pl,gm h=none->φ' h=some pl->pl=iF:=fun h pl e e' =>by
  simp only[φ',e] at e';split at e'
  ·cases e'
  injection e' with e';exact e'.symm
 have p0: ∀h pl,φ' h=some pl-> ∃x,bA S2 h=some x:=fun h pl e=>by
  simp only[φ'] at e;split at e
  ·cases e
  rename_i x hx;exact⟨x,hx⟩
 have p3: ∀h pl,φ' h=some pl->(∃g,gm h=some g/\φ g=some pl)\/pl=iF:=fun h pl e=>by
  cases hl:gm h with
  | some g=>exact .inl ⟨g,rfl,p1 h g pl hl e⟩
  | none=>exact .inr (p2 h pl hl e)
 have live: ∀{h x},bA S2 h=some x->h∈xD S2:=fun {h x} hx=>by
  unfold xD;rw[aPF];exact⟨aCb hx,by rw[hx];rfl⟩
 refine⟨K,φ',fun h x hx=>?_,fun h hx=>?_,fun h h' pl pl' hne e e' g hg=>?_,fun h pl e=>?_,fun h pl e=>?_,hG.kin,fun b hb h pl e=>?_,hG.aK,fun t=>?_,hG.bel,hG.nd,hG.size,fun h pl pl0 e e0=>?_⟩
 ·have hx' :bA S2 h=some x:=hx;rcases aCa (o:=r) (b:=mB V++b2) (t:=h) with ⟨y,q1,q2⟩ | ⟨_,q2⟩
  ·obtain⟨r',e1,q3,q4⟩:=h2 h y q1;have ex:r' =x:=by have:=hx';simp only[S2] at this;rw[q2,e1] at this;injection this
   subst ex;cases hl:gm h with
   | some g=>
     obtain⟨r2,hr2,q⟩:=q3 g hl;obtain⟨pl,hp,hh⟩:=hG.dom g r2 hr2;refine⟨pl,by simp only[φ',hx',hl];exact hp,?_⟩;rcases q with ⟨rfl,ha⟩ | ⟨t,cs,cs',Q,rfl,rfl,hq⟩ | ⟨e,k,xs,i,j,hp0,hp',rfl,rfl,hq⟩
     ·exact Holds.arrPhi ha hh
     ·obtain⟨g',vs',f1,f2,f3,f4⟩:=hh;exact⟨g',vs',f1,f2,f3,(wX (φ' :=φ') p1 p2 _ _ _ _ hq f4).1⟩
     obtain⟨xs1,x1,d,x2,xs2,css1,c1,v,c2,css2,Fs1,F1,F2,Fs2,e0,e1,e2,e3,t1,t2,t3,t4,t5,t6,t7,t8⟩:=hh;exact⟨xs1,x1,d,x2,xs2,css1,c1,v,c2,css2,Fs1,F1,F2,Fs2,e0,e1,e2,e3,t1,t2,t3,t4,t5,t6,t7,t8.1,fun pl' e' =>t8.2 pl' (p1 hp0 hp' pl' hq e')⟩
   | none=>
     obtain⟨e,k,d,rfl⟩:=q4 hl;refine⟨iF,by simp only[φ',hx',hl],?_⟩;cases d with
     | true=>exact⟨[],[],World.ownsRow_nil w 0 e k,rfl,rfl,by unfold cA;exact⟨rfl,rfl⟩⟩
     | false=>exact⟨[],World.ownsRow_nil w 0 e k,rfl,rfl,rfl⟩
  have hb:bA (mB V++b2) h=some x:=by rw[<-q2];exact hx'
  obtain⟨q,hq,rfl⟩:=aH5.1 (aCb hb);have hv:q.1 ∉ V:=fun hv=>by rw[aA3,if_pos hv] at hb;cases hb
  obtain⟨f1,f2⟩:=(k4 q hq).resolve_left hv x hb;obtain⟨pl,hp,hh⟩:=hG.dom q.1 x (by simp only[mk];rw[c2 _ hv];exact hb);refine⟨pl,by simp only[φ',hx',aDs f1];exact hp,?_⟩;exact Holds.mono (fun _ _=>rfl) (fun _ h=>h) (fun _ _=>rfl) x (fun h3 pl3 hm3 e3=>⟨p1 h3 h3 pl3 (aM6 f2 hm3) e3,fun _ _=>rfl⟩) hh
 ·have hx' :bA S2 h=none:=hx;simp only[φ',hx']
 ·rcases p3 h pl e with ⟨q,l1,e1⟩ | e1
  ·rcases p3 h' pl' e' with ⟨q',l1',e1'⟩ | e1'
   ·refine hG.disj q q' pl pl' (fun x=>?_) e1 e1' g hg;subst x;obtain⟨x,hx⟩:=p0 h pl e;obtain⟨x',hx'⟩:=p0 h' pl' e';have:=aDP.1 (aDP.1 k5 h (live hx)) h' (live hx');simp only[Bool.or_eq_true,l1,l1',Nat.beq_refl,Bool.not_true] at this;rcases this with q3 | q3
    ·exact hne (aBq q3)
    cases q3
   rw[e1'];simp[iF,Pl.F]
  rw[e1] at hg;simp[iF,Pl.F] at hg
 ·rcases p3 h pl e with ⟨g,_,e⟩ | e
  ·exact hG.nodup g pl e
  rw[e];simp[iF,Pl.F]
 ·rcases p3 h pl e with ⟨g,_,e⟩ | e
  ·exact hG.ge g pl e
  rw[e];simp[iF,Pl.F]
 ·rcases p3 h pl e with ⟨g,_,e⟩ | e
  ·exact hG.kout b hb g pl e
  rw[e];simp[iF,Pl.F]
 ·simp only[mk];have hs:=hG.slots t;simp only[mk] at hs;rcases aHG (o:=o) (b:=pD W++b1) (t:=t) with ⟨x,q1,q2⟩ | ⟨_,q2⟩
  ·rw[q2];obtain⟨Q,hQ⟩:=h1 t x q1;exact(aHy (φ' :=φ') p1 p2 _ _ _ _ hQ hs).1
  rw[q2];by_cases hn:bQ (pD W++b1) t= .no
  ·rw[hn];unfold aC;trivial
  obtain⟨q,hq,rfl⟩:=aH5.1 (aNo hn);have hw:q.1 ∉ W:=fun hw=>hn (by rw[aEp,if_pos hw]);have f:=(k3 q hq).resolve_left hw;rw[c1 _ hw] at hs;exact aC.mono (fun _ _=>rfl) (fun _ h=>h) _ _ (fun h3 pl3 hm3 e3=>⟨p1 h3 h3 pl3 (aM6 f hm3) e3,fun _ _=>rfl⟩) hs
 obtain⟨x,hx⟩:=p0 h pl e;have hlt:=w0.dom h pl0 e0
 have hfx:gm h=some h:=by
  rcases aCa (o:=r) (b:=mB V++b2) (t:=h) with ⟨y,q1,q2⟩ | ⟨_,q2⟩
  ·rcases k0 _ q1 with q | q
   ·have:=aBI q;dsimp only at this;omega
   exact aDs q
  have hb:bA (mB V++b2) h=some x:=by rw[<-q2];exact hx
  obtain⟨q,hq,rfl⟩:=aH5.1 (aCb hb);have hv:q.1 ∉ V:=fun hv=>by rw[aA3,if_pos hv] at hb;cases hb
  exact aDs ((k4 q hq).resolve_left hv x hb).1
 exact hG.pin h pl pl0 (p1 h h pl hfx e) e0
theorem aM7 {W V:List Nat}{gm:Nat->Option Nat}{pre:Sl}{prr:Rl}{b1:Sl}{b2:Rl}{r:Rl}(hb:aM5 W V gm pre prr b1 b2 r=true):(∀q∈r,Nat.ble 100 q.1=true\/aIB gm q.1=true)/\(∀q∈pre,q.1∈W)/\(∀q∈prr,q.1∈V)/\(∀q∈b1,q.1∈W\/aLR gm (bZ (bQ b1 q.1))=true)/\(∀q∈b2,q.1∈V\/ ∀r,bA b2 q.1=some r->aIB gm q.1=true/\aLR gm (iE r)=true)/\aUn gm (xD (r++b2))=true:=by
 unfold aM5 at hb;simp only[aAS,aDP,Bool.or_eq_true,List.contains_eq_mem,aLF] at hb;obtain⟨⟨⟨⟨⟨k0,k1⟩,k2⟩,k3⟩,k4⟩,k5⟩:=hb;refine⟨k0,k1,k2,k3,fun q hq=>(k4 q hq).imp id fun h r hr=>?_,k5⟩;rw[hr] at h;simpa using h
def aPt (rs:Rl)(hd:Rl):List (Nat × Nat):=(hd.filter fun q=>(bA rs q.1).isSome).map fun q=>(q.1,q.1)
def aUo (sl:Sl)(c:Operand)(t:T)(K:Option Nat->Bool->T->Prop):Prop:=match c with
 | .tmp s=>(match bQ sl s with | .p none (.bool b)=>brW b t (fun b t=>K (some s) b t) | _=>False)
 | .const (.bool b)=>brW b t (fun b t=>K none b t)
 | _=>False
theorem aSh {sl:Sl}{rs:Rl}{c:Operand}{t:T}{K:Option Nat->Bool->T->Prop}(h:aUo sl c t K): ∃s b t',(mk sl rs).ev c= .p none (.bool b)/\(∀rs',mk (nE sl s b) rs' =mk sl rs')/\K s b t' :=by
 unfold aUo at h;split at h
 ·rename_i s;split at h
  ·rename_i b hb;obtain⟨t',h⟩:=aLP h;exact⟨some s,b,t',hb,fun rs' =>aSf hb,h⟩
  cases h
 ·rename_i b;obtain⟨t',h⟩:=aLP h;exact⟨none,b,t',rfl,fun _=>rfl,h⟩
 cases h
def frc {α:Type}(n:Nat)(k:Nat->α):α:=match n with | 0=>k 0 | m+1=>k (m+1)
theorem aUp {α:Type}(n:Nat)(k:Nat->α):frc n k=k n:=by cases n<;>rfl
def bm:List Nat->Nat
 | []=>0
 | h::l=>Nat.lor (Nat.shiftLeft 1 h) (bm l)
theorem aSi (h:Nat):(Nat.shiftLeft 1 h).testBit h=true:=by
 show (1<<<h).testBit h=true;rw[Nat.testBit_shiftLeft];simp
theorem aPu {h j:Nat}(e:(Nat.shiftLeft 1 h).testBit j=true):j=h:=by
 have e:(1<<<h).testBit j=true:=e;rw[Nat.one_shiftLeft,Nat.testBit_two_pow] at e;simpa using (of_decide_eq_true e).symm
theorem aDt (a b j:Nat):(Nat.lor a b).testBit j=(a.testBit j || b.testBit j):=Nat.testBit_or a b j
theorem xE: ∀{l:List Nat} {h:Nat},h∈l->(bm l).testBit h=true
 | a::l,h,hm=>by
   rw[bm,aDt];rcases aG7.1 hm with rfl | q
   ·rw[aSi];rfl
   rw[xE q];simp
structure Sm where
 d:Nat
 L:Nat
 W:Nat
 T:Nat
 M:Nat
 N:Nat
 R:Nat
def xF (a b:Nat):Bool:=Nat.beq (Nat.land a b) 0
theorem aSj {a b:Nat}(h:xF a b=true){j:Nat}(ha:a.testBit j=true):b.testBit j=false:=by
 have h1:a&&&b=0:=aBq h;have h2:=Nat.testBit_and a b j;rw[h1,Nat.zero_testBit,ha,Bool.true_and] at h2;exact h2.symm
theorem zJ {a b:List Nat}{A B:Nat}(ha: ∀h∈a,A.testBit h=true)(hb: ∀h∈b,B.testBit h=true)(h:xF A B=true):aBV a b=true:=by
 rw[aBV,aDP];intro x hx;have h1:=aSj h (ha x hx);rw[Bool.not_eq_true',List.contains_eq_mem,decide_eq_false_iff_not];intro hm;rw[hb x hm] at h1;cases h1
def rOf (acc:List Sm)(n:Nat):List Edge->Nat
 | []=>0
 | e::es=>(match Region.binds .any e with
   | true=>Nat.lor (Nat.shiftLeft 1 e.on) (Nat.lor (match acc[n - 1 - e.on]? with | some s=>s.R | none=>0) (rOf acc n es))
   | false=>rOf acc n es)
def aSk (y:Sm):Nat->List Sm->Bool
 | k+1,x::l=>(match xF y.R (Nat.shiftLeft 1 k) with
  | false=>true
  | true=>xF x.d (Nat.lor y.L y.d)&&xF y.d x.L&&xF x.W (Nat.lor y.T y.W)&&xF y.W x.T&&xF x.N y.M)&&xF y.N x.M&&aSk y k l
 | _,_=>true
def aVb (n:Nat)(y:gK):Bool:=(y.o.after.toList.all fun e=> !Region.binds .any e || Nat.blt e.on n)&&(y.skip || y.e.new.all fun q=> !y.e.del.contains q.1 || (bA y.vr q.1).isSome)
def aM8 (ops:Array Oper):Nat->List Sm->List gK->Bool
 | _,_,[]=>true
 | n,acc,y::l=>aVb n y&&frc (bm y.o.dst.toList) fun d=>frc (bm (y.looks ops)) fun L=>frc (bm y.W) fun W=>frc (bm y.T) fun T=>frc (Nat.lor (bm y.M) W) fun M=>frc (bm y.Nw) fun N=>frc (rOf acc n y.o.after.toList) fun R=>
  aSk ⟨d,L,W,T,M,N,R⟩ n acc&&aM8 ops (n+1) (⟨d,L,W,T,M,N,R⟩::acc) l
structure aVc (ops:Array Oper) (s:Sm) (x:gK):Prop where
 d: ∀h∈x.o.dst.toList,s.d.testBit h=true
 L: ∀h∈x.looks ops,s.L.testBit h=true
 W: ∀h∈x.W,s.W.testBit h=true
 T: ∀h∈x.T,s.T.testBit h=true
 M: ∀h∈x.M++x.W,s.M.testBit h=true
 N: ∀h∈x.Nw,s.N.testBit h=true
 R: ∀j,s.R.testBit j=true->qS ops (x.i+1) j x.o.after=true
theorem aA4 {ops:Array Oper}: ∀{n m x:Nat} {es:Array Edge},n<=m->qS ops n x es=true->qS ops m x es=true
 | 0,_,_,_,_,h=>by simp[qS] at h
 | n+1,0,_,_,hm,_=>by omega
 | n+1,m+1,x,es,hm,h=>by
   rw[qS,Array.any_eq_true] at h ⊢;obtain⟨i,hi,h⟩:=h;refine⟨i,hi,?_⟩;rw[aAS,Bool.or_eq_true] at h ⊢;refine⟨h.1,h.2.imp id fun h=>?_⟩;split at h
   ·exact aA4 (by omega) h
   cases h
theorem aID {acc:List Sm}{n j:Nat}: ∀{es:List Edge},(rOf acc n es).testBit j=true-> ∃e∈es,Region.binds .any e=true/\(e.on=j\/ ∃s,acc[n - 1 - e.on]? =some s/\s.R.testBit j=true)
 | [],h=>by simp[rOf] at h
 | e::es,h=>by
   rw[rOf] at h;split at h
   ·rename_i hb;rw[aDt,aDt,Bool.or_eq_true,Bool.or_eq_true] at h;rcases h with h | h | h
    ·exact⟨e,by simp,hb,.inl (aPu h).symm⟩
    ·split at h
     ·rename_i s hs;exact⟨e,by simp,hb,.inr ⟨s,hs,h⟩⟩
     simp at h
    obtain⟨e',he,h⟩:=aID h;exact⟨e',by simp[he],h⟩
   obtain⟨e',he,h⟩:=aID h;exact⟨e',by simp[he],h⟩
theorem aM9 {y:Sm}: ∀{k:Nat} {l:List Sm},k=l.length->aSk y k l=true-> ∀j x,j<k->l[k - 1 - j]? =some x->((xF y.R (Nat.shiftLeft 1 j)=false)\/(xF x.d (Nat.lor y.L y.d)=true/\xF y.d x.L=true/\xF x.W (Nat.lor y.T y.W)=true/\xF y.W x.T=true/\xF x.N y.M=true))/\xF y.N x.M=true
 | 0,l,_,_,j,x,hj,_=>by omega
 | k+1,[],hk,_,_,_,_,_=>by simp at hk
 | k+1,z::l,hk,h,j,x,hj,hx=>by
   rw[aSk,aAS,aAS] at h;obtain⟨⟨h1,h2⟩,h3⟩:=h;by_cases e:j=k
   ·subst e;rw[show j+1 - 1 - j=0 by omega] at hx;simp only[List.getElem?_cons_zero,Option.some.injEq] at hx;subst hx;refine⟨?_,h2⟩;split at h1
    ·rename_i q;exact .inl q
    simp only[aAS] at h1;exact .inr ⟨h1.1.1.1.1,h1.1.1.1.2,h1.1.1.2,h1.1.2,h1.2⟩
   rw[show k+1 - 1 - j=(k - 1 - j)+1 by omega,List.getElem?_cons_succ] at hx;exact aM9 (by simpa using hk) h3 j x (by omega) hx
def aPv (y:gK):Prop:=(y.o.after.all (fun e=> !Region.binds .any e || decide (e.on<y.i))&&(y.skip || y.e.new.all fun q=> !y.e.del.contains q.1 || (bA y.vr q.1).isSome))=true
theorem aJ7 {ops:Array Oper}: ∀{l:List gK},l.Pairwise (fun x y=>x.i<y.i/\wQ ops x y=true)->(∀y∈l,aPv y)->qT ops l=true
 | [],_,_=>rfl
 | x::l,h,ho=>by
   obtain⟨h1,h2⟩:=List.pairwise_cons.1 h;have h3:=ho x (by simp);rw[aPv,aAS] at h3;rw[qT,aJ7 h2 fun y hy=>ho y (by simp[hy]),h3.1,h3.2,Bool.and_true,Bool.and_true,Bool.and_true,aDP];intro y hy;rw[(h1 y hy).2,decide_eq_true (h1 y hy).1];rfl
theorem aUq {A B:Nat}{l m:List Nat}(h1: ∀h∈l,A.testBit h=true)(h2: ∀h∈m,B.testBit h=true): ∀h∈l++m,(Nat.lor A B).testBit h=true:=fun h hm=>by
 rw[aDt,Bool.or_eq_true];rcases aDy.1 hm with q | q
 ·exact .inl (h1 h q)
 exact .inr (h2 h q)
theorem aMa {ops:Array Oper}: ∀(l done:List gK) (acc:List Sm),acc.length=done.length->(∀k x,done[k]? =some x->x.i=k/\ ∃s,acc[done.length - 1 - k]? =some s/\aVc ops s x)->(∀k x,l[k]? =some x->x.i=done.length+k)->(∀x∈done++l,ops[x.i]? =some x.o)->done.length+l.length<=ops.size->aM8 ops done.length acc l=true->
 (∀y∈l,aPv y)/\(∀x∈done,∀y∈l,x.i<y.i/\wQ ops x y=true)/\l.Pairwise (fun x y=>x.i<y.i/\wQ ops x y=true)
 | [],done,acc,_,_,_,_,_,_=>⟨by simp,by simp,List.Pairwise.nil⟩
 | y::l,done,acc,hal,hd,hl,ho,hs,h=>by
   rw[aM8] at h;simp only[aUp] at h;rw[aAS,aAS] at h;obtain⟨hown,hall,hrest⟩:=h;have hyi:y.i=done.length:=by have:=hl 0 y rfl;omega
   rw[aVb,aAS] at hown;have hafter:=aDP.1 hown.1
   have hsm:aVc ops ⟨bm y.o.dst.toList,bm (y.looks ops),bm y.W,bm y.T,Nat.lor (bm y.M) (bm y.W),bm y.Nw,rOf acc done.length y.o.after.toList⟩ y:=by
    refine⟨fun h hm=>xE hm,fun h hm=>xE hm,fun h hm=>xE hm,fun h hm=>xE hm,aUq (fun h hm=>xE hm) (fun h hm=>xE hm),fun h hm=>xE hm,fun j hj=>?_⟩;obtain⟨e,he,hb,hq⟩:=aID hj
    have hlt:e.on<done.length:=by
     have:=hafter e he;rw[hb] at this;simpa [Nat.blt_eq] using this
    rw[hyi,qS,Array.any_eq_true];obtain⟨i,hi,hie⟩:=List.mem_iff_getElem.1 he;refine⟨i,by simpa using hi,?_⟩;rw[show y.o.after[i]'(by simpa using hi)=e by simpa using hie,hb,Bool.true_and,Bool.or_eq_true];rcases hq with q | ⟨s,hs1,hs2⟩
    ·left;rw[q];exact Nat.beq_refl j
    right;have hx:done[e.on]? =some (done[e.on]'hlt):=aBJ hlt;obtain⟨x1,s',x2,x3⟩:=hd e.on _ hx;rw[x2] at hs1;injection hs1 with hs1
    subst hs1;have h4:=x3.R j hs2;rw[x1] at h4;have h5:=ho (done[e.on]'hlt) (aGM _ (aQU hlt));rw[x1] at h5;rw[h5];exact aA4 (by omega) h4
   have hpair: ∀x∈done,x.i<y.i/\wQ ops x y=true:=fun x hx=>by
    obtain⟨k,hk,hkx⟩:=List.mem_iff_getElem.1 hx;obtain⟨x1,s,x2,x3⟩:=hd k x (by rw[aBJ hk,hkx]);refine⟨by omega,?_⟩;have h1:=aM9 hal.symm hall k s hk x2;rw[wQ,aAS];refine⟨?_,zJ hsm.N x3.M h1.2⟩;rw[Bool.or_eq_true];rcases h1.1 with q | ⟨q1,q2,q3,q4,q5⟩
    ·left
     have hbit:(rOf acc done.length y.o.after.toList).testBit k=true:=by
      cases hb:(rOf acc done.length y.o.after.toList).testBit k with
      | true=>rfl
      | false=>
        exfalso
        have hz:(rOf acc done.length y.o.after.toList)&&&(1<<<k)=0:=by
         apply Nat.eq_of_testBit_eq;intro j;rw[Nat.testBit_and,Nat.zero_testBit];by_cases e:j=k
         ·subst e;rw[hb];rfl
         rw[Nat.one_shiftLeft,Nat.testBit_two_pow,decide_eq_false (fun q=>e q.symm),Bool.and_false]
        have:xF (rOf acc done.length y.o.after.toList) (Nat.shiftLeft 1 k)=true:=by
         show Nat.beq ((rOf acc done.length y.o.after.toList)&&&(1<<<k)) 0=true;rw[hz];rfl
        rw[this] at q;cases q
     have:=hsm.R k hbit;rw[aHu,x1];simp only[aHl] at hs;exact aA4 (by omega) this
    right;rw[aAS,aE6];simp only[aAS];exact⟨⟨⟨⟨zJ x3.d (aUq hsm.L hsm.d) q1,zJ hsm.d x3.L q2⟩,zJ x3.W (aUq hsm.T hsm.W) q3⟩,zJ hsm.W x3.T q4⟩,zJ x3.N hsm.M q5⟩
   have hownP:aPv y:=by
    rw[aPv,aAS];refine⟨?_,hown.2⟩;rw[<-Array.all_toList,aDP];intro e he;have:=hafter e he;rw[hyi]
    rwa [show Nat.blt e.on done.length=decide (e.on<done.length) from Bool.eq_iff_iff.2 (by rw[Nat.blt_eq,aLF])] at this
   have hlen:(done++[y]).length=done.length+1:=by simp
   have ih:=aMa (ops:=ops) l (done++[y]) (_::acc) (by simp[hal]) (fun k x hk=>by
    by_cases e:k=done.length
    ·subst e;rw[aGZ (aKU _),Nat.sub_self] at hk;simp only[List.getElem?_cons_zero,Option.some.injEq] at hk;subst hk;exact⟨hyi,_,by rw[hlen,show done.length+1 - 1 - done.length=0 by omega];rfl,hsm⟩
    ·have hk' :k<done.length:=by
      have:=(aCx.1 hk).1;omega
     rw[aKn hk'] at hk;obtain⟨x1,s,x2,x3⟩:=hd k x hk;exact⟨x1,s,by rw[hlen,show done.length+1 - 1 - k=(done.length - 1 - k)+1 by omega,List.getElem?_cons_succ];exact x2,x3⟩)
    (fun k x hk=>by have:=hl (k+1) x (by simpa using hk);rw[hlen];omega) (fun x hx=>ho x (by simpa using hx)) (by simp only[aHl] at hs;rw[hlen];omega) (by rw[hlen];exact hrest)
   obtain⟨i1,i2,i3⟩:=ih;refine⟨fun z hz=>?_,fun x hx z hz=>?_,List.pairwise_cons.2 ⟨fun z hz=>i2 y (by simp) z hz,i3⟩⟩
   ·rcases aG7.1 hz with rfl | q
    ·exact hownP
    exact i1 z q
   rcases aG7.1 hz with rfl | q
   ·exact hpair x hx
   exact i2 x (by simp[hx]) z q
theorem aJ8 {P:Program}{N:Nat}{ops:Array Oper}{K:St->Prop}: ∀{l:List gK} {S:St},aAZ P N ops l S K-> ∀x∈l,ops[x.i]? =some x.o
 | [],_,_,x,hx=>by simp at hx
 | r::l,S,h,x,hx=>by
   obtain⟨h1,h2⟩:=h;rcases aG7.1 hx with rfl | q
   ·exact h1.1
   exact aJ8 h2 x q
def aUr (all:Array Oper)(sl:Sl)(rs:Rl)(recs:List gK):Bool:=aM8 all 0 [] recs&&recs.all fun r=>r.Nw.all fun k=>fW sl rs k
theorem aNp {P:Program}{N:Nat}{id:Nat}{l:List Oper}{sl:Sl}{rs:Rl}{Q:Exit->St->Prop}(hm:P.follows .mixedOrders=true)(h:oX P N l.toArray 0 l sl rs [] (fun S recs=>aUr l.toArray sl rs recs=true/\Q .normal S)):VC P N (.region id l.toArray true) (mk sl rs) Q:=by
 intro A w0 a w hG;obtain⟨recs,S',h1,⟨h2,h3⟩,h4⟩:=zG l 0 sl rs [] h;simp only[List.reverse_nil,aOu] at h2;unfold aUr at h2;rw[aAS,aDP] at h2
 have hmem: ∀i,(∃r∈recs,r.i=i)↔i<l.length:=fun i=>by
  have:(∃r∈recs,r.i=i)↔i∈recs.map (·.i):=by simp
  rw[this,h4];simp[List.mem_range']
 have hsz:l.toArray.size=l.length:=by simp
 have hlen:recs.length=l.length:=by have:=congrArg List.length h4;simpa using this
 have hlk:qT l.toArray recs=true:=by
  obtain⟨q1,_,q3⟩:=aMa recs [] [] rfl (fun k x hk=>by simp at hk) (fun k x hk=>by
   have h5:(recs.map (·.i))[k]? =some x.i:=by rw[aOz,hk];rfl
   rw[h4] at h5;have:=(aCx.1 h5).2;simp only[List.getElem_range'] at this;simp only[List.length_nil];omega) (fun x hx=>aJ8 h1 x (by simpa using hx)) (by simp[hlen]) h2.1
  exact aJ7 q3 q1
 refine wp_region_any hm (aNd (Kn:=fun S=>S=S') (fun S a w hS hG=>⟨S,hG,by rw[hS];exact h3⟩) _ recs _ (mk sl rs) a _ (by rw[hsz,<-aAJ (f:=fun r:gK=>r.i),h4];simp) h1 hlk (fun i hi=>?_) (fun i hi=>?_) (fun r hr=>?_) (fun r hr k hk=>eU (aDP.1 (h2.2 r hr) k hk)) (fun i o hi _ hl' =>by exfalso;rw[hsz] at hi;rw[Array.getD_eq_getD_getElem?] at hl';simp[hi] at hl') hG.drew)
 ·rw[hmem];rw[hsz] at hi;simp[hi]
 ·rw[hsz] at hi;simp[hi]
 rw[hsz];exact(hmem r.i).1 ⟨r,hr,rfl⟩
theorem VC.ghost {P:Program}{N:Nat}{c:Code}{S S' :St}{Q:Exit->St->Prop}(h:VC P N c S' Q)(hg: ∀A w0 N a w,tB A w0 N S a w->tB A w0 N S' a w):VC P N c S Q:=fun A w0 a w hG=>h A w0 a w (hg A w0 N a w hG)
section
variable (P:Program) (tb:Tb) (N:Nat)
def wpC:Code->Sl->Rl->Sl->Rl->T->(Exit->Sl->Rl->T->Prop)->Prop
 | .skip,_,_,pre,prr,t,K=>K .normal pre prr t
 | .ret,_,_,pre,prr,t,K=>K .ret pre prr t
 | .exit id,_,_,pre,prr,t,K=>K (.exit id) pre prr t
 | .region id ops draw,bs,br,pre,prr,t,K=>gsW id (pre++bs) (prr++br) t fun n1 n2 t=>ghW id ((n1++pre)++bs) ((n2++prr)++br) t fun new t=>(match ops with
   | ⟨l⟩=>(match draw with
     | false=>aLQ P tb N l bs br l (n1++pre) (new++(n2++prr)) t (fun pre prr t=>K .normal pre prr t)
     | true=>aB3 P tb N l bs br 0 l (n1++pre) (new++(n2++prr)) [] t (fun pre' prr' acc t=>(match aUr l.toArray ((n1++pre)++bs) ((new++(n2++prr))++br) acc.reverse with
       | true=>K .normal pre' prr' t
       | false=>False))))
 | .seq a b,bs,br,pre,prr,t,K=>wpC a bs br pre prr t (fun e pre prr t=>(match e with
   | .normal=>wpC b bs br pre prr t K
   | e=>K e pre prr t))
 | .cond c x y,bs,br,pre,prr,t,K=>aUo (pre++bs) c t (fun s b t=>(match b with
   | true=>wpC x bs br (nE pre s true) prr t K
   | false=>wpC y bs br (nE pre s false) prr t K))
 | .block id c,bs,br,pre,prr,t,K=>wpC c bs br pre prr t (fun e pre prr t=>(match e with
   | .exit id' =>(match Nat.beq id' id with | true=>K .normal pre prr t | false=>K (.exit id') pre prr t)
   | e=>K e pre prr t))
 | .loop c,bs,br,pre,prr,t,K=>(match t with
   | .loop _ q W V osl ors inv m t=>
     (q.ex 0 fun y=>(match aM5 W V (gmF (aPt (prr++br) (ors y)) ((ors y).map (·.1))) [] [] (pD W++(pre++bs)) (mB V++(prr++br)) (ors y) with | true=>EqS (pre++bs) (gmF (aPt (prr++br) (ors y)) ((ors y).map (·.1))) (osl y) (aG5 (prr++br) (gmF (aPt (prr++br) (ors y)) ((ors y).map (·.1))) (ors y) (inv y)) | false=>False))/\
     q.all fun x=>inv x->wpC c (pD W++(pre++bs)) (mB V++(prr++br)) (osl x) (ors x) (t x) (fun e pre' prr' t' =>(match e with
      | .normal=>(match t' with
        | .back ren n=>q.ex n fun y=>(match aM5 W V (gmF ren ((ors y).map (·.1))) pre' prr' (pD W++(pre++bs)) (mB V++(prr++br)) (ors y) with
          | true=>EqS (pre' ++(pD W++(pre++bs))) (gmF ren ((ors y).map (·.1))) (osl y) (aG5 (prr' ++(mB V++(prr++br))) (gmF ren ((ors y).map (·.1))) (ors y) (inv y/\m y<m x))
          | false=>False)
        | _=>False)
      | e=>K e (pre' ++(pD W++pre)) (prr' ++(mB V++prr)) t'))
   | _=>False)
 | _,_,_,_,_,_,_=>False
end
section
variable {P:Program} {tb:Tb} {N:Nat}
open Classical in
theorem aPw {S:St}{Q:Exit->St->Prop}{c:Code}(I:Nat->St->Prop)(n:Nat)(h0:I n S)(round: ∀n S,I n S->VC P N c S (aTb (fun S' => ∃m S'',m<n/\(∀A w0 a w,tB A w0 N S' a w->tB A w0 N S'' a w)/\I m S'') Q)):VC P N (.loop c) S Q:=fun A w0 a w hG=>by
 let J:Act->World->Nat->Prop:=fun a w n=> ∃S,I n S/\tB A w0 N S a w
 refine wp_loop (fun a w=> ∃n,J a w n) (fun a w=>if h: ∃n,J a w n then Classical.choose (aAX _ h) else 0) ⟨n,S,h0,hG⟩ fun a w hI=>?_;have hmin:=Classical.choose_spec (aAX _ hI);obtain⟨⟨S1,hI1,hG1⟩,_⟩:=hmin;refine Code.wp_mono (fun e a' w' ⟨S',h1,h2⟩=>?_) (round _ S1 hI1 A w0 a w hG1);cases e with
 | normal=>
   obtain⟨m,S'',hm,hl,hI2⟩:=h2;have hex: ∃n,J a' w' n:=⟨m,S'',hI2,hl A w0 a' w' h1⟩;refine⟨hex,?_⟩;simp only[dif_pos hI,dif_pos hex];exact Nat.lt_of_le_of_lt ((Classical.choose_spec (aAX _ hex)).2 m ⟨S'',hI2,hl A w0 a' w' h1⟩) hm
 | _=>exact⟨S',h1,h2⟩
theorem xG (hT:kQ P tb)(hm:P.follows .mixedOrders=true): ∀(c:Code) (bs:Sl) (br:Rl) (pre:Sl) (prr:Rl) (t:T) (K:Exit->Sl->Rl->T->Prop),wpC P tb N c bs br pre prr t K->VC P N c (mk (pre++bs) (prr++br)) (fun e S=> ∃pre' prr' t',S=mk (pre' ++bs) (prr' ++br)/\K e pre' prr' t')
 | .skip,bs,br,pre,prr,t,K,h=>aRz ⟨pre,prr,t,rfl,h⟩
 | .ret,bs,br,pre,prr,t,K,h=>aUF ⟨pre,prr,t,rfl,h⟩
 | .exit id,bs,br,pre,prr,t,K,h=>aSA ⟨pre,prr,t,rfl,h⟩
 | .region id ops draw,bs,br,pre,prr,t,K,h=>by
   obtain⟨l⟩:=ops;simp only[wpC] at h;obtain⟨n1,n2,t,hst,h⟩:=aUl h;rw[<-aGP,<-aGP] at hst;refine(?_:VC P N (.region id l.toArray draw) (mk ((n1++pre)++bs) ((n2++prr)++br)) _).ghost hst;generalize n1++pre=pre at h ⊢;generalize n2++prr=prr at h ⊢;obtain⟨new,t,hgh,h⟩:=aUm h;rw[<-aGP] at hgh;refine(?_:VC P N (.region id l.toArray draw) (mk (pre++bs) ((new++prr)++br)) _).ghost hgh;cases draw with
   | false=>
     dsimp only at h
     exact aUV (aDr hT l pre (new++prr) t h)
   | true=>
     dsimp only at h
     refine aNp hm ?_;have:=aJ5 hT (all:=l) l [] pre (new++prr) [] t rfl h;refine qF ?_ l 0 _ _ _ this;rintro S recs ⟨pre',prr',acc',t',e1,e2,h⟩;split at h
     ·rename_i hk;exact⟨by rw[e2];exact hk,pre',prr',t',e1,h⟩
     cases h
 | .seq a b,bs,br,pre,prr,t,K,h=>by
   simp only[wpC] at h;refine aUG fun Kn hKn=>aHt (xG hT hm a bs br pre prr t _ h) ?_;rintro e S ⟨pre',prr',t',rfl,h⟩;cases e with
   | normal=>exact hKn _ (xG hT hm b bs br pre' prr' t' K h)
   | _=>exact⟨pre',prr',t',rfl,h⟩
 | .cond c x y,bs,br,pre,prr,t,K,h=>by
   simp only[wpC] at h;obtain⟨s,b,t',h1,h2,h⟩:=aSh (rs:=prr++br) h;refine aSB h1 (fun e=>?_) (fun e=>?_)
   ·subst e;rw[<-h2,nZ];exact xG hT hm x bs br _ prr t' K h
   subst e;rw[<-h2,nZ];exact xG hT hm y bs br _ prr t' K h
 | .block id c,bs,br,pre,prr,t,K,h=>by
   simp only[wpC] at h;refine aPC (aHt (xG hT hm c bs br pre prr t _ h) ?_);rintro e S ⟨pre',prr',t',rfl,h⟩;cases e with
   | exit id' =>
     simp only[aKz]
     dsimp only at h
     split at h
     ·rename_i e;rw[if_pos (aBq e)];exact⟨pre',prr',t',rfl,h⟩
     rename_i e;rw[if_neg (fun e' =>by rw[e',Nat.beq_refl] at e;cases e)];exact⟨pre',prr',t',rfl,h⟩
   | _=>exact⟨pre',prr',t',rfl,h⟩
 | .loop c,bs,br,pre,prr,t,K,h=>by
   simp only[wpC] at h;split at h
   ·rename_i τ q W V osl ors inv m t;obtain⟨hi,hr⟩:=h;obtain⟨y,hi⟩:=q.h2 _ _ hi;have hr:=q.h1 _ hr;split at hi
    ·rename_i hk;obtain⟨i1,i2⟩:=aLS hi;obtain⟨i3,i4⟩:=aIC i2;obtain⟨g0,_,_,g3,g4,g5⟩:=aM7 hk;refine fun A w0 a w hG=>?_;refine(?_:VC P N (.loop c) (mk (osl y++(pD W++(pre++bs))) (ors y++(mB V++(prr++br)))) _) A w0 a w (aJ6 g0 g3 g4 g5 (fun t ht=>by rw[aEp,if_neg ht]) (fun h hh=>by rw[aA3,if_neg hh]) i1 i3 hG);refine aPw (fun n S=> ∃x,S=mk (osl x++(pD W++(pre++bs))) (ors x++(mB V++(prr++br)))/\n=m x/\inv x) (m y) ⟨y,rfl,rfl,i4⟩ ?_;rintro n S ⟨x,rfl,rfl,hx⟩;refine aHt (xG hT hm c _ _ _ _ _ _ (hr x hx)) ?_;rintro e S ⟨pre',prr',t',rfl,h⟩;cases e with
     | normal=>
       dsimp only at h
       split at h
       ·rename_i ren;obtain⟨y,h⟩:=q.h2 _ _ h;split at h
        ·rename_i hk2;obtain⟨j1,j2⟩:=aLS h;obtain⟨j3,j4,j5⟩:=aIC j2;obtain⟨g0,g1,g2,g3,g4,g5⟩:=aM7 hk2;refine⟨m y,_,j5,fun A w0 a w hG=>aJ6 g0 g3 g4 g5 (fun t ht=>?_) (fun h hh=>?_) j1 j3 hG,y,rfl,rfl,j4⟩
         ·rcases aHG (o:=pre') (b:=pD W++(pre++bs)) (t:=t) with ⟨x,q1,_⟩ | ⟨_,q2⟩
          ·exact absurd (g1 _ q1) ht
          exact q2
         rcases aCa (o:=prr') (b:=mB V++(prr++br)) (t:=h) with ⟨x,q1,_⟩ | ⟨_,q2⟩
         ·exact absurd (g2 _ q1) hh
         exact q2
        cases h
       cases h
     | _=>exact⟨_,_,_,by simp only[aGP],h⟩
    cases hi
   cases h
 | .rangeFunc _ _ _ _,bs,br,pre,prr,t,K,h=>by simp only[wpC] at h
 | .scope _,bs,br,pre,prr,t,K,h=>by simp only[wpC] at h
 | .label _,bs,br,pre,prr,t,K,h=>by simp only[wpC] at h
 | .goto _,bs,br,pre,prr,t,K,h=>by simp only[wpC] at h
 | .refuse _,bs,br,pre,prr,t,K,h=>by simp only[wpC] at h
end
def aNq (tb:Tb)(sl:Sl)(rs:Rl):List ResultVar->Option (List AV)
 | []=>some []
 | r::l=>(match (match r with
  | .tmp t=>some (bQ sl t)
  | .cell t ty=>(match bQ sl t with
    | .ptr h 0=>(match bA rs h with
      | some (.box _ cs)=>(match cE tb.ty ty with
        | some (true,n,_,_)=>(match Nat.beq n cs.length with | true=>some (.agg cs) | false=>none)
        | some (false,_,_,_)=>cs[0]?
        | none=>none)
      | _=>none)
    | _=>none)) with
   | some x=>(match aNq tb sl rs l with | some xs=>some (x::xs) | none=>none)
   | none=>none)
mutual
def aA5 (ren:List (Nat × Nat)):AV->AV->Prop->Prop
 | .nil,y,K=>(match y with | .nil=>K | .own h=>(match cE ren h with | none=>K | some _=>False) | .p none (.sl _ _ xs)=>[]=xs/\K | _=>False)
 | .own g,y,K=>(match y with | .own h=>(match cE ren h with | some g' =>EqN g g' K | none=>False) | _=>False)
 | .p none x,y,K=>(match y with | .p none x' =>EqD x x' /\K | _=>False)
 | .agg cs,y,K=>(match y with | .agg cs' =>aNr ren cs cs' K | _=>False)
 | .tup cs,y,K=>(match y with | .tup cs' =>aNr ren cs cs' K | _=>False)
 | _,_,_=>False
def aNr (ren:List (Nat × Nat)):List AV->List AV->Prop->Prop
 | [],ys,K=>(match ys with | []=>K | _=>False)
 | x::xs,ys,K=>(match ys with | y::ys=>aA5 ren x y (aNr ren xs ys K) | []=>False)
end
def rrW (rs:Rl)(ren:List (Nat × Nat)):List (Nat × Rs)->Prop
 | []=>True
 | (h,r)::l=>(match cE ren h with
   | some g=>(match bA rs g with | some r' =>EqR r' r (rrW rs ren l) | none=>False)
   | none=>(match r with | .arr _ _ _ xs=>[]=xs/\rrW rs ren l | _=>False))
def aUs (tb:Tb)(res:List ResultVar)(rv:AV)(rr:List (Nat × Rs))(e:Exit)(sl:Sl)(rs:Rl)(t:T):Prop:=
 (match (match e with | .normal=>true | .ret=>true | _=>false) with
 | true=>(match t with
   | .fin ren=>(match aNq tb sl rs res with
     | some xs=>(match lR (ren.map (·.2))&&lR (rr.map (·.1))&&(rr.all fun q=>aG0 q.2)&&((bZ rv).all fun h=>(aY rr h).isSome) with
       | true=>aA5 ren (aJC xs) rv (rrW rs ren rr)
       | false=>False)
     | none=>False)
   | _=>False)
 | false=>False)
theorem aIE {P:Program}{tb:Tb}(hT:kQ P tb){sl:Sl}{rs:Rl}: ∀{l:List ResultVar} {xs:List AV},aNq tb sl rs l=some xs->aSD P (mk sl rs) l xs
 | [],xs,h=>by simp only[aNq,Option.some.injEq] at h;subst h;exact rfl
 | r::l,xs,h=>by
   unfold aNq at h;split at h
   ·rename_i x hx;split at h
    ·rename_i xs' hxs;injection h with h
     subst h;refine⟨x,xs',rfl,?_,aIE hT hxs⟩;cases r with
     | tmp t=>dsimp only at hx;injection hx with hx;subst hx;rfl
     | cell t ty=>
       dsimp only at hx
       split at hx
       ·rename_i hh hs;split at hx
        ·rename_i tq cs hr;split at hx
         ·rename_i n bt z hq;split at hx
          ·rename_i hn;injection hx with hx
           subst hx;exact⟨_,_,_,_,_,_,_,hs,hr,cG hT.ty hq,.inl ⟨rfl,aBq hn,rfl⟩⟩
          cases hx
         ·rename_i n bt z hq;exact⟨_,_,_,_,_,_,_,hs,hr,cG hT.ty hq,.inr ⟨rfl,hx⟩⟩
         cases hx
        cases hx
       cases hx
    cases h
   cases h
mutual
theorem aMb {ren:List (Nat × Nat)}{K:Nat->Prop}{φ φ' :gS}{w:World}(h1: ∀h g pl,cE ren h=some g->φ' h=some pl->φ g=some pl)(h2: ∀h pl,cE ren h=none->φ' h=some pl->pl=iF): ∀(x y:AV) (Q:Prop) (v:Value),aA5 ren x y Q->aC K φ w x v->aC K φ' w y v/\Q
 | .nil,y,Q,v,h,hm=>by
   unfold aA5 at h;unfold aC at hm;split at h
   ·exact⟨by unfold aC;exact hm,h⟩
   ·split at h
    ·rename_i hl;refine⟨?_,h⟩;unfold aC;intro pl hp;rw[h2 _ pl hl hp,hm];rfl
    cases h
   ·refine⟨?_,h.2⟩;unfold aC;rw[hm,<-h.1];exact rW
   cases h
 | .own g,y,Q,v,h,hm=>by
   unfold aA5 at h;unfold aC at hm;split at h
   ·split at h
    ·rename_i g' hl;obtain⟨e,hQ⟩:=h.eq;subst e;refine⟨?_,hQ⟩;unfold aC;intro pl hp;exact hm pl (h1 _ _ pl hl hp)
    cases h
   cases h
 | .p none x,y,Q,v,h,hm=>by
   unfold aA5 at h;split at h
   ·refine⟨?_,h.2⟩;unfold aC at*;rw[<-h.1.eq];exact hm
   cases h
 | .p (some _) x,y,Q,v,h,hm=>by unfold aA5 at h;cases h
 | .agg cs,y,Q,v,h,hm=>by
   unfold aA5 at h;unfold aC at hm;obtain⟨vs,rfl,q1,q2⟩:=hm;split at h
   ·obtain⟨q3,q4⟩:=aIF h1 h2 cs _ Q _ h q2;refine⟨?_,q4⟩;unfold aC;exact⟨vs,rfl,q1,q3⟩
   cases h
 | .tup cs,y,Q,v,h,hm=>by
   unfold aA5 at h;unfold aC at hm;obtain⟨vs,rfl,q2⟩:=hm;split at h
   ·obtain⟨q3,q4⟩:=aIF h1 h2 cs _ Q _ h q2;refine⟨?_,q4⟩;unfold aC;exact⟨vs,rfl,q3⟩
   cases h
 | .ptr _ _,y,Q,v,h,hm=>by unfold aA5 at h;cases h
 | .ep _ _ _ _,y,Q,v,h,hm=>by unfold aA5 at h;cases h
 | .rp _ _,y,Q,v,h,hm=>by unfold aA5 at h;cases h
 | .fn _ _,y,Q,v,h,hm=>by unfold aA5 at h;cases h
 | .bsl _ _,y,Q,v,h,hm=>by unfold aA5 at h;cases h
 | .no,y,Q,v,h,hm=>by unfold aA5 at h;cases h
theorem aIF {ren:List (Nat × Nat)}{K:Nat->Prop}{φ φ' :gS}{w:World}(h1: ∀h g pl,cE ren h=some g->φ' h=some pl->φ g=some pl)(h2: ∀h pl,cE ren h=none->φ' h=some pl->pl=iF): ∀(xs ys:List AV) (Q:Prop) (vs:List Value),aNr ren xs ys Q->aM K φ w xs vs->aM K φ' w ys vs/\Q
 | [],ys,Q,vs,h,hm=>by
   unfold aNr at h;split at h
   ·unfold aM at*;exact⟨hm,h⟩
   cases h
 | x::xs,ys,Q,vs,h,hm=>by
   unfold aNr at h;unfold aM at hm;obtain⟨v,vs',rfl,q1,q2⟩:=hm;split at h
   ·obtain⟨q3,q4⟩:=aMb h1 h2 x _ _ v h q1;obtain⟨q5,q6⟩:=aIF h1 h2 xs _ Q vs' q4 q2;refine⟨?_,q6⟩;unfold aM;exact⟨v,vs',rfl,q5 |>fun _=>q3,q5⟩
   cases h
end
theorem aLT {rs:Rl}{ren:List (Nat × Nat)}: ∀{l:List (Nat × Rs)},rrW rs ren l-> ∀h r,aY l h=some r->(∀g,cE ren h=some g->bA rs g=some r)/\(cE ren h=none-> ∃e k d,r= .arr e k d [])
 | [],_,h,r,e=>by simp[aY] at e
 | (k,r0)::l,hw,h,r,e=>by
   unfold rrW at hw;simp only[aY] at e;split at hw
   ·rename_i g hg;split at hw
    ·rename_i r' hr';obtain⟨e1,hw⟩:=hw.eq;split at e
     ·rename_i ek;subst ek;injection e with e
      subst e;exact⟨fun g' hg' =>by rw[hg] at hg';injection hg' with hg';subst hg';rw[hr',e1],fun hn=>by rw[hg] at hn;cases hn⟩
     exact aLT hw h r e
    cases hw
   rename_i hg;split at hw
   ·obtain⟨e1,hw⟩:=hw;split at e
    ·rename_i ek;subst ek;injection e with e
     subst e;exact⟨fun g' hg' =>(by rw[hg] at hg';cases hg'),fun _=>⟨_,_,_,by rw[<-e1]⟩⟩
    exact aLT hw h r e
   cases hw
def aUt:bG->Prop->Prop
 | .sl _ _ xs,K=>xs.length<=9223372036854775807->K
 | _,K=>K
def aSl:List bG->Prop->Prop
 | [],K=>K
 | x::xs,K=>aUt x (aSl xs K)
def aEq:List Ar->Prop->Prop
 | [],K=>K
 | .one x::l,K=>aUt x (aEq l K)
 | .agg xs::l,K=>aSl xs (aEq l K)
 | .ref xs::l,K=>aSl xs (aEq l K)
 | .fn _ _::l,K=>aEq l K
theorem aMc {A:Nat->Prop}{w:World}{x:bG}{v:Value}{K:Prop}(h:iB A w x v)(hk:aUt x K):K:=by
 cases x with
 | sl e k xs=>
   unfold iB at h;obtain⟨a,c,_,h1,h2,_⟩:=h;exact hk (by unfold maxLen at h2;omega)
 | _=>exact hk
theorem aIG {A:Nat->Prop}{w:World}{K:Prop}: ∀{xs:List bG} {vs:List Value},lQ A w xs vs->aSl xs K->K
 | [],_,_,hk=>hk
 | x::xs,_,⟨v,vs,_,h1,h2⟩,hk=>aIG h2 (aMc h1 hk)
theorem xH {A:Nat->Prop}{w:World}{K:Prop}: ∀{xs:List Ar} {vs:List Value},qQ A w xs vs->aEq xs K->K
 | [],_,_,hk=>hk
 | .one x::xs,_,⟨v,vs,_,h1,h2⟩,hk=>xH h2 (aMc h1 hk)
 | .agg ys::xs,_,⟨v,vs,_,⟨us,_,h1⟩,h2⟩,hk=>xH h2 (aIG h1 hk)
 | .ref ys::xs,_,⟨v,vs,_,⟨a,_,h1⟩,h2⟩,hk=>by
   obtain⟨_,_,us,_,_,hl,_⟩:=h1.vals;exact xH h2 (aIG hl hk)
 | .fn _ _::xs,_,⟨v,vs,_,_,h2⟩,hk=>xH h2 hk
theorem aVe {P : Program} {tb : Tb} (hT : kQ P tb) (hm : P.follows .mixedOrders = true) {f : FuncId} {fn : Func} {c : Code} {args : List Ar} {rv : AV} {rr : List (Nat × Rs)} (hf : P.funcs[f]? = some fn) (hb : fn.body = some c) (hn : (fn.name == "runtime.NumGoroutine") = false) (hl : args.length ≤ fn.ntmps) (t : T)
 (h:aEq args (wpC P tb fn.ntmps c [] [] (wR 0 args) [] t (aUs tb fn.results.toList rv rr))):vX P f args rv rr:=by
 refine⟨by simp[jL,hf,hb,hn],fun A w vs hA hargs=>?_⟩;have h:=xH hargs h;refine calls_of_wp hf hb ?_;have hlen:=aGl hargs;simp only[aRB] at hlen
 have hG0:tB A ⟨w,fun _=>False,fun _=>none,by simp⟩ fn.ntmps (S0 args) { tmps:=vs++Array.replicate (fn.ntmps - vs.size) undef,defers:=[] } w:=by
  refine⟨A,fun _=>none,by simp[S0],by simp[S0],by simp,by simp,by simp,fun b hb=>⟨hA b hb,.inl hb⟩,by simp,fun _ h=>h,fun t=>?_,⟨rfl,rfl,rfl,aKU _,fun _ _ _=>rfl⟩,rfl,by simp;omega,by simp⟩;simp only[S0];split
  ·rename_i x hx;obtain⟨v,hv,hr⟩:=aJE hargs hx;have ht:t<vs.size:=by have:=(aCx.1 hv).1;simpa using this
   rw[Array.getD_eq_getD_getElem?,Array.getElem?_append_left ht,<-Array.getElem?_toList,hv];exact aLB hr
  unfold aC;trivial
 have hvc:=xG hT hm c [] [] (wR 0 args) [] t _ h;simp only[aOt] at hvc;rw[<-aV6] at hvc;refine Code.wp_mono (fun e a' w' ⟨S,⟨K,φ,hG⟩,pre,prr,t',hS,hfin⟩=>?_) (hvc A _ _ w hG0);subst hS;unfold aUs at hfin;split at hfin
 ·rename_i he;split at hfin
  ·rename_i ren;split at hfin
   ·rename_i xs hxs;split at hfin
    ·rename_i hb;simp only[aAS,aDP] at hb;obtain⟨⟨⟨b1,b2⟩,b3⟩,b4⟩:=hb;obtain⟨v,hrun,hmv⟩:=aAN hG (aIE hT hxs)
     let φ' :gS:=fun h=>match aY rr h with | some _=>(match cE ren h with | some g=>φ g | none=>some iF) | none=>none
     have p1: ∀h g pl,cE ren h=some g->φ' h=some pl->φ g=some pl:=fun h g pl e e' =>by
      simp only[φ',e] at e';split at e'
      ·exact e'
      cases e'
     have p2: ∀h pl,cE ren h=none->φ' h=some pl->pl=iF:=fun h pl e e' =>by
      simp only[φ',e] at e';split at e'
      ·injection e' with e';exact e'.symm
      cases e'
     have p3: ∀h pl,φ' h=some pl->(∃g,cE ren h=some g/\φ g=some pl)\/pl=iF:=fun h pl e=>by
      cases hl:cE ren h with
      | some g=>exact .inl ⟨g,rfl,p1 h g pl hl e⟩
      | none=>exact .inr (p2 h pl hl e)
     obtain⟨m1,m2⟩:=aMb (φ' :=φ') p1 p2 _ _ _ v hfin hmv
     have hR:aTa A w rv rr (.returned v) w' :=by
      refine⟨v,K,φ',rfl,aPG hG.bel,fun b hb=>⟨(hG.kin b hb).1,(hG.kin b hb).2.imp id aMP⟩,fun b hb h pl e=>?_,fun h r hr=>?_,fun h hr=>by simp[φ',hr],fun h h' pl pl' hne e e' g hg=>?_,fun h pl e=>?_,fun h pl e=>?_,m1⟩
      ·rcases p3 h pl e with ⟨g,_,e⟩ | e
       ·exact hG.kout b hb g pl e
       rw[e];simp[iF,Pl.F]
      ·obtain⟨q1,q2⟩:=aLT m2 h r hr;cases hl:cE ren h with
       | some g=>
         obtain⟨pl,hp,hh⟩:=hG.dom g r (q1 g hl);exact⟨pl,by simp[φ',hr,hl,hp],Holds.arrPhi (b3 _ (cC hr)) hh⟩
       | none=>
         obtain⟨e,k,d,rfl⟩:=q2 hl;refine⟨iF,by simp[φ',hr,hl],?_⟩;cases d with
         | true=>exact⟨[],[],World.ownsRow_nil w' 0 e k,rfl,rfl,by unfold cA;exact⟨rfl,rfl⟩⟩
         | false=>exact⟨[],World.ownsRow_nil w' 0 e k,rfl,rfl,rfl⟩
      ·rcases p3 h pl e with ⟨q,l1,e1⟩ | e1
       ·rcases p3 h' pl' e' with ⟨q',l1',e1'⟩ | e1'
        ·exact hG.disj q q' pl pl' (fun x=>by subst x;exact hne (aEd b1 l1 l1')) e1 e1' g hg
        rw[e1'];simp[iF,Pl.F]
       rw[e1] at hg;simp[iF,Pl.F] at hg
      ·rcases p3 h pl e with ⟨g,_,e⟩ | e
       ·exact hG.nodup g pl e
       rw[e];simp[iF,Pl.F]
      rcases p3 h pl e with ⟨g,_,e⟩ | e
      ·exact fun q hq=>⟨aMP (hG.ge g pl e q hq).1,(hG.ge g pl e q hq).2⟩
      rw[e];simp[iF,Pl.F]
     cases e with
     | normal=>exact⟨hG.nd,v,hrun,hR⟩
     | ret=>exact⟨hG.nd,v,hrun,hR⟩
     | _=>cases he
    cases hfin
   cases hfin
  cases hfin
 cases hfin
def aG6 (fn : Func) (n : Nat) : Bool := (!(fn.name == "runtime.NumGoroutine") && fn.body.isSome) && Nat.ble n fn.ntmps
def aMd (P:Program)(tb:Tb)(fn:Func)(args:List Ar)(rv:AV)(rr:List (Nat × Rs))(t:T):Prop:=aEq args (match fn.body with | some c=>wpC P tb fn.ntmps c [] [] (wR 0 args) [] t (aUs tb fn.results.toList rv rr) | none=>False)
theorem aVf {P:Program}{tb:Tb}(hT:kQ P tb)(hm:P.follows .mixedOrders=true){f:FuncId}{fn:Func}{args:List Ar}{rv:AV}{rr:List (Nat × Rs)}(hf:P.funcs[f]? =some fn)(hc:aG6 fn args.length=true)(t:T)(h:aMd P tb fn args rv rr t):vX P f args rv rr:=by
 unfold aG6 at hc;rw[aAS] at hc;have hl:=aBI hc.2;cases hb:fn.body with
 | some c=>
   rw[aAS] at hc;refine aVe hT hm hf hb (by simpa using hc.1.1) hl t ?_;unfold aMd at h;rw[hb] at h;exact h
 | none=>
   rw[hb] at hc;simp at hc
theorem aVg {P:Program}{tb:Tb}(hT:kQ P tb)(hm:P.follows .mixedOrders=true){f:FuncId}{fn:Func}{args:List Ar}{rv:AV}{rr:List (Nat × Rs)}(hf:P.funcs[f]? =some fn)(hc:aG6 fn args.length=true)(t:T){p:Prop}(h:aMd P tb fn args rv rr t=p)(hp:p):vX P f args rv rr:=aVf hT hm hf hc t (Eq.mpr h hp)
theorem nt {b:Bool}(h:(!b)=true):b=false:=by cases b<;>simp_all
theorem nf {b:Bool}(h:(!b)=false):b=true:=by cases b<;>simp_all
def rrB (rs:Rl)(ren:List (Nat × Nat)):List (Nat × Rs)->Prop
 | []=>True
 | (h,r)::l=>(match cE ren h with
   | some g=>(match bA rs g with
     | some r' =>(match r with
       | .box t cs=>(match r' with | .box t' cs' =>EqN t' t (tE (cE ren) cs cs' (rrB rs ren l)) | _=>False)
       | .arr e k d xs=>EqR r' (.arr e k d xs) (rrB rs ren l)
       | .hole _ _ _ _ _ _=>False)
     | none=>False)
   | none=>(match r with | .arr _ _ _ xs=>[]=xs/\rrB rs ren l | _=>False))
def aWZ (rs:Rl)(ren:List (Nat × Nat))(h:Nat)(r:Rs):Prop:=
 (∀g,cE ren h=some g-> ∃r',bA rs g=some r' /\((r=r' /\aG0 r=true)\/ ∃t cs cs' Q,r= .box t cs/\r' = .box t cs' /\tE (cE ren) cs cs' Q))/\(cE ren h=none-> ∃e k d,r= .arr e k d [])
theorem aIH {rs:Rl}{ren:List (Nat × Nat)}: ∀{l:List (Nat × Rs)},rrB rs ren l-> ∀h r,aY l h=some r->aWZ rs ren h r
 | [],_,h,r,e=>by simp[aY] at e
 | (k,r0)::l,hw,h,r,e=>by
   unfold rrB at hw;simp only[aY] at e;split at hw
   ·rename_i g hg;split at hw
    ·rename_i r' hr';split at hw
     ·rename_i t cs;split at hw
      ·rename_i t' cs';obtain⟨e1,hw1⟩:=hw.eq;split at e
       ·rename_i ek;subst ek;injection e with e
        subst e;exact⟨fun g' hg' =>by rw[hg] at hg';injection hg' with hg';subst hg';exact⟨_,hr',.inr ⟨_,cs,cs',_,rfl,by rw[e1],hw1⟩⟩,fun hn=>by rw[hg] at hn;cases hn⟩
       exact aIH (tF _ _ _ hw1) h r e
      cases hw
     ·obtain⟨e1,hw⟩:=hw.eq;split at e
      ·rename_i ek;subst ek;injection e with e
       subst e;exact⟨fun g' hg' =>by rw[hg] at hg';injection hg' with hg';subst hg';exact⟨_,hr',.inl ⟨e1.symm,rfl⟩⟩,fun hn=>by rw[hg] at hn;cases hn⟩
      exact aIH hw h r e
     cases hw
    cases hw
   rename_i hg;split at hw
   ·obtain⟨e1,hw⟩:=hw;split at e
    ·rename_i ek;subst ek;injection e with e
     subst e;exact⟨fun g' hg' =>(by rw[hg] at hg';cases hg'),fun _=>⟨_,_,_,by rw[<-e1]⟩⟩
    exact aIH hw h r e
   cases hw
def aA6:Nat->List AV->Sl
 | _,[]=>[]
 | i,x::xs=>(i,x)::aA6 (i+1) xs
theorem aB4: ∀(xs:List AV) (i t:Nat),bQ (aA6 i xs) t=if i<=t then (match xs[t - i]? with | some x=>x | none=> .no) else .no
 | [],i,t=>by simp[aA6,bQ]
 | x::xs,i,t=>by
   simp only[aA6,bQ,aB4 xs (i+1) t];by_cases e:t=i
   ·subst e;simp
   by_cases h:i<=t
   ·have:t - i=(t - (i+1))+1:=by omega
    rw[if_neg e,if_pos (by omega),if_pos h,this,List.getElem?_cons_succ]
   rw[if_neg e,if_neg (by omega),if_neg h]
def aVh (tb:Tb)(res:List ResultVar)(ri:List (Nat × Rs))(rv:AV)(ro:List (Nat × Rs))(e:Exit)(sl:Sl)(rs:Rl)(t:T):Prop:=
 (match (match e with | .normal=>true | .ret=>true | _=>false) with
 | true=>(match t with
   | .fin ren=>(match aNq tb sl rs res with
     | some xs=>(match lR (ren.map (·.2))&&(ro.all fun q=>match aY ri q.1 with | some _=>(match cE ren q.1 with | some g=>Nat.beq g q.1 | none=>false) | none=>true) with
       | true=>mH (cE ren) rv (aJC xs) (rrB rs ren ro)
       | false=>False)
     | none=>False)
   | _=>False)
 | false=>False)
def aMe (P:Program)(tb:Tb)(fn:Func)(args:List AV)(ri:List (Nat × Rs))(rv:AV)(ro:List (Nat × Rs))(t:T):Prop:=match fn.body with | some c=>wpC P tb fn.ntmps c [] [] (aA6 0 args) (nP ri) t (aVh tb fn.results.toList ri rv ro) | none=>False
theorem aUu {P:Program}{tb:Tb}(hT:kQ P tb)(hm:P.follows .mixedOrders=true){f:FuncId}{fn:Func}{args:List AV}{ri:List (Nat × Rs)}{rv:AV}{ro:List (Nat × Rs)}(hf:P.funcs[f]? =some fn)(hc:aG6 fn args.length=true)(hlow:(ri.all fun q=>Nat.blt q.1 100)=true)(t:T)(h:aMe P tb fn args ri rv ro t):pN P f args ri rv ro:=by
 unfold aG6 at hc;simp only[aAS] at hc;obtain⟨⟨hn,hbs⟩,hl⟩:=hc;have hl:=aBI hl;obtain⟨c,hb⟩:=Option.isSome_iff_exists.1 hbs;unfold aMe at h;rw[hb] at h;have hlow' : ∀q∈ri,q.1<100:=fun q hq=>by have:=aDP.1 hlow q hq;simpa [Nat.blt_eq] using this
 refine⟨by simp only[jL,hf,hb];simpa using hn,hlow',fun A φ w vs hI hargs=>?_⟩;refine calls_of_wp hf hb ?_;have hlen:=jY hargs;simp only[aRB] at hlen
 have hres: ∀h,bA (nP ri) h=aY ri h:=fun h=>by
  have:=aCZ ri [] h;rw[aOt] at this;rw[this];cases aY ri h<;>rfl
 have hdom: ∀h pl,φ h=some pl->h<100:=fun h pl e=>by
  cases hr:aY ri h with
  | none=>rw[hI.non h hr] at e;cases e
  | some r=>exact hlow' _ (cC hr)
 have hG0:tB A ⟨w,aHz φ,φ,hdom⟩ fn.ntmps (mk (aA6 0 args) (nP ri)) { tmps:=vs++Array.replicate (fn.ntmps - vs.size) undef,defers:=[] } w:=by
  refine⟨A,φ,fun h r hr=>?_,fun h hr=>?_,hI.disj,hI.nodup,fun h pl e g hg=>⟨.inr ⟨h,pl,trivial,e,hg⟩,hI.ge h pl e g hg⟩,fun b hb=>⟨hI.lt b hb,.inl hb⟩,hI.out,fun _ h=>h,fun t=>?_,⟨rfl,rfl,rfl,aKU _,fun _ _ _=>rfl⟩,rfl,by simp;omega,fun h pl pl0 e e0=>by dsimp only at e0;rw[e] at e0;injection e0 with q;subst q;exact⟨rfl,rfl⟩⟩
  ·simp only[mk,hres] at hr;exact hI.dom h r hr
  ·simp only[mk,hres] at hr;exact hI.non h hr
  simp only[mk,aB4,aAU,if_true,Nat.sub_zero];split
  ·rename_i x hx;obtain⟨v,hv,hr⟩:=nU hargs hx;have ht:t<vs.size:=by have:=(aCx.1 hv).1;simpa using this
   rw[Array.getD_eq_getD_getElem?,Array.getElem?_append_left ht,<-Array.getElem?_toList,hv];exact hr
  unfold aC;trivial
 have hvc:=xG hT hm c [] [] (aA6 0 args) (nP ri) t _ h;simp only[aOt] at hvc;refine Code.wp_mono (fun e a' w' ⟨S,⟨K,φ1,hG⟩,pre,prr,t',hS,hfin⟩=>?_) (hvc A _ _ w hG0);subst hS;unfold aVh at hfin;split at hfin
 ·rename_i he;split at hfin
  ·rename_i ren;split at hfin
   ·rename_i xs hxs;split at hfin
    ·rename_i hbb;simp only[aAS,aDP] at hbb;obtain⟨b1,b3⟩:=hbb;obtain⟨v,hrun,hmv⟩:=aAN hG (aIE hT hxs)
     let φ' :gS:=fun h=>match aY ro h with | some _=>(match cE ren h with | some g=>φ1 g | none=>some iF) | none=>none
     have p1: ∀h g pl,cE ren h=some g->φ' h=some pl->φ1 g=some pl:=fun h g pl e e' =>by
      simp only[φ',e] at e';split at e'
      ·exact e'
      cases e'
     have p2: ∀h pl,cE ren h=none->φ' h=some pl->pl=iF:=fun h pl e e' =>by
      simp only[φ',e] at e';split at e'
      ·injection e' with e';exact e'.symm
      cases e'
     have p0: ∀h pl,φ' h=some pl-> ∃r,aY ro h=some r:=fun h pl e=>by
      simp only[φ'] at e;split at e
      ·rename_i r hr;exact⟨r,hr⟩
      cases e
     have p3: ∀h pl,φ' h=some pl->(∃g,cE ren h=some g/\φ1 g=some pl)\/pl=iF:=fun h pl e=>by
      cases hl:cE ren h with
      | some g=>exact .inl ⟨g,rfl,p1 h g pl hl e⟩
      | none=>exact .inr (p2 h pl hl e)
     obtain⟨m1,m2⟩:=aHy (φ' :=φ') p1 p2 _ _ _ v hfin hmv
     have hO:aNk A φ w ro K φ' w' :=by
      refine⟨hG.bel,hG.aK,fun b hb=>⟨(hG.kin b hb).1,(hG.kin b hb).2⟩,fun b hb h pl e=>?_,fun h r hr=>?_,fun h hr=>by simp[φ',hr],fun h h' pl pl' hne e e' g hg=>?_,fun h pl e=>?_,fun h pl e g hg=>?_,fun h pl pl0 e e0=>?_⟩
      ·rcases p3 h pl e with ⟨g,_,e⟩ | e
       ·exact hG.kout b hb g pl e
       rw[e];simp[iF,Pl.F]
      ·obtain⟨q1,q2⟩:=aIH m2 h r hr;cases hl:cE ren h with
       | some g=>
         obtain⟨r',hr',q⟩:=q1 g hl;obtain⟨pl,hp,hh⟩:=hG.dom g r' hr';refine⟨pl,by simp[φ',hr,hl,hp],?_⟩;rcases q with ⟨rfl,ha⟩ | ⟨t,cs,cs',Q,rfl,rfl,hq⟩
         ·exact Holds.arrPhi ha hh
         obtain⟨g',vs',e1,e2,e3,e4⟩:=hh;exact⟨g',vs',e1,e2,e3,(wX (φ' :=φ') p1 p2 _ _ _ _ hq e4).1⟩
       | none=>
         obtain⟨e,k,d,rfl⟩:=q2 hl;refine⟨iF,by simp[φ',hr,hl],?_⟩;cases d with
         | true=>exact⟨[],[],World.ownsRow_nil w' 0 e k,rfl,rfl,by unfold cA;exact⟨rfl,rfl⟩⟩
         | false=>exact⟨[],World.ownsRow_nil w' 0 e k,rfl,rfl,rfl⟩
      ·rcases p3 h pl e with ⟨q,l1,e1⟩ | e1
       ·rcases p3 h' pl' e' with ⟨q',l1',e1'⟩ | e1'
        ·exact hG.disj q q' pl pl' (fun x=>by subst x;exact hne (aEd b1 l1 l1')) e1 e1' g hg
        rw[e1'];simp[iF,Pl.F]
       rw[e1] at hg;simp[iF,Pl.F] at hg
      ·rcases p3 h pl e with ⟨g,_,e⟩ | e
       ·exact hG.nodup g pl e
       rw[e];simp[iF,Pl.F]
      ·rcases p3 h pl e with ⟨q,_,e⟩ | e
       ·exact hG.ge q pl e g hg
       rw[e] at hg;simp[iF,Pl.F] at hg
      obtain⟨r,hr⟩:=p0 h pl e;have:=b3 _ (cC hr);cases hri:aY ri h with
      | none=>rw[hI.non h hri] at e0;cases e0
      | some r0=>
        simp only[hri] at this;cases hl:cE ren h with
        | none=>rw[hl] at this;cases this
        | some g=>
          rw[hl] at this;have hg:=aBq this;subst hg;exact hG.pin _ pl pl0 (p1 _ _ pl hl e) e0
     cases e with
     | normal=>exact⟨hG.nd,v,hrun,v,K,φ',rfl,hO,m1⟩
     | ret=>exact⟨hG.nd,v,hrun,v,K,φ',rfl,hO,m1⟩
     | _=>cases he
    cases hfin
   cases hfin
  cases hfin
 cases hfin
theorem aUv {P:Program}{tb:Tb}(hT:kQ P tb)(hm:P.follows .mixedOrders=true){f:FuncId}{fn:Func}{args:List AV}{ri:List (Nat × Rs)}{rv:AV}{ro:List (Nat × Rs)}(hf:P.funcs[f]? =some fn)(hc:aG6 fn args.length=true)(hlow:(ri.all fun q=>Nat.blt q.1 100)=true)(t:T){p:Prop}(h:aMe P tb fn args ri rv ro t=p)(hp:p):pN P f args ri rv ro:=aUu hT hm hf hc hlow t (Eq.mpr h hp)
end Go.Proofs.YtafmaholhcgakaaGreat
