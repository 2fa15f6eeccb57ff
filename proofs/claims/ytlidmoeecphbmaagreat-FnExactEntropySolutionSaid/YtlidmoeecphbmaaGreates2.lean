/-
  Contracts and plain laws, joined: part 3.
-/
import Derived.Test.YtlidmoeecphbmaaGreates1
namespace Go.Proofs.YtlidmoeecphbmaaGreat
open Go.ChangeShapes Go.WideShapes Go.ChangeAt Go.RowKit
set_option linter.unusedVariables false
set_option linter.unusedSimpArgs false
mutual
def uZ:AV->List Nat
 | .p (some h) _=>[h]
 | .rp (some h) _=>[h]
 | .agg cs=>aAV cs
 | .tup cs=>aAV cs
 | .fn _ cs=>aAV cs
 | _=>[]
def aAV:List AV->List Nat
 | []=>[]
 | x::xs=>uZ x++aAV xs
end
def aEy:Rs->List Nat
 | .box _ cs=>aAV cs
 | .arr _ _ _ _=>[]
 | .hole _ _ _ _ _ _=>[]
def aAW (φ:iW)(w w' :World)(h:Nat)(pl:Pl)(V:Prop):Prop:= ∃pl0,φ h=some pl0/\pl.val=pl0.val/\pl.top=pl0.top/\(V->pl=pl0/\eR (· ∈pl.sub) w w')
theorem aAW.of {φ:iW}{w w' :World}{h:Nat}{pl:Pl}{V:Prop}(h1:φ h=some pl)(h2:V->eR (· ∈pl.sub) w w'):aAW φ w w' h pl V:=⟨pl,h1,rfl,rfl,fun v=>⟨rfl,h2 v⟩⟩
theorem aAW.imp {φ:iW}{w w' :World}{h:Nat}{pl:Pl}{V V' :Prop}(h1:aAW φ w w' h pl V)(f:V' ->V):aAW φ w w' h pl V' :=by
 obtain⟨pl0,a,b,c,d⟩:=h1;exact⟨pl0,a,b,c,fun v=>d (f v)⟩
mutual
theorem aJ.monoV {K K' :Nat->Prop}{φ φ' :iW}{w w' :World}(hs:eR K w w')(hK: ∀b,K b->K' b):
 ∀(x:AV) (v:Value),(∀h pl,h∈cW x->φ' h=some pl->aAW φ w w' h pl (h∈uZ x))->aJ K φ w x v->aJ K' φ' w' x v
 | .p none x,v,_,hx=>by unfold aJ at*;exact iU.mono hs hK x v hx
 | .p (some h) x,v,hm,hx=>by
   unfold aJ at*;intro pl hp;obtain⟨pl0,h1,_,_,hq⟩:=hm h pl (by simp[cW]) hp;obtain⟨rfl,h2⟩:=hq (by simp[uZ]);exact iU.mono (fun b hb=>by rcases hb with hb | hb;exact hs b hb;exact h2 b hb) (fun b hb=>by rcases hb with hb | hb;exact .inl (hK b hb);exact .inr hb) x v (hx pl h1)
 | .own h,v,hm,hx=>by
   unfold aJ at*;intro pl hp;obtain⟨pl0,h1,h2,_⟩:=hm h pl (by simp[cW]) hp;rw[h2];exact hx pl0 h1
 | .ptr h off,v,hm,hx=>by
   unfold aJ at*;obtain⟨g,e,q⟩:=hx;refine⟨g,e,fun pl hp=>?_⟩;obtain⟨pl0,h1,_,h3,_⟩:=hm h pl (by simp[cW]) hp;rw[h3];exact q pl0 h1
 | .ep h k i off,v,hm,hx=>by
   unfold aJ at*;intro pl hp;obtain⟨pl0,h1,_,h3,_⟩:=hm h pl (by simp[cW]) hp;rw[h3];exact hx pl0 h1
 | .rp none x,v,_,hx=>by
   unfold aJ at*;obtain⟨a,e,hr⟩:=hx;exact⟨a,e,kN.mono hs hK x a 0 hr⟩
 | .rp (some h) x,v,hm,hx=>by
   unfold aJ at*;intro pl hp;obtain⟨pl0,h1,_,_,hq⟩:=hm h pl (by simp[cW]) hp;obtain⟨rfl,h2⟩:=hq (by simp[uZ]);obtain⟨a,e,hr⟩:=hx pl h1;exact⟨a,e,kN.mono (fun b hb=>by rcases hb with hb | hb;exact hs b hb;exact h2 b hb) (fun b hb=>by rcases hb with hb | hb;exact .inl (hK b hb);exact .inr hb) x a 0 hr⟩
 | .agg cs,v,hm,hx=>by
   unfold aJ at*;obtain⟨vs,e,h1,hl⟩:=hx;exact⟨vs,e,h1,aT.monoV hs hK cs _ (fun h pl hh e=>(hm h pl (by simpa [cW] using hh) e).imp fun hv=>by simpa [uZ] using hv) hl⟩
 | .tup cs,v,hm,hx=>by
   unfold aJ at*;obtain⟨vs,e,hl⟩:=hx;exact⟨vs,e,aT.monoV hs hK cs _ (fun h pl hh e=>(hm h pl (by simpa [cW] using hh) e).imp fun hv=>by simpa [uZ] using hv) hl⟩
 | .fn f cs,v,hm,hx=>by
   unfold aJ at*;obtain⟨vs,e,hl⟩:=hx;exact⟨vs,e,aT.monoV hs hK cs _ (fun h pl hh e=>(hm h pl (by simpa [cW] using hh) e).imp fun hv=>by simpa [uZ] using hv) hl⟩
 | .nil,v,_,hx=>by unfold aJ at*;exact hx
 | .bsl h n,v,hm,hx=>by
   unfold aJ at*;intro pl hp;obtain⟨pl0,h1,_,h3,_⟩:=hm h pl (by simp[cW]) hp;rw[h3];exact hx pl0 h1
 | .no,_,_,_=>by unfold aJ;trivial
theorem aT.monoV {K K' :Nat->Prop}{φ φ' :iW}{w w' :World}(hs:eR K w w')(hK: ∀b,K b->K' b):
 ∀(xs:List AV) (vs:List Value),(∀h pl,h∈gH xs->φ' h=some pl->aAW φ w w' h pl (h∈aAV xs))->aT K φ w xs vs->aT K' φ' w' xs vs
 | [],_,_,hx=>by unfold aT at*;exact hx
 | x::xs,vs,hm,hx=>by
   unfold aT at*;obtain⟨v,vs',e,h1,h2⟩:=hx;exact⟨v,vs',e,aJ.monoV hs hK x v (fun h pl hh e=>(hm h pl (by simp[gH,hh]) e).imp fun hv=>by simp[aAV,hv]) h1,aT.monoV hs hK xs vs' (fun h pl hh e=>(hm h pl (by simp[gH,hh]) e).imp fun hv=>by simp[aAV,hv]) h2⟩
end
theorem Holds.monoV {K K' :Nat->Prop}{φ φ' :iW}{w w' :World}{pl:Pl}(hs:eR K w w')(hK: ∀b,K b->K' b)(hk:jX pl.F w w'):
 ∀(r:Rs),(∀h pl,h∈jI r->φ' h=some pl->aAW φ w w' h pl (h∈aEy r))->Holds K φ w pl r->Holds K' φ' w' pl r
 | .box t cs,hm,⟨g,vs,e,hb,h1,hl⟩=>by
   subst e;exact⟨g,vs,rfl,(hk g (by simp[Pl.F])).trans hb,h1,aT.monoV hs hK cs _ hm hl⟩
 | .arr e k true xs,_,⟨css,Fs,h1,h2,h3,h4⟩=>
   ⟨css,Fs,kA h1 (hk.mono fun g hg=>by unfold Pl.F;rw[h2];exact aL6 _ hg),h2,h3,cV.kept k xs css Fs (hk.mono fun g hg=>by unfold Pl.F;rw[h3];exact aKS _ hg) h4⟩
 | .arr e k false xs,_,⟨css,h1,h2,h3,h4⟩=>
   ⟨css,kA h1 (hk.mono fun g hg=>by unfold Pl.F;rw[h2];exact aL6 _ hg),h2,h3,h4.mono hs hK⟩
 | .hole e k xs i j h,hm,⟨xs1,x1,d,x2,xs2,css1,c1,v,c2,css2,Fs1,F1,F2,Fs2,e0,e1,e2,e3,h1,h2,h3,h4,h5,h6,h7,h8⟩=>
   ⟨xs1,x1,d,x2,xs2,css1,c1,v,c2,css2,Fs1,F1,F2,Fs2,e0,e1,e2,e3,kA h1 (hk.mono fun g hg=>by unfold Pl.F;rw[h2];exact aL6 _ hg),h2,h3,
    cV.kept k xs1 css1 Fs1 (hk.mono fun g hg=>by unfold Pl.F;rw[h3];simp only[aKT];exact .inr (.inl hg)) h4,dN.kept x1 c1 F1 (hk.mono fun g hg=>by unfold Pl.F;rw[h3];simp only[aKT];exact .inr (.inr (.inl (.inl hg)))) h5,
    dN.kept x2 c2 F2 (hk.mono fun g hg=>by unfold Pl.F;rw[h3];simp only[aKT];exact .inr (.inr (.inl (.inr hg)))) h6,cV.kept k xs2 css2 Fs2 (hk.mono fun g hg=>by unfold Pl.F;rw[h3];simp only[aKT];exact .inr (.inr (.inr hg))) h7,⟨h8.1,fun pl' e' =>by obtain⟨pl0,q1,q2,_⟩:=hm h pl' (by simp[jI]) e';rw[q2];exact h8.2 pl0 q1⟩⟩
section
variable {K:Nat->Prop} {φ:iW} {A:Nat->Prop} {w0:xU} {N:Nat} {S:St} {a:Act} {w:World}
theorem G.stepV (hG:G K φ A w0 N S a w){C:Nat->Prop}[DecidablePred C]{φr:iW}{ρ:Nat->Option Rs}{K' :Nat->Prop}{w' :World}
 (hU:Chg (gS φ C) w w')
 (hR: ∀h pl,φr h=some pl->pl.F.Nodup/\ ∀g∈pl.F,g<w'.heap.size/\(w.heap.size<=g\/gS φ C g))
 (hD: ∀h h' pl pl',h≠h' ->φr h=some pl->φr h' =some pl' -> ∀g∈pl.F,g ∉ pl'.F)
 (hρ: ∀h r,ρ h=some r-> ∃pl,φr h=some pl/\Holds K' (dD C φr φ) w' pl r)
 (hρn: ∀h,ρ h= .none->φr h= .none)
 (hK: ∀b,K b->K' b)
 (hK' : ∀b,K' b->K b\/(b<w'.heap.size/\(w.heap.size<=b\/gS φ C b)/\ ∀h pl,φr h=some pl->b ∉ pl.F))
 (hM: ∀t h pl,h∈cW (S.slots t)->φr h=some pl->aAW φ w w' h pl (h∈uZ (S.slots t)))
 (hMr: ∀h' r h pl,¬C h' ->S.res h' =some r->h∈jI r->φr h=some pl->aAW φ w w' h pl (h∈aEy r))
 (hP: ∀h pl,φr h=some pl->(∃pl0,φ h=some pl0/\pl.val=pl0.val/\pl.top=pl0.top)\/100<=h):
 G K' (dD C φr φ) A w0 N { S with res:=gF C ρ S.res } a w' :=by
 have hF: ∀b,gS φ C b->w0.mine b/\b<w.heap.size:=fun b ⟨h,pl,_,hp,hb⟩=>hG.ge h pl hp b hb;have hsz:w0.w.heap.size<=w.heap.size:=hG.bel.size;have hsame:eR K w w' :=fun b hb=>hU.block b (hG.kin b hb).1 (fun ⟨h,pl,_,hp,hm⟩=>hG.kout b hb h pl hp hm)
 have hkeep: ∀h pl,¬C h->φ h=some pl->jX pl.F w w' :=fun h pl hc hp g hg=>
  hU.block g (hG.ge h pl hp g hg).2 (fun ⟨h',pl',hc',hp',hm⟩=>by
   by_cases e:h=h'
   ·subst e;exact hc hc'
   exact hG.disj h h' pl pl' e hp hp' g hg hm)
 have hsub: ∀h pl,¬C h->φ h=some pl->eR (· ∈pl.sub) w w' :=fun h pl hc hp g hg=>hkeep h pl hc hp g (aKS _ hg)
 have hslot: ∀x v,(∀h pl,h∈cW x->φr h=some pl->aAW φ w w' h pl (h∈uZ x))->aJ K φ w x v->aJ K' (dD C φr φ) w' x v:=fun x v hm hx=>
  aJ.monoV hsame hK x v (fun h pl hh e=>by
   rcases cE e with e | ⟨_,hc,e⟩
   ·exact hm h pl hh e
   exact .of e fun _=>hsub h pl hc e) hx
 refine⟨?_,?_,?_,?_,?_,?_,?_,fun b hb=>hK b (hG.aK b hb),fun t=>hslot _ _ (hM t) (hG.slots t),Chg.more hG.bel hU (fun b hb=>(hF b hb).1),hG.nd,hG.size,fun h pl pl0 e e0=>?_⟩
 ·intro h r hr;simp only[gF] at hr;split at hr
  ·rename_i r' hr';injection hr with hr
   subst hr;obtain⟨pl,hp,hh⟩:=hρ h _ hr';exact⟨pl,by simp[dD,hp],hh⟩
  rename_i hn;split at hr
  ·cases hr
  rename_i hc;obtain⟨pl,hp,hh⟩:=hG.dom h r hr;refine⟨pl,by simp[dD,hρn h hn,hc,hp],Holds.monoV hsame hK (hkeep h pl hc hp) r (fun h2 pl2 hm e=>?_) hh⟩;rcases cE e with e | ⟨_,hc2,e⟩
  ·exact hMr h r h2 pl2 hc hr hm e
  exact .of e fun _=>hsub h2 pl2 hc2 e
 ·intro h hr;simp only[gF] at hr;split at hr
  ·cases hr
  rename_i hn;simp only[dD,hρn h hn];split at hr
  ·rename_i hc;simp[hc]
  rename_i hc;simp[hc,hG.non h hr]
 ·intro h h' pl pl' hne e e' g hg hg';rcases cE e with e | ⟨_,hc,e⟩<;>rcases cE e' with e' | ⟨_,hc',e'⟩
  ·exact hD h h' pl pl' hne e e' g hg hg'
  ·rcases((hR h pl e).2 g hg).2 with h1 | ⟨h2,pl2,hc2,e2,hm⟩
   ·have:=(hG.ge h' pl' e' g hg').2;omega
   exact hG.disj h2 h' pl2 pl' (fun e=>by subst e;exact hc' hc2) e2 e' g hm hg'
  ·rcases((hR h' pl' e').2 g hg').2 with h1 | ⟨h2,pl2,hc2,e2,hm⟩
   ·have:=(hG.ge h pl e g hg).2;omega
   exact hG.disj h2 h pl2 pl (fun e=>by subst e;exact hc hc2) e2 e g hm hg
  exact hG.disj h h' pl pl' hne e e' g hg hg'
 ·intro h pl e;rcases cE e with e | ⟨_,_,e⟩
  ·exact(hR h pl e).1
  exact hG.nodup h pl e
 ·intro h pl e g hg;rcases cE e with e | ⟨_,_,e⟩
  ·obtain⟨h1,h2⟩:=(hR h pl e).2 g hg;refine⟨?_,h1⟩;rcases h2 with h2 | h2
   ·exact .inl (by omega)
   exact(hF g h2).1
  have:=hG.ge h pl e g hg;exact⟨this.1,aUY this.2 hU.size⟩
 ·intro b hb;rcases hK' b hb with hb | ⟨h1,h2,_⟩
  ·have:=hG.kin b hb;exact⟨aUY this.1 hU.size,this.2⟩
  refine⟨h1,.inr ?_⟩;rcases h2 with h2 | h2
  ·exact .inl (by omega)
  exact(hF b h2).1
 ·intro b hb h pl e hm;rcases hK' b hb with hb | ⟨_,h2,h3⟩
  ·rcases cE e with e | ⟨_,_,e⟩
   ·rcases((hR h pl e).2 b hm).2 with h1 | ⟨h2,pl2,hc2,e2,hm2⟩
    ·have:=(hG.kin b hb).1;omega
    exact hG.kout b hb h2 pl2 e2 hm2
   exact hG.kout b hb h pl e hm
  rcases cE e with e | ⟨_,hc,e⟩
  ·exact h3 h pl e hm
  rcases h2 with h2 | ⟨h4,pl4,hc4,e4,hm4⟩
  ·have:=(hG.ge h pl e b hm).2;omega
  exact hG.disj h4 h pl4 pl (fun e=>by subst e;exact hc hc4) e4 e b hm4 hm
 rcases cE e with e | ⟨_,_,e⟩
 ·rcases hP h pl e with ⟨pl1,q,q1,q2⟩ | q
  ·have:=hG.pin h pl1 pl0 q e0;exact⟨q1.trans this.1,q2.trans this.2⟩
  have:=w0.dom h pl0 e0;omega
 exact hG.pin h pl pl0 e e0
end
def aVG (ren:List (Nat × Nat))(h:Nat):Nat:=match dC ren h with | some g=>g | none=>h
theorem aHl {ren:List (Nat × Nat)}(hn:nL (ren.map (·.2))=true){h h' g:Nat}(e:dC ren h=some g)(e' :dC ren h' =some g):h=h' :=by
 have mem: ∀{l:List (Nat × Nat)} {h g:Nat},dC l h=some g->g∈l.map (·.2):=by
  intro l
  induction l with
  | nil=>intro h g e;simp[dC] at e
  | cons q l ih=>
    obtain⟨k,v⟩:=q;intro h g e;unfold dC at e;split at e
    ·injection e with e;simp[e]
    simp only[aLz,aNn];exact .inr (ih e)
 induction ren with
 | nil=>simp[dC] at e
 | cons q l ih=>
   obtain⟨k,v⟩:=q;simp only[aLz,nL,aCA,Bool.not_eq_true',List.contains_eq_mem,decide_eq_false_iff_not] at hn;unfold dC at e e';split at e<;>split at e'
   ·rename_i _ a _ b;rw[aFj a,aFj b]
   ·injection e with e;subst e;exact absurd (mem e') hn.1
   ·injection e' with e';subst e';exact absurd (mem e) hn.1
   exact ih hn.2 e e'
def jJ:Pl:=⟨.slice none 0 0,[],[]⟩
mutual
def oB (gm:Nat->Option Nat):AV->AV->Prop->Prop
 | .no,_,K=>K
 | .nil,x,K=>(match x with | .nil=>K | _=>False)
 | .own h,x,K=>(match x with
   | .nil=>(match gm h with | none=>K | some _=>False)
   | .own g=>(match gm h with | some g' =>EqN g g' K | none=>False)
   | _=>False)
 | .ptr h o,x,K=>(match x with
   | .ptr g o' =>(match gm h with | some g' =>EqN g g' (EqN o' o K) | none=>False)
   | _=>False)
 | .p none y,x,K=>(match x with
   | .p none z=>EqD z y/\K
   | .nil=>(match y with | .sl _ _ xs=>[]=xs/\K | _=>False)
   | _=>False)
 | .agg ys,x,K=>(match x with | .agg xs=>wK gm ys xs K | _=>False)
 | .tup ys,x,K=>(match x with | .tup xs=>wK gm ys xs K | _=>False)
 | _,_,_=>False
def wK (gm:Nat->Option Nat):List AV->List AV->Prop->Prop
 | [],xs,K=>(match xs with | []=>K | _=>False)
 | y::ys,xs,K=>(match xs with | x::xs=>oB gm y x (wK gm ys xs K) | []=>False)
end
mutual
theorem aMq {gm:Nat->Option Nat}{K:Nat->Prop}{φ φ' :iW}{w:World}(h1: ∀h g pl,gm h=some g->φ' h=some pl->φ g=some pl)(h2: ∀h pl,gm h=none->φ' h=some pl->pl=jJ): ∀(y x:AV) (Q:Prop) (v:Value),oB gm y x Q->aJ K φ w x v->aJ K φ' w y v/\Q
 | .no,x,Q,v,h,hm=>by unfold oB at h;exact⟨by unfold aJ;trivial,h⟩
 | .nil,x,Q,v,h,hm=>by
   unfold oB at h;split at h
   ·unfold aJ at*;exact⟨hm,h⟩
   cases h
 | .own k,x,Q,v,h,hm=>by
   unfold oB at h;split at h
   ·split at h
    ·rename_i hl;refine⟨?_,h⟩;unfold aJ at*;intro pl hp;rw[h2 _ pl hl hp,hm];rfl
    cases h
   ·split at h
    ·rename_i g' hl;obtain⟨e,hQ⟩:=h.eq;subst e;refine⟨?_,hQ⟩;unfold aJ at*;intro pl hp;exact hm pl (h1 _ _ pl hl hp)
    cases h
   cases h
 | .ptr k o,x,Q,v,h,hm=>by
   unfold oB at h;split at h
   ·split at h
    ·rename_i g' hl;obtain⟨e,hQ1⟩:=h.eq;obtain⟨e2,hQ⟩:=hQ1.eq;subst e;subst e2;refine⟨?_,hQ⟩;unfold aJ at*;obtain⟨g2,e3,q⟩:=hm;exact⟨g2,e3,fun pl hp=>q pl (h1 _ _ pl hl hp)⟩
    cases h
   cases h
 | .p none y,x,Q,v,h,hm=>by
   unfold oB at h;split at h
   ·refine⟨?_,h.2⟩;unfold aJ at*;rw[<-h.1.eq];exact hm
   ·split at h
    ·refine⟨?_,h.2⟩;unfold aJ at*;rw[hm,<-h.1];exact uW
    cases h
   cases h
 | .p (some _) y,x,Q,v,h,hm=>by unfold oB at h;cases h
 | .agg ys,x,Q,v,h,hm=>by
   unfold oB at h;split at h
   ·unfold aJ at hm;obtain⟨vs,rfl,q1,q2⟩:=hm;obtain⟨q3,q4⟩:=aAX h1 h2 ys _ Q _ h q2;refine⟨?_,q4⟩;unfold aJ;exact⟨vs,rfl,q1,q3⟩
   cases h
 | .tup ys,x,Q,v,h,hm=>by
   unfold oB at h;split at h
   ·unfold aJ at hm;obtain⟨vs,rfl,q2⟩:=hm;obtain⟨q3,q4⟩:=aAX h1 h2 ys _ Q _ h q2;refine⟨?_,q4⟩;unfold aJ;exact⟨vs,rfl,q3⟩
   cases h
 | .ep _ _ _ _,x,Q,v,h,hm=>by unfold oB at h;cases h
 | .rp _ _,x,Q,v,h,hm=>by unfold oB at h;cases h
 | .fn _ _,x,Q,v,h,hm=>by unfold oB at h;cases h
 | .bsl _ _,x,Q,v,h,hm=>by unfold oB at h;cases h
theorem aAX {gm:Nat->Option Nat}{K:Nat->Prop}{φ φ' :iW}{w:World}(h1: ∀h g pl,gm h=some g->φ' h=some pl->φ g=some pl)(h2: ∀h pl,gm h=none->φ' h=some pl->pl=jJ): ∀(ys xs:List AV) (Q:Prop) (vs:List Value),wK gm ys xs Q->aT K φ w xs vs->aT K φ' w ys vs/\Q
 | [],xs,Q,vs,h,hm=>by
   unfold wK at h;split at h
   ·unfold aT at*;exact⟨hm,h⟩
   cases h
 | y::ys,xs,Q,vs,h,hm=>by
   unfold wK at h;split at h
   ·unfold aT at hm;obtain⟨v,vs',rfl,q1,q2⟩:=hm;obtain⟨q3,q4⟩:=aMq h1 h2 y _ _ v h q1;obtain⟨q5,q6⟩:=aAX h1 h2 ys _ Q vs' q4 q2;refine⟨?_,q6⟩;unfold aT;exact⟨v,vs',rfl,q3,q5⟩
   cases h
end
mutual
theorem aOU {gm:Nat->Option Nat}: ∀(y x:AV) (Q:Prop),oB gm y x Q->Q
 | .no,x,Q,h=>by unfold oB at h;exact h
 | .nil,x,Q,h=>by
   unfold oB at h;split at h
   ·exact h
   cases h
 | .own k,x,Q,h=>by
   unfold oB at h;split at h
   ·split at h
    ·exact h
    cases h
   ·split at h
    ·exact h.eq.2
    cases h
   cases h
 | .ptr k o,x,Q,h=>by
   unfold oB at h;split at h
   ·split at h
    ·exact h.eq.2.eq.2
    cases h
   cases h
 | .p none y,x,Q,h=>by
   unfold oB at h;split at h
   ·exact h.2
   ·split at h
    ·exact h.2
    cases h
   cases h
 | .p (some _) y,x,Q,h=>by unfold oB at h;cases h
 | .agg ys,x,Q,h=>by
   unfold oB at h;split at h
   ·exact wL ys _ Q h
   cases h
 | .tup ys,x,Q,h=>by
   unfold oB at h;split at h
   ·exact wL ys _ Q h
   cases h
 | .ep _ _ _ _,x,Q,h=>by unfold oB at h;cases h
 | .rp _ _,x,Q,h=>by unfold oB at h;cases h
 | .fn _ _,x,Q,h=>by unfold oB at h;cases h
 | .bsl _ _,x,Q,h=>by unfold oB at h;cases h
theorem wL {gm:Nat->Option Nat}: ∀(ys xs:List AV) (Q:Prop),wK gm ys xs Q->Q
 | [],xs,Q,h=>by
   unfold wK at h;split at h
   ·exact h
   cases h
 | y::ys,xs,Q,h=>by
   unfold wK at h;split at h
   ·exact wL ys _ Q (aOU y _ _ h)
   cases h
end
abbrev aMr (φ:iW):Nat->Prop:=gS φ (fun _=>True)
structure In2 (A:Nat->Prop) (φ:iW) (w:World) (ri:List (Nat × Rs)):Prop where
 lt: ∀b,A b->b<w.heap.size
 dom: ∀h r,bF ri h=some r-> ∃pl,φ h=some pl/\Holds A φ w pl r
 non: ∀h,bF ri h=none->φ h=none
 disj: ∀h h' pl pl',h≠h' ->φ h=some pl->φ h' =some pl' -> ∀g∈pl.F,g ∉ pl'.F
 nodup: ∀h pl,φ h=some pl->pl.F.Nodup
 ge: ∀h pl,φ h=some pl-> ∀g∈pl.F,g<w.heap.size
 out: ∀b,A b-> ∀h pl,φ h=some pl->b ∉ pl.F
structure aSr (A:Nat->Prop) (φ0:iW) (w:World) (ro:List (Nat × Rs)) (K:Nat->Prop) (φ:iW) (w' :World):Prop where
 chg:Chg (aMr φ0) w w'
 kk: ∀b,A b->K b
 kin: ∀b,K b->b<w'.heap.size/\(A b\/w.heap.size<=b\/aMr φ0 b)
 kout: ∀b,K b-> ∀h pl,φ h=some pl->b ∉ pl.F
 dom: ∀h r,bF ro h=some r-> ∃pl,φ h=some pl/\Holds K φ w' pl r
 non: ∀h,bF ro h=none->φ h=none
 disj: ∀h h' pl pl',h≠h' ->φ h=some pl->φ h' =some pl' -> ∀g∈pl.F,g ∉ pl'.F
 nodup: ∀h pl,φ h=some pl->pl.F.Nodup
 ge: ∀h pl,φ h=some pl-> ∀g∈pl.F,(w.heap.size<=g\/aMr φ0 g)/\g<w'.heap.size
 pin: ∀h pl pl0,φ h=some pl->φ0 h=some pl0->pl.val=pl0.val/\pl.top=pl0.top
def vX (P:Program)(f:FuncId)(args:List AV)(ri:List (Nat × Rs))(rv:AV)(ro:List (Nat × Rs)):Prop:=
 kF P f=true/\(∀q∈ri,q.1<100)/\ ∀(A:Nat->Prop) (φ:iW) (w:World) (vs:Array Value),In2 A φ w ri->aT A φ w args vs.toList->
  Calls P f vs w (fun e w' => ∃v K φ',e= .returned v/\aSr A φ w ro K φ' w' /\aJ K φ' w' rv v)
def vY (K:Nat->Prop)(φ:iW)(w:World)(C:Nat->Prop):Nat->Prop:=fun b=>b<w.heap.size/\ ¬gS φ C b
section
variable {K:Nat->Prop} {φ:iW} {A:Nat->Prop} {w0:xU} {N:Nat} {S:St} {a:Act} {w:World} {P:Program}
theorem tP (hG:G K φ A w0 N S a w)(C:Nat->Prop): ∀b,K b->vY K φ w C b:=fun b hb=>⟨(hG.kin b hb).1,fun ⟨h,pl,_,hp,hm⟩=>hG.kout b hb h pl hp hm⟩
theorem aAY (hG:G K φ A w0 N S a w){C:Nat->Prop}{h:Nat}{pl:Pl}(hp:φ h=some pl)(hc: ¬C h): ∀b∈pl.F,vY K φ w C b:=fun b hb=>⟨(hG.ge h pl hp b hb).2,fun ⟨h',pl',hc',hp',hm⟩=>by
 by_cases e:h=h'
 ·subst e;exact hc hc'
 exact hG.disj h h' pl pl' e hp hp' b hb hm⟩
theorem G.rdOwnB (hG:G K φ A w0 N S a w){C:Nat->Prop}{h:Nat}{e k:Nat}{d:Bool}{xs:List (List bR)}{v:Value}(hr:S.res h=some (.arr e k d xs))(hc: ¬C h)(hm:aJ K φ w (.own h) v):iU (vY K φ w C) w (.sl e k xs) v:=by
 obtain⟨pl,css,hp,ho,hcl,hck,htop,hrow⟩:=hG.owned hr;unfold aJ at hm;rw[hm pl hp];obtain⟨b,c,e1,h1,h2,h3,h4⟩:=nY ho hck hcl;unfold iU;refine⟨b,c,e1,h1,h2,?_⟩;by_cases hn:0<xs.length
 ·obtain⟨g,rfl,hg⟩:=h3 hn;have hlt:vY K φ w C g:=aAY hG hp hc g (aL6 _ (by rw[htop,hg];simp));refine aBh hlt hcl (fun i x c hx hc' =>⟨(hrow i x c hx hc').1,jR.mono (fun _ _=>rfl) (fun b hb=>?_) x c (hrow i x c hx hc').2.1⟩) fun i c hc' j u hu=>?_
  ·rcases hb with hb | hb
   ·exact tP hG C b hb
   exact aAY hG hp hc b (aKS _ hb)
  obtain⟨g',e2,_,hcell⟩:=h4 i c hc';simp only[Option.some.injEq,Addr.mk.injEq,and_true] at e2;subst e2;rw[Nat.zero_add];exact hcell j u hu
 have:xs= []:=aKV (by omega);subst this;unfold gV;trivial
end
def aSs (ren:List (Nat × Nat))(g:Nat):Bool:=ren.all fun q=> !Nat.beq q.2 g
def aSt (rs:Rl)(ren:List (Nat × Nat))(y:bR)(x:AV)(Q:Prop):Prop:=match x with
 | .p none z=>EqD z y/\Q
 | .p (some g) z=>(match rR rs (some g)&&aSs ren g with | true=>EqD z y/\Q | false=>False)
 | .own g=>(match bH rs g with
   | some (.arr e k _ xs)=>(match aSs ren g with | true=>EqD (.sl e k xs) y/\Q | false=>False)
   | _=>False)
 | .nil=>(match y with | .sl _ _ xs=>[]=xs/\Q | _=>False)
 | _=>False
def aFc (rs:Rl)(ren:List (Nat × Nat)):List bR->List AV->Prop->Prop
 | [],_,Q=>Q
 | y::ys,xs,Q=>(match xs with | x::xs=>aSt rs ren y x (aFc rs ren ys xs Q) | []=>False)
def aDu:List bR->List bR->Prop->Prop
 | [],xs,Q=>(match xs with | []=>Q | _=>False)
 | y::ys,xs,Q=>(match xs with | x::xs=>EqD x y/\aDu ys xs Q | []=>False)
def aQW (rs:Rl)(ren:List (Nat × Nat))(ys:List bR)(x:AV)(Q:Prop):Prop:=match x with
 | .rp none zs=>aDu ys zs Q
 | .ptr g off=>(match bH rs g with
   | some (.box _ cs)=>(match aSs ren g with | true=>aFc rs ren ys (cs.drop off) Q | false=>False)
   | _=>False)
 | _=>False
mutual
def jV (rs:Rl)(ren:List (Nat × Nat)):AV->AV->Prop->Prop
 | .no,_,Q=>Q
 | .nil,x,Q=>(match x with | .nil=>Q | _=>False)
 | .own h,x,Q=>(match x with | .own g=>(match dC ren h with | some g' =>EqN g g' Q | none=>False) | _=>False)
 | .ptr h o,x,Q=>(match x with | .ptr g o' =>(match dC ren h with | some g' =>EqN g g' (EqN o' o Q) | none=>False) | _=>False)
 | .p none y,x,Q=>(match x with
   | .p none z=>EqD z y/\Q
   | .p (some g) z=>(match rR rs (some g)&&aSs ren g with | true=>EqD z y/\Q | false=>False)
   | .own g=>(match bH rs g with
     | some (.arr e k _ xs)=>(match aSs ren g with | true=>EqD (.sl e k xs) y/\Q | false=>False)
     | _=>False)
   | .nil=>(match y with | .sl _ _ xs=>[]=xs/\Q | _=>False)
   | _=>False)
 | .agg ys,x,Q=>(match x with | .agg xs=>rS rs ren ys xs Q | _=>False)
 | .rp none ys,x,Q=>aQW rs ren ys x Q
 | .fn f [],x,Q=>(match x with | .fn g []=>EqN g f Q | _=>False)
 | _,_,_=>False
def rS (rs:Rl)(ren:List (Nat × Nat)):List AV->List AV->Prop->Prop
 | [],xs,Q=>(match xs with | []=>Q | _=>False)
 | y::ys,xs,Q=>(match xs with | x::xs=>jV rs ren y x (rS rs ren ys xs Q) | []=>False)
end
section
variable {K:Nat->Prop} {φ:iW} {A:Nat->Prop} {w0:xU} {N:Nat} {sl:Sl} {rs:Rl} {a:Act} {w:World} {P:Program} {ren:List (Nat × Nat)}
theorem aHm {g:Nat}(h:aSs ren g=true): ¬g∈ren.map (·.2):=fun hm=>by
 obtain⟨q,hq,e⟩:=aQO.1 hm;have:=aI4.1 h q hq;rw[e,Nat.beq_refl] at this;cases this
theorem aYI (hG:G K φ A w0 N (mk sl rs) a w){y:bR}{x:AV}{Q:Prop}{v:Value}(h:aSt rs ren y x Q)(hm:aJ K φ w x v):iU (vY K φ w (· ∈ren.map (·.2))) w y v/\Q:=by
 unfold aSt at h;split at h
 ·refine⟨?_,h.2⟩;unfold aJ at hm;rw[<-h.1.eq];exact iU.mono (fun _ _=>rfl) (tP hG _) _ _ hm
 ·rename_i g z;split at h
  ·rename_i hb;rw[aCA] at hb;refine⟨?_,h.2⟩;obtain⟨r,hr⟩:=aBn hb.1;obtain⟨pl,hp,_⟩:=hG.dom g r hr;unfold aJ at hm;rw[<-h.1.eq]
   exact iU.mono (fun _ _=>rfl) (fun b hb' =>by
    rcases hb' with hb' | hb'
    ·exact tP hG _ b hb'
    exact aAY hG hp (aHm hb.2) b (aKS _ hb')) _ _ (hm pl hp)
  cases h
 ·rename_i g;split at h
  ·rename_i e k d xs hr;split at h
   ·rename_i hb;refine⟨?_,h.2⟩;rw[<-h.1.eq];have:=hG.rdOwnB (C:=(· ∈ren.map (·.2))) hr (aHm hb) hm;exact this
   cases h
  cases h
 ·split at h
  ·refine⟨?_,h.2⟩;unfold aJ at hm;rw[hm,<-h.1];exact uW
  cases h
 cases h
theorem aOV (hG:G K φ A w0 N (mk sl rs) a w){Q:Prop}: ∀{ys:List bR} {xs:List AV} {vs:List Value},aFc rs ren ys xs Q->aT K φ w xs vs->(∃us ws,vs=us++ws/\jR (vY K φ w (· ∈ren.map (·.2))) w ys us)/\Q
 | [],xs,vs,h,hm=>⟨⟨[],vs,rfl,rfl⟩,h⟩
 | y::ys,xs,vs,h,hm=>by
   unfold aFc at h;split at h
   ·unfold aT at hm;obtain⟨v,vs',rfl,q1,q2⟩:=hm;obtain⟨q3,q4⟩:=aYI hG h q1;obtain⟨⟨us,ws,rfl,q5⟩,q6⟩:=aOV hG q4 q2;exact⟨⟨v::us,ws,rfl,v,us,rfl,q3,q5⟩,q6⟩
   cases h
theorem aHn {Q:Prop}: ∀{ys zs:List bR},aDu ys zs Q->zs=ys/\Q
 | [],zs,h=>by
   unfold aDu at h;split at h
   ·exact⟨rfl,h⟩
   cases h
 | y::ys,zs,h=>by
   unfold aDu at h;split at h
   ·obtain⟨q1,q2⟩:=aHn h.2;exact⟨by rw[h.1.eq,q1],q2⟩
   cases h
theorem aYJ (hG:G K φ A w0 N (mk sl rs) a w){ys:List bR}{x:AV}{Q:Prop}{v:Value}(h:aQW rs ren ys x Q)(hm:aJ K φ w x v):aR4 (vY K φ w (· ∈ren.map (·.2))) w ys v/\Q:=by
 unfold aQW at h;split at h
 ·obtain⟨rfl,hQ⟩:=aHn h;unfold aJ at hm;obtain⟨a,e,hr⟩:=hm;exact⟨⟨a,e,kN.mono (fun _ _=>rfl) (tP hG _) _ _ _ hr⟩,hQ⟩
 ·rename_i g0 off;split at h
  ·rename_i t cs hr;split at h
   ·rename_i hb;obtain⟨g,vs,hp,hB,h1,hl⟩:=hG.boxed hr;unfold aJ at hm;obtain⟨g',rfl,hg⟩:=hm;have hgg:=hg _ hp;simp only[List.cons.injEq,and_true] at hgg;subst hgg;obtain⟨⟨us,ws,e,q1⟩,hQ⟩:=aOV hG h (xX off hl);refine⟨⟨_,rfl,kN.mk (fun _=>aAY hG hp (aHm hb) g (by simp[Pl.F])) q1 fun j u hu=>?_⟩,hQ⟩
    have hu' :(vs.toList.drop off)[j]? =some u:=by
     rw[e,aU1 (aGL.1 hu).1];exact hu
    rw[List.getElem?_drop] at hu';rw[Nat.add_zero,hB.cell (off+j)];simpa using hu'
   cases h
  cases h
 cases h
mutual
theorem aYK (hG:G K φ A w0 N (mk sl rs) a w){φi:iW}(hi: ∀h pl,φi h=some pl-> ∃g,dC ren h=some g/\φ g=some pl): ∀(y x:AV) (Q:Prop) (v:Value),jV rs ren y x Q->aJ K φ w x v->aJ (vY K φ w (· ∈ren.map (·.2))) φi w y v/\Q
 | .no,x,Q,v,h,hm=>by unfold jV at h;exact⟨by unfold aJ;trivial,h⟩
 | .nil,x,Q,v,h,hm=>by
   unfold jV at h;split at h
   ·unfold aJ at*;exact⟨hm,h⟩
   cases h
 | .own k,x,Q,v,h,hm=>by
   unfold jV at h;split at h
   ·split at h
    ·rename_i g' hl;obtain⟨e,hQ⟩:=h.eq;subst e;refine⟨?_,hQ⟩;unfold aJ at*;intro pl hp;obtain⟨g2,e1,e2⟩:=hi _ pl hp;rw[hl] at e1;injection e1 with e1;subst e1
     exact hm pl e2
    cases h
   cases h
 | .ptr k o,x,Q,v,h,hm=>by
   unfold jV at h;split at h
   ·split at h
    ·rename_i g' hl;obtain⟨e,hQ1⟩:=h.eq;obtain⟨e2,hQ⟩:=hQ1.eq;subst e;subst e2;refine⟨?_,hQ⟩;unfold aJ at*;obtain⟨g3,e3,q⟩:=hm;refine⟨g3,e3,fun pl hp=>?_⟩;obtain⟨g2,e1,e2⟩:=hi _ pl hp;rw[hl] at e1;injection e1 with e1;subst e1
     exact q pl e2
    cases h
   cases h
 | .p none y,x,Q,v,h,hm=>by
   unfold jV at h;split at h
   ·refine⟨?_,h.2⟩;unfold aJ at*;rw[<-h.1.eq];exact iU.mono (fun _ _=>rfl) (tP hG _) _ _ hm
   ·rename_i g z;split at h
    ·rename_i hb;rw[aCA] at hb;refine⟨?_,h.2⟩;obtain⟨r,hr⟩:=aBn hb.1;obtain⟨pl,hp,_⟩:=hG.dom g r hr;unfold aJ at*;rw[<-h.1.eq]
     exact iU.mono (fun _ _=>rfl) (fun b hb' =>by
      rcases hb' with hb' | hb'
      ·exact tP hG _ b hb'
      exact aAY hG hp (aHm hb.2) b (aKS _ hb')) _ _ (hm pl hp)
    cases h
   ·rename_i g;split at h
    ·rename_i e k d xs hr;split at h
     ·rename_i hb;refine⟨?_,h.2⟩;rw[<-h.1.eq];have:=hG.rdOwnB (C:=(· ∈ren.map (·.2))) hr (aHm hb) hm;unfold aJ;exact this
     cases h
    cases h
   ·split at h
    ·refine⟨?_,h.2⟩;unfold aJ at*;rw[hm,<-h.1];exact uW
    cases h
   cases h
 | .p (some _) y,x,Q,v,h,hm=>by unfold jV at h;cases h
 | .agg ys,x,Q,v,h,hm=>by
   unfold jV at h;split at h
   ·unfold aJ at hm;obtain⟨vs,rfl,q1,q2⟩:=hm;obtain⟨q3,q4⟩:=aHo hG hi ys _ Q _ h q2;refine⟨?_,q4⟩;unfold aJ;exact⟨vs,rfl,q1,q3⟩
   cases h
 | .tup ys,x,Q,v,h,hm=>by unfold jV at h;cases h
 | .ep _ _ _ _,x,Q,v,h,hm=>by unfold jV at h;cases h
 | .rp none ys,x,Q,v,h,hm=>by
   unfold jV at h;obtain⟨q1,q2⟩:=aYJ hG h hm;refine⟨?_,q2⟩;unfold aJ;exact q1
 | .rp (some _) _,x,Q,v,h,hm=>by unfold jV at h;cases h
 | .fn f [],x,Q,v,h,hm=>by
   unfold jV at h;split at h
   ·obtain⟨rfl,hQ⟩:=h.eq;refine⟨?_,hQ⟩;unfold aJ at hm ⊢;obtain⟨vs',e1,e2⟩:=hm;refine⟨vs',e1,?_⟩;unfold aT at e2 ⊢;exact e2
   cases h
 | .fn _ (_::_),x,Q,v,h,hm=>by unfold jV at h;cases h
 | .bsl _ _,x,Q,v,h,hm=>by unfold jV at h;cases h
theorem aHo (hG:G K φ A w0 N (mk sl rs) a w){φi:iW}(hi: ∀h pl,φi h=some pl-> ∃g,dC ren h=some g/\φ g=some pl): ∀(ys xs:List AV) (Q:Prop) (vs:List Value),rS rs ren ys xs Q->aT K φ w xs vs->aT (vY K φ w (· ∈ren.map (·.2))) φi w ys vs/\Q
 | [],xs,Q,vs,h,hm=>by
   unfold rS at h;split at h
   ·unfold aT at*;exact⟨hm,h⟩
   cases h
 | y::ys,xs,Q,vs,h,hm=>by
   unfold rS at h;split at h
   ·unfold aT at hm;obtain⟨v,vs',rfl,q1,q2⟩:=hm;obtain⟨q3,q4⟩:=aYK hG hi y _ _ v h q1;obtain⟨q5,q6⟩:=aHo hG hi ys _ Q vs' q4 q2;refine⟨?_,q6⟩;unfold aT;exact⟨v,vs',rfl,q3,q5⟩
   cases h
end
end
theorem aVH {rs:Rl}{ren:List (Nat × Nat)}{Q Q' :Prop}{y:bR}{x:AV}(h:aSt rs ren y x Q):Q/\(Q' ->aSt rs ren y x Q'):=by
 unfold aSt at*;split at h
 ·exact⟨h.2,fun q=>⟨h.1,q⟩⟩
 ·split at h
  ·exact⟨h.2,fun q=>⟨h.1,q⟩⟩
  cases h
 ·split at h
  ·split at h
   ·exact⟨h.2,fun q=>⟨h.1,q⟩⟩
   cases h
  cases h
 ·split at h
  ·exact⟨h.2,fun q=>⟨h.1,q⟩⟩
  cases h
 cases h
theorem aLY {rs:Rl}{ren:List (Nat × Nat)}{Q Q' :Prop}: ∀{ys:List bR} {xs:List AV},aFc rs ren ys xs Q->Q/\(Q' ->aFc rs ren ys xs Q')
 | [],xs,h=>⟨h,id⟩
 | y::ys,xs,h=>by
   unfold aFc at*;split at h
   ·obtain⟨q1,q2⟩:=aVH (Q' :=aFc rs ren ys _ Q') h;obtain⟨q3,q4⟩:=aLY (Q' :=Q') q1;exact⟨q3,fun q=>q2 (q4 q)⟩
   cases h
theorem aLZ {Q Q' :Prop}: ∀{ys zs:List bR},aDu ys zs Q->Q/\(Q' ->aDu ys zs Q')
 | [],zs,h=>by
   unfold aDu at*;split at h
   ·exact⟨h,id⟩
   cases h
 | y::ys,zs,h=>by
   unfold aDu at*;split at h
   ·obtain⟨q1,q2⟩:=aLZ (Q' :=Q') h.2;exact⟨q1,fun q=>⟨h.1,q2 q⟩⟩
   cases h
theorem aVI {rs:Rl}{ren:List (Nat × Nat)}{Q Q' :Prop}{ys:List bR}{x:AV}(h:aQW rs ren ys x Q):Q/\(Q' ->aQW rs ren ys x Q'):=by
 unfold aQW at*;split at h
 ·exact aLZ h
 ·split at h
  ·split at h
   ·exact aLY h
   cases h
  cases h
 cases h
mutual
theorem aOW {rs:Rl}{ren:List (Nat × Nat)}{Q' :Prop}: ∀(y x:AV) (Q:Prop),jV rs ren y x Q->Q/\(Q' ->jV rs ren y x Q')
 | .no,x,Q,h=>by unfold jV at*;exact⟨h,id⟩
 | .nil,x,Q,h=>by
   unfold jV at*;split at h
   ·exact⟨h,id⟩
   cases h
 | .own k,x,Q,h=>by
   unfold jV at*;split at h
   ·split at h
    ·refine⟨h.eq.2,fun q=>?_⟩;have:=h.eq.1;subst this;simp only[EqN,Nat.beq_refl];exact q
    cases h
   cases h
 | .ptr k o,x,Q,h=>by
   unfold jV at*;split at h
   ·split at h
    ·refine⟨h.eq.2.eq.2,fun q=>?_⟩;have e1:=h.eq.1;have e2:=h.eq.2.eq.1;subst e1;subst e2;simp only[EqN,Nat.beq_refl];exact q
    cases h
   cases h
 | .p none y,x,Q,h=>by
   unfold jV at*;split at h
   ·exact⟨h.2,fun q=>⟨h.1,q⟩⟩
   ·split at h
    ·exact⟨h.2,fun q=>⟨h.1,q⟩⟩
    cases h
   ·split at h
    ·split at h
     ·exact⟨h.2,fun q=>⟨h.1,q⟩⟩
     cases h
    cases h
   ·split at h
    ·exact⟨h.2,fun q=>⟨h.1,q⟩⟩
    cases h
   cases h
 | .p (some _) y,x,Q,h=>by unfold jV at h;cases h
 | .agg ys,x,Q,h=>by
   unfold jV at*;split at h
   ·exact aEz ys _ Q h
   cases h
 | .tup ys,x,Q,h=>by unfold jV at h;cases h
 | .ep _ _ _ _,x,Q,h=>by unfold jV at h;cases h
 | .rp none ys,x,Q,h=>by
   unfold jV at*;exact aVI h
 | .rp (some _) _,x,Q,h=>by unfold jV at h;cases h
 | .fn f [],x,Q,h=>by
   unfold jV at*;split at h
   ·obtain⟨rfl,hQ⟩:=h.eq;exact⟨hQ,fun q=>by simp only[EqN,Nat.beq_refl];exact q⟩
   cases h
 | .fn _ (_::_),x,Q,h=>by unfold jV at h;cases h
 | .bsl _ _,x,Q,h=>by unfold jV at h;cases h
theorem aEz {rs:Rl}{ren:List (Nat × Nat)}{Q' :Prop}: ∀(ys xs:List AV) (Q:Prop),rS rs ren ys xs Q->Q/\(Q' ->rS rs ren ys xs Q')
 | [],xs,Q,h=>by
   unfold rS at*;split at h
   ·exact⟨h,id⟩
   cases h
 | y::ys,xs,Q,h=>by
   unfold rS at*;split at h
   ·obtain⟨q1,q2⟩:=aOW (Q' :=rS rs ren ys _ Q') y _ _ h;obtain⟨q3,q4⟩:=aEz (Q' :=Q') ys _ Q q1;exact⟨q3,fun q=>q2 (q4 q)⟩
   cases h
end
mutual
def aVJ:AV->AV->Bool
 | .p none _,x=>(match x with | .p none _=>true | .nil=>true | _=>false)
 | .agg ys,x=>(match x with | .agg xs=>aHp ys xs | _=>false)
 | .rp none _,x=>(match x with | .rp none _=>true | _=>false)
 | _,_=>true
def aHp:List AV->List AV->Bool
 | [],_=>true
 | y::ys,xs=>(match xs with | x::xs=>aVJ y x&&aHp ys xs | []=>true)
end
section
variable {K:Nat->Prop} {φ:iW} {w:World} {rs:Rl} {ren:List (Nat × Nat)}
mutual
theorem aVK {φi:iW}(hi: ∀h pl,φi h=some pl-> ∃g,dC ren h=some g/\φ g=some pl): ∀(y x:AV) (Q:Prop) (v:Value),aVJ y x=true->jV rs ren y x Q->aJ K φ w x v->aJ K φi w y v
 | .no,x,Q,v,_,h,hm=>by unfold aJ;trivial
 | .nil,x,Q,v,_,h,hm=>by
   unfold jV at h;split at h
   ·unfold aJ at*;exact hm
   cases h
 | .own k,x,Q,v,_,h,hm=>by
   unfold jV at h;split at h
   ·split at h
    ·rename_i g' hl;obtain⟨e,hQ⟩:=h.eq;subst e;unfold aJ at*;intro pl hp;obtain⟨g2,e1,e2⟩:=hi _ pl hp;rw[hl] at e1;injection e1 with e1;subst e1
     exact hm pl e2
    cases h
   cases h
 | .ptr k o,x,Q,v,_,h,hm=>by
   unfold jV at h;split at h
   ·split at h
    ·rename_i g' hl;obtain⟨e,hQ1⟩:=h.eq;obtain⟨e2,hQ⟩:=hQ1.eq;subst e;subst e2;unfold aJ at*;obtain⟨g3,e3,q⟩:=hm;refine⟨g3,e3,fun pl hp=>?_⟩;obtain⟨g2,e1,e2⟩:=hi _ pl hp;rw[hl] at e1;injection e1 with e1;subst e1
     exact q pl e2
    cases h
   cases h
 | .p none y,x,Q,v,hs,h,hm=>by
   unfold aVJ at hs;unfold jV at h;split at h
   ·unfold aJ at*;rw[<-h.1.eq];exact hm
   ·cases hs
   ·cases hs
   ·split at h
    ·unfold aJ at*;rw[hm,<-h.1];exact uW
    cases h
   cases h
 | .p (some _) y,x,Q,v,_,h,hm=>by unfold jV at h;cases h
 | .agg ys,x,Q,v,hs,h,hm=>by
   unfold aVJ at hs;unfold jV at h;split at h
   ·unfold aJ at hm;obtain⟨vs,rfl,q1,q2⟩:=hm;unfold aJ;exact⟨vs,rfl,q1,aFA hi ys _ Q _ hs h q2⟩
   cases h
 | .tup ys,x,Q,v,_,h,hm=>by unfold jV at h;cases h
 | .ep _ _ _ _,x,Q,v,_,h,hm=>by unfold jV at h;cases h
 | .rp none ys,x,Q,v,hs,h,hm=>by
   unfold aVJ at hs;unfold jV at h;split at hs
   ·unfold aQW at h;obtain⟨rfl,hQ⟩:=aHn h;unfold aJ at*;exact hm
   cases hs
 | .rp (some _) _,x,Q,v,_,h,hm=>by unfold jV at h;cases h
 | .fn f [],x,Q,v,_,h,hm=>by
   unfold jV at h;split at h
   ·obtain⟨rfl,hQ⟩:=h.eq;unfold aJ at hm ⊢;obtain⟨vs',e1,e2⟩:=hm;refine⟨vs',e1,?_⟩;unfold aT at e2 ⊢;exact e2
   cases h
 | .fn _ (_::_),x,Q,v,_,h,hm=>by unfold jV at h;cases h
 | .bsl _ _,x,Q,v,_,h,hm=>by unfold jV at h;cases h
theorem aFA {φi:iW}(hi: ∀h pl,φi h=some pl-> ∃g,dC ren h=some g/\φ g=some pl): ∀(ys xs:List AV) (Q:Prop) (vs:List Value),aHp ys xs=true->rS rs ren ys xs Q->aT K φ w xs vs->aT K φi w ys vs
 | [],xs,Q,vs,_,h,hm=>by
   unfold rS at h;split at h
   ·unfold aT at*;exact hm
   cases h
 | y::ys,xs,Q,vs,hs,h,hm=>by
   unfold aHp at hs;unfold rS at h;split at h
   ·simp only[aCA] at hs;unfold aT at hm;obtain⟨v,vs',rfl,q1,q2⟩:=hm;unfold aT;exact⟨v,vs',rfl,aVK hi y _ _ v hs.1 h q1,aFA hi ys _ Q vs' hs.2 (aOW (Q' :=True) _ _ _ h).1 q2⟩
   cases h
end
end
def yC (ren:List (Nat × Nat))(hb h:Nat):Nat:=match dC ren h with | some g=>g | none=>hb+h
mutual
def pA:AV->Bool
 | .p none x=>x.val?.isSome
 | .own _=>true
 | .ptr _ _=>true
 | .nil=>true
 | .no=>true
 | .agg cs=>tQ cs
 | .tup cs=>tQ cs
 | _=>false
def tQ:List AV->Bool
 | []=>true
 | x::xs=>pA x&&tQ xs
end
mutual
theorem aCQ {K K' :Nat->Prop}{φ:iW}{w:World}: ∀(x:AV) (v:Value),pA x=true->aJ K φ w x v->aJ K' φ w x v
 | .p none x,v,hc,h=>by
   unfold pA at hc;unfold aJ at*;cases hx:x.val? with
   | none=>simp[hx] at hc
   | some u=>exact(iU.scalar hx).2 ((iU.scalar hx).1 h)
 | .p (some k) x,v,hc,h=>by simp[pA] at hc
 | .own k,v,_,h=>by unfold aJ at*;exact h
 | .ptr k o,v,_,h=>by unfold aJ at*;exact h
 | .ep k _ _ _,v,hc,_=>by simp[pA] at hc
 | .rp _ x,v,hc,h=>by simp[pA] at hc
 | .fn _ _,v,hc,h=>by simp[pA] at hc
 | .bsl _ _,v,hc,h=>by simp[pA] at hc
 | .nil,v,_,h=>by unfold aJ at*;exact h
 | .no,v,_,_=>by unfold aJ;trivial
 | .agg cs,v,hc,h=>by
   unfold pA at hc;unfold aJ at*;obtain⟨vs,e,h1,h2⟩:=h;exact⟨vs,e,h1,pB cs _ hc h2⟩
 | .tup cs,v,hc,h=>by
   unfold pA at hc;unfold aJ at*;obtain⟨vs,e,h2⟩:=h;exact⟨vs,e,pB cs _ hc h2⟩
theorem pB {K K' :Nat->Prop}{φ:iW}{w:World}: ∀(xs:List AV) (vs:List Value),tQ xs=true->aT K φ w xs vs->aT K' φ w xs vs
 | [],vs,_,h=>by unfold aT at*;exact h
 | x::xs,vs,hc,h=>by
   unfold tQ at hc;simp only[aCA] at hc;unfold aT at*;obtain⟨v,vs',e,h1,h2⟩:=h;exact⟨v,vs',e,aCQ x v hc.1 h1,pB xs vs' hc.2 h2⟩
end
def aDv (on:Nat->Nat):List (Nat × Rs)->Nat->Option Nat
 | [],_=>none
 | (h,_)::l,g=>if on h=g then some h else aDv on l g
theorem aAZ {on:Nat->Nat}: ∀{ro:List (Nat × Rs)} {g h:Nat},aDv on ro g=some h->on h=g/\ ∃r,bF ro h=some r
 | [],_,_,e=>by simp[aDv] at e
 | (k,r)::l,g,h,e=>by
   simp only[aDv] at e;split at e
   ·injection e with e;subst e;rename_i q;exact⟨q,r,by simp[bF]⟩
   obtain⟨h1,r',h2⟩:=aAZ e;refine⟨h1,?_⟩;simp only[bF];split
   ·exact⟨r,rfl⟩
   exact⟨r',h2⟩
theorem aVL {on:Nat->Nat}{h:Nat}: ∀{ro:List (Nat × Rs)} {r:Rs},(∀h' r',bF ro h' =some r' ->on h' =on h->h' =h)->bF ro h=some r->aDv on ro (on h)=some h:=by
 intro ro r hi hr;cases hv:aDv on ro (on h) with
 | some h' =>
   obtain⟨e,r',hr'⟩:=aAZ hv;rw[hi h' r' hr' e]
 | none=>
   exfalso
   have: ∀(l:List (Nat × Rs)),aDv on l (on h)=none->bF l h=none:=by
    intro l
    induction l with
    | nil=>intro _;rfl
    | cons q l ih=>
      obtain⟨k,r0⟩:=q;intro e;simp only[aDv] at e;split at e
      ·cases e
      rename_i hne;simp only[bF];rw[if_neg (fun e' =>hne (by rw[e']))];exact ih e
   rw[this ro hv] at hr;cases hr
theorem aOX {on:Nat->Nat}{m:Rs->Rs}: ∀{ro:List (Nat × Rs)} {g:Nat} {r:Rs},bF (ro.map fun q=>(on q.1,m q.2)) g=some r-> ∃h r0,aDv on ro g=some h/\bF ro h=some r0/\r=m r0
 | [],g,r,e=>by simp[bF] at e
 | (k,r1)::l,g,r,e=>by
   simp only[aLz,bF] at e;split at e
   ·rename_i q;injection e with e
    exact⟨k,r1,by simp[aDv,q],by simp[bF],e.symm⟩
   rename_i q;obtain⟨h,r0,h1,h2,h3⟩:=aOX e;refine⟨h,r0,by simp only[aDv];rw[if_neg (fun e=>q e.symm)];exact h1,?_,h3⟩;simp only[bF];rw[if_neg (fun e=>by subst e;exact q (aAZ h1).1.symm)];exact h2
theorem vZ {on:Nat->Nat}{m:Rs->Rs}: ∀{ro:List (Nat × Rs)} {g:Nat},bF (ro.map fun q=>(on q.1,m q.2)) g=none->aDv on ro g=none
 | [],g,e=>rfl
 | (k,r1)::l,g,e=>by
   simp only[aLz,bF] at e;split at e
   ·cases e
   rename_i q;simp only[aDv];rw[if_neg (fun e=>q e.symm)];exact vZ e
theorem aOY {ren:List (Nat × Nat)}{h g:Nat}(e:dC ren h=some g):g∈ren.map (·.2):=by
 induction ren with
 | nil=>simp[dC] at e
 | cons q l ih=>
   obtain⟨k,v⟩:=q;unfold dC at e;split at e
   ·injection e with e;simp[e]
   simp only[aLz,aNn];exact .inr (ih e)
def aGv (st:Bool)(x:AV):Bool:=st || pA x
def aHq (st:Bool):Rs->Bool
 | .box _ cs=>st || tQ cs
 | .arr _ _ d _=>st || d
 | .hole _ _ _ _ _ _=>false
section
variable {P:Program} {sl:Sl} {rs:Rl}
def aL0:Rs->Bool
 | .box _ _=>true
 | _=>false
def aQX (ri:List (Nat × Rs))(ren:List (Nat × Nat))(ro:List (Nat × Rs)):Bool:=ro.all fun q=>match dC ren q.1 with | some _=>aL0 q.2&&(match bF ri q.1 with | some r=>aL0 r | none=>false) | none=>true
def aCb (P:Program)(o:Oper)(S:St)(e:Eff)(B:Prop):Prop:=
 ∀(K:Nat->Prop) (φ:iW) (A:Nat->Prop) (w0:xU) (N:Nat) (a:Act) (w:World) (Q:Exit->Act->World->Prop),(∀d,o.dst=some d->d<N)->G K φ A w0 N S a w->
  o.wp P a w (fun a' w' => ∃K' φ' v,a' =a.put o.dst v/\G K' φ' A w0 N (S.apply o.dst e) a' w' /\(B->Tr K φ w (· ∈e.del) (bF e.new) K' φ' w')) Q
theorem aCb.to0 {P:Program}{S:St}{o:Oper}{e:Eff}{B:Prop}(h:aCb P o S e B):vU P o S e:=fun K φ A w0 N a w Q hd hG=>Oper.wp_mono (fun a' w' ⟨K',φ',v,h1,h2,_⟩=>⟨K',φ',v,h1,h2⟩) (h K φ A w0 N a w Q hd hG)
theorem aCb.full {P:Program}{S:St}{o:Oper}{e:Eff}{B:Prop}(h:aCb P o S e B)(b:B):bL P o S e:=fun K φ A w0 N a w Q hd hG=>Oper.wp_mono (fun a' w' ⟨K',φ',v,h1,h2,h3⟩=>⟨K',φ',v,h1,h2,h3 b⟩) (h K φ A w0 N a w Q hd hG)
theorem aOZ {o:Oper}{f:FuncId}{avs fs:List AV}{ri ro:List (Nat × Rs)}{ren:List (Nat × Nat)}{rv:AV}{hb:Nat}{st:Bool}(hset:st=true->aHp fs avs=true)
 (hrun: ∀K φ A w0 N a w,G K φ A w0 N (mk sl rs) a w-> ∃vs:Array Value,(execOp a.eval o).run P w= .ok (.enter f vs) w/\aT K φ w avs vs.toList)
 (hC:vX P f fs ri rv ro) (ha:rS rs ren fs avs True)
 (hres: ∀h r,bF ri h=some r-> ∃g,dC ren h=some g/\bH rs g=some (aK5 (aVG ren) r)) (hkey: ∀h g,dC ren h=some g-> ∃r,bF ri h=some r) (hinj:nL (ren.map (·.2))=true)
 (hcl:aGv st rv=true) (hclr: ∀q∈ro,aHq st q.2=true) (hfr: ∀q∈ro,dC ren q.1=none->iI (mk sl rs) (hb+q.1))
 (hmt: ∀h∈cW rv,∃r,bF ro h=some r) (hmr: ∀q∈ro,∀h∈jI q.2,∃r,bF ro h=some r)
 (hon: ∀h h' r r',bF ro h=some r->bF ro h' =some r' ->yC ren hb h=yC ren hb h' ->h=h')
 (hvw: ∀q∈ro,∀g,dC ren q.1=some g->(∀t,g ∉ uZ (cF sl t))/\ ∀h' r,bH rs h' =some r->g ∉ aEy r):
 aCb P o (mk sl rs) ⟨mP (yC ren hb) rv,ren.map (·.2),ro.map fun q=>(yC ren hb q.1,aK5 (yC ren hb) q.2)⟩ (aQX ri ren ro=true):=by
 intro K φ A w0 N a w Q hd hG;obtain⟨vs,hrn,hmv⟩:=hrun K φ A w0 N a w hG;unfold Oper.wp;rw[hrn,Oper.upon_enter]
 let φi:iW:=fun h=>match dC ren h with | some g=>φ g | none=>none
 have hi: ∀h pl,φi h=some pl-> ∃g,dC ren h=some g/\φ g=some pl:=fun h pl e=>by
  simp only[φi] at e;split at e
  ·rename_i g hg;exact⟨g,hg,e⟩
  cases e
 have hren: ∀h g,dC ren h=some g->aVG ren h=g:=fun h g e=>by unfold aVG;rw[e]
 have hBx: ∃B:Nat->Prop,(∀b,K b->B b)/\(∀b,B b->b<w.heap.size/\ ¬gS φ (· ∈ren.map (·.2)) b)/\aT B φi w fs vs.toList/\(st=true-> ∀b,B b->K b):=by
  cases hst:st with
  | false=>exact⟨vY K φ w (· ∈ren.map (·.2)),tP hG _,(by intro b h;exact h),(aHo hG hi fs avs True vs.toList ha hmv).1,fun e=>by cases e⟩
  | true=>exact⟨K,fun _ h=>h,fun b hb=>⟨(hG.kin b hb).1,fun ⟨h,pl,_,hp,hm⟩=>hG.kout b hb h pl hp hm⟩,aFA hi fs avs True vs.toList (hset hst) ha hmv,fun _ _ h=>h⟩
 obtain⟨B,hKB,hBB,hargs,hBK⟩:=hBx
 have hI:In2 B φi w ri:=by
  refine⟨fun b hb=>(hBB b hb).1,fun h r hr=>?_,fun h hr=>?_,fun h h' pl pl' hne e e' =>?_,fun h pl e=>?_,fun h pl e g hg=>?_,fun b hb' h pl e hm=>?_⟩
  ·obtain⟨g,hg,hf⟩:=hres h r hr;obtain⟨pl,hp,hh⟩:=hG.dom g _ hf;refine⟨pl,by simp only[φi,hg];exact hp,?_⟩;cases r with
   | box t cs=>
     obtain⟨g',vs',e1,e2,e3,e4⟩:=hh;refine⟨g',vs',e1,e2,e3,?_⟩;have:=aT.unmap (φ' :=φi) cs _ (fun k pl' _ e=>by obtain⟨g2,q1,q2⟩:=hi k pl' e;rw[hren k g2 q1];exact q2) e4;exact aT.mono (fun _ _=>rfl) hKB cs _ (fun _ _ _ e=>⟨e,fun _ _=>rfl⟩) this
   | hole e k xs i j q=>
     obtain⟨xs1,x1,d,x2,xs2,css1,c1,v,c2,css2,Fs1,F1,F2,Fs2,e0,e1,e2,e3,h1,h2,h3,h4,h5,h6,h7,h8⟩:=hh;exact⟨xs1,x1,d,x2,xs2,css1,c1,v,c2,css2,Fs1,F1,F2,Fs2,e0,e1,e2,e3,h1,h2,h3,h4,h5,h6,h7,⟨h8.1,fun pl' e' =>by obtain⟨g2,q1,q2⟩:=hi q pl' e';exact h8.2 pl' (by rw[hren q g2 q1];exact q2)⟩⟩
   | arr e k d xs=>
     have:=Holds.mono (K' :=B) (φ' :=φi) (w' :=w) (pl:=pl) (fun _ _=>rfl) hKB (fun _ _=>rfl) (.arr e k d xs) (fun _ _ hm _=>by simp[jI] at hm) hh;exact this
  ·simp only[φi];cases hl:dC ren h with
   | none=>rfl
   | some g=>
     obtain⟨r,hr'⟩:=hkey h g hl;rw[hr] at hr';cases hr'
  ·obtain⟨g,q1,q2⟩:=hi h pl e;obtain⟨g',q1',q2'⟩:=hi h' pl' e';exact hG.disj g g' pl pl' (fun x=>by subst x;exact hne (aHl hinj q1 q1')) q2 q2'
  ·obtain⟨g,_,q2⟩:=hi h pl e;exact hG.nodup g pl q2
  ·obtain⟨g',_,q2⟩:=hi h pl e;exact(hG.ge g' pl q2 g hg).2
  obtain⟨g,q1,q2⟩:=hi h pl e;exact(hBB b hb').2 ⟨g,pl,aOY q1,q2,hm⟩
 refine(hC.2.2 _ φi w vs hI hargs).mono ?_;rintro e w' ⟨v,Kr,φ',rfl,hO,hmr'⟩
 have hfoot: ∀b,aMr φi b->gS φ (· ∈ren.map (·.2)) b:=fun b ⟨h,pl,_,e,hb⟩=>by
  obtain⟨g,q1,q2⟩:=hi h pl e;exact⟨g,pl,aOY q1,q2,hb⟩
 let on:=yC ren hb
 have hou: ∀h g,dC ren h=some g->on h=g:=fun h g e=>by simp only[on,yC,e]
 have hou' : ∀h,dC ren h=none->on h=hb+h:=fun h e=>by simp only[on,yC,e]
 let φr:iW:=fun g=>match aDv on ro g with | some h=>φ' h | none=>none
 have r1: ∀g pl,φr g=some pl-> ∃h r,on h=g/\bF ro h=some r/\φ' h=some pl:=fun g pl e=>by
  simp only[φr] at e;split at e
  ·rename_i h hh;obtain⟨q1,r,q2⟩:=aAZ hh;exact⟨h,r,q1,q2,e⟩
  cases e
 have r2: ∀h r,bF ro h=some r->φr (on h)=φ' h:=fun h r hr=>by
  simp only[φr];rw[aVL (on:=on) (fun h' r' hr' e=>hon h' h r' r hr' hr e) hr]
 have r3: ∀g pl,φr g=some pl->((∃pl0,φ g=some pl0/\pl.val=pl0.val/\pl.top=pl0.top)/\(∀t,g ∉ uZ (cF sl t))/\ ∀h' r,bH rs h' =some r->g ∉ aEy r)\/iI (mk sl rs) g:=fun g pl e=>by
  obtain⟨h,r,e1,e2,e3⟩:=r1 g pl e;cases hl:dC ren h with
  | some g' =>
    rw[hou h g' hl] at e1;subst e1;obtain⟨r0,hr0⟩:=hkey h _ hl;obtain⟨pl0,hp0,_⟩:=hI.dom h r0 hr0;have hpn:=hO.pin h pl pl0 e3 hp0;have hp:φ g' =some pl0:=by simp only[φi,hl] at hp0;exact hp0
    have:=hvw _ (dA e2) g' hl;exact .inl ⟨⟨pl0,hp,hpn⟩,this⟩
  | none=>
    rw[hou' h hl] at e1;rw[<-e1];exact .inr (hfr _ (dA e2) hl)
 have hKx: ∃K' :Nat->Prop,(∀b,K b->K' b)/\(∀b,K' b->K b\/(b<w'.heap.size/\(w.heap.size<=b\/gS φ (· ∈ren.map (·.2)) b)/\ ∀h pl,φr h=some pl->b ∉ pl.F))/\(aGv st rv=true->aJ Kr φ' w' rv v->aJ K' φ' w' rv v)/\(∀cs vs',(st || tQ cs)=true->aT Kr φ' w' cs vs' ->aT K' φ' w' cs vs')/\(∀e k d xs pl,(st || d)=true->Holds Kr φ' w' pl (.arr e k d xs)->Holds K' φ' w' pl (.arr e k d xs)):=by
  cases hst:st with
  | false=>
    refine⟨K,fun _ h=>h,fun _ h=> .inl h,fun hc hm=>?_,fun cs vs' hc hm=>?_,fun e k d xs pl hc hm=>?_⟩
    ·exact aCQ rv v (by simpa [aGv] using hc) hm
    ·exact pB cs vs' (by simpa using hc) hm
    have hd' :d=true:=by simpa using hc
    subst hd';exact hm
  | true=>
    refine⟨Kr,fun b hb=>hO.kk b (hKB b hb),fun b hb=>?_,fun _ hm=>hm,fun _ _ _ hm=>hm,fun _ _ _ _ _ _ hm=>hm⟩;obtain⟨q1,q2⟩:=hO.kin b hb;rcases q2 with q2 | q2 | q2
    ·exact .inl (hBK hst b q2)
    ·exact .inr ⟨q1,.inl q2,fun h pl e=>by obtain⟨h',r,_,_,e3⟩:=r1 h pl e;exact hO.kout b hb h' pl e3⟩
    exact .inr ⟨q1,.inr (hfoot b q2),fun h pl e=>by obtain⟨h',r,_,_,e3⟩:=r1 h pl e;exact hO.kout b hb h' pl e3⟩
 obtain⟨K',kx1,kx2,kx3,kx4,kx5⟩:=hKx
 have hst:=hG.stepV (C:=(· ∈ren.map (·.2))) (φr:=φr) (ρ:=bF (ro.map fun q=>(on q.1,aK5 on q.2))) (K' :=K') (w' :=w')
  (hO.chg.mono hfoot)
  (fun g pl e=>by
   obtain⟨h,r,_,_,e3⟩:=r1 g pl e;refine⟨hO.nodup h pl e3,fun b hb=>⟨(hO.ge h pl e3 b hb).2,(hO.ge h pl e3 b hb).1.imp id (hfoot b)⟩⟩)
  (fun g g' pl pl' hne e e' =>by
   obtain⟨h,r,q1,_,e3⟩:=r1 g pl e;obtain⟨h',r',q1',_,e3'⟩:=r1 g' pl' e';exact hO.disj h h' pl pl' (fun x=>by subst x;exact hne (q1.symm.trans q1')) e3 e3')
  (fun g r hr=>by
   obtain⟨h,r0,q1,q2,q3⟩:=aOX hr;subst q3;obtain⟨pl,hp,hh⟩:=hO.dom h r0 q2;have hin:=(aAZ q1).1;refine⟨pl,by rw[<-hin,r2 h r0 q2];exact hp,?_⟩;cases r0 with
   | box t cs=>
     obtain⟨g',vs',e1,e2,e3,e4⟩:=hh;refine⟨g',vs',e1,e2,e3,?_⟩;refine aT.map cs _ (fun k pl' hk e=>?_) (kx4 cs _ (hclr _ (dA q2)) e4);obtain⟨rk,hrk⟩:=hmr _ (dA q2) k hk;obtain⟨plk,hpk,_⟩:=hO.dom k rk hrk;have:dD (· ∈ren.map (·.2)) φr φ (on k)=some plk:=by simp only[dD,r2 k rk hrk,hpk]
     rw[this] at e;injection e with e
     subst e;exact hpk
   | hole e k xs i j q=>
     have hd' :=hclr _ (dA q2);simp[aHq] at hd'
   | arr e k d xs=>
     have hk5:=kx5 e k d xs pl (hclr _ (dA q2)) hh;cases d<;>exact hk5)
  (fun g hr=>by simp only[φr];rw[vZ hr])
  kx1 kx2
  (fun t g pl hm' e=>by
   rcases r3 g pl e with ⟨⟨pl0,q1,q3,q4⟩,q2,_⟩ | q
   ·exact⟨pl0,q1,q3,q4,fun hv=>absurd hv (q2 t)⟩
   exact absurd hm' (q.1 t))
  (fun h' r g pl _ hr hm' e=>by
   rcases r3 g pl e with ⟨⟨pl0,q1,q3,q4⟩,_,q2⟩ | q
   ·exact⟨pl0,q1,q3,q4,fun hv=>absurd hv (q2 h' r hr)⟩
   exact absurd hm' (q.2.1 h' r hr))
  (fun g pl e=>by
   rcases r3 g pl e with ⟨q1,_⟩ | q
   ·exact .inl q1
   exact .inr q.2.2.2)
 have hTr:aQX ri ren ro=true->Tr K φ w (· ∈ren.map (·.2)) (bF (ro.map fun q=>(on q.1,aK5 on q.2))) K' (dD (· ∈ren.map (·.2)) φr φ) w' :=fun hB=>by
  have same: ∀g pl,φr g=some pl->(φ g=some pl/\pl.sub= [])\/(iI (mk sl rs) g/\ ∃h r,on h=g/\bF ro h=some r/\φ' h=some pl):=fun g pl e=>by
   obtain⟨h,r,e1,e2,e3⟩:=r1 g pl e;cases hl:dC ren h with
   | some g' =>
     rw[hou h g' hl] at e1;subst e1;obtain⟨r0,hr0⟩:=hkey h _ hl;obtain⟨pl0,hp0,hh0⟩:=hI.dom h r0 hr0;obtain⟨pl1,hp1,hh1⟩:=hO.dom h r e2;have hpn:=hO.pin h pl pl0 e3 hp0;have hp:φ g' =some pl0:=by simp only[φi,hl] at hp0;exact hp0
     rw[e3] at hp1;injection hp1 with hp1
     subst hp1;have hb1:=aI4.1 hB _ (dA e2);simp only[hl,hr0,aCA] at hb1;obtain⟨c1,c2⟩:=hb1;cases r with
     | box t cs=>
       cases r0 with
       | box t0 cs0=>
         obtain⟨ga,_,ea,_⟩:=hh1;obtain⟨gb,_,eb,_⟩:=hh0;have hv:=hpn.1;rw[ea,eb] at hv;simp only[Value.pointer.injEq,Option.some.injEq] at hv;injection hv with hv
         subst hv;exact .inl ⟨by rw[hp,ea,eb],by rw[ea]⟩
       | arr _ _ _ _=>simp[aL0] at c2
       | hole _ _ _ _ _ _=>simp[aL0] at c2
     | arr _ _ _ _=>simp[aL0] at c1
     | hole _ _ _ _ _ _=>simp[aL0] at c1
   | none=>
     rw[hou' h hl] at e1;refine .inr ⟨by rw[<-e1];exact hfr _ (dA e2) hl,h,r,by rw[hou' h hl];exact e1,e2,e3⟩
  refine⟨hO.chg.mono hfoot,kx1,fun b h=>(kx2 b h).imp id (fun q=>q.2.1),fun g pl e=>?_,fun g pl e e' b hb=>?_⟩
  ·rcases cE e with q | ⟨_,_,q⟩
   ·rcases same g pl q with ⟨q1,_⟩ | ⟨q1,h,r,q2,q3,q4⟩
    ·exact .inl q1
    refine .inr ⟨hG.non g q1.2.2.1,?_,fun b hb=>(hO.ge h pl q4 b hb).1.imp id (hfoot b)⟩;cases hf:bF (ro.map fun q=>(on q.1,aK5 on q.2)) g with
    | some r' =>exact⟨r',rfl⟩
    | none=>
      have:=vZ hf;rw[<-q2,aVL (on:=on) (fun h' r' hr' e=>hon h' h r' r hr' q3 e) q3] at this;cases this
   exact .inl q
  rcases cE e with q | ⟨_,hc,_⟩
  ·rcases same g pl q with ⟨_,q1⟩ | ⟨q1,_⟩
   ·rw[q1] at hb;cases hb
   rw[hG.non g q1.2.2.1] at e';cases e'
  refine hO.chg.block b (hG.ge g pl e' b (aKS _ hb)).2 (fun hm=>?_);obtain⟨g2,pl2,hc2,hp2,hb2⟩:=hfoot b hm;by_cases ex:g=g2
  ·subst ex;exact hc hc2
  exact hG.disj g g2 pl pl2 ex e' hp2 b (aKS _ hb) hb2
 refine⟨K',dD (· ∈ren.map (·.2)) φr φ,v,rfl,hst.put hd (aJ.map rv v (fun k pl hk e=>?_) (kx3 hcl hmr')),hTr⟩;obtain⟨rk,hrk⟩:=hmt k hk;obtain⟨plk,hpk,_⟩:=hO.dom k rk hrk;have:dD (· ∈ren.map (·.2)) φr φ (on k)=some plk:=by simp only[dD,r2 k rk hrk,hpk]
 rw[this] at e;injection e with e
 subst e;exact hpk
end
def riW (rs:Rl)(ren:List (Nat × Nat)):List (Nat × Rs)->Prop->Prop
 | [],K=>K
 | (h,r)::l,K=>(match dC ren h with
   | some g=>(match bH rs g with | some r' =>EqR r' (aK5 (aVG ren) r) (riW rs ren l K) | none=>False)
   | none=>False)
theorem aVM {rs:Rl}{ren:List (Nat × Nat)}{K:Prop}: ∀{l:List (Nat × Rs)},riW rs ren l K->(∀h r,bF l h=some r-> ∃g,dC ren h=some g/\bH rs g=some (aK5 (aVG ren) r))/\K
 | [],h=>⟨by simp[bF],h⟩
 | (k,r0)::l,hw=>by
   unfold riW at hw;split at hw
   ·rename_i g hg;split at hw
    ·rename_i r' hr';obtain⟨e1,hw1⟩:=hw.eq;obtain⟨q1,q2⟩:=aVM hw1;refine⟨fun h r e=>?_,q2⟩;simp only[bF] at e;split at e
     ·rename_i ek;subst ek;injection e with e
      subst e;exact⟨g,hg,by rw[hr',e1]⟩
     exact q1 h r e
    cases hw
   cases hw
def vA (sl:Sl)(rs:Rl)(g:Nat):Bool:=sl.all (fun p=> !(uZ (cF sl p.1)).contains g)&&rs.all (fun p=>match bH rs p.1 with | some r=> !(aEy r).contains g | none=>true)
def aMs (st:Bool)(sl:Sl)(rs:Rl)(hb:Nat)(ri:List (Nat × Rs))(ren:List (Nat × Nat))(rv:AV)(ro:List (Nat × Rs)):Bool:=
 ren.all (fun q=>(bF ri q.1).isSome)&&nL (ren.map (·.2))&&aGv st rv&&(ro.all fun q=>aHq st q.2)&&(ro.all fun q=>match dC ren q.1 with | some g=>vA sl rs g | none=>gW sl rs (hb+q.1))&&
 ((cW rv).all fun h=>(bF ro h).isSome)&&(ro.all fun q=>(jI q.2).all fun h=>(bF ro h).isSome)&&(ro.all fun q=>ro.all fun q' =>Nat.beq q.1 q'.1 || !Nat.beq (yC ren hb q.1) (yC ren hb q'.1))
def aA0 (P:Program)(sl:Sl)(rs:Rl)(d:Nat)(f:FuncId)(avs:List AV)(t:T)(K:AV->List Nat->List (Nat × Rs)->T->Prop):Prop:=match t with
 | .callx fs ri ren rv ro t=>(match aMs false sl rs (100*d) ri ren rv ro with
   | true=>vX P f fs ri rv ro/\rS rs ren fs avs (riW rs ren ri (K (mP (yC ren (100*d)) rv) (ren.map (·.2)) (ro.map fun q=>(yC ren (100*d) q.1,aK5 (yC ren (100*d)) q.2)) t))
   | false=>False)
 | .callxs fs ri ren rv ro t=>(match aMs true sl rs (100*d) ri ren rv ro&&aHp fs avs with
   | true=>vX P f fs ri rv ro/\rS rs ren fs avs (riW rs ren ri (K (mP (yC ren (100*d)) rv) (ren.map (·.2)) (ro.map fun q=>(yC ren (100*d) q.1,aK5 (yC ren (100*d)) q.2)) t))
   | false=>False)
 | _=>False
theorem aYL {ren:List (Nat × Nat)}{h g:Nat}(e:dC ren h=some g):(h,g)∈ren:=by
 induction ren with
 | nil=>simp[dC] at e
 | cons q l ih=>
   obtain⟨k,v⟩:=q;unfold dC at e;split at e
   ·rename_i hb;injection e with e;have:=aFj hb;subst this;subst e;simp
   exact aVm _ (ih e)
theorem wM {sl:Sl}{rs:Rl}{g:Nat}(h:vA sl rs g=true):(∀t,g ∉ uZ (cF sl t))/\ ∀h' r,bH rs h' =some r->g ∉ aEy r:=by
 unfold vA at h;simp only[aCA,aI4] at h;refine⟨fun t ht=>?_,fun h' r hr hm=>?_⟩
 ·have hk: ∀(l:Sl),cF l t≠ .no->t∈l.map (·.1):=by
   intro l
   induction l with
   | nil=>intro h;simp[cF] at h
   | cons q l ih=>
     obtain⟨k,v⟩:=q;intro h;simp only[cF] at h;by_cases e:t=k
     ·simp[e]
     rw[if_neg e] at h;simp[ih h]
  have hne:cF sl t≠ .no:=fun e=>by rw[e] at ht;simp[uZ] at ht
  obtain⟨q,hq,rfl⟩:=aQO.1 (hk sl hne);have:=h.1 q hq;simp only[Bool.not_eq_true',List.contains_eq_mem,decide_eq_false_iff_not] at this;exact this ht
 have hk: ∀(l:Rl),bH l h' =some r->h' ∈l.map (·.1):=by
  intro l
  induction l with
  | nil=>intro h;simp[bH] at h
  | cons q l ih=>
    obtain⟨k,v⟩:=q;intro h;simp only[bH] at h;by_cases e:h' =k
    ·simp[e]
    rw[if_neg e] at h;simp[ih h]
 obtain⟨q,hq,rfl⟩:=aQO.1 (hk rs hr);have:=h.2 q hq;rw[hr] at this;simp only[Bool.not_eq_true',List.contains_eq_mem,decide_eq_false_iff_not] at this;exact this hm
def bAi:T->Bool
 | .callx _ ri ren _ ro _=>aQX ri ren ro
 | .callxs _ ri ren _ ro _=>aQX ri ren ro
 | _=>false
theorem aL1 {P:Program}{sl:Sl}{rs:Rl}{d:Nat}{f:FuncId}{avs fs:List AV}{ri ro:List (Nat × Rs)}{ren:List (Nat × Nat)}{rv:AV}{o:Oper}{t:T}{st:Bool}{K:AV->List Nat->List (Nat × Rs)->T->Prop}(hrun:kF P f=true-> ∀K φ A w0 N a w,G K φ A w0 N (mk sl rs) a w-> ∃vs:Array Value,(execOp a.eval o).run P w= .ok (.enter f vs) w/\aT K φ w avs vs.toList)(hset:st=true->aHp fs avs=true)(hb:aMs st sl rs (100*d) ri ren rv ro=true)
 (h:vX P f fs ri rv ro/\rS rs ren fs avs (riW rs ren ri (K (mP (yC ren (100*d)) rv) (ren.map (·.2)) (ro.map fun q=>(yC ren (100*d) q.1,aK5 (yC ren (100*d)) q.2)) t))): ∃v del new t',aCb P o (mk sl rs) ⟨v,del,new⟩ (aQX ri ren ro=true)/\K v del new t' :=by
 unfold aMs at hb;simp only[aCA,aI4] at hb;obtain⟨⟨⟨⟨⟨⟨⟨b1,b2⟩,b3⟩,b4⟩,b5⟩,b6⟩,b7⟩,b8⟩:=hb;obtain⟨hC,h⟩:=h;obtain⟨h1,h2⟩:=aEz (Q' :=True) _ _ _ h;obtain⟨h3,h4⟩:=aVM h1;refine⟨_,_,_,_,aOZ hset (hrun hC.1) hC (h2 trivial) h3 (fun h g e=>Option.isSome_iff_exists.1 (b1 _ (aYL e))) b2 b3 b4 (fun q hq hn=>?_) (fun k hk=>Option.isSome_iff_exists.1 (b6 k hk)) (fun q hq k hk=>Option.isSome_iff_exists.1 (b7 q hq k hk)) (fun k k' r r' e e' ex=>?_) (fun q hq g hg=>?_),h4⟩
 ·have:=b5 q hq;rw[hn] at this;exact gA this
 ·have:=b8 _ (dA e) _ (dA e');simp only[Bool.or_eq_true,Bool.not_eq_true'] at this;rcases this with q | q
  ·exact aFj q
  rw[ex,Nat.beq_refl] at q;cases q
 have:=b5 q hq;rw[hg] at this;exact wM this
theorem aHr {P:Program}{sl:Sl}{rs:Rl}{d:Nat}{f:FuncId}{avs:List AV}{o:Oper}{t:T}{K:AV->List Nat->List (Nat × Rs)->T->Prop}(hrun:kF P f=true-> ∀K φ A w0 N a w,G K φ A w0 N (mk sl rs) a w-> ∃vs:Array Value,(execOp a.eval o).run P w= .ok (.enter f vs) w/\aT K φ w avs vs.toList)(h:aA0 P sl rs d f avs t K): ∃v del new t',aCb P o (mk sl rs) ⟨v,del,new⟩ (bAi t=true)/\K v del new t' :=by
 unfold aA0 at h;split at h
 ·split at h
  ·rename_i hb;obtain⟨v,del,new,t',h1,h2⟩:=aL1 (st:=false) hrun (fun e=>by cases e) hb h;exact⟨v,del,new,t',h1,h2⟩
  cases h
 ·split at h
  ·rename_i hb;rw[aCA] at hb;obtain⟨v,del,new,t',h1,h2⟩:=aL1 (st:=true) hrun (fun _=>hb.2) hb.1 h;exact⟨v,del,new,t',h1,h2⟩
  cases h
 cases h
theorem aL2 {P:Program}{sl:Sl}{rs:Rl}{d:Nat}{f:FuncId}{avs:List AV}{o:Oper}{t:T}{K:AV->List Nat->List (Nat × Rs)->T->Prop}(hrun:kF P f=true-> ∀K φ A w0 N a w,G K φ A w0 N (mk sl rs) a w-> ∃vs:Array Value,(execOp a.eval o).run P w= .ok (.enter f vs) w/\aT K φ w avs vs.toList)(h:aA0 P sl rs d f avs t K): ∃v del new t',vU P o (mk sl rs) ⟨v,del,new⟩/\K v del new t' :=by
 obtain⟨v,del,new,t',h1,h2⟩:=aHr hrun h;exact⟨v,del,new,t',h1.to0,h2⟩
theorem aHs {P:Program}{sl:Sl}{rs:Rl}{d:Nat}{f:FuncId}{avs:List AV}{o:Oper}{t:T}{K:AV->List Nat->List (Nat × Rs)->T->Prop}(hrun:kF P f=true-> ∀K φ A w0 N a w,G K φ A w0 N (mk sl rs) a w-> ∃vs:Array Value,(execOp a.eval o).run P w= .ok (.enter f vs) w/\aT K φ w avs vs.toList)(h:aA0 P sl rs d f avs t K)(hb:bAi t=true): ∃v del new t',bL P o (mk sl rs) ⟨v,del,new⟩/\K v del new t' :=by
 obtain⟨v,del,new,t',h1,h2⟩:=aHr hrun h;exact⟨v,del,new,t',h1.full hb,h2⟩
theorem aY {α:Type}{l:List α}{k:Nat}{x y:α}(h:l[k]? =some x)(h' :l[k]? =some y):y=x:=by rw[h] at h';injection h' with e;exact e.symm
theorem cV.split {w:World}{k:Nat}: ∀{xs:List (List bR)} {css:List (List Value)} {Fs:List (List Nat)} {i:Nat} {x:List bR},cV w k xs css Fs->xs[i]? =some x->
 ∃xs1 xs2 css1 c css2 Fs1 F Fs2,xs=xs1++x::xs2/\css=css1++c::css2/\Fs=Fs1++F::Fs2/\xs1.length=i/\cV w k xs1 css1 Fs1/\x.length=k/\dN w x c F/\cV w k xs2 css2 Fs2
 | [],_,_,_,_,_,h=>by simp at h
 | y::xs,css,Fs,0,x,ho,h=>by
   unfold cV at ho;obtain⟨c,css',F,Fs',rfl,rfl,h1,h2,h3⟩:=ho;simp at h;subst h;exact⟨[],xs,[],c,css',[],F,Fs',rfl,rfl,rfl,rfl,by unfold cV;exact⟨rfl,rfl⟩,h1,h2,h3⟩
 | y::xs,css,Fs,i+1,x,ho,h=>by
   unfold cV at ho;obtain⟨c,css',F,Fs',rfl,rfl,h1,h2,h3⟩:=ho;simp at h;obtain⟨xs1,xs2,css1,c',css2,Fs1,F',Fs2,rfl,rfl,rfl,e,q1,q2,q3,q4⟩:=cV.split h3 h;exact⟨y::xs1,xs2,c::css1,c',css2,F::Fs1,F',Fs2,rfl,rfl,rfl,by simp[e],by unfold cV;exact⟨c,css1,F,Fs1,rfl,rfl,h1,h2,q1⟩,q2,q3,q4⟩
theorem dN.split {w:World}: ∀{x1 x2:List bR} {c:List Value} {F:List Nat},dN w (x1++x2) c F-> ∃c1 c2 F1 F2,c=c1++c2/\F=F1++F2/\dN w x1 c1 F1/\dN w x2 c2 F2
 | [],x2,c,F,h=>⟨[],c,[],F,rfl,rfl,by unfold dN;exact⟨rfl,rfl⟩,h⟩
 | p::x1,x2,c,F,h=>by
   rw[List.cons_append] at h;unfold dN at h;obtain⟨v,cs',F1,F2,rfl,rfl,h1,h2⟩:=h;obtain⟨c1,c2,G1,G2,rfl,rfl,q1,q2⟩:=dN.split h2;exact⟨v::c1,c2,F1++G1,G2,rfl,by simp,by unfold dN;exact⟨v,c1,F1,G1,rfl,rfl,h1,q1⟩,q2⟩
theorem dN.join {w:World}: ∀{x1 x2:List bR} {c1 c2:List Value} {F1 F2:List Nat},dN w x1 c1 F1->dN w x2 c2 F2->dN w (x1++x2) (c1++c2) (F1++F2)
 | [],x2,c1,c2,F1,F2,h,h' =>by unfold dN at h;rw[h.1,h.2];exact h'
 | p::x1,x2,c1,c2,F1,F2,h,h' =>by
   unfold dN at h;obtain⟨v,cs',G1,G2,rfl,rfl,h1,h2⟩:=h;rw[List.cons_append];unfold dN;exact⟨v,cs' ++c2,G1,G2++F2,rfl,by simp,h1,dN.join h2 h'⟩
theorem aVN {α:Type}{l:List α}{j:Nat}{y:α}(h:l[j]? =some y):l=l.take j++y::l.drop (j+1):=by
 obtain⟨hj,rfl⟩:=aGL.1 h;rw[List.getElem_cons_drop,List.take_append_drop]
section
variable {A:Nat->Prop} {w0:xU} {N:Nat} {sl:Sl} {rs:Rl} {a:Act} {w:World} {P:Program}
theorem aL3 {h i j h' e k e' k' :Nat}{xs:List (List bR)}{row:List bR}{ys:List (List bR)}(hr:bH rs h=some (.arr e k true xs))(hx:xs[i]? =some row)(hj:row[j]? =some (.sl e' k' ys))(hfr:iI (mk sl rs) h')(hv:vA sl rs h=true)
 (hg:wH A w0 N (mk sl rs) a w):wH A w0 N ((mk sl rs).apply none ⟨.no,[h],[(h,.hole e k xs i j h'),(h',.arr e' k' true ys)]⟩) a w:=by
 obtain⟨K,φ,hG⟩:=hg;obtain⟨pl,hp,css,Fs,q1,q2,q3,q4⟩:=hG.dom h _ hr;obtain⟨xs1,xs2,css1,c,css2,Fs1,F,Fs2,e1,e2,e3,e4,r1,r2,r3,r4⟩:=q4.split hx;have er:=aVN hj;rw[er] at r3;obtain⟨c1,c',F1,F',rfl,rfl,s1,s2⟩:=r3.split;unfold dN at s2;obtain⟨v,c2,Fd,F2,rfl,rfl,s3,s4⟩:=s2;have hvone:v.oneCell' =true:=aMe (qZ.rd (A:=fun _=>True) _ _ _ (fun _ _=>trivial) s3);unfold qZ at s3;obtain⟨css',Fs',t1,t2,t3⟩:=s3;have hjl:j<row.length:=(aGL.1 hj).1;have hne:h≠h' :=fun q=>by subst q;have:=hfr.2.2.1;rw[show (mk sl rs).res h=_ from hr] at this;cases this
 have hsub:pl.sub=Fs1.flatten++((F1++((v.ownBlock.toList++Fs'.flatten)++F2))++Fs2.flatten):=by rw[q3,e3,<-t2];simp
 have hnd:=hG.nodup h pl hp;unfold Pl.F at hnd;rw[hsub] at hnd
 let p1:Pl:=⟨pl.val,pl.top,Fs1.flatten++((F1++F2)++Fs2.flatten)⟩
 let p2:Pl:=⟨v,v.ownBlock.toList,Fs'.flatten⟩
 have hin1: ∀g∈p1.F,g∈pl.F:=fun g hg=>by
  simp only[p1,Pl.F,aKT] at hg;unfold Pl.F;rw[hsub];simp only[aKT];rcases hg with q | q | (q | q) | q
  ·exact .inl q
  ·exact .inr (.inl q)
  ·exact .inr (.inr (.inl (.inl q)))
  ·exact .inr (.inr (.inl (.inr (.inr q))))
  exact .inr (.inr (.inr q))
 have hin2: ∀g∈p2.F,g∈pl.F:=fun g hg=>by
  simp only[p2,Pl.F,aKT] at hg;unfold Pl.F;rw[hsub];simp only[aKT];rcases hg with q | q
  ·exact .inr (.inr (.inl (.inr (.inl (.inl q)))))
  exact .inr (.inr (.inl (.inr (.inl (.inr q)))))
 have hperm:(pl.top++(Fs1.flatten++((F1++((v.ownBlock.toList++Fs'.flatten)++F2))++Fs2.flatten))).Perm (p1.F++p2.F):=by
  simp only[p1,p2,Pl.F];generalize v.ownBlock.toList++Fs'.flatten=M;refine(List.perm_iff_count).2 fun x=>?_;simp only[List.count_append];omega
 have hnd2:=hperm.nodup_iff.1 hnd;have hnd3:=aU6.1 hnd2;obtain⟨hv1,hv2⟩:=wM hv
 have hst:=hG.stepV (C:=(· ∈[h])) (φr:=fun x=>if x=h then some p1 else if x=h' then some p2 else none) (ρ:=bF [(h,.hole e k xs i j h'),(h',.arr e' k' true ys)]) (K' :=K) (w' :=w)
  ⟨rfl,rfl,rfl,aUX _,fun _ _ _=>rfl⟩
  (fun x p hp' =>by
   split at hp'
   ·injection hp' with hp';subst hp'
    exact⟨hnd3.1,fun g hg=>⟨(hG.ge h pl hp g (hin1 g hg)).2,.inr ⟨h,pl,by simp,hp,hin1 g hg⟩⟩⟩
   split at hp'
   ·injection hp' with hp';subst hp'
    exact⟨hnd3.2.1,fun g hg=>⟨(hG.ge h pl hp g (hin2 g hg)).2,.inr ⟨h,pl,by simp,hp,hin2 g hg⟩⟩⟩
   cases hp')
  (fun x x' p p' hne' hp1 hp2 g hg hg' =>by
   split at hp1
   ·injection hp1 with hp1;subst hp1
    split at hp2
    ·rename_i a b;exact hne' (a.trans b.symm)
    split at hp2
    ·injection hp2 with hp2;subst hp2
     exact hnd3.2.2 g hg g hg' rfl
    cases hp2
   split at hp1
   ·injection hp1 with hp1;subst hp1
    split at hp2
    ·injection hp2 with hp2;subst hp2
     exact hnd3.2.2 g hg' g hg rfl
    split at hp2
    ·rename_i a _ b;exact hne' (a.trans b.symm)
    cases hp2
   cases hp1)
  (fun x r hr' =>by
   simp only[bF] at hr';split at hr'
   ·rename_i ex;injection hr' with hr';subst hr'
    refine⟨p1,by simp[ex],xs1,row.take j,.sl e' k' ys,row.drop (j+1),xs2,css1,c1,v,c2,css2,Fs1,F1,F2,Fs2,by rw[<-er];exact e1,e4,by simp;omega,by rw[<-er];exact r2,by rw[<-e2];exact q1,q2,rfl,r1,s1,s4,r4,hvone,fun pl' e'' =>?_⟩;simp only[dD] at e'';rw[if_neg (Ne.symm hne)] at e'';simp only[if_true,Option.some.injEq] at e'';subst e'';rfl
   rename_i ex;split at hr'
   ·rename_i ex';injection hr' with hr';subst hr'
    exact⟨p2,by rw[if_neg ex,if_pos ex'],css',Fs',t1,rfl,rfl,t3⟩
   cases hr')
  (fun x hr' =>by
   simp only[bF] at hr';split at hr'
   ·cases hr'
   rename_i ex;split at hr'
   ·cases hr'
   rename_i ex';rw[if_neg ex,if_neg ex'])
  (fun _ h=>h) (fun _ h=> .inl h)
  (fun t x p hm hp' =>by
   split at hp'
   ·rename_i ex;injection hp' with hp';subst hp';subst ex
    exact⟨pl,hp,rfl,rfl,fun q=>absurd q (hv1 t)⟩
   split at hp'
   ·rename_i ex;subst ex;exact absurd hm (hfr.1 t)
   cases hp')
  (fun h2 r x p _ hr' hm hp' =>by
   split at hp'
   ·rename_i ex;injection hp' with hp';subst hp';subst ex
    exact⟨pl,hp,rfl,rfl,fun q=>absurd q (hv2 h2 r hr')⟩
   split at hp'
   ·rename_i ex;subst ex;exact absurd hm (hfr.2.1 h2 r hr')
   cases hp')
  (fun x p hp' =>by
   split at hp'
   ·rename_i ex;injection hp' with hp';subst hp';subst ex
    exact .inl ⟨pl,hp,rfl,rfl⟩
   split at hp'
   ·rename_i ex;subst ex;exact .inr hfr.2.2.2
   cases hp')
 exact⟨K,_,hst⟩
theorem aVO {h i j h' e k e' k' :Nat}{xs:List (List bR)}{row:List bR}{ys:List (List bR)}(hr:bH rs h=some (.hole e k xs i j h'))(hr' :bH rs h' =some (.arr e' k' true ys))(hx:xs[i]? =some row)(hv:vA sl rs h=true)
 (hg:wH A w0 N (mk sl rs) a w):wH A w0 N ((mk sl rs).apply none ⟨.no,[h,h'],[(h,.arr e k true (xs.set i (row.take j++ .sl e' k' ys::row.drop (j+1))))]⟩) a w:=by
 obtain⟨K,φ,hG⟩:=hg;obtain⟨pl,hp,xs1,x1,d,x2,xs2,css1,c1,v,c2,css2,Fs1,F1,F2,Fs2,e0,e1,e2,e3,h1,h2,h3,h4,h5,h6,h7,h8⟩:=hG.dom h _ hr;obtain⟨pl',hp',css',Fs',q1,q2,q3,q4⟩:=hG.dom h' _ hr';have hvv:=h8.2 pl' hp';have hne:h≠h' :=fun q=>by subst q;rw[hr] at hr';cases hr'
 have erow:row=x1++d::x2:=by
  rw[e0,aNW (by omega)] at hx;simp[e1] at hx;exact hx.symm
 have eset:xs.set i (row.take j++ .sl e' k' ys::row.drop (j+1))=xs1++(x1++ .sl e' k' ys::x2)::xs2:=by
  rw[e0,List.set_append_right _ _ (by omega),erow,<-e2];simp[e1]
 have hdis:=hG.disj h h' pl pl' hne hp hp'
 let p1:Pl:=⟨pl.val,pl.top,Fs1.flatten++((F1++(pl'.F++F2))++Fs2.flatten)⟩
 have hperm:p1.F.Perm (pl.F++pl'.F):=by
  simp only[p1,Pl.F,h3];refine(List.perm_iff_count).2 fun x=>?_;simp only[List.count_append];omega
 have hmem: ∀g,g∈p1.F->g∈pl.F\/g∈pl'.F:=fun g hg=>by
  have:=hperm.mem_iff.1 hg;simpa using this
 have hnd:p1.F.Nodup:=hperm.nodup_iff.2 (by
  rw[aU6];exact⟨hG.nodup h pl hp,hG.nodup h' pl' hp',fun x hx y hy exy=>by subst exy;exact hdis x hx hy⟩)
 obtain⟨hv1,hv2⟩:=wM hv
 have hst:=hG.stepV (C:=(· ∈[h,h'])) (φr:=fun x=>if x=h then some p1 else none) (ρ:=bF [(h,.arr e k true (xs.set i (row.take j++ .sl e' k' ys::row.drop (j+1))))]) (K' :=K) (w' :=w)
  ⟨rfl,rfl,rfl,aUX _,fun _ _ _=>rfl⟩
  (fun x p hp1=>by
   split at hp1
   ·injection hp1 with hp1;subst hp1
    refine⟨hnd,fun g hg=>?_⟩;rcases hmem g hg with q | q
    ·exact⟨(hG.ge h pl hp g q).2,.inr ⟨h,pl,by simp,hp,q⟩⟩
    exact⟨(hG.ge h' pl' hp' g q).2,.inr ⟨h',pl',by simp,hp',q⟩⟩
   cases hp1)
  (fun x x' p p' hne' hp1 hp2 g hg hg' =>by
   split at hp1
   ·split at hp2
    ·rename_i a b;exact hne' (a.trans b.symm)
    cases hp2
   cases hp1)
  (fun x r hr2=>by
   simp only[bF] at hr2;split at hr2
   ·rename_i ex;injection hr2 with hr2;subst hr2
    rw[eset];refine⟨p1,by simp[ex],css1++(c1++v::c2)::css2,Fs1++(F1++(pl'.F++F2))::Fs2,?_,h2,by simp[p1],h4.append ?_⟩
    ·have:(xs1++(x1++bR.sl e' k' ys::x2)::xs2).length=xs.length:=by rw[e0];simp
     rw[this];exact h1
    unfold cV;refine⟨_,_,_,_,rfl,rfl,by rw[<-e3];simp,h5.join ?_,h7⟩;unfold dN;refine⟨v,c2,pl'.F,F2,rfl,rfl,?_,h6⟩;unfold qZ;exact⟨css',Fs',by rw[hvv];exact q1,by rw[hvv];unfold Pl.F;rw[q2,q3],q4⟩
   cases hr2)
  (fun x hr2=>by
   simp only[bF] at hr2;split at hr2
   ·cases hr2
   rename_i ex;rw[if_neg ex])
  (fun _ h=>h) (fun _ h=> .inl h)
  (fun t x p hm hp1=>by
   split at hp1
   ·rename_i ex;injection hp1 with hp1;subst hp1;subst ex
    exact⟨pl,hp,rfl,rfl,fun q=>absurd q (hv1 t)⟩
   cases hp1)
  (fun h2 r x p _ hr2 hm hp1=>by
   split at hp1
   ·rename_i ex;injection hp1 with hp1;subst hp1;subst ex
    exact⟨pl,hp,rfl,rfl,fun q=>absurd q (hv2 h2 r hr2)⟩
   cases hp1)
  (fun x p hp1=>by
   split at hp1
   ·rename_i ex;injection hp1 with hp1;subst hp1;subst ex
    exact .inl ⟨pl,hp,rfl,rfl⟩
   cases hp1)
 exact⟨K,_,hst⟩
theorem aSu {h i h' e k:Nat}{xs pre post:List (List bR)}{d0:bR}(hr:bH rs h=some (.hole e k xs i 0 h'))(hxs:xs=pre++[d0]::post)(hi:pre.length=i)(hv:vA sl rs h=true)
 (hg:wH A w0 N (mk sl rs) a w):wH A w0 N ((mk sl rs).apply none ⟨.no,[h],[(h,.arr e k true (pre++[.gone]::post))]⟩) a w:=by
 obtain⟨K,φ,hG⟩:=hg;obtain⟨pl,hp,xs1,x1,d,x2,xs2,css1,c1,v,c2,css2,Fs1,F1,F2,Fs2,e0,e1,e2,e3,h1,h2,h3,h4,h5,h6,h7,h8⟩:=hG.dom h _ hr;have ex1:x1= []:=aKV e2;subst ex1
 have epre:xs1=pre/\(([]:List bR)++d::x2)= [d0]/\xs2=post:=by
  rw[e0] at hxs;have hl:xs1.length=pre.length:=by omega
  have:=List.append_inj hxs hl;simp only[List.cons.injEq] at this;exact⟨this.1,this.2.1,this.2.2⟩
 obtain⟨rfl,er,rfl⟩:=epre;have ex2:x2= []:=by simpa using (List.cons.inj er).2
 subst ex2;unfold dN at h5 h6;obtain⟨rfl,rfl⟩:=h5;obtain⟨rfl,rfl⟩:=h6;have hcell:v.oneCell' =true:=h8.1;obtain⟨hv1,hv2⟩:=wM hv
 have hst:=hG.stepV (C:=(· ∈[h])) (φr:=fun x=>if x=h then some pl else none) (ρ:=bF [(h,.arr e k true (xs1++[.gone]::xs2))]) (K' :=K) (w' :=w)
  ⟨rfl,rfl,rfl,aUX _,fun _ _ _=>rfl⟩
  (fun x p hp1=>by
   split at hp1
   ·injection hp1 with hp1;subst hp1
    exact⟨hG.nodup h pl hp,fun g hg=>⟨(hG.ge h pl hp g hg).2,.inr ⟨h,pl,by simp,hp,hg⟩⟩⟩
   cases hp1)
  (fun x x' p p' hne' hp1 hp2 g hg hg' =>by
   split at hp1
   ·split at hp2
    ·rename_i a b;exact hne' (a.trans b.symm)
    cases hp2
   cases hp1)
  (fun x r hr2=>by
   simp only[bF] at hr2;split at hr2
   ·rename_i ex;injection hr2 with hr2;subst hr2
    refine⟨pl,by simp[ex],css1++([]++v::[])::css2,Fs1++([]:List Nat)::Fs2,?_,h2,by rw[h3];simp,h4.append ?_⟩
    ·have:(xs1++[bR.gone]::xs2).length=xs.length:=by rw[e0];simp
     rw[this];exact h1
    unfold cV;refine⟨_,_,_,_,rfl,rfl,by rw[<-e3];simp,?_,h7⟩;unfold dN;refine⟨v,[],[],[],rfl,rfl,?_,?_⟩
    ·unfold qZ;exact⟨hcell,rfl⟩
    unfold dN;exact⟨rfl,rfl⟩
   cases hr2)
  (fun x hr2=>by
   simp only[bF] at hr2;split at hr2
   ·cases hr2
   rename_i ex;rw[if_neg ex])
  (fun _ h=>h) (fun _ h=> .inl h)
  (fun t x p hm hp1=>by
   split at hp1
   ·rename_i ex;injection hp1 with hp1;subst hp1;subst ex
    exact⟨pl,hp,rfl,rfl,fun q=>absurd q (hv1 t)⟩
   cases hp1)
  (fun h2 r x p _ hr2 hm hp1=>by
   split at hp1
   ·rename_i ex;injection hp1 with hp1;subst hp1;subst ex
    exact⟨pl,hp,rfl,rfl,fun q=>absurd q (hv2 h2 r hr2)⟩
   cases hp1)
  (fun x p hp1=>by
   split at hp1
   ·rename_i ex;injection hp1 with hp1;subst hp1;subst ex
    exact .inl ⟨pl,hp,rfl,rfl⟩
   cases hp1)
 exact⟨K,_,hst⟩
theorem cV.rdRows {K:Nat->Prop}{w:World}{k:Nat}: ∀{xs:List (List bR)} {css:List (List Value)} {Fs:List (List Nat)},(∀g∈Fs.flatten,K g)->cV w k xs css Fs->eV K w k xs css
 | [],_,_,_,h=>by unfold cV at h;exact h.1
 | x::xs,_,_,hF,h=>by
   unfold cV at h;obtain⟨c,css',F,Fs',rfl,rfl,h1,h2,h3⟩:=h;exact⟨c,css',rfl,h1,dN.rd x c F (fun g hg=>hF g (by simp[hg])) h2,cV.rdRows (fun g hg=>hF g (by simp only[aOc,aKT];exact .inr hg)) h3⟩
theorem aVP {h e k:Nat}{xs:List (List bR)}(hr:bH rs h=some (.arr e k true xs))(hv:vA sl rs h=true)
 (hg:wH A w0 N (mk sl rs) a w):wH A w0 N ((mk sl rs).apply none ⟨.no,[h],[(h,.arr e k false xs)]⟩) a w:=by
 obtain⟨K,φ,hG⟩:=hg;obtain⟨pl,hp,css,Fs,q1,q2,q3,q4⟩:=hG.dom h _ hr;obtain⟨hv1,hv2⟩:=wM hv
 let p1:Pl:=⟨pl.val,pl.top,[]⟩
 have hnd:=aU6.1 (hG.nodup h pl hp);have hF1: ∀g∈p1.F,g∈pl.top:=fun g hg=>by simpa [p1,Pl.F] using hg
 have hst:=hG.stepV (C:=(· ∈[h])) (φr:=fun x=>if x=h then some p1 else none) (ρ:=bF [(h,.arr e k false xs)]) (K' :=fun b=>K b\/b∈pl.sub) (w' :=w)
  ⟨rfl,rfl,rfl,aUX _,fun _ _ _=>rfl⟩
  (fun x p hp1=>by
   split at hp1
   ·injection hp1 with hp1;subst hp1
    refine⟨by simpa [p1,Pl.F] using hnd.1,fun g hg=>?_⟩;have hm:g∈pl.F:=aL6 _ (hF1 g hg);exact⟨(hG.ge h pl hp g hm).2,.inr ⟨h,pl,by simp,hp,hm⟩⟩
   cases hp1)
  (fun x x' p p' hne' hp1 hp2 g hg hg' =>by
   split at hp1
   ·split at hp2
    ·rename_i a b;exact hne' (a.trans b.symm)
    cases hp2
   cases hp1)
  (fun x r hr2=>by
   simp only[bF] at hr2;split at hr2
   ·rename_i ex;injection hr2 with hr2;subst hr2
    exact⟨p1,by simp[ex],css,q1,q2,rfl,q4.rdRows fun g hg=> .inr (by rw[q3];exact hg)⟩
   cases hr2)
  (fun x hr2=>by
   simp only[bF] at hr2;split at hr2
   ·cases hr2
   rename_i ex;rw[if_neg ex])
  (fun _ hb=> .inl hb)
  (fun b hb=>by
   rcases hb with hb | hb
   ·exact .inl hb
   have hm:b∈pl.F:=aKS _ hb;refine .inr ⟨(hG.ge h pl hp b hm).2,.inr ⟨h,pl,by simp,hp,hm⟩,fun x p hp1 hb1=>?_⟩;split at hp1
   ·injection hp1 with hp1;subst hp1
    exact hnd.2.2 b (hF1 b hb1) b hb rfl
   cases hp1)
  (fun t x p hm hp1=>by
   split at hp1
   ·rename_i ex;injection hp1 with hp1;subst hp1;subst ex
    exact⟨pl,hp,rfl,rfl,fun q=>absurd q (hv1 t)⟩
   cases hp1)
  (fun h2 r x p _ hr2 hm hp1=>by
   split at hp1
   ·rename_i ex;injection hp1 with hp1;subst hp1;subst ex
    exact⟨pl,hp,rfl,rfl,fun q=>absurd q (hv2 h2 r hr2)⟩
   cases hp1)
  (fun x p hp1=>by
   split at hp1
   ·rename_i ex;injection hp1 with hp1;subst hp1;subst ex
    exact .inl ⟨pl,hp,rfl,rfl⟩
   cases hp1)
 exact⟨_,_,hst⟩
theorem aYM {h:Nat}{r r' :Rs}(hr:bH rs h=some r)(hH: ∀K φ pl,Holds K φ w pl r->Holds K φ w pl r')(hg:wH A w0 N (mk sl rs) a w):wH A w0 N ((mk sl rs).apply none ⟨.no,[h],[(h,r')]⟩) a w:=by
 obtain⟨K,φ,hG⟩:=hg;refine⟨K,φ,fun h1 r1 h2=>?_,fun h1 h2=>?_,hG.disj,hG.nodup,hG.ge,hG.kin,hG.kout,hG.aK,hG.slots,hG.bel,hG.nd,hG.size,hG.pin⟩
 ·simp only[St.apply,St.put,gF,bF,aX7] at h2;by_cases e:h1=h
  ·subst e;simp only[if_true,Option.some.injEq] at h2;subst h2;obtain⟨pl,hp,hh⟩:=hG.dom h1 r hr;exact⟨pl,hp,hH K φ pl hh⟩
  simp only[if_neg e] at h2;exact hG.dom h1 r1 h2
 simp only[St.apply,St.put,gF,bF,aX7] at h2;by_cases e:h1=h
 ·subst e;simp at h2
 simp only[if_neg e] at h2;exact hG.non h1 h2
theorem aFd {K:Nat->Prop}{φ:iW}{w:World}{e k:Nat}: ∀{cs:List AV} {vs:List Value} {off:Nat},cs[off]? =some .nil->aT K φ w cs vs->aT K φ w (cs.set off (.p none (.sl e k []))) vs
 | [],_,_,h,_=>by simp at h
 | c::cs,vs,0,h,hm=>by
   simp at h;subst h;rw[List.set_cons_zero];unfold aT at*;obtain⟨v,vs',rfl,h1,h2⟩:=hm;refine⟨v,vs',rfl,?_,h2⟩;unfold aJ at*;rw[h1];exact uW
 | c::cs,vs,off+1,h,hm=>by
   rw[List.set_cons_succ];unfold aT at*;obtain⟨v,vs',rfl,h1,h2⟩:=hm;exact⟨v,vs',rfl,h1,aFd (by simpa using h) h2⟩
theorem aVQ {h off e k ty:Nat}{cs:List AV}(hr:bH rs h=some (.box ty cs))(hc:cs[off]? =some .nil)(hg:wH A w0 N (mk sl rs) a w):wH A w0 N ((mk sl rs).apply none ⟨.no,[h],[(h,.box ty (cs.set off (.p none (.sl e k []))))]⟩) a w:=
 aYM hr (fun K φ pl ⟨g,vs,q1,q2,q3,q4⟩=>⟨g,vs,q1,q2,q3,aFd hc q4⟩) hg
end
theorem aVR {A:Nat->Prop}{w0:xU}{N:Nat}{sl:Sl}{rs:Rl}{a:Act}{w:World}{h ty:Nat}{cs ys:List AV}{hs:List Nat}(hr:bH rs h=some (.box ty cs))(hq:aQR rs cs=some (ys,hs))(hnd:(h::hs).Nodup)(hg:wH A w0 N (mk sl rs) a w):wH A w0 N ((mk sl rs).apply none ⟨.no,h::hs,[(h,.box ty ys)]⟩) a w:=by
 obtain⟨K,φ,hG⟩:=hg;obtain⟨pl,hp,g,vs,q1,q2,q3,q4⟩:=hG.dom h _ hr;have hne: ∀h0∈hs,h0≠h:=fun h0 hm e=>(List.nodup_cons.1 hnd).1 (e▸hm)
 have hst:=hG.step (C:=(· ∈h::hs)) (φr:=fun x=>if x=h then some pl else none) (ρ:=bF [(h,.box ty ys)]) (K' :=fun b=>K b\/gS φ (· ∈hs) b) (w' :=w)
  ⟨rfl,rfl,rfl,aUX _,fun _ _ _=>rfl⟩
  (fun x pl' e=>by
   split at e
   ·rename_i ex;injection e with e
    subst e;subst ex;exact⟨hG.nodup _ _ hp,fun b hb=>⟨(hG.ge _ _ hp b hb).2,.inr ⟨_,_,aUc,hp,hb⟩⟩⟩
   cases e)
  (fun x x' pl1 pl2 hx e e' =>by
   split at e
   ·split at e'
    ·subst_vars;exact absurd rfl hx
    cases e'
   cases e)
  (fun x r e=>by
   simp only[bF] at e;split at e
   ·rename_i ex;injection e with e
    subst e;subst ex;exact⟨pl,by simp,g,vs,q1,q2,q3,aMp hG (fun _ hb=> .inl hb) hq (fun _ hb=> .inr hb) q4⟩
   cases e)
  (fun x e=>by
   simp only[bF] at e;split at e
   ·cases e
   rename_i ex;rw[if_neg ex])
  (fun _ hb=> .inl hb)
  (fun b hb=>by
   rcases hb with hb | hb
   ·exact .inl hb
   obtain⟨h0,pl0,hm,hp0,hb'⟩:=hb;refine .inr ⟨(hG.ge h0 pl0 hp0 b hb').2,.inr ⟨h0,pl0,aVm _ hm,hp0,hb'⟩,fun x pl' e=>?_⟩;split at e
   ·rename_i ex;injection e with e
    subst e;subst ex;exact hG.disj h0 x pl0 pl (hne h0 hm) hp0 hp b hb'
   cases e)
  (fun _ x pl' _ e=>by
   split at e
   ·rename_i ex;injection e with e
    subst e;subst ex;exact⟨hp,fun _ _=>rfl⟩
   cases e)
  (fun _ _ x pl' _ _ _ e=>by
   split at e
   ·rename_i ex;injection e with e
    subst e;subst ex;exact⟨hp,fun _ _=>rfl⟩
   cases e)
  (fun x pl' e=>by
   split at e
   ·rename_i ex;injection e with e
    subst e;subst ex;exact .inl hp
   cases e)
 exact⟨_,_,hst⟩
def gh1 (id:Nat)(sl:Sl)(rs:Rl)(t:T)(K:Rl->T->Prop):Prop:=match t with
 | .split rid h i j h' α enc l t=>(match Nat.beq rid id with
  | false=>K [] (.split rid h i j h' α enc l t)
  | true=>(match bH rs h with
   | some (.arr e k true xs)=>(match gW sl rs h' &&vA sl rs h with
     | true=>xs=l.map enc/\i<l.length/\ ∀x,l[i]? =some x->(match (enc x)[j]? with
       | some (.sl e' k' ys)=>K (pP [(h,.hole e k (l.map enc) i j h'),(h',.arr e' k' true ys)]++lL [h]) (t x)
       | _=>False)
     | false=>False)
   | _=>False))
 | .join rid h h' α enc l y t=>(match Nat.beq rid id with
  | false=>K [] (.join rid h h' α enc l y t)
  | true=>(match bH rs h with
   | some (.hole e k xs i j h2)=>(match bH rs h' with
     | some (.arr e' k' true ys)=>(match Nat.beq h2 h' &&vA sl rs h with
       | true=>xs=l.map enc/\i<l.length/\ ∀x,l[i]? =some x->(enc x).take j++ .sl e' k' ys::(enc x).drop (j+1)=enc (y x)/\K (pP [(h,.arr e k true ((l.set i (y x)).map enc))]++lL [h,h']) (t x)
       | false=>False)
     | _=>False)
   | _=>False))
 | .takeg rid h n h' α enc l t=>(match Nat.beq rid id with
  | false=>K [] (.takeg rid h n h' α enc l t)
  | true=>(match bH rs h with
   | some (.arr e k true xs)=>(match gW sl rs h' &&vA sl rs h with
     | true=>xs=List.replicate n [.gone]++l.map enc/\l≠[]/\ ∀x l',l=x::l' ->(match enc x with
       | .sl e' k' ys::[]=>K (pP [(h,.hole e k (List.replicate n [.gone]++(x::l').map enc) n 0 h'),(h',.arr e' k' true ys)]++lL [h]) (t x l')
       | _=>False)
     | false=>False)
   | _=>False))
 | .leave rid h n h' α enc x l t=>(match Nat.beq rid id with
  | false=>K [] (.leave rid h n h' α enc x l t)
  | true=>(match bH rs h with
   | some (.hole e k xs i j h2)=>(match Nat.beq j 0&&vA sl rs h with
     | true=>(match enc x with
       | _::[]=>xs=List.replicate n [.gone]++(x::l).map enc/\i=n/\K (pP [(h,.arr e k true (List.replicate (n+1) [.gone]++l.map enc))]++lL [h]) t
       | _=>False)
     | false=>False)
   | _=>False))
 | .shal rid h t=>(match Nat.beq rid id with
  | false=>K [] (.shal rid h t)
  | true=>(match bH rs h with
   | some (.arr e k true xs)=>(match vA sl rs h with
     | true=>K (pP [(h,.arr e k false xs)]++lL [h]) t
     | false=>False)
   | _=>False))
 | .nilt rid h off e k t=>(match Nat.beq rid id with
  | false=>K [] (.nilt rid h off e k t)
  | true=>(match bH rs h with
   | some (.box ty cs)=>(match cs[off]? with
     | some .nil=>K (pP [(h,.box ty (cs.set off (.p none (.sl e k []))))]++lL [h]) t
     | _=>False)
   | _=>False))
 | .stlb rid h t=>(match Nat.beq rid id with
  | false=>K [] (.stlb rid h t)
  | true=>(match bH rs h with
   | some (.box ty cs)=>(match aQR rs cs with
     | some q=>(match nL (h::q.2) with
       | true=>K (pP [(h,.box ty q.1)]++lL (h::q.2)) t
       | false=>False)
     | none=>False)
   | _=>False))
 | t=>K [] t
theorem aO0 {α β:Type}(f:α->β)(l:List α)(i:Nat)(x:α):(l.set i x).map f=(l.map f).set i (f x):=by rw[List.map_set]
theorem aVS {id:Nat}{sl:Sl}{rs:Rl}{t:T}{K:Rl->T->Prop}(h:gh1 id sl rs t K): ∃new t',(∀A w0 N a w,wH A w0 N (mk sl rs) a w->wH A w0 N (mk sl (new++rs)) a w)/\K new t' :=by
 unfold gh1 at h;split at h
 ·rename_i rid h0 i j h' α enc l t';split at h
  ·exact⟨[],_,fun _ _ _ _ _ h=>h,h⟩
  split at h
  ·rename_i e k xs hr;split at h
   ·rename_i hb;rw[aCA] at hb;obtain⟨rfl,hi,h⟩:=h;have hx:=aFZ hi;have h:=h _ hx;split at h
    ·rename_i e' k' ys hj;refine⟨_,_,fun A w0 N a w hg=>?_,h⟩;have:=aL3 hr (aHe hx) hj (gA hb.1) hb.2 hg;rw[kY] at this;rw[aMd];exact this
    cases h
   cases h
  cases h
 ·rename_i rid h0 h' α enc l y t';split at h
  ·exact⟨[],_,fun _ _ _ _ _ h=>h,h⟩
  split at h
  ·rename_i e k xs i j h2 hr;split at h
   ·rename_i e' k' ys hr';split at h
    ·rename_i hb;rw[aCA] at hb;have:=aFj hb.1;subst this;obtain⟨rfl,hi,h⟩:=h;have hx:=aFZ hi;obtain⟨h3,h4⟩:=h _ hx;refine⟨_,_,fun A w0 N a w hg=>?_,h4⟩;have:=aVO hr hr' (aHe hx) hb.2 hg;rw[kY,h3,<-aO0] at this;rw[aMd];exact this
    cases h
   cases h
  cases h
 ·rename_i rid h0 n h' α enc l t';split at h
  ·exact⟨[],_,fun _ _ _ _ _ h=>h,h⟩
  split at h
  ·rename_i e k xs hr;split at h
   ·rename_i hb;rw[aCA] at hb;obtain⟨rfl,hne,h⟩:=h;cases l with
    | nil=>exact absurd rfl hne
    | cons x l' =>
      have h:=h x l' rfl;split at h
      ·rename_i e' k' ys hj;refine⟨_,_,fun A w0 N a w hg=>?_,h⟩
       have hx:(List.replicate n [bR.gone]++(x::l').map enc)[n]? =some (enc x):=by
        rw[aNW (by simp)];simp
       have:=aL3 (j:=0) hr hx (by rw[hj];rfl) (gA hb.1) hb.2 hg;rw[kY] at this;rw[aMd];exact this
      cases h
   cases h
  cases h
 ·rename_i rid h0 n h' α enc x l t';split at h
  ·exact⟨[],_,fun _ _ _ _ _ h=>h,h⟩
  split at h
  ·rename_i e k xs i j h2 hr;split at h
   ·rename_i hb;simp only[aCA] at hb;have:=aFj hb.1;subst this;split at h
    ·rename_i d0 hd;obtain⟨rfl,rfl,h4⟩:=h;refine⟨_,_,fun A w0 N a w hg=>?_,h4⟩;have:=aSu (pre:=List.replicate i [bR.gone]) (post:=l.map enc) (d0:=d0) hr (by rw[aLz,hd]) (by simp) hb.2 hg;rw[kY] at this;rw[aMd]
     have e2:List.replicate (i+1) [bR.gone]++l.map enc=List.replicate i [bR.gone]++[bR.gone]::l.map enc:=by
      rw[List.replicate_succ',aMd];rfl
     rw[e2];exact this
    cases h
   cases h
  cases h
 ·rename_i rid h0 t';split at h
  ·exact⟨[],_,fun _ _ _ _ _ h=>h,h⟩
  split at h
  ·rename_i e k xs hr;split at h
   ·rename_i hb;refine⟨_,_,fun A w0 N a w hg=>?_,h⟩;have:=aVP hr hb hg;rw[kY] at this;rw[aMd];exact this
   cases h
  cases h
 ·rename_i rid h0 off e k t';split at h
  ·exact⟨[],_,fun _ _ _ _ _ h=>h,h⟩
  split at h
  ·rename_i ty cs hr;split at h
   ·rename_i hc;refine⟨_,_,fun A w0 N a w hg=>?_,h⟩;have:=aVQ (e:=e) (k:=k) hr hc hg;rw[kY] at this;rw[aMd];exact this
   cases h
  cases h
 ·rename_i rid h0 t';split at h
  ·exact⟨[],_,fun _ _ _ _ _ h=>h,h⟩
  split at h
  ·rename_i ty cs hr;split at h
   ·rename_i q hq;split at h
    ·rename_i hn;refine⟨_,_,fun A w0 N a w hg=>?_,h⟩;have:=aVR hr (ys:=q.1) (hs:=q.2) (by rw[hq]) (qA hn) hg;rw[kY] at this;rw[aMd];exact this
    cases h
   cases h
  cases h
 exact⟨[],t,fun _ _ _ _ _ h=>h,h⟩
theorem G.reput {K:Nat->Prop}{φ:iW}{A:Nat->Prop}{w0:xU}{N:Nat}{S:St}{a:Act}{w:World}(hG:G K φ A w0 N S a w){d:Nat}{x:AV}(hx:aJ K φ w x (a.tmps.getD d undef)):G K φ A w0 N (S.put (some d) x) a w:=by
 refine⟨hG.dom,hG.non,hG.disj,hG.nodup,hG.ge,hG.kin,hG.kout,hG.aK,fun t=>?_,hG.bel,hG.nd,hG.size,hG.pin⟩;simp only[St.put,upd];by_cases e:t=d
 ·subst e;rw[if_pos rfl];exact hx
 rw[if_neg e];exact hG.slots t
theorem aVT {A:Nat->Prop}{w0:xU}{N:Nat}{sl:Sl}{rs:Rl}{a:Act}{w:World}{d:Nat}{y:AV}{hs:List Nat}(h:aSl rs (cF sl d)=some (y,hs))(hg:wH A w0 N (mk sl rs) a w):wH A w0 N (mk ((d,y)::sl) (lL hs++rs)) a w:=by
 obtain⟨K,φ,hG⟩:=hg
 have hst:=hG.step (C:=(· ∈hs)) (φr:=fun _=>none) (ρ:=bF []) (K' :=fun b=>K b\/gS φ (· ∈hs) b) (w' :=w)
  ⟨rfl,rfl,rfl,aUX _,fun _ _ _=>rfl⟩
  (fun _ _ hp=>by cases hp) (fun _ _ _ _ _ hp=>by cases hp) (fun _ _ hp=>by simp[bF] at hp) (fun _ _=>rfl) (fun _ hb=> .inl hb)
  (fun b hb=>by
   rcases hb with hb | hb
   ·exact .inl hb
   refine .inr ⟨?_,.inr hb,fun _ _ hp=>by cases hp⟩;obtain⟨h0,pl,_,hp,hb'⟩:=hb;exact(hG.ge h0 pl hp b hb').2)
  (fun _ _ _ _ hp=>by cases hp) (fun _ _ _ _ _ _ _ hp=>by cases hp) (fun _ _ hp=>by cases hp)
 have hmv:aJ (fun b=>K b\/gS φ (· ∈hs) b) (dD (· ∈hs) (fun _=>none) φ) w y (a.tmps.getD d undef):=aRf hG h (fun _ hb=> .inl hb) (fun _ hb=> .inr hb) (hG.slots d);have h2:=hst.reput hmv;have e:=aOD sl rs d y hs [];have h3:G (fun b=>K b\/gS φ (· ∈hs) b) (dD (· ∈hs) (fun _=>none) φ) A w0 N ((mk sl rs).apply (some d) ⟨y,hs,[]⟩) a w:=h2;rw[e] at h3;exact⟨_,_,h3⟩
def gsW (id:Nat)(sl:Sl)(rs:Rl)(t:T)(K:Sl->Rl->T->Prop):Prop:=match t with
 | .stls rid d t=>(match Nat.beq rid id with
   | false=>K [] [] (.stls rid d t)
   | true=>(match aSl rs (cF sl d) with | some q=>K [(d,q.1)] (lL q.2) t | none=>False))
 | t=>K [] [] t
theorem bAD {id:Nat}{sl:Sl}{rs:Rl}{t:T}{K:Sl->Rl->T->Prop}(h:gsW id sl rs t K): ∃n1 n2 t',(∀A w0 N a w,wH A w0 N (mk sl rs) a w->wH A w0 N (mk (n1++sl) (n2++rs)) a w)/\K n1 n2 t' :=by
 unfold gsW at h;split at h
 ·split at h
  ·exact⟨[],[],_,fun _ _ _ _ _ h=>h,h⟩
  split at h
  ·rename_i q hq;exact⟨_,_,_,fun A w0 N a w hg=>aVT hq hg,h⟩
  cases h
 exact⟨[],[],_,fun _ _ _ _ _ h=>h,h⟩
def ghW (id:Nat)(sl:Sl)(rs:Rl)(t:T)(K:Rl->T->Prop):Prop:=gh1 id sl rs t fun n1 t=>gh1 id sl (n1++rs) t fun n2 t=>K (n2++n1) t
theorem bAE {id:Nat}{sl:Sl}{rs:Rl}{t:T}{K:Rl->T->Prop}(h:ghW id sl rs t K): ∃new t',(∀A w0 N a w,wH A w0 N (mk sl rs) a w->wH A w0 N (mk sl (new++rs)) a w)/\K new t' :=by
 unfold ghW at h;obtain⟨n1,t1,h1,h⟩:=aVS h;obtain⟨n2,t2,h2,h⟩:=aVS h;exact⟨n2++n1,t2,fun A w0 N a w hg=>by rw[aMd];exact h2 A w0 N a w (h1 A w0 N a w hg),h⟩
section
variable {sl:Sl} {rs:Rl} {P:Program}
theorem aRh {α:Type}{l1 l2:List α}{x y:α}{i:Nat}(h:l1.length=i):(l1++x::l2).set i y=l1++y::l2:=by
 rw[List.set_append_right _ _ (by omega)];simp[h]
theorem aQY {o:Oper}{x y:Operand}{t:TypeId}{ag:Bool}{n bt off:Nat}{z:Value}{h e k i:Nat}{xs:List (List bR)}{row ys:List bR}{hs:List Nat}(ho:o.op= .store t x y)(ht:gU P t=some (ag,n,bt,z))(hx:dT sl x= .ep h k i off)
 (hh:bH rs h=some (.arr e k true xs)) (hr:xs[i]? =some row) (hc1:pT (mk sl rs) (dT sl y)) (hm:uV (mk sl rs) (fE (dT sl y)) ys hs) (hn:ys.length=n) (hl:off+n<=row.length) (hnd:(h::hs).Nodup) (hv:vA sl rs h=true):
 vU P o (mk sl rs) ⟨.no,h::hs,[(h,.arr e k true (xs.set i (row.take off++ys++row.drop (off+n))))]⟩:=by
 intro K φ A w0 N a w Q hd hG;have hev:=hG.ev y;rw[cQ] at hev;obtain⟨hml,hone⟩:=rK hG hc1 hev;have hn2:=List.nodup_cons.1 hnd;obtain⟨F,r1,r2,r3⟩:=rL hG hm hn2.2 hml;obtain⟨pl,hp,css,Fs,q1,q2,q3,q4⟩:=hG.dom h _ hh;obtain⟨xs1,xs2,css1,c,css2,Fs1,F0,Fs2,e1,e2,e3,e4,s1,s2,s3,s4⟩:=q4.split hr
 have er:row=row.take off++((row.drop off).take n++row.drop (off+n)):=by
  rw[show row.drop (off+n)=(row.drop off).drop n by rw[List.drop_drop],List.take_append_drop,List.take_append_drop]
 rw[er] at s3;obtain⟨ca,c',Fa,F',rfl,rfl,t1,t2⟩:=s3.split;obtain⟨cb,cc,Fb,Fc,rfl,rfl,t3,t4⟩:=t2.split;have la:=t1.len;have lb:=t3.len;have lc:=t4.len;have lu:=r1.len;simp only[aXg,aXh] at la lb lc;have a1:ca.length=off:=by omega
 have a2:cb.length=n:=by omega
 have a3:(a.eval y).cells.toList.length=n:=by omega
 have a5:css1.length=i:=by have:=s1.len.1;omega
 have a6:(row.take off++(ys++row.drop (off+n))).length=k:=by simp;omega
 have a7:off+n<=(ca++(cb++cc)).length:=by simp;omega
 obtain⟨b,cap,hvl,_,_,hb⟩:=kM q1;have hi:i<xs.length:=(aGL.1 hr).1;obtain⟨g,rfl,_,_⟩:=hb (by omega);have h2:=hG.ev x;rw[cQ,hx] at h2;unfold aJ at h2;obtain⟨g',hg',he⟩:=h2 pl hp;have htop:pl.top= [g]:=by rw[q2,hvl];rfl
 rw[htop] at hg';simp only[List.cons.injEq,and_true] at hg';subst hg';generalize hus:(a.eval y).cells.toList=us at*
 have hlt:i*k+off+us.length<=xs.length*k:=by
  have:(i+1)*k<=xs.length*k:=Nat.mul_le_mul_right k (by omega);rw[Nat.add_mul] at this;omega
 have q1' :=q1;rw[hvl] at q1';have hrun:=nZ (P:=P) (o0:=i*k+off) us 0 w _ q1' (by omega) hone;have hsz:=(gP ht w).2.1;unfold Oper.wp
 have hex:(execOp a.eval o).run P w= .ok .skip (setCells w g (i*k+off+0) us):=by
  have hsize:(a.eval y).cells.size=n:=by rw[<-bA8,hus];omega
  simp only[execOp,ho,he,Instr.storeAt,Instr.sureAddr,storeVar,Sem.run_bind,Sem.run_pure,Result.andThen_ok,hsz,hsize,ne_eq,not_true_eq_false,if_false,hus,hrun]
 rw[hex,Oper.upon_skip,Nat.add_zero];have hchg:Chg (· ∈[g]) w (setCells w g (i*k+off) us):=aDh us;have hgF:g∈pl.F:=by unfold Pl.F;rw[htop];simp
 have hglt:=(hG.ge h pl hp g hgF).2;have hsub:pl.sub=Fs1.flatten++((Fa++(Fb++Fc))++Fs2.flatten):=by rw[q3,e3];simp
 have hnd0:=hG.nodup h pl hp;unfold Pl.F at hnd0;rw[htop,hsub] at hnd0;have hgn:=(List.nodup_cons.1 hnd0).1;have hnd1:=(List.nodup_cons.1 hnd0).2;have hsubF: ∀q,q∈pl.sub->q∈pl.F:=fun q hq=>aKS _ hq;have hkeep: ∀(L:List Nat),(∀q∈L,q<w.heap.size/\q≠g)->jX L w (setCells w g (i*k+off) us):=fun L hL q hq=>hchg.block q (hL q hq).1 (by simpa using (hL q hq).2);have hin: ∀q,q∈Fs1.flatten++((Fa++(Fb++Fc))++Fs2.flatten)->q<w.heap.size/\q≠g:=fun q hq=>⟨(hG.ge h pl hp q (hsubF q (by rw[hsub];exact hq))).2,fun eq=>by subst eq;exact hgn hq⟩
 have hF: ∀q∈F,¬q∈pl.F:=fun q hq hq' =>by
  obtain⟨h3,pl3,m3,p3,b3⟩:=r3 q hq;exact hG.disj h3 h pl3 pl (fun eq=>by subst eq;exact hn2.1 m3) p3 hp q b3 hq'
 have hFl: ∀q∈F,q<w.heap.size/\q≠g:=fun q hq=>by
  obtain⟨h3,pl3,m3,p3,b3⟩:=r3 q hq;exact⟨(hG.ge h3 pl3 p3 q b3).2,fun eq=>by subst eq;exact hF q hq hgF⟩
 let p1:Pl:=⟨pl.val,pl.top,Fs1.flatten++((Fa++(F++Fc))++Fs2.flatten)⟩
 have hmem: ∀q,q∈p1.F->q∈pl.F\/q∈F:=fun q hq=>by
  simp only[p1,Pl.F,aKT] at hq;unfold Pl.F;rw[hsub];simp only[aKT];rcases hq with q | q | (q | q | q) | q
  ·exact .inl (.inl q)
  ·exact .inl (.inr (.inl q))
  ·exact .inl (.inr (.inr (.inl (.inl q))))
  ·exact .inr q
  ·exact .inl (.inr (.inr (.inl (.inr (.inr q)))))
  exact .inl (.inr (.inr (.inr q)))
 have hnd2:p1.F.Nodup:=by
  have hperm:p1.F.Perm ((pl.top++(Fs1.flatten++((Fa++Fc)++Fs2.flatten)))++F):=by
   simp only[p1,Pl.F];refine(List.perm_iff_count).2 fun x=>?_;simp only[List.count_append];omega
  refine hperm.nodup_iff.2 ?_;rw[aU6]
  have hsl:(pl.top++(Fs1.flatten++((Fa++Fc)++Fs2.flatten))).Sublist pl.F:=by
   unfold Pl.F;rw[hsub];refine List.Sublist.append (List.Sublist.refl _) (List.Sublist.append (List.Sublist.refl _) (List.Sublist.append (List.Sublist.append (List.Sublist.refl _) (List.sublist_append_right _ _)) (List.Sublist.refl _)))
  exact⟨hsl.nodup (hG.nodup h pl hp),r2,fun q hq q' hq' eq=>by subst eq;exact hF q hq' (hsl.subset hq)⟩
 obtain⟨hv1,hv2⟩:=wM hv
 have hcs:css[i]? =some (ca++(cb++cc)):=by
  rw[e2,aNW (by rw[a5];exact aUX _)];simp[a5]
 have hown:=qY us (o:=i*k+off) q1';rw[aBj us css i off _ q4.len.2 hcs (by omega),aGu (by rw[a3];exact a7)] at hown
 have hst:=hG.stepV (C:=(· ∈h::hs)) (φr:=fun x=>if x=h then some p1 else none) (ρ:=bF [(h,.arr e k true (xs.set i (row.take off++ys++row.drop (off+n))))]) (K' :=K) (w' :=setCells w g (i*k+off) us)
  (hchg.mono fun b hb=>⟨h,pl,by simp,hp,by simp at hb;subst hb;exact hgF⟩)
  (fun x p hp1=>by
   split at hp1
   ·injection hp1 with hp1;subst hp1
    refine⟨hnd2,fun q hq=>?_⟩;rcases hmem q hq with hq | hq
    ·exact⟨aUY (hG.ge h pl hp q hq).2 hchg.size,.inr ⟨h,pl,by simp,hp,hq⟩⟩
    obtain⟨h3,pl3,m3,p3,b3⟩:=r3 q hq;exact⟨aUY (hFl q hq).1 hchg.size,.inr ⟨h3,pl3,aVm _ m3,p3,b3⟩⟩
   cases hp1)
  (fun x x' p p' hne' hp1 hp2 g hg hg' =>by
   split at hp1
   ·split at hp2
    ·rename_i a b;exact hne' (a.trans b.symm)
    cases hp2
   cases hp1)
  (fun x r hr2=>by
   simp only[bF] at hr2;split at hr2
   ·rename_i ex;injection hr2 with hr2;subst hr2
    have exs:xs.set i (row.take off++ys++row.drop (off+n))=xs1++(row.take off++(ys++row.drop (off+n)))::xs2:=by rw[e1,aRh e4];simp
    rw[exs];refine⟨p1,by simp[ex],css1++(ca++(us++cc))::css2,Fs1++(Fa++(F++Fc))::Fs2,?_,q2,by simp[p1],(cV.kept _ _ _ _ (hkeep _ fun q hq=>hin q (by simp only[aKT];exact .inl hq)) s1).append ?_⟩
    ·have l2:(xs1++(row.take off++(ys++row.drop (off+n)))::xs2).length=xs.length:=by rw[e1];simp
     have l3:css.set i ((ca++(cb++cc)).take off++us++(ca++(cb++cc)).drop (off+us.length))=css1++(ca++(us++cc))::css2:=by
      rw[e2,aRh a5]
      congr 2
      have a8:off+us.length=(ca++cb).length:=by rw[aQT,a1,a2,a3]
      rw[a8,<-aMd ca cb cc,List.drop_left,aMd ca cb cc,<-a1,List.take_left,aMd]
     rw[l2];show (setCells w g (i*k+off) us).ownsRow 0 e k pl.val xs.length _;rw[hvl,<-l3];exact hown
    unfold cV;refine⟨_,_,_,_,rfl,rfl,a6,(dN.kept _ _ _ (hkeep _ fun q hq=>hin q (by simp only[aKT];exact .inr (.inl (.inl hq)))) t1).join ((dN.kept _ _ _ (hkeep _ hFl) r1).join (dN.kept _ _ _ (hkeep _ fun q hq=>hin q (by simp only[aKT];exact .inr (.inl (.inr (.inr hq))))) t4)),cV.kept _ _ _ _ (hkeep _ fun q hq=>hin q (by simp only[aKT];exact .inr (.inr hq))) s4⟩
   cases hr2)
  (fun x hr2=>by
   simp only[bF] at hr2;split at hr2
   ·cases hr2
   rename_i ex;rw[if_neg ex])
  (fun _ h=>h) (fun _ h=> .inl h)
  (fun t x p hm hp1=>by
   split at hp1
   ·rename_i ex;injection hp1 with hp1;subst hp1;subst ex
    exact⟨pl,hp,rfl,rfl,fun q=>absurd q (hv1 t)⟩
   cases hp1)
  (fun h9 r x p _ hr2 hm hp1=>by
   split at hp1
   ·rename_i ex;injection hp1 with hp1;subst hp1;subst ex
    exact⟨pl,hp,rfl,rfl,fun q=>absurd q (hv2 h9 r hr2)⟩
   cases hp1)
  (fun x p hp1=>by
   split at hp1
   ·rename_i ex;injection hp1 with hp1;subst hp1;subst ex
    exact .inl ⟨pl,hp,rfl,rfl⟩
   cases hp1)
 exact⟨K,_,_,rfl,hst.put hd (by unfold aJ;trivial)⟩
end
def aVU (tb:Tb)(sl:Sl)(rs:Rl)(ty:TypeId)(x y:AV)(t:T)(K:AV->List Nat->List (Nat × Rs)->T->Prop):Prop:=match dC tb.ty ty with
 | some (_,n,_,_)=>(match x with
   | .ep h k i off=>(match bH rs h with
     | some (.arr e k' true xs)=>(match Nat.beq k k' &&xY rs y&&vA sl rs h&&nL (h::aAU (fE y))&&Nat.beq (fE y).length n with
       | true=>(match t with
         | .setm _ enc l f t=>xs=l.map enc/\i<l.length/\ ∀x,l[i]? =some x->off+n<=(enc x).length/\(enc x).take off++((enc (f x)).drop off).take n++(enc x).drop (off+n)=enc (f x)/\aCP rs (fE y) (((enc (f x)).drop off).take n) (K .no (h::aAU (fE y)) [(h,.arr e k true ((l.set i (f x)).map enc))] (t x))
         | _=>False)
       | false=>False)
     | _=>False)
   | _=>False)
 | none=>False
theorem aL4 {S:St}: ∀{cs:List AV} {row:List bR} {hs:List Nat},uV S cs row hs->row.length=cs.length
 | [],row,hs,h=>by unfold uV at h;rw[h.1];rfl
 | c::cs,row,hs,h=>by
   unfold uV at h;obtain⟨x,row',h1,h2,rfl,rfl,_,h3⟩:=h;simp[aL4 h3]
theorem aVV {P:Program}{tb:Tb}{sl:Sl}{rs:Rl}{o:Oper}{ty:TypeId}{x y:Operand}{t:T}{K:AV->List Nat->List (Nat × Rs)->T->Prop}(hT:mS P tb)(ho:o.op= .store ty x y)(h:aVU tb sl rs ty (dT sl x) (dT sl y) t K): ∃v del new t',vU P o (mk sl rs) ⟨v,del,new⟩/\K v del new t' :=by
 unfold aVU at h;split at h
 ·rename_i ag n bt z hq;have hq:=dG hT.ty hq;split at h
  ·rename_i h0 k i off hx;split at h
   ·rename_i e k' xs hr;split at h
    ·rename_i hb;simp only[aCA] at hb;obtain⟨⟨⟨⟨b1,b2⟩,b3⟩,b4⟩,b5⟩:=hb;have b1:=aFj b1;subst b1;split at h
     ·rename_i enc l f t';obtain⟨rfl,hi,h⟩:=h;have hx' :=aFZ hi;obtain⟨h1,h2,h3⟩:=h _ hx';obtain⟨h4,h5⟩:=nQ (sl:=sl) h3;have hs:=aQY (P:=P) (o:=o) ho hq hx hr (aHe hx') (aDs b2) h4 ((aL4 h4).trans (aFj b5)) h1 (qA b4) b3;rw[h2,<-aO0] at hs;exact⟨_,_,_,_,hs,h5⟩
     cases h
    cases h
   cases h
  cases h
 cases h
def aYN (N:Nat):Option Nat->Bool
 | none=>true
 | some d=>Nat.blt d N
theorem aRi {N:Nat}: ∀{o:Option Nat},aYN N o=true-> ∀d,o=some d->d<N
 | some d,h,_,rfl=>by simpa [aYN,Nat.blt_eq] using h
def brW (b:Bool)(t:T)(K:Bool->T->Prop):Prop:=match t with
 | .br t1 t2=>(b=true->K true t1)/\(b=false->K false t2)
 | .lit t=>(match b with | true=>K true t | false=>K false t)
 | .yes t=>b=true/\K true t
 | .no t=>b=false/\K false t
 | t=>(match b with | true=>K true t | false=>K false t)
theorem aQZ {b:Bool}{t:T}{K:Bool->T->Prop}(h:brW b t K): ∃t',K b t' :=by
 unfold brW at h;split at h
 ·cases b with
  | true=>exact⟨_,h.1 rfl⟩
  | false=>exact⟨_,h.2 rfl⟩
 ·cases b with
  | true=>exact⟨_,h⟩
  | false=>exact⟨_,h⟩
 ·obtain⟨rfl,h⟩:=h;exact⟨_,h⟩
 ·obtain⟨rfl,h⟩:=h;exact⟨_,h⟩
 cases b with
 | true=>exact⟨_,h⟩
 | false=>exact⟨_,h⟩
def pC (pre:Sl)(s:Option Nat)(b:Bool):Sl:=match s with | some s=>(s,vB b)::pre | none=>pre
def gdW (N:Nat)(all:List Oper)(sl:Sl)(j:Nat)(want:Bool)(t:T)(K:Option Nat->Bool->T->Prop):Prop:=match all[j]? with
 | some o=>(match o.dst with
   | some dj=>(match Nat.blt dj N with
     | true=>(match cF sl dj with
       | .p none (.bool b)=>brW b t (fun b t=>K (some dj) b t)
       | .tup []=>K none (!want) t
       | _=>False)
     | false=>False)
   | none=>False)
 | none=>False
theorem aHt {sl:Sl}{d:Nat}{v:AV}(h:cF sl d=v):cF ((d,v)::sl)=cF sl:=by
 funext t;simp only[cF];split
 ·rename_i e;rw[e,h]
 rfl
theorem aYO {sl:Sl}{rs:Rl}{d:Nat}{v:AV}(h:cF sl d=v):mk ((d,v)::sl) rs=mk sl rs:=by
 unfold mk;rw[aHt h]
theorem aVW {N:Nat}{all:List Oper}{sl:Sl}{j:Nat}{want:Bool}{t:T}{K:Option Nat->Bool->T->Prop}(h:gdW N all sl j want t K): ∃dj y b s t',(all.toArray[j]?).bind (·.dst)=some dj/\dj<N/\gvA (cF sl dj)=some y/\(b==want)=(y==some want)/\cF (pC sl s b)=cF sl/\K s b t' :=by
 unfold gdW at h;split at h
 ·rename_i o ho;split at h
  ·rename_i dj hd;split at h
   ·rename_i hN;split at h
    ·rename_i b hb;obtain⟨t',h⟩:=aQZ h;exact⟨dj,some b,b,some dj,t',by simp[ho,hd],by simpa [Nat.blt_eq] using hN,aUb hb,rfl,aHt hb,h⟩
    ·rename_i hb;exact⟨dj,none,!want,none,t,by simp[ho,hd],by simpa [Nat.blt_eq] using hN,by rw[hb];rfl,by cases want<;>rfl,rfl,h⟩
    cases h
   cases h
  cases h
 cases h
theorem qB (pre bs:Sl)(s:Option Nat)(b:Bool):pC (pre++bs) s b=pC pre s b++bs:=by cases s<;>rfl
theorem rT (pre bs:Sl)(d:Option Nat)(v:AV):rO pre d v++bs=rO (pre++bs) d v:=by cases d<;>rfl
def aRj (tb:Tb)(sl:Sl)(rs:Rl)(dst:Option Nat)(o:Op):Option (AV × Rl):=match dst with
 | some _=>(match o with
   | .fieldAddr s (.tmp t) f=>(match cF sl t with
     | .ptr h o' =>(match dC tb.fl s with | some l=>(match dC l f with | some q=>some (.ptr h (o' +q.1),[]) | none=>none) | none=>none)
     | _=>none)
   | .load ty (.tmp t)=>(match cF sl t with
     | .ptr h off=>(match Nat.beq h 99 with
       | true=>none
       | false=>(match bH rs h with
         | some (.box bt cs)=>(match dC tb.ty ty with
           | some (ag,n,_,_)=>(match ag with
             | true=>(match Nat.ble (off+n) cs.length with | true=>some (.agg ((cs.drop off).take n),[(h,some (.box bt cs))]) | false=>none)
             | false=>(match cs[off]? with | some v=>some (v,[(h,some (.box bt cs))]) | none=>none))
           | none=>none)
         | _=>none))
     | _=>none)
   | .move (.tmp t)=>(match cF sl t with
     | .ptr h o' =>some (.ptr h o',[])
     | _=>none)
   | _=>none)
 | none=>none
theorem aHu {P:Program}{tb:Tb}{sl:Sl}{rs:Rl}{o:Oper}{v:AV}{b:Rl}{i:Nat}(hT:mS P tb)(h:aRj tb sl rs o.dst o.op=some (v,b)):aC7 P (nP i o sl v b)/\ ∀k∈b.map (·.1),bH rs k=bH ((99,none)::b) k:=by
 obtain⟨dst,op,ty,pos,aft,gd⟩:=o;unfold aRj at h
 dsimp only at h
 split at h
 ·split at h
  ·rename_i s t f;split at h
   ·rename_i hh o' hx;split at h
    ·rename_i l hl;split at h
     ·rename_i q hq;injection h with h
      injection h with h1 h2
      subst h1;subst h2;refine⟨⟨fun e=>by simp[iJ.fr,nP] at e,fun _ S hS _=>?_⟩,by simp⟩;have hf:=dG (dG hT.fl hl) hq;have hs:=hS t (by simp[nP,oL,sN,opL]);refine wG rfl hf ?_;show S.slots t=_;rw[hs];simp only[nP,oL,opL,sN,cF,if_true];exact hx
     cases h
    cases h
   cases h
  ·rename_i ty' t;split at h
   ·rename_i hh off hx;split at h
    ·cases h
    rename_i h99;have h99: ¬hh=99:=fun e=>by rw[e] at h99;cases h99
    have fnd: ∀r:Option Rs,bH [(99,none),(hh,r)] hh=r:=fun r=>by
     simp only[bH];simp[h99]
    have key: ∀S:St,(∀u∈(oL (.load ty' (.tmp t)) sl).map (·.1),S.slots u=cF (oL (.load ty' (.tmp t)) sl) u)->S.slots t= .ptr hh off:=fun S hS=>by
     rw[hS t (by simp[oL,sN,opL])];simp only[oL,opL,sN,cF,if_true];exact hx
    split at h
    ·rename_i bt cs hr;split at h
     ·rename_i ag n bt' z hq;have hq:=dG hT.ty hq;split at h
      ·split at h
       ·rename_i hn;injection h with h
        injection h with h1 h2
        subst h1;subst h2;refine⟨⟨fun e=>by simp[iJ.fr,nP] at e,fun _ S hS hR=>?_⟩,fun k hk=>?_⟩
        ·exact aAM rfl hq (key S hS) (by rw[hR hh (by simp[nP,iJ.T,iJ.fr])];exact fnd _) (aEP hn)
        simp only[aLz,List.map_nil,aX7] at hk;rw[hk,fnd,hr]
       cases h
      split at h
      ·rename_i y hy;injection h with h
       injection h with h1 h2
       subst h1;subst h2;refine⟨⟨fun e=>by simp[iJ.fr,nP] at e,fun _ S hS hR=>?_⟩,fun k hk=>?_⟩
       ·exact zJ rfl hq (key S hS) (by rw[hR hh (by simp[nP,iJ.T,iJ.fr])];exact fnd _) hy
       simp only[aLz,List.map_nil,aX7] at hk;rw[hk,fnd,hr]
      cases h
     cases h
    cases h
   cases h
  ·rename_i t;split at h
   ·rename_i hh o' hx;injection h with h
    injection h with h1 h2
    subst h1;subst h2;refine⟨⟨fun e=>by simp[iJ.fr,nP] at e,fun _ S hS _=>?_⟩,by simp⟩;have hs:=hS t (by simp[nP,oL,sN,opL])
    have hv:S.slots t= .ptr hh o' :=by
     rw[hs];simp only[nP,oL,opL,sN,cF,if_true];exact hx
    show bL P _ S ⟨.ptr hh o',[],[]⟩;rw[<-hv];exact aC3 (x:= .tmp t) (.inl rfl)
   cases h
  cases h
 cases h
def opX (P:Program)(tb:Tb)(sl:Sl)(rs:Rl)(dst:Option Nat)(o:Op)(t:T)(K:AV->List Nat->List (Nat × Rs)->T->Prop):Prop:=match t with
 | .callx fs ri ren rv ro t=>(match dst with
   | some d=>(match o with
     | .call ⟨.value x,⟨args⟩,_⟩=>(match dT sl x with
       | .fn f caps=>aA0 P sl rs d f (args.map (dT sl)++caps) (.callx fs ri ren rv ro t) K
       | _=>False)
     | o=>opW P tb sl rs (some d) o (.callx fs ri ren rv ro t) K)
   | none=>opW P tb sl rs none o (.callx fs ri ren rv ro t) K)
 | .callxs fs ri ren rv ro t=>(match dst with
   | some d=>(match o with
     | .call ⟨.value x,⟨args⟩,_⟩=>(match dT sl x with
       | .fn f caps=>aA0 P sl rs d f (args.map (dT sl)++caps) (.callxs fs ri ren rv ro t) K
       | _=>False)
     | o=>opW P tb sl rs (some d) o (.callxs fs ri ren rv ro t) K)
   | none=>opW P tb sl rs none o (.callxs fs ri ren rv ro t) K)
 | .setm α enc l y t=>(match dst with
   | none=>(match o with
     | .store ty x z=>aVU tb sl rs ty (dT sl x) (dT sl z) (.setm α enc l y t) K
     | _=>False)
   | some d=>opW P tb sl rs (some d) o (.setm α enc l y t) K)
 | t=>opW P tb sl rs dst o t K
theorem aVX {P:Program}{tb:Tb}{sl:Sl}{rs:Rl}{o:Oper}{t:T}{K:AV->List Nat->List (Nat × Rs)->T->Prop}(hT:mS P tb)(h:opX P tb sl rs o.dst o.op t K): ∃v del new t',vU P o (mk sl rs) ⟨v,del,new⟩/\K v del new t' :=by
 have plain: ∀t,opW P tb sl rs o.dst o.op t K-> ∃v del new t',vU P o (mk sl rs) ⟨v,del,new⟩/\K v del new t' :=fun t h=>by
  obtain⟨v,del,new,t',h1,h2⟩:=aVF hT h;exact⟨v,del,new,t',h1.to0,h2⟩
 obtain⟨dst,op,ty,pos,aft,gd⟩:=o;unfold opX at h
 dsimp only at h plain
 split at h
 ·split at h
  ·split at h
   ·split at h
    ·rename_i hx;exact aL2 (fun hc=>wJ rfl hc hx) h
    cases h
   exact plain _ h
  exact plain _ h
 ·split at h
  ·split at h
   ·split at h
    ·rename_i hx;exact aL2 (fun hc=>wJ rfl hc hx) h
    cases h
   exact plain _ h
  exact plain _ h
 ·split at h
  ·split at h
   ·exact aVV hT rfl h
   cases h
  exact plain _ h
 exact plain _ h
def opD (P:Program)(tb:Tb)(sl:Sl)(rs:Rl)(dst:Option Nat)(o:Op)(t:T)(K:AV->List Nat->List (Nat × Rs)->T->Prop):Prop:=match t with
 | .callx fs ri ren rv ro t=>(match dst with
   | some d=>(match o with
     | .call ⟨.value x,⟨args⟩,_⟩=>(match dT sl x with
       | .fn f caps=>(match aQX ri ren ro with
         | true=>aA0 P sl rs d f (args.map (dT sl)++caps) (.callx fs ri ren rv ro t) K
         | false=>False)
       | _=>False)
     | o=>opW P tb sl rs (some d) o (.callx fs ri ren rv ro t) K)
   | none=>opW P tb sl rs none o (.callx fs ri ren rv ro t) K)
 | .callxs fs ri ren rv ro t=>(match dst with
   | some d=>(match o with
     | .call ⟨.value x,⟨args⟩,_⟩=>(match dT sl x with
       | .fn f caps=>(match aQX ri ren ro with
         | true=>aA0 P sl rs d f (args.map (dT sl)++caps) (.callxs fs ri ren rv ro t) K
         | false=>False)
       | _=>False)
     | o=>opW P tb sl rs (some d) o (.callxs fs ri ren rv ro t) K)
   | none=>opW P tb sl rs none o (.callxs fs ri ren rv ro t) K)
 | t=>opW P tb sl rs dst o t K
theorem aVY {P:Program}{tb:Tb}{sl:Sl}{rs:Rl}{o:Oper}{t:T}{K:AV->List Nat->List (Nat × Rs)->T->Prop}(hT:mS P tb)(h:opD P tb sl rs o.dst o.op t K): ∃v del new t',bL P o (mk sl rs) ⟨v,del,new⟩/\K v del new t' :=by
 have plain: ∀t,opW P tb sl rs o.dst o.op t K-> ∃v del new t',bL P o (mk sl rs) ⟨v,del,new⟩/\K v del new t' :=fun t h=>aVF hT h;obtain⟨dst,op,ty,pos,aft,gd⟩:=o;unfold opD at h
 dsimp only at h plain
 split at h
 ·split at h
  ·split at h
   ·split at h
    ·rename_i hx;split at h
     ·rename_i hb;exact aHs (fun hc=>wJ rfl hc hx) h hb
     cases h
    cases h
   exact plain _ h
  exact plain _ h
 ·split at h
  ·split at h
   ·split at h
    ·rename_i hx;split at h
     ·rename_i hb;exact aHs (fun hc=>wJ rfl hc hx) h hb
     cases h
    cases h
   exact plain _ h
  exact plain _ h
 exact plain _ h
section
variable (P:Program) (tb:Tb) (N:Nat)
def aQ0 (all:List Oper)(bs:Sl)(br:Rl):List Oper->Sl->Rl->T->(Sl->Rl->T->Prop)->Prop
 | [],pre,prr,t,K=>K pre prr t
 | o::rest,pre,prr,t,K=>(match aYN N o.dst with
   | false=>False
   | true=>(match o.guard with
     | none=>opX P tb (pre++bs) (prr++br) o.dst o.op t (fun v del new t=>aQ0 all bs br rest (rO pre o.dst v) (pP new++(lL del++prr)) t K)
     | some (j,want)=>gdW N all (pre++bs) j want t (fun dj b t=>(match b==want with
       | true=>opX P tb (pC (pre++bs) dj b) (prr++br) o.dst o.op t (fun v del new t=>aQ0 all bs br rest (rO (pC pre dj b) o.dst v) (pP new++(lL del++prr)) t K)
       | false=>aQ0 all bs br rest (rO (pC pre dj b) o.dst (.tup [])) prr t K))))
def aDw (all:List Oper)(bs:Sl)(br:Rl):Nat->List Oper->Sl->Rl->List iJ->T->(Sl->Rl->List iJ->T->Prop)->Prop
 | _,[],pre,prr,acc,t,K=>K pre prr acc t
 | i,o::rest,pre,prr,acc,t,K=>(match aYN N o.dst with
   | false=>False
   | true=>(match o.guard with
     | none=>(match aRj tb (pre++bs) (prr++br) o.dst o.op with
      | some (v,b)=>aDw all bs br (i+1) rest (rO pre o.dst v) prr (nP i o (pre++bs) v b::acc) t K
      | none=>opD P tb (oL o.op (pre++bs)) (zK o.op (pre++bs) (prr++br)) o.dst o.op t (fun v del new t=>(match tOk (mR i o (pre++bs) (prr++br) v del new) (prr++br) with
       | true=>aDw all bs br (i+1) rest (rO pre o.dst v) (pP new++(lL del++prr)) (mR i o (pre++bs) (prr++br) v del new::acc) t K
       | false=>False)))
     | some (j,want)=>gdW N all (pre++bs) j want t (fun dj b t=>(match b==want with
       | true=>(match aRj tb (pC (pre++bs) dj b) (prr++br) o.dst o.op with
        | some (v,b')=>aDw all bs br (i+1) rest (rO (pC pre dj b) o.dst v) prr (nP i o (pC (pre++bs) dj b) v b' ::acc) t K
        | none=>opD P tb (oL o.op (pC (pre++bs) dj b)) (zK o.op (pC (pre++bs) dj b) (prr++br)) o.dst o.op t (fun v del new t=>(match tOk (mR i o (pC (pre++bs) dj b) (prr++br) v del new) (prr++br) with
         | true=>aDw all bs br (i+1) rest (rO (pC pre dj b) o.dst v) (pP new++(lL del++prr)) (mR i o (pC (pre++bs) dj b) (prr++br) v del new::acc) t K
         | false=>False)))
       | false=>aDw all bs br (i+1) rest (rO (pC pre dj b) o.dst (.tup [])) prr (⟨i,o,true,[],[],⟨.no,[],[]⟩⟩::acc) t K))))
end
section
variable {P:Program} {tb:Tb} {N:Nat} {all:List Oper} {bs:Sl} {br:Rl}
theorem aGw (new:List (Nat × Rs))(del:List Nat)(prr br:Rl):pP new++(lL del++(prr++br))=(pP new++(lL del++prr))++br:=by simp
theorem aGx (hT:mS P tb){K:Sl->Rl->T->Prop}: ∀(l:List Oper) (pre:Sl) (prr:Rl) (t:T),aQ0 P tb N all bs br l pre prr t K->Ops P N all.toArray l (mk (pre++bs) (prr++br)) (fun S=> ∃pre' prr' t',S=mk (pre' ++bs) (prr' ++br)/\K pre' prr' t')
 | [],pre,prr,t,h=>by unfold Ops;unfold aQ0 at h;exact⟨pre,prr,t,rfl,h⟩
 | o::rest,pre,prr,t,h=>by
   unfold aQ0 at h;split at h
   ·cases h
   rename_i hd;have hd:=aRi hd;unfold Ops;refine⟨hd,?_⟩;split at h
   ·rename_i hg;rw[hg];obtain⟨v,del,new,t',hs,h⟩:=aVX hT h;refine⟨_,hs,?_⟩;rw[kY,<-rT,aGw];exact aGx hT rest _ _ _ h
   rename_i j want hg;rw[hg];obtain⟨dj,y,b,s,t',h1,h2,h3,h4,h5,h⟩:=aVW h;have h6:mk (pC (pre++bs) s b) (prr++br)=mk (pre++bs) (prr++br):=by unfold mk;rw[h5]
   refine⟨dj,y,h1,h2,h3,fun e=>?_,fun e=>?_⟩
   ·rw[e] at h4;split at h
    ·obtain⟨v,del,new,t',hs,h⟩:=aVX hT h;rw[h6] at hs;refine⟨_,hs,?_⟩;rw[<-h6,kY,qB,<-rT,aGw];exact aGx hT rest _ _ _ h
    rename_i hb;rw[hb] at h4;simp at h4
   split at h
   ·rename_i hb;rw[hb] at h4;exact absurd (by simpa using h4.symm) e
   rw[<-h6,aR8,qB,<-rT];exact aGx hT rest _ _ _ h
theorem rU {sl sl' :Sl}(h:cF sl=cF sl'): ∀(l:List Operand),sN sl l=sN sl' l
 | []=>rfl
 | .tmp t::l=>by simp only[sN,h,rU h l]
 | .const _::l=>rU h l
 | .func _::l=>rU h l
 | .global _::l=>rU h l
theorem rV {sl sl' :Sl}(h:cF sl=cF sl')(o:Op):oL o sl=oL o sl' :=rU h _
theorem aA1 {sl sl' :Sl}(h:cF sl=cF sl')(o:Op)(rs:Rl):zK o sl rs=zK o sl' rs:=by unfold zK;rw[rV h]
theorem aA2 {sl sl' :Sl}(h:cF sl=cF sl')(i:Nat)(o:Oper)(rs:Rl)(v:AV)(del:List Nat)(new:List (Nat × Rs)):mR i o sl rs v del new=mR i o sl' rs v del new:=by unfold mR;rw[rV h,aA1 h]
theorem aHv {sl sl' :Sl}(h:cF sl=cF sl')(i:Nat)(o:Oper)(v:AV)(b:Rl):nP i o sl v b=nP i o sl' v b:=by unfold nP;rw[rV h]
theorem qC {sl sl' :Sl}(h:cF sl=cF sl')(d:Option Nat)(v:AV):cF (rO sl d v)=cF (rO sl' d v):=by
 cases d with
 | none=>exact h
 | some d=>funext t;simp only[rO,cF,h]
theorem qD {A:Array Oper}{K:St->List iJ->Prop}: ∀(l:List Oper) (i:Nat) (sl sl' :Sl) (rs:Rl) (acc:List iJ),cF sl=cF sl' ->rP P N A i l sl rs acc K->rP P N A i l sl' rs acc K
 | [],i,sl,sl',rs,acc,h,hd=>by unfold rP at*;unfold mk at*;rw[<-h];exact hd
 | o::rest,i,sl,sl',rs,acc,h,hd=>by
   unfold rP at*;obtain⟨h1,h2,h3⟩:=hd;refine⟨h1,h2,?_⟩
   have execF:(∃v b,aC7 P (nP i o sl v b)/\(∀k∈b.map (·.1),bH rs k=bH ((99,none)::b) k)/\rP P N A (i+1) rest (rO sl o.dst v) rs (nP i o sl v b::acc) K)-> ∃v b,aC7 P (nP i o sl' v b)/\(∀k∈b.map (·.1),bH rs k=bH ((99,none)::b) k)/\rP P N A (i+1) rest (rO sl' o.dst v) rs (nP i o sl' v b::acc) K:=fun ⟨v,b,q1,q0,q2⟩=>by
    rw[aHv h] at q1 q2;exact⟨v,b,q1,q0,qD rest _ _ _ _ _ (qC h _ _) q2⟩
   have exec:(∃v del new,bL P o (mk (oL o.op sl) (zK o.op sl rs)) ⟨v,del,new⟩/\tOk (mR i o sl rs v del new) rs=true/\rP P N A (i+1) rest (rO sl o.dst v) (pP new++(lL del++rs)) (mR i o sl rs v del new::acc) K)->
    ∃v del new,bL P o (mk (oL o.op sl') (zK o.op sl' rs)) ⟨v,del,new⟩/\tOk (mR i o sl' rs v del new) rs=true/\rP P N A (i+1) rest (rO sl' o.dst v) (pP new++(lL del++rs)) (mR i o sl' rs v del new::acc) K:=fun ⟨v,del,new,q1,q2,q3⟩=>by
    refine⟨v,del,new,by rw[<-rV h,<-aA1 h];exact q1,by rw[<-aA2 h];exact q2,?_⟩;rw[<-aA2 h];exact qD rest _ _ _ _ _ (qC h _ _) q3
   split
   ·rename_i hg;rw[hg] at h3;exact h3.imp exec execF
   rename_i j want hg;rw[hg] at h3;obtain⟨d,b,q1,q2,q3,q4,q5⟩:=h3;exact⟨d,b,q1,q2,by rw[<-h];exact q3,fun e=>(q4 e).imp exec execF,fun e=>qD rest _ _ _ _ _ (qC h _ _) (q5 e)⟩
theorem sX {A:Array Oper}{K K' :St->List iJ->Prop}(hK: ∀S recs,K S recs->K' S recs): ∀(l:List Oper) (i:Nat) (sl:Sl) (rs:Rl) (acc:List iJ),rP P N A i l sl rs acc K->rP P N A i l sl rs acc K'
 | [],i,sl,rs,acc,hd=>by unfold rP at*;exact hK _ _ hd
 | o::rest,i,sl,rs,acc,hd=>by
   unfold rP at*;obtain⟨h1,h2,h3⟩:=hd;refine⟨h1,h2,?_⟩;split
   ·rename_i hg;rw[hg] at h3;rcases h3 with ⟨v,del,new,q1,q2,q3⟩ | ⟨v,b,q1,q0,q2⟩
    ·exact .inl ⟨v,del,new,q1,q2,sX hK rest _ _ _ _ q3⟩
    exact .inr ⟨v,b,q1,q0,sX hK rest _ _ _ _ q2⟩
   rename_i j want hg;rw[hg] at h3;obtain⟨d,b,q1,q2,q3,q4,q5⟩:=h3;refine⟨d,b,q1,q2,q3,fun e=>?_,fun e=>sX hK rest _ _ _ _ (q5 e)⟩;rcases q4 e with ⟨v,del,new,p1,p2,p3⟩ | ⟨v,b',p1,p0,p2⟩
   ·exact .inl ⟨v,del,new,p1,p2,sX hK rest _ _ _ _ p3⟩
   exact .inr ⟨v,b',p1,p0,sX hK rest _ _ _ _ p2⟩
theorem aO1 (hT:mS P tb){K:Sl->Rl->List iJ->T->Prop}: ∀(l done:List Oper) (pre:Sl) (prr:Rl) (acc:List iJ) (t:T),all=done++l->aDw P tb N all bs br done.length l pre prr acc t K->rP P N all.toArray done.length l (pre++bs) (prr++br) acc (fun S recs=> ∃pre' prr' acc' t',S=mk (pre' ++bs) (prr' ++br)/\recs=acc'.reverse/\K pre' prr' acc' t')
 | [],done,pre,prr,acc,t,e,h=>by unfold rP;unfold aDw at h;exact⟨pre,prr,acc,t,rfl,rfl,h⟩
 | o::rest,done,pre,prr,acc,t,e,h=>by
   unfold aDw at h;split at h
   ·cases h
   rename_i hd;have hd:=aRi hd;have hi:all.toArray[done.length]? =some o:=by rw[e];simp
   have e' :all=(done++[o])++rest:=by rw[e];simp
   have el:(done++[o]).length=done.length+1:=by simp
   have ih:=fun pre prr acc t=>aO1 hT (K:=K) rest (done++[o]) pre prr acc t e';rw[el] at ih;unfold rP;refine⟨hi,hd,?_⟩;split at h
   ·rename_i hg;rw[hg];split at h
    ·rename_i v b' hv;refine .inr ⟨v,b',(aHu hT hv).1,(aHu (i:=0) hT hv).2,?_⟩;rw[<-rT];exact ih _ _ _ _ h
    obtain⟨v,del,new,t',hs,h⟩:=aVY hT h;split at h
    ·rename_i ht;refine .inl ⟨v,del,new,hs,ht,?_⟩;rw[<-rT,aGw];exact ih _ _ _ _ h
    cases h
   rename_i j want hg;rw[hg];obtain⟨dj,y,b,s,t',h1,h2,h3,h4,hp,h⟩:=aVW h;refine⟨dj,y,h1,h2,h3,fun e=>?_,fun e=>?_⟩
   ·rw[e] at h4;split at h
    ·split at h
     ·rename_i v b' hv;have hs:=aHu (i:=done.length) hT hv;rw[aHv hp] at hs h;refine .inr ⟨v,b',hs.1,hs.2,?_⟩;have:=ih _ _ _ _ h;rw[rT,<-qB] at this;exact qD _ _ _ _ _ _ (qC hp _ _) this
     obtain⟨v,del,new,t',hs,h⟩:=aVY hT h;split at h
     ·rename_i ht;rw[rV hp,aA1 hp] at hs;rw[aA2 hp] at ht h;refine .inl ⟨v,del,new,hs,ht,?_⟩;have:=ih _ _ _ _ h;rw[rT,<-aGw,<-qB] at this;exact qD _ _ _ _ _ _ (qC hp _ _) this
     cases h
    rename_i hb;rw[hb] at h4;simp at h4
   split at h
   ·rename_i hb;rw[hb] at h4;exact absurd (by simpa using h4.symm) e
   have:=ih _ _ _ _ h;rw[rT,<-qB] at this;exact qD _ _ _ _ _ _ (qC hp _ _) this
end
def rW (W:List Nat):Sl:=W.map fun t=>(t,AV.no)
def nR (V:List Nat):Rl:=V.map fun h=>(h,none)
def gmF (ren:List (Nat × Nat))(hd:List Nat)(h:Nat):Option Nat:=match dC ren h with | some g=>some g | none=>(match hd.contains h with | true=>none | false=>some h)
def EqS (sl:Sl)(gm:Nat->Option Nat):Sl->Prop->Prop
 | [],K=>K
 | (t,x)::l,K=>oB gm x (cF sl t) (EqS sl gm l K)
def aK8 (rs:Rl)(gm:Nat->Option Nat):Rl->Prop->Prop
 | [],K=>K
 | (h,some r)::l,K=>(match gm h with
   | some g=>(match bH rs g with
     | some r' =>(match r with
       | .box t cs=>(match r' with | .box t' cs' =>EqN t' t (wK gm cs cs' (aK8 rs gm l K)) | _=>False)
       | .arr e k d xs=>EqR r' (.arr e k d xs) (aK8 rs gm l K)
       | .hole e k xs i j hp=>(match r' with | .hole e' k' xs' i' j' hp' =>(match Nat.beq e' e&&Nat.beq k' k&&Nat.beq j' j&&(match gm hp with | some q=>Nat.beq q hp' | none=>false) with | true=>xs' =xs/\i' =i/\aK8 rs gm l K | false=>False) | _=>False))
     | none=>False)
   | none=>(match r with | .arr _ _ _ xs=>[]=xs/\aK8 rs gm l K | _=>False))
 | (_,none)::_,_=>False
def aMt (gm:Nat->Option Nat)(h:Nat):Bool:=match gm h with | some g=>Nat.beq g h | none=>false
def aQ1 (gm:Nat->Option Nat)(l:List Nat):Bool:=l.all (aMt gm)
def aA3 (rs:Rl):List Nat:=(rs.map (·.1)).filter fun h=>(bH rs h).isSome
def bAF (gm:Nat->Option Nat)(l:List Nat):Bool:=l.all fun h=>l.all fun h' =>Nat.beq h h' || (match gm h with | none=>true | some g=>(match gm h' with | none=>true | some g' => !Nat.beq g g'))
def aRk (W V:List Nat)(gm:Nat->Option Nat)(pre:Sl)(prr:Rl)(b1:Sl)(b2:Rl)(hd:Rl):Bool:=
 hd.all (fun q=>Nat.ble 100 q.1 || aMt gm q.1)&&pre.all (fun q=>W.contains q.1)&&prr.all (fun q=>V.contains q.1)&&b1.all (fun q=>W.contains q.1 || aQ1 gm (cW (cF b1 q.1)))&&
 b2.all (fun q=>V.contains q.1 || (match bH b2 q.1 with | some r=>aMt gm q.1&&aQ1 gm (jI r) | none=>true))&&bAF gm (aA3 (hd++b2))
theorem aGy {gm:Nat->Option Nat}{h:Nat}(hx:aMt gm h=true):gm h=some h:=by
 unfold aMt at hx;split at hx
 ·rename_i g hg;rw[hg,aFj hx]
 cases hx
theorem aRl {gm:Nat->Option Nat}{l:List Nat}{h:Nat}(hx:aQ1 gm l=true)(hm:h∈l):gm h=some h:=aGy (aI4.1 hx h hm)
theorem aQ2 {sl:Sl}{gm:Nat->Option Nat}{K:Prop}: ∀{l:Sl},EqS sl gm l K->(∀t x,(t,x)∈l-> ∃Q,oB gm x (cF sl t) Q)/\K
 | [],h=>⟨by simp,h⟩
 | (t,x)::l,h=>by
   unfold EqS at h;obtain⟨h3,h4⟩:=aQ2 (aOU _ _ _ h);refine⟨fun t' x' hm=>?_,h4⟩;rcases aNn.1 hm with e | hm
   ·injection e with e1 e2;subst e1;subst e2;exact⟨_,h⟩
   exact h3 t' x' hm
def aYP (rs:Rl)(gm:Nat->Option Nat)(h:Nat)(r:Rs):Prop:=
 (∀g,gm h=some g-> ∃r',bH rs g=some r' /\((r=r' /\aH2 r=true)\/(∃t cs cs' Q,r= .box t cs/\r' = .box t cs' /\wK gm cs cs' Q)\/ ∃e k xs i j hp hp',r= .hole e k xs i j hp/\r' = .hole e k xs i j hp' /\gm hp=some hp'))/\(gm h=none-> ∃e k d,r= .arr e k d [])
theorem aMu {rs:Rl}{gm:Nat->Option Nat}{K:Prop}: ∀{l:Rl},aK8 rs gm l K->(∀h r,(h,r)∈l-> ∃r',r=some r' /\aYP rs gm h r')/\K
 | [],h=>⟨by simp,h⟩
 | (h,some r)::l,hh=>by
   unfold aK8 at hh
   have key:aYP rs gm h r->aK8 rs gm l K->(∀h' r0,(h',r0)∈(h,some r)::l-> ∃r',r0=some r' /\aYP rs gm h' r')/\K:=fun h1 h2=>by
    obtain⟨h3,h4⟩:=aMu h2;refine⟨fun t' x' hm=>?_,h4⟩;rcases aNn.1 hm with e | hm
    ·injection e with e1 e2;subst e1;subst e2;exact⟨r,rfl,h1⟩
    exact h3 t' x' hm
   split at hh
   ·rename_i g hg;split at hh
    ·rename_i r' hr;split at hh
     ·rename_i t cs;split at hh
      ·rename_i t' cs';obtain⟨e1,hq⟩:=hh.eq;refine key ⟨fun g' hg' =>?_,fun hn=>by rw[hg] at hn;cases hn⟩ (wL _ _ _ hq);rw[hg] at hg';injection hg' with hg';subst hg'
       exact⟨_,hr,.inr (.inl ⟨t,cs,cs',_,rfl,by rw[e1],hq⟩)⟩
      cases hh
     ·obtain⟨e1,hq⟩:=hh.eq;refine key ⟨fun g' hg' =>?_,fun hn=>by rw[hg] at hn;cases hn⟩ hq;rw[hg] at hg';injection hg' with hg';subst hg'
      exact⟨_,hr,.inl ⟨e1.symm,rfl⟩⟩
     split at hh
     ·rename_i e k xs i j hp _ e' k' xs' i' j' hp';split at hh
      ·rename_i hb;simp only[aCA] at hb;obtain⟨⟨⟨b1,b2⟩,b3⟩,b4⟩:=hb;split at b4
       ·rename_i q hq;obtain rfl:=aFj b1;obtain rfl:=aFj b2;obtain rfl:=aFj b3;obtain rfl:=aFj b4;obtain⟨rfl,rfl,hh⟩:=hh;refine key ⟨fun g' hg' =>?_,fun hn=>by rw[hg] at hn;cases hn⟩ hh;rw[hg] at hg';injection hg' with hg';subst hg'
        exact⟨_,hr,.inr (.inr ⟨_,_,_,_,_,_,_,rfl,rfl,hq⟩)⟩
       cases b4
      cases hh
     cases hh
    cases hh
   rename_i hg;split at hh
   ·obtain⟨e1,hq⟩:=hh;exact key ⟨fun g' hg' =>(by rw[hg] at hg';cases hg'),fun _=>⟨_,_,_,by rw[<-e1]⟩⟩ hq
   cases hh
 | (h,none)::l,hh=>by unfold aK8 at hh;cases hh
theorem aL5 {o b:Sl}{t:Nat}:(∃x,(t,x)∈o/\cF (o++b) t=x)\/(t ∉ o.map (·.1)/\cF (o++b) t=cF b t):=by
 induction o with
 | nil=>exact .inr ⟨by simp,rfl⟩
 | cons q o ih=>
   obtain⟨k,v⟩:=q;simp only[List.cons_append,cF];by_cases e:t=k
   ·subst e;exact .inl ⟨v,by simp,by simp⟩
   rw[if_neg e];rcases ih with ⟨x,h1,h2⟩ | ⟨h1,h2⟩
   ·exact .inl ⟨x,by simp[h1],h2⟩
   exact .inr ⟨by simp only[aLz,aNn,not_or];exact⟨e,h1⟩,h2⟩
theorem aFB {o b:Rl}{t:Nat}:(∃x,(t,x)∈o/\bH (o++b) t=x)\/(t ∉ o.map (·.1)/\bH (o++b) t=bH b t):=by
 induction o with
 | nil=>exact .inr ⟨by simp,rfl⟩
 | cons q o ih=>
   obtain⟨k,v⟩:=q;simp only[List.cons_append,bH];by_cases e:t=k
   ·subst e;exact .inl ⟨v,by simp,by simp⟩
   rw[if_neg e];rcases ih with ⟨x,h1,h2⟩ | ⟨h1,h2⟩
   ·exact .inl ⟨x,by simp[h1],h2⟩
   exact .inr ⟨by simp only[aLz,aNn,not_or];exact⟨e,h1⟩,h2⟩
theorem aHw {W:List Nat}{b:Sl}{t:Nat}:cF (rW W++b) t=if t∈W then .no else cF b t:=by
 induction W with
 | nil=>simp[rW]
 | cons w W ih=>
   simp only[rW,aLz,List.cons_append,cF] at ih ⊢;rw[ih];by_cases e:t=w<;>simp[e]
theorem aCc {W:List Nat}{b:Rl}{t:Nat}:bH (nR W++b) t=if t∈W then none else bH b t:=by
 induction W with
 | nil=>simp[nR]
 | cons w W ih=>
   simp only[nR,aLz,List.cons_append,bH] at ih ⊢;rw[ih];by_cases e:t=w<;>simp[e]
theorem aSv {b:Sl}{t:Nat}(h:cF b t≠ .no):t∈b.map (·.1):=by
 induction b with
 | nil=>simp[cF] at h
 | cons q b ih=>
   obtain⟨k,v⟩:=q;simp only[cF] at h;by_cases e:t=k
   ·simp[e]
   rw[if_neg e] at h;simp[ih h]
theorem aFC {b:Rl}{t:Nat}{r:Rs}(h:bH b t=some r):t∈b.map (·.1):=by
 induction b with
 | nil=>simp[bH] at h
 | cons q b ih=>
   obtain⟨k,v⟩:=q;simp only[bH] at h;by_cases e:t=k
   ·simp[e]
   rw[if_neg e] at h;simp[ih h]
theorem aO2 {A:Nat->Prop}{w0:xU}{N:Nat}{a:Act}{w:World}{W V:List Nat}{gm:Nat->Option Nat}{cur:Sl}{cur2:Rl}{b1:Sl}{b2:Rl}{o:Sl}{r:Rl}
 (k0: ∀q∈r,Nat.ble 100 q.1=true\/aMt gm q.1=true) (k3: ∀q∈rW W++b1,q.1∈W\/aQ1 gm (cW (cF (rW W++b1) q.1))=true) (k4: ∀q∈nR V++b2,q.1∈V\/ ∀r,bH (nR V++b2) q.1=some r->aMt gm q.1=true/\aQ1 gm (jI r)=true)
 (k5:bAF gm (aA3 (r++(nR V++b2)))=true) (c1: ∀t,t ∉ W->cF cur t=cF (rW W++b1) t) (c2: ∀h,h ∉ V->bH cur2 h=bH (nR V++b2) h)
 (h1: ∀t x,(t,x)∈o-> ∃Q,oB gm x (cF cur t) Q) (h2: ∀h x,(h,x)∈r-> ∃r',x=some r' /\aYP cur2 gm h r') (hG:wH A w0 N (mk cur cur2) a w):wH A w0 N (mk (o++(rW W++b1)) (r++(nR V++b2))) a w:=by
 obtain⟨K,φ,hG⟩:=hG
 let S2:=r++(nR V++b2)
 let φ' :iW:=fun h=>match bH S2 h with | none=>none | some _=>(match gm h with | some g=>φ g | none=>some jJ)
 have p1: ∀h g pl,gm h=some g->φ' h=some pl->φ g=some pl:=fun h g pl e e' =>by
  simp only[φ',e] at e';split at e'
  ·cases e'
  exact e'
 have p2: ∀h pl,gm h=none->φ' h=some pl->pl=jJ:=fun h pl e e' =>by
  simp only[φ',e] at e';split at e'
  ·cases e'
  injection e' with e';exact e'.symm
 have p0: ∀h pl,φ' h=some pl-> ∃x,bH S2 h=some x:=fun h pl e=>by
  simp only[φ'] at e;split at e
  ·cases e
  rename_i x hx;exact⟨x,hx⟩
 have p3: ∀h pl,φ' h=some pl->(∃g,gm h=some g/\φ g=some pl)\/pl=jJ:=fun h pl e=>by
  cases hl:gm h with
  | some g=>exact .inl ⟨g,rfl,p1 h g pl hl e⟩
  | none=>exact .inr (p2 h pl hl e)
 have live: ∀{h x},bH S2 h=some x->h∈aA3 S2:=fun {h x} hx=>by
  unfold aA3;rw[aZe];exact⟨aFC hx,by rw[hx];rfl⟩
 refine⟨K,φ',fun h x hx=>?_,fun h hx=>?_,fun h h' pl pl' hne e e' g hg=>?_,fun h pl e=>?_,fun h pl e=>?_,hG.kin,fun b hb h pl e=>?_,hG.aK,fun t=>?_,hG.bel,hG.nd,hG.size,fun h pl pl0 e e0=>?_⟩
 ·have hx' :bH S2 h=some x:=hx;rcases aFB (o:=r) (b:=nR V++b2) (t:=h) with ⟨y,q1,q2⟩ | ⟨_,q2⟩
  ·obtain⟨r',e1,q3,q4⟩:=h2 h y q1;have ex:r' =x:=by have:=hx';simp only[S2] at this;rw[q2,e1] at this;injection this
   subst ex;cases hl:gm h with
   | some g=>
     obtain⟨r2,hr2,q⟩:=q3 g hl;obtain⟨pl,hp,hh⟩:=hG.dom g r2 hr2;refine⟨pl,by simp only[φ',hx',hl];exact hp,?_⟩;rcases q with ⟨rfl,ha⟩ | ⟨t,cs,cs',Q,rfl,rfl,hq⟩ | ⟨e,k,xs,i,j,hp0,hp',rfl,rfl,hq⟩
     ·exact Holds.arrPhi ha hh
     ·obtain⟨g',vs',f1,f2,f3,f4⟩:=hh;exact⟨g',vs',f1,f2,f3,(aAX (φ' :=φ') p1 p2 _ _ _ _ hq f4).1⟩
     obtain⟨xs1,x1,d,x2,xs2,css1,c1,v,c2,css2,Fs1,F1,F2,Fs2,e0,e1,e2,e3,t1,t2,t3,t4,t5,t6,t7,t8⟩:=hh;exact⟨xs1,x1,d,x2,xs2,css1,c1,v,c2,css2,Fs1,F1,F2,Fs2,e0,e1,e2,e3,t1,t2,t3,t4,t5,t6,t7,t8.1,fun pl' e' =>t8.2 pl' (p1 hp0 hp' pl' hq e')⟩
   | none=>
     obtain⟨e,k,d,rfl⟩:=q4 hl;refine⟨jJ,by simp only[φ',hx',hl],?_⟩;cases d with
     | true=>exact⟨[],[],World.ownsRow_nil w 0 e k,rfl,rfl,by unfold cV;exact⟨rfl,rfl⟩⟩
     | false=>exact⟨[],World.ownsRow_nil w 0 e k,rfl,rfl,rfl⟩
  have hb:bH (nR V++b2) h=some x:=by rw[<-q2];exact hx'
  obtain⟨q,hq,rfl⟩:=aQO.1 (aFC hb);have hv:q.1 ∉ V:=fun hv=>by rw[aCc,if_pos hv] at hb;cases hb
  obtain⟨f1,f2⟩:=(k4 q hq).resolve_left hv x hb;obtain⟨pl,hp,hh⟩:=hG.dom q.1 x (by simp only[mk];rw[c2 _ hv];exact hb);refine⟨pl,by simp only[φ',hx',aGy f1];exact hp,?_⟩;exact Holds.mono (fun _ _=>rfl) (fun _ h=>h) (fun _ _=>rfl) x (fun h3 pl3 hm3 e3=>⟨p1 h3 h3 pl3 (aRl f2 hm3) e3,fun _ _=>rfl⟩) hh
 ·have hx' :bH S2 h=none:=hx;simp only[φ',hx']
 ·rcases p3 h pl e with ⟨q,l1,e1⟩ | e1
  ·rcases p3 h' pl' e' with ⟨q',l1',e1'⟩ | e1'
   ·refine hG.disj q q' pl pl' (fun x=>?_) e1 e1' g hg;subst x;obtain⟨x,hx⟩:=p0 h pl e;obtain⟨x',hx'⟩:=p0 h' pl' e';have:=aI4.1 (aI4.1 k5 h (live hx)) h' (live hx');simp only[Bool.or_eq_true,l1,l1',Nat.beq_refl,Bool.not_true] at this;rcases this with q3 | q3
    ·exact hne (aFj q3)
    cases q3
   rw[e1'];simp[jJ,Pl.F]
  rw[e1] at hg;simp[jJ,Pl.F] at hg
 ·rcases p3 h pl e with ⟨g,_,e⟩ | e
  ·exact hG.nodup g pl e
  rw[e];simp[jJ,Pl.F]
 ·rcases p3 h pl e with ⟨g,_,e⟩ | e
  ·exact hG.ge g pl e
  rw[e];simp[jJ,Pl.F]
 ·rcases p3 h pl e with ⟨g,_,e⟩ | e
  ·exact hG.kout b hb g pl e
  rw[e];simp[jJ,Pl.F]
 ·simp only[mk];have hs:=hG.slots t;simp only[mk] at hs;rcases aL5 (o:=o) (b:=rW W++b1) (t:=t) with ⟨x,q1,q2⟩ | ⟨_,q2⟩
  ·rw[q2];obtain⟨Q,hQ⟩:=h1 t x q1;exact(aMq (φ' :=φ') p1 p2 _ _ _ _ hQ hs).1
  rw[q2];by_cases hn:cF (rW W++b1) t= .no
  ·rw[hn];unfold aJ;trivial
  obtain⟨q,hq,rfl⟩:=aQO.1 (aSv hn);have hw:q.1 ∉ W:=fun hw=>hn (by rw[aHw,if_pos hw]);have f:=(k3 q hq).resolve_left hw;rw[c1 _ hw] at hs;exact aJ.mono (fun _ _=>rfl) (fun _ h=>h) _ _ (fun h3 pl3 hm3 e3=>⟨p1 h3 h3 pl3 (aRl f hm3) e3,fun _ _=>rfl⟩) hs
 obtain⟨x,hx⟩:=p0 h pl e;have hlt:=w0.dom h pl0 e0
 have hfx:gm h=some h:=by
  rcases aFB (o:=r) (b:=nR V++b2) (t:=h) with ⟨y,q1,q2⟩ | ⟨_,q2⟩
  ·rcases k0 _ q1 with q | q
   ·have:=aEP q;dsimp only at this;omega
   exact aGy q
  have hb:bH (nR V++b2) h=some x:=by rw[<-q2];exact hx
  obtain⟨q,hq,rfl⟩:=aQO.1 (aFC hb);have hv:q.1 ∉ V:=fun hv=>by rw[aCc,if_pos hv] at hb;cases hb
  exact aGy ((k4 q hq).resolve_left hv x hb).1
 exact hG.pin h pl pl0 (p1 h h pl hfx e) e0
theorem aRm {W V:List Nat}{gm:Nat->Option Nat}{pre:Sl}{prr:Rl}{b1:Sl}{b2:Rl}{r:Rl}(hb:aRk W V gm pre prr b1 b2 r=true):(∀q∈r,Nat.ble 100 q.1=true\/aMt gm q.1=true)/\(∀q∈pre,q.1∈W)/\(∀q∈prr,q.1∈V)/\(∀q∈b1,q.1∈W\/aQ1 gm (cW (cF b1 q.1))=true)/\(∀q∈b2,q.1∈V\/ ∀r,bH b2 q.1=some r->aMt gm q.1=true/\aQ1 gm (jI r)=true)/\bAF gm (aA3 (r++b2))=true:=by
 unfold aRk at hb;simp only[aCA,aI4,Bool.or_eq_true,List.contains_eq_mem,aUa] at hb;obtain⟨⟨⟨⟨⟨k0,k1⟩,k2⟩,k3⟩,k4⟩,k5⟩:=hb;refine⟨k0,k1,k2,k3,fun q hq=>(k4 q hq).imp id fun h r hr=>?_,k5⟩;rw[hr] at h;simpa using h
def aVZ (rs:Rl)(hd:Rl):List (Nat × Nat):=(hd.filter fun q=>(bH rs q.1).isSome).map fun q=>(q.1,q.1)
def bAG (sl:Sl)(c:Operand)(t:T)(K:Option Nat->Bool->T->Prop):Prop:=match c with
 | .tmp s=>(match cF sl s with | .p none (.bool b)=>brW b t (fun b t=>K (some s) b t) | _=>False)
 | .const (.bool b)=>brW b t (fun b t=>K none b t)
 | _=>False
theorem aYQ {sl:Sl}{rs:Rl}{c:Operand}{t:T}{K:Option Nat->Bool->T->Prop}(h:bAG sl c t K): ∃s b t',(mk sl rs).ev c= .p none (.bool b)/\(∀rs',mk (pC sl s b) rs' =mk sl rs')/\K s b t' :=by
 unfold bAG at h;split at h
 ·rename_i s;split at h
  ·rename_i b hb;obtain⟨t',h⟩:=aQZ h;exact⟨some s,b,t',hb,fun rs' =>aYO hb,h⟩
  cases h
 ·rename_i b;obtain⟨t',h⟩:=aQZ h;exact⟨none,b,t',rfl,fun _=>rfl,h⟩
 cases h
def frc {α:Type}(n:Nat)(k:Nat->α):α:=match n with | 0=>k 0 | m+1=>k (m+1)
theorem bAH {α:Type}(n:Nat)(k:Nat->α):frc n k=k n:=by cases n<;>rfl
def bm:List Nat->Nat
 | []=>0
 | h::l=>Nat.lor (Nat.shiftLeft 1 h) (bm l)
theorem aYR (h:Nat):(Nat.shiftLeft 1 h).testBit h=true:=by
 show (1<<<h).testBit h=true;rw[Nat.testBit_shiftLeft];simp
theorem aV0 {h j:Nat}(e:(Nat.shiftLeft 1 h).testBit j=true):j=h:=by
 have e:(1<<<h).testBit j=true:=e;rw[Nat.one_shiftLeft,Nat.testBit_two_pow] at e;simpa using (of_decide_eq_true e).symm
theorem aGz (a b j:Nat):(Nat.lor a b).testBit j=(a.testBit j || b.testBit j):=Nat.testBit_or a b j
theorem aA4: ∀{l:List Nat} {h:Nat},h∈l->(bm l).testBit h=true
 | a::l,h,hm=>by
   rw[bm,aGz];rcases aNn.1 hm with rfl | q
   ·rw[aYR];rfl
   rw[aA4 q];simp
structure Sm where
 d:Nat
 L:Nat
 W:Nat
 T:Nat
 M:Nat
 N:Nat
 R:Nat
def aA5 (a b:Nat):Bool:=Nat.beq (Nat.land a b) 0
theorem aYS {a b:Nat}(h:aA5 a b=true){j:Nat}(ha:a.testBit j=true):b.testBit j=false:=by
 have h1:a&&&b=0:=aFj h;have h2:=Nat.testBit_and a b j;rw[h1,Nat.zero_testBit,ha,Bool.true_and] at h2;exact h2.symm
theorem aBp {a b:List Nat}{A B:Nat}(ha: ∀h∈a,A.testBit h=true)(hb: ∀h∈b,B.testBit h=true)(h:aA5 A B=true):aDn a b=true:=by
 rw[aDn,aI4];intro x hx;have h1:=aYS h (ha x hx);rw[Bool.not_eq_true',List.contains_eq_mem,decide_eq_false_iff_not];intro hm;rw[hb x hm] at h1;cases h1
def rOf (acc:List Sm)(n:Nat):List Edge->Nat
 | []=>0
 | e::es=>(match Region.binds .any e with
   | true=>Nat.lor (Nat.shiftLeft 1 e.on) (Nat.lor (match acc[n - 1 - e.on]? with | some s=>s.R | none=>0) (rOf acc n es))
   | false=>rOf acc n es)
def aYT (y:Sm):Nat->List Sm->Bool
 | k+1,x::l=>(match aA5 y.R (Nat.shiftLeft 1 k) with
  | false=>true
  | true=>aA5 x.d (Nat.lor y.L y.d)&&aA5 y.d x.L&&aA5 x.W (Nat.lor y.T y.W)&&aA5 y.W x.T&&aA5 x.N y.M)&&aA5 y.N x.M&&aYT y k l
 | _,_=>true
def bAl (n:Nat)(y:iJ):Bool:=(y.o.after.toList.all fun e=> !Region.binds .any e || Nat.blt e.on n)&&(y.skip || y.e.new.all fun q=> !y.e.del.contains q.1 || (bH y.vr q.1).isSome)
def aRn (ops:Array Oper):Nat->List Sm->List iJ->Bool
 | _,_,[]=>true
 | n,acc,y::l=>bAl n y&&frc (bm y.o.dst.toList) fun d=>frc (bm (y.looks ops)) fun L=>frc (bm y.W) fun W=>frc (bm y.T) fun T=>frc (Nat.lor (bm y.M) W) fun M=>frc (bm y.Nw) fun N=>frc (rOf acc n y.o.after.toList) fun R=>
  aYT ⟨d,L,W,T,M,N,R⟩ n acc&&aRn ops (n+1) (⟨d,L,W,T,M,N,R⟩::acc) l
structure bAm (ops:Array Oper) (s:Sm) (x:iJ):Prop where
 d: ∀h∈x.o.dst.toList,s.d.testBit h=true
 L: ∀h∈x.looks ops,s.L.testBit h=true
 W: ∀h∈x.W,s.W.testBit h=true
 T: ∀h∈x.T,s.T.testBit h=true
 M: ∀h∈x.M++x.W,s.M.testBit h=true
 N: ∀h∈x.Nw,s.N.testBit h=true
 R: ∀j,s.R.testBit j=true->tL ops (x.i+1) j x.o.after=true
theorem aCd {ops:Array Oper}: ∀{n m x:Nat} {es:Array Edge},n<=m->tL ops n x es=true->tL ops m x es=true
 | 0,_,_,_,_,h=>by simp[tL] at h
 | n+1,0,_,_,hm,_=>by omega
 | n+1,m+1,x,es,hm,h=>by
   rw[tL,Array.any_eq_true] at h ⊢;obtain⟨i,hi,h⟩:=h;refine⟨i,hi,?_⟩;rw[aCA,Bool.or_eq_true] at h ⊢;refine⟨h.1,h.2.imp id fun h=>?_⟩;split at h
   ·exact aCd (by omega) h
   cases h
theorem aMv {acc:List Sm}{n j:Nat}: ∀{es:List Edge},(rOf acc n es).testBit j=true-> ∃e∈es,Region.binds .any e=true/\(e.on=j\/ ∃s,acc[n - 1 - e.on]? =some s/\s.R.testBit j=true)
 | [],h=>by simp[rOf] at h
 | e::es,h=>by
   rw[rOf] at h;split at h
   ·rename_i hb;rw[aGz,aGz,Bool.or_eq_true,Bool.or_eq_true] at h;rcases h with h | h | h
    ·exact⟨e,by simp,hb,.inl (aV0 h).symm⟩
    ·split at h
     ·rename_i s hs;exact⟨e,by simp,hb,.inr ⟨s,hs,h⟩⟩
     simp at h
    obtain⟨e',he,h⟩:=aMv h;exact⟨e',by simp[he],h⟩
   obtain⟨e',he,h⟩:=aMv h;exact⟨e',by simp[he],h⟩
theorem aRo {y:Sm}: ∀{k:Nat} {l:List Sm},k=l.length->aYT y k l=true-> ∀j x,j<k->l[k - 1 - j]? =some x->((aA5 y.R (Nat.shiftLeft 1 j)=false)\/(aA5 x.d (Nat.lor y.L y.d)=true/\aA5 y.d x.L=true/\aA5 x.W (Nat.lor y.T y.W)=true/\aA5 y.W x.T=true/\aA5 x.N y.M=true))/\aA5 y.N x.M=true
 | 0,l,_,_,j,x,hj,_=>by omega
 | k+1,[],hk,_,_,_,_,_=>by simp at hk
 | k+1,z::l,hk,h,j,x,hj,hx=>by
   rw[aYT,aCA,aCA] at h;obtain⟨⟨h1,h2⟩,h3⟩:=h;by_cases e:j=k
   ·subst e;rw[show j+1 - 1 - j=0 by omega] at hx;simp only[List.getElem?_cons_zero,Option.some.injEq] at hx;subst hx;refine⟨?_,h2⟩;split at h1
    ·rename_i q;exact .inl q
    simp only[aCA] at h1;exact .inr ⟨h1.1.1.1.1,h1.1.1.1.2,h1.1.1.2,h1.1.2,h1.2⟩
   rw[show k+1 - 1 - j=(k - 1 - j)+1 by omega,List.getElem?_cons_succ] at hx;exact aRo (by simpa using hk) h3 j x (by omega) hx
def aV1 (y:iJ):Prop:=(y.o.after.all (fun e=> !Region.binds .any e || decide (e.on<y.i))&&(y.skip || y.e.new.all fun q=> !y.e.del.contains q.1 || (bH y.vr q.1).isSome))=true
theorem aO3 {ops:Array Oper}: ∀{l:List iJ},l.Pairwise (fun x y=>x.i<y.i/\aAR ops x y=true)->(∀y∈l,aV1 y)->tM ops l=true
 | [],_,_=>rfl
 | x::l,h,ho=>by
   obtain⟨h1,h2⟩:=List.pairwise_cons.1 h;have h3:=ho x (by simp);rw[aV1,aCA] at h3;rw[tM,aO3 h2 fun y hy=>ho y (by simp[hy]),h3.1,h3.2,Bool.and_true,Bool.and_true,Bool.and_true,aI4];intro y hy;rw[(h1 y hy).2,decide_eq_true (h1 y hy).1];rfl
theorem bAI {A B:Nat}{l m:List Nat}(h1: ∀h∈l,A.testBit h=true)(h2: ∀h∈m,B.testBit h=true): ∀h∈l++m,(Nat.lor A B).testBit h=true:=fun h hm=>by
 rw[aGz,Bool.or_eq_true];rcases aKT.1 hm with q | q
 ·exact .inl (h1 h q)
 exact .inr (h2 h q)
theorem aRp {ops:Array Oper}: ∀(l done:List iJ) (acc:List Sm),acc.length=done.length->(∀k x,done[k]? =some x->x.i=k/\ ∃s,acc[done.length - 1 - k]? =some s/\bAm ops s x)->(∀k x,l[k]? =some x->x.i=done.length+k)->(∀x∈done++l,ops[x.i]? =some x.o)->done.length+l.length<=ops.size->aRn ops done.length acc l=true->
 (∀y∈l,aV1 y)/\(∀x∈done,∀y∈l,x.i<y.i/\aAR ops x y=true)/\l.Pairwise (fun x y=>x.i<y.i/\aAR ops x y=true)
 | [],done,acc,_,_,_,_,_,_=>⟨by simp,by simp,List.Pairwise.nil⟩
 | y::l,done,acc,hal,hd,hl,ho,hs,h=>by
   rw[aRn] at h;simp only[bAH] at h;rw[aCA,aCA] at h;obtain⟨hown,hall,hrest⟩:=h;have hyi:y.i=done.length:=by have:=hl 0 y rfl;omega
   rw[bAl,aCA] at hown;have hafter:=aI4.1 hown.1
   have hsm:bAm ops ⟨bm y.o.dst.toList,bm (y.looks ops),bm y.W,bm y.T,Nat.lor (bm y.M) (bm y.W),bm y.Nw,rOf acc done.length y.o.after.toList⟩ y:=by
    refine⟨fun h hm=>aA4 hm,fun h hm=>aA4 hm,fun h hm=>aA4 hm,fun h hm=>aA4 hm,bAI (fun h hm=>aA4 hm) (fun h hm=>aA4 hm),fun h hm=>aA4 hm,fun j hj=>?_⟩;obtain⟨e,he,hb,hq⟩:=aMv hj
    have hlt:e.on<done.length:=by
     have:=hafter e he;rw[hb] at this;simpa [Nat.blt_eq] using this
    rw[hyi,tL,Array.any_eq_true];obtain⟨i,hi,hie⟩:=List.mem_iff_getElem.1 he;refine⟨i,by simpa using hi,?_⟩;rw[show y.o.after[i]'(by simpa using hi)=e by simpa using hie,hb,Bool.true_and,Bool.or_eq_true];rcases hq with q | ⟨s,hs1,hs2⟩
    ·left;rw[q];exact Nat.beq_refl j
    right;have hx:done[e.on]? =some (done[e.on]'hlt):=aFZ hlt;obtain⟨x1,s',x2,x3⟩:=hd e.on _ hx;rw[x2] at hs1;injection hs1 with hs1
    subst hs1;have h4:=x3.R j hs2;rw[x1] at h4;have h5:=ho (done[e.on]'hlt) (aL6 _ (bA7 hlt));rw[x1] at h5;rw[h5];exact aCd (by omega) h4
   have hpair: ∀x∈done,x.i<y.i/\aAR ops x y=true:=fun x hx=>by
    obtain⟨k,hk,hkx⟩:=List.mem_iff_getElem.1 hx;obtain⟨x1,s,x2,x3⟩:=hd k x (by rw[aFZ hk,hkx]);refine⟨by omega,?_⟩;have h1:=aRo hal.symm hall k s hk x2;rw[aAR,aCA];refine⟨?_,aBp hsm.N x3.M h1.2⟩;rw[Bool.or_eq_true];rcases h1.1 with q | ⟨q1,q2,q3,q4,q5⟩
    ·left
     have hbit:(rOf acc done.length y.o.after.toList).testBit k=true:=by
      cases hb:(rOf acc done.length y.o.after.toList).testBit k with
      | true=>rfl
      | false=>
        exfalso
        have hz:(rOf acc done.length y.o.after.toList)&&&(1<<<k)=0:=by
         apply Nat.eq_of_testBit_eq;intro j;rw[Nat.testBit_and,Nat.zero_testBit];by_cases e:j=k
         ·subst e;rw[hb];rfl
         rw[Nat.one_shiftLeft,Nat.testBit_two_pow,decide_eq_false (fun q=>e q.symm),Bool.and_false]
        have:aA5 (rOf acc done.length y.o.after.toList) (Nat.shiftLeft 1 k)=true:=by
         show Nat.beq ((rOf acc done.length y.o.after.toList)&&&(1<<<k)) 0=true;rw[hz];rfl
        rw[this] at q;cases q
     have:=hsm.R k hbit;rw[aMm,x1];simp only[aQP] at hs;exact aCd (by omega) this
    right;rw[aCA,aHd];simp only[aCA];exact⟨⟨⟨⟨aBp x3.d (bAI hsm.L hsm.d) q1,aBp hsm.d x3.L q2⟩,aBp x3.W (bAI hsm.T hsm.W) q3⟩,aBp hsm.W x3.T q4⟩,aBp x3.N hsm.M q5⟩
   have hownP:aV1 y:=by
    rw[aV1,aCA];refine⟨?_,hown.2⟩;rw[<-Array.all_toList,aI4];intro e he;have:=hafter e he;rw[hyi]
    rwa [show Nat.blt e.on done.length=decide (e.on<done.length) from Bool.eq_iff_iff.2 (by rw[Nat.blt_eq,aUa])] at this
   have hlen:(done++[y]).length=done.length+1:=by simp
   have ih:=aRp (ops:=ops) l (done++[y]) (_::acc) (by simp[hal]) (fun k x hk=>by
    by_cases e:k=done.length
    ·subst e;rw[aNW (aUX _),Nat.sub_self] at hk;simp only[List.getElem?_cons_zero,Option.some.injEq] at hk;subst hk;exact⟨hyi,_,by rw[hlen,show done.length+1 - 1 - done.length=0 by omega];rfl,hsm⟩
    ·have hk' :k<done.length:=by
      have:=(aGL.1 hk).1;omega
     rw[aU1 hk'] at hk;obtain⟨x1,s,x2,x3⟩:=hd k x hk;exact⟨x1,s,by rw[hlen,show done.length+1 - 1 - k=(done.length - 1 - k)+1 by omega,List.getElem?_cons_succ];exact x2,x3⟩)
    (fun k x hk=>by have:=hl (k+1) x (by simpa using hk);rw[hlen];omega) (fun x hx=>ho x (by simpa using hx)) (by simp only[aQP] at hs;rw[hlen];omega) (by rw[hlen];exact hrest)
   obtain⟨i1,i2,i3⟩:=ih;refine⟨fun z hz=>?_,fun x hx z hz=>?_,List.pairwise_cons.2 ⟨fun z hz=>i2 y (by simp) z hz,i3⟩⟩
   ·rcases aNn.1 hz with rfl | q
    ·exact hownP
    exact i1 z q
   rcases aNn.1 hz with rfl | q
   ·exact hpair x hx
   exact i2 x (by simp[hx]) z q
theorem aO4 {P:Program}{N:Nat}{ops:Array Oper}{K:St->Prop}: ∀{l:List iJ} {S:St},aC8 P N ops l S K-> ∀x∈l,ops[x.i]? =some x.o
 | [],_,_,x,hx=>by simp at hx
 | r::l,S,h,x,hx=>by
   obtain⟨h1,h2⟩:=h;rcases aNn.1 hx with rfl | q
   ·exact h1.1
   exact aO4 h2 x q
def bAJ (all:Array Oper)(sl:Sl)(rs:Rl)(recs:List iJ):Bool:=aRn all 0 [] recs&&recs.all fun r=>r.Nw.all fun k=>gW sl rs k
theorem aSw {P:Program}{N:Nat}{id:Nat}{l:List Oper}{sl:Sl}{rs:Rl}{Q:Exit->St->Prop}(hm:P.follows .mixedOrders=true)(h:rP P N l.toArray 0 l sl rs [] (fun S recs=>bAJ l.toArray sl rs recs=true/\Q .normal S)):VC P N (.region id l.toArray true) (mk sl rs) Q:=by
 intro A w0 a w hG;obtain⟨recs,S',h1,⟨h2,h3⟩,h4⟩:=aBm l 0 sl rs [] h;simp only[List.reverse_nil,aZG] at h2;unfold bAJ at h2;rw[aCA,aI4] at h2
 have hmem: ∀i,(∃r∈recs,r.i=i)↔i<l.length:=fun i=>by
  have:(∃r∈recs,r.i=i)↔i∈recs.map (·.i):=by simp
  rw[this,h4];simp[List.mem_range']
 have hsz:l.toArray.size=l.length:=by simp
 have hlen:recs.length=l.length:=by have:=congrArg List.length h4;simpa using this
 have hlk:tM l.toArray recs=true:=by
  obtain⟨q1,_,q3⟩:=aRp recs [] [] rfl (fun k x hk=>by simp at hk) (fun k x hk=>by
   have h5:(recs.map (·.i))[k]? =some x.i:=by rw[aZH,hk];rfl
   rw[h4] at h5;have:=(aGL.1 h5).2;simp only[List.getElem_range'] at this;simp only[List.length_nil];omega) (fun x hx=>aO4 h1 x (by simpa using hx)) (by simp[hlen]) h2.1
  exact aO3 q3 q1
 refine wp_region_any hm (aSk (Kn:=fun S=>S=S') (fun S a w hS hG=>⟨S,hG,by rw[hS];exact h3⟩) _ recs _ (mk sl rs) a _ (by rw[hsz,<-aAH (f:=fun r:iJ=>r.i),h4];simp) h1 hlk (fun i hi=>?_) (fun i hi=>?_) (fun r hr=>?_) (fun r hr k hk=>gA (aI4.1 (h2.2 r hr) k hk)) (fun i o hi _ hl' =>by exfalso;rw[hsz] at hi;rw[Array.getD_eq_getD_getElem?] at hl';simp[hi] at hl') hG.drew)
 ·rw[hmem];rw[hsz] at hi;simp[hi]
 ·rw[hsz] at hi;simp[hi]
 rw[hsz];exact(hmem r.i).1 ⟨r,hr,rfl⟩
theorem VC.ghost {P:Program}{N:Nat}{c:Code}{S S' :St}{Q:Exit->St->Prop}(h:VC P N c S' Q)(hg: ∀A w0 N a w,wH A w0 N S a w->wH A w0 N S' a w):VC P N c S Q:=fun A w0 a w hG=>h A w0 a w (hg A w0 N a w hG)
section
variable (P:Program) (tb:Tb) (N:Nat)
def wpC:Code->Sl->Rl->Sl->Rl->T->(Exit->Sl->Rl->T->Prop)->Prop
 | .skip,_,_,pre,prr,t,K=>K .normal pre prr t
 | .ret,_,_,pre,prr,t,K=>K .ret pre prr t
 | .exit id,_,_,pre,prr,t,K=>K (.exit id) pre prr t
 | .region id ops draw,bs,br,pre,prr,t,K=>gsW id (pre++bs) (prr++br) t fun n1 n2 t=>ghW id ((n1++pre)++bs) ((n2++prr)++br) t fun new t=>(match ops with
   | ⟨l⟩=>(match draw with
     | false=>aQ0 P tb N l bs br l (n1++pre) (new++(n2++prr)) t (fun pre prr t=>K .normal pre prr t)
     | true=>aDw P tb N l bs br 0 l (n1++pre) (new++(n2++prr)) [] t (fun pre' prr' acc t=>(match bAJ l.toArray ((n1++pre)++bs) ((new++(n2++prr))++br) acc.reverse with
       | true=>K .normal pre' prr' t
       | false=>False))))
 | .seq a b,bs,br,pre,prr,t,K=>wpC a bs br pre prr t (fun e pre prr t=>(match e with
   | .normal=>wpC b bs br pre prr t K
   | e=>K e pre prr t))
 | .cond c x y,bs,br,pre,prr,t,K=>bAG (pre++bs) c t (fun s b t=>(match b with
   | true=>wpC x bs br (pC pre s true) prr t K
   | false=>wpC y bs br (pC pre s false) prr t K))
 | .block id c,bs,br,pre,prr,t,K=>wpC c bs br pre prr t (fun e pre prr t=>(match e with
   | .exit id' =>(match Nat.beq id' id with | true=>K .normal pre prr t | false=>K (.exit id') pre prr t)
   | e=>K e pre prr t))
 | .loop c,bs,br,pre,prr,t,K=>(match t with
   | .loop _ q W V osl ors inv m t=>
     (q.ex 0 fun y=>(match aRk W V (gmF (aVZ (prr++br) (ors y)) ((ors y).map (·.1))) [] [] (rW W++(pre++bs)) (nR V++(prr++br)) (ors y) with | true=>EqS (pre++bs) (gmF (aVZ (prr++br) (ors y)) ((ors y).map (·.1))) (osl y) (aK8 (prr++br) (gmF (aVZ (prr++br) (ors y)) ((ors y).map (·.1))) (ors y) (inv y)) | false=>False))/\
     q.all fun x=>inv x->wpC c (rW W++(pre++bs)) (nR V++(prr++br)) (osl x) (ors x) (t x) (fun e pre' prr' t' =>(match e with
      | .normal=>(match t' with
        | .back ren n=>q.ex n fun y=>(match aRk W V (gmF ren ((ors y).map (·.1))) pre' prr' (rW W++(pre++bs)) (nR V++(prr++br)) (ors y) with
          | true=>EqS (pre' ++(rW W++(pre++bs))) (gmF ren ((ors y).map (·.1))) (osl y) (aK8 (prr' ++(nR V++(prr++br))) (gmF ren ((ors y).map (·.1))) (ors y) (inv y/\m y<m x))
          | false=>False)
        | _=>False)
      | e=>K e (pre' ++(rW W++pre)) (prr' ++(nR V++prr)) t'))
   | _=>False)
 | _,_,_,_,_,_,_=>False
end
section
variable {P:Program} {tb:Tb} {N:Nat}
open Classical in
theorem aV2 {S:St}{Q:Exit->St->Prop}{c:Code}(I:Nat->St->Prop)(n:Nat)(h0:I n S)(round: ∀n S,I n S->VC P N c S (aZF (fun S' => ∃m S'',m<n/\(∀A w0 a w,wH A w0 N S' a w->wH A w0 N S'' a w)/\I m S'') Q)):VC P N (.loop c) S Q:=fun A w0 a w hG=>by
 let J:Act->World->Nat->Prop:=fun a w n=> ∃S,I n S/\wH A w0 N S a w
 refine wp_loop (fun a w=> ∃n,J a w n) (fun a w=>if h: ∃n,J a w n then Classical.choose (aC6 _ h) else 0) ⟨n,S,h0,hG⟩ fun a w hI=>?_;have hmin:=Classical.choose_spec (aC6 _ hI);obtain⟨⟨S1,hI1,hG1⟩,_⟩:=hmin;refine Code.wp_mono (fun e a' w' ⟨S',h1,h2⟩=>?_) (round _ S1 hI1 A w0 a w hG1);cases e with
 | normal=>
   obtain⟨m,S'',hm,hl,hI2⟩:=h2;have hex: ∃n,J a' w' n:=⟨m,S'',hI2,hl A w0 a' w' h1⟩;refine⟨hex,?_⟩;simp only[dif_pos hI,dif_pos hex];exact Nat.lt_of_le_of_lt ((Classical.choose_spec (aC6 _ hex)).2 m ⟨S'',hI2,hl A w0 a' w' h1⟩) hm
 | _=>exact⟨S',h1,h2⟩
theorem aA6 (hT:mS P tb)(hm:P.follows .mixedOrders=true): ∀(c:Code) (bs:Sl) (br:Rl) (pre:Sl) (prr:Rl) (t:T) (K:Exit->Sl->Rl->T->Prop),wpC P tb N c bs br pre prr t K->VC P N c (mk (pre++bs) (prr++br)) (fun e S=> ∃pre' prr' t',S=mk (pre' ++bs) (prr' ++br)/\K e pre' prr' t')
 | .skip,bs,br,pre,prr,t,K,h=>aXa ⟨pre,prr,t,rfl,h⟩
 | .ret,bs,br,pre,prr,t,K,h=>aZX ⟨pre,prr,t,rfl,h⟩
 | .exit id,bs,br,pre,prr,t,K,h=>aXb ⟨pre,prr,t,rfl,h⟩
 | .region id ops draw,bs,br,pre,prr,t,K,h=>by
   obtain⟨l⟩:=ops;simp only[wpC] at h;obtain⟨n1,n2,t,hst,h⟩:=bAD h;rw[<-aMd,<-aMd] at hst;refine(?_:VC P N (.region id l.toArray draw) (mk ((n1++pre)++bs) ((n2++prr)++br)) _).ghost hst;generalize n1++pre=pre at h ⊢;generalize n2++prr=prr at h ⊢;obtain⟨new,t,hgh,h⟩:=bAE h;rw[<-aMd] at hgh;refine(?_:VC P N (.region id l.toArray draw) (mk (pre++bs) ((new++prr)++br)) _).ghost hgh;cases draw with
   | false=>
     dsimp only at h
     exact aZd (aGx hT l pre (new++prr) t h)
   | true=>
     dsimp only at h
     refine aSw hm ?_;have:=aO1 hT (all:=l) l [] pre (new++prr) [] t rfl h;refine sX ?_ l 0 _ _ _ this;rintro S recs ⟨pre',prr',acc',t',e1,e2,h⟩;split at h
     ·rename_i hk;exact⟨by rw[e2];exact hk,pre',prr',t',e1,h⟩
     cases h
 | .seq a b,bs,br,pre,prr,t,K,h=>by
   simp only[wpC] at h;refine aZY fun Kn hKn=>aMl (aA6 hT hm a bs br pre prr t _ h) ?_;rintro e S ⟨pre',prr',t',rfl,h⟩;cases e with
   | normal=>exact hKn _ (aA6 hT hm b bs br pre' prr' t' K h)
   | _=>exact⟨pre',prr',t',rfl,h⟩
 | .cond c x y,bs,br,pre,prr,t,K,h=>by
   simp only[wpC] at h;obtain⟨s,b,t',h1,h2,h⟩:=aYQ (rs:=prr++br) h;refine aXc h1 (fun e=>?_) (fun e=>?_)
   ·subst e;rw[<-h2,qB];exact aA6 hT hm x bs br _ prr t' K h
   subst e;rw[<-h2,qB];exact aA6 hT hm y bs br _ prr t' K h
 | .block id c,bs,br,pre,prr,t,K,h=>by
   simp only[wpC] at h;refine aU9 (aMl (aA6 hT hm c bs br pre prr t _ h) ?_);rintro e S ⟨pre',prr',t',rfl,h⟩;cases e with
   | exit id' =>
     simp only[aQI]
     dsimp only at h
     split at h
     ·rename_i e;rw[if_pos (aFj e)];exact⟨pre',prr',t',rfl,h⟩
     rename_i e;rw[if_neg (fun e' =>by rw[e',Nat.beq_refl] at e;cases e)];exact⟨pre',prr',t',rfl,h⟩
   | _=>exact⟨pre',prr',t',rfl,h⟩
 | .loop c,bs,br,pre,prr,t,K,h=>by
   simp only[wpC] at h;split at h
   ·rename_i τ q W V osl ors inv m t;obtain⟨hi,hr⟩:=h;obtain⟨y,hi⟩:=q.h2 _ _ hi;have hr:=q.h1 _ hr;split at hi
    ·rename_i hk;obtain⟨i1,i2⟩:=aQ2 hi;obtain⟨i3,i4⟩:=aMu i2;obtain⟨g0,_,_,g3,g4,g5⟩:=aRm hk;refine fun A w0 a w hG=>?_;refine(?_:VC P N (.loop c) (mk (osl y++(rW W++(pre++bs))) (ors y++(nR V++(prr++br)))) _) A w0 a w (aO2 g0 g3 g4 g5 (fun t ht=>by rw[aHw,if_neg ht]) (fun h hh=>by rw[aCc,if_neg hh]) i1 i3 hG);refine aV2 (fun n S=> ∃x,S=mk (osl x++(rW W++(pre++bs))) (ors x++(nR V++(prr++br)))/\n=m x/\inv x) (m y) ⟨y,rfl,rfl,i4⟩ ?_;rintro n S ⟨x,rfl,rfl,hx⟩;refine aMl (aA6 hT hm c _ _ _ _ _ _ (hr x hx)) ?_;rintro e S ⟨pre',prr',t',rfl,h⟩;cases e with
     | normal=>
       dsimp only at h
       split at h
       ·rename_i ren;obtain⟨y,h⟩:=q.h2 _ _ h;split at h
        ·rename_i hk2;obtain⟨j1,j2⟩:=aQ2 h;obtain⟨j3,j4,j5⟩:=aMu j2;obtain⟨g0,g1,g2,g3,g4,g5⟩:=aRm hk2;refine⟨m y,_,j5,fun A w0 a w hG=>aO2 g0 g3 g4 g5 (fun t ht=>?_) (fun h hh=>?_) j1 j3 hG,y,rfl,rfl,j4⟩
         ·rcases aL5 (o:=pre') (b:=rW W++(pre++bs)) (t:=t) with ⟨x,q1,_⟩ | ⟨_,q2⟩
          ·exact absurd (g1 _ q1) ht
          exact q2
         rcases aFB (o:=prr') (b:=nR V++(prr++br)) (t:=h) with ⟨x,q1,_⟩ | ⟨_,q2⟩
         ·exact absurd (g2 _ q1) hh
         exact q2
        cases h
       cases h
     | _=>exact⟨_,_,_,by simp only[aMd],h⟩
    cases hi
   cases h
 | .rangeFunc _ _ _ _,bs,br,pre,prr,t,K,h=>by simp only[wpC] at h
 | .scope _,bs,br,pre,prr,t,K,h=>by simp only[wpC] at h
 | .label _,bs,br,pre,prr,t,K,h=>by simp only[wpC] at h
 | .goto _,bs,br,pre,prr,t,K,h=>by simp only[wpC] at h
 | .refuse _,bs,br,pre,prr,t,K,h=>by simp only[wpC] at h
end
def aSx (tb:Tb)(sl:Sl)(rs:Rl):List ResultVar->Option (List AV)
 | []=>some []
 | r::l=>(match (match r with
  | .tmp t=>some (cF sl t)
  | .cell t ty=>(match cF sl t with
    | .ptr h 0=>(match bH rs h with
      | some (.box _ cs)=>(match dC tb.ty ty with
        | some (true,n,_,_)=>(match Nat.beq n cs.length with | true=>some (.agg cs) | false=>none)
        | some (false,_,_,_)=>cs[0]?
        | none=>none)
      | _=>none)
    | _=>none)) with
   | some x=>(match aSx tb sl rs l with | some xs=>some (x::xs) | none=>none)
   | none=>none)
mutual
def aCe (ren:List (Nat × Nat)):AV->AV->Prop->Prop
 | .nil,y,K=>(match y with | .nil=>K | .own h=>(match dC ren h with | none=>K | some _=>False) | .p none (.sl _ _ xs)=>[]=xs/\K | _=>False)
 | .own g,y,K=>(match y with | .own h=>(match dC ren h with | some g' =>EqN g g' K | none=>False) | _=>False)
 | .p none x,y,K=>(match y with | .p none x' =>EqD x x' /\K | _=>False)
 | .agg cs,y,K=>(match y with | .agg cs' =>aSy ren cs cs' K | _=>False)
 | .tup cs,y,K=>(match y with | .tup cs' =>aSy ren cs cs' K | _=>False)
 | _,_,_=>False
def aSy (ren:List (Nat × Nat)):List AV->List AV->Prop->Prop
 | [],ys,K=>(match ys with | []=>K | _=>False)
 | x::xs,ys,K=>(match ys with | y::ys=>aCe ren x y (aSy ren xs ys K) | []=>False)
end
def rrW (rs:Rl)(ren:List (Nat × Nat)):List (Nat × Rs)->Prop
 | []=>True
 | (h,r)::l=>(match dC ren h with
   | some g=>(match bH rs g with | some r' =>EqR r' r (rrW rs ren l) | none=>False)
   | none=>(match r with | .arr _ _ _ xs=>[]=xs/\rrW rs ren l | _=>False))
def bAK (tb:Tb)(res:List ResultVar)(rv:AV)(rr:List (Nat × Rs))(e:Exit)(sl:Sl)(rs:Rl)(t:T):Prop:=
 (match (match e with | .normal=>true | .ret=>true | _=>false) with
 | true=>(match t with
   | .fin ren=>(match aSx tb sl rs res with
     | some xs=>(match nL (ren.map (·.2))&&nL (rr.map (·.1))&&(rr.all fun q=>aH2 q.2)&&((cW rv).all fun h=>(bF rr h).isSome) with
       | true=>aCe ren (aLJ xs) rv (rrW rs ren rr)
       | false=>False)
     | none=>False)
   | _=>False)
 | false=>False)
theorem aMw {P:Program}{tb:Tb}(hT:mS P tb){sl:Sl}{rs:Rl}: ∀{l:List ResultVar} {xs:List AV},aSx tb sl rs l=some xs->aUd P (mk sl rs) l xs
 | [],xs,h=>by simp only[aSx,Option.some.injEq] at h;subst h;exact rfl
 | r::l,xs,h=>by
   unfold aSx at h;split at h
   ·rename_i x hx;split at h
    ·rename_i xs' hxs;injection h with h
     subst h;refine⟨x,xs',rfl,?_,aMw hT hxs⟩;cases r with
     | tmp t=>dsimp only at hx;injection hx with hx;subst hx;rfl
     | cell t ty=>
       dsimp only at hx
       split at hx
       ·rename_i hh hs;split at hx
        ·rename_i tq cs hr;split at hx
         ·rename_i n bt z hq;split at hx
          ·rename_i hn;injection hx with hx
           subst hx;exact⟨_,_,_,_,_,_,_,hs,hr,dG hT.ty hq,.inl ⟨rfl,aFj hn,rfl⟩⟩
          cases hx
         ·rename_i n bt z hq;exact⟨_,_,_,_,_,_,_,hs,hr,dG hT.ty hq,.inr ⟨rfl,hx⟩⟩
         cases hx
        cases hx
       cases hx
    cases h
   cases h
mutual
theorem aRq {ren:List (Nat × Nat)}{K:Nat->Prop}{φ φ' :iW}{w:World}(h1: ∀h g pl,dC ren h=some g->φ' h=some pl->φ g=some pl)(h2: ∀h pl,dC ren h=none->φ' h=some pl->pl=jJ): ∀(x y:AV) (Q:Prop) (v:Value),aCe ren x y Q->aJ K φ w x v->aJ K φ' w y v/\Q
 | .nil,y,Q,v,h,hm=>by
   unfold aCe at h;unfold aJ at hm;split at h
   ·exact⟨by unfold aJ;exact hm,h⟩
   ·split at h
    ·rename_i hl;refine⟨?_,h⟩;unfold aJ;intro pl hp;rw[h2 _ pl hl hp,hm];rfl
    cases h
   ·refine⟨?_,h.2⟩;unfold aJ;rw[hm,<-h.1];exact uW
   cases h
 | .own g,y,Q,v,h,hm=>by
   unfold aCe at h;unfold aJ at hm;split at h
   ·split at h
    ·rename_i g' hl;obtain⟨e,hQ⟩:=h.eq;subst e;refine⟨?_,hQ⟩;unfold aJ;intro pl hp;exact hm pl (h1 _ _ pl hl hp)
    cases h
   cases h
 | .p none x,y,Q,v,h,hm=>by
   unfold aCe at h;split at h
   ·refine⟨?_,h.2⟩;unfold aJ at*;rw[<-h.1.eq];exact hm
   cases h
 | .p (some _) x,y,Q,v,h,hm=>by unfold aCe at h;cases h
 | .agg cs,y,Q,v,h,hm=>by
   unfold aCe at h;unfold aJ at hm;obtain⟨vs,rfl,q1,q2⟩:=hm;split at h
   ·obtain⟨q3,q4⟩:=aMx h1 h2 cs _ Q _ h q2;refine⟨?_,q4⟩;unfold aJ;exact⟨vs,rfl,q1,q3⟩
   cases h
 | .tup cs,y,Q,v,h,hm=>by
   unfold aCe at h;unfold aJ at hm;obtain⟨vs,rfl,q2⟩:=hm;split at h
   ·obtain⟨q3,q4⟩:=aMx h1 h2 cs _ Q _ h q2;refine⟨?_,q4⟩;unfold aJ;exact⟨vs,rfl,q3⟩
   cases h
 | .ptr _ _,y,Q,v,h,hm=>by unfold aCe at h;cases h
 | .ep _ _ _ _,y,Q,v,h,hm=>by unfold aCe at h;cases h
 | .rp _ _,y,Q,v,h,hm=>by unfold aCe at h;cases h
 | .fn _ _,y,Q,v,h,hm=>by unfold aCe at h;cases h
 | .bsl _ _,y,Q,v,h,hm=>by unfold aCe at h;cases h
 | .no,y,Q,v,h,hm=>by unfold aCe at h;cases h
theorem aMx {ren:List (Nat × Nat)}{K:Nat->Prop}{φ φ' :iW}{w:World}(h1: ∀h g pl,dC ren h=some g->φ' h=some pl->φ g=some pl)(h2: ∀h pl,dC ren h=none->φ' h=some pl->pl=jJ): ∀(xs ys:List AV) (Q:Prop) (vs:List Value),aSy ren xs ys Q->aT K φ w xs vs->aT K φ' w ys vs/\Q
 | [],ys,Q,vs,h,hm=>by
   unfold aSy at h;split at h
   ·unfold aT at*;exact⟨hm,h⟩
   cases h
 | x::xs,ys,Q,vs,h,hm=>by
   unfold aSy at h;unfold aT at hm;obtain⟨v,vs',rfl,q1,q2⟩:=hm;split at h
   ·obtain⟨q3,q4⟩:=aRq h1 h2 x _ _ v h q1;obtain⟨q5,q6⟩:=aMx h1 h2 xs _ Q vs' q4 q2;refine⟨?_,q6⟩;unfold aT;exact⟨v,vs',rfl,q5 |>fun _=>q3,q5⟩
   cases h
end
theorem aQ3 {rs:Rl}{ren:List (Nat × Nat)}: ∀{l:List (Nat × Rs)},rrW rs ren l-> ∀h r,bF l h=some r->(∀g,dC ren h=some g->bH rs g=some r)/\(dC ren h=none-> ∃e k d,r= .arr e k d [])
 | [],_,h,r,e=>by simp[bF] at e
 | (k,r0)::l,hw,h,r,e=>by
   unfold rrW at hw;simp only[bF] at e;split at hw
   ·rename_i g hg;split at hw
    ·rename_i r' hr';obtain⟨e1,hw⟩:=hw.eq;split at e
     ·rename_i ek;subst ek;injection e with e
      subst e;exact⟨fun g' hg' =>by rw[hg] at hg';injection hg' with hg';subst hg';rw[hr',e1],fun hn=>by rw[hg] at hn;cases hn⟩
     exact aQ3 hw h r e
    cases hw
   rename_i hg;split at hw
   ·obtain⟨e1,hw⟩:=hw;split at e
    ·rename_i ek;subst ek;injection e with e
     subst e;exact⟨fun g' hg' =>(by rw[hg] at hg';cases hg'),fun _=>⟨_,_,_,by rw[<-e1]⟩⟩
    exact aQ3 hw h r e
   cases hw
def bAL:bR->Prop->Prop
 | .sl _ _ xs,K=>xs.length<=9223372036854775807->K
 | _,K=>K
def aYU:List bR->Prop->Prop
 | [],K=>K
 | x::xs,K=>bAL x (aYU xs K)
def aHx:List Ar->Prop->Prop
 | [],K=>K
 | .one x::l,K=>bAL x (aHx l K)
 | .agg xs::l,K=>aYU xs (aHx l K)
 | .ref xs::l,K=>aYU xs (aHx l K)
 | .fn _ _::l,K=>aHx l K
theorem aRr {A:Nat->Prop}{w:World}{x:bR}{v:Value}{K:Prop}(h:iU A w x v)(hk:bAL x K):K:=by
 cases x with
 | sl e k xs=>
   unfold iU at h;obtain⟨a,c,_,h1,h2,_⟩:=h;exact hk (by unfold maxLen at h2;omega)
 | _=>exact hk
theorem aMy {A:Nat->Prop}{w:World}{K:Prop}: ∀{xs:List bR} {vs:List Value},jR A w xs vs->aYU xs K->K
 | [],_,_,hk=>hk
 | x::xs,_,⟨v,vs,_,h1,h2⟩,hk=>aMy h2 (aRr h1 hk)
theorem aA7 {A:Nat->Prop}{w:World}{K:Prop}: ∀{xs:List Ar} {vs:List Value},pU A w xs vs->aHx xs K->K
 | [],_,_,hk=>hk
 | .one x::xs,_,⟨v,vs,_,h1,h2⟩,hk=>aA7 h2 (aRr h1 hk)
 | .agg ys::xs,_,⟨v,vs,_,⟨us,_,h1⟩,h2⟩,hk=>aA7 h2 (aMy h1 hk)
 | .ref ys::xs,_,⟨v,vs,_,⟨a,_,h1⟩,h2⟩,hk=>by
   obtain⟨_,_,us,_,_,hl,_⟩:=h1.vals;exact aA7 h2 (aMy hl hk)
 | .fn _ _::xs,_,⟨v,vs,_,_,h2⟩,hk=>aA7 h2 hk
theorem bAo {P : Program} {tb : Tb} (hT : mS P tb) (hm : P.follows .mixedOrders = true) {f : FuncId} {fn : Func} {c : Code} {args : List Ar} {rv : AV} {rr : List (Nat × Rs)} (hf : P.funcs[f]? = some fn) (hb : fn.body = some c) (hn : (fn.name == "runtime.NumGoroutine") = false) (hl : args.length ≤ fn.ntmps) (t : T)
 (h:aHx args (wpC P tb fn.ntmps c [] [] (aAS 0 args) [] t (bAK tb fn.results.toList rv rr))):rM P f args rv rr:=by
 refine⟨by simp[kF,hf,hb,hn],fun A w vs hA hargs=>?_⟩;have h:=aA7 hargs h;refine calls_of_wp hf hb ?_;have hlen:=aLK hargs;simp only[bA8] at hlen
 have hG0:wH A ⟨w,fun _=>False,fun _=>none,by simp⟩ fn.ntmps (S0 args) { tmps:=vs++Array.replicate (fn.ntmps - vs.size) undef,defers:=[] } w:=by
  refine⟨A,fun _=>none,by simp[S0],by simp[S0],by simp,by simp,by simp,fun b hb=>⟨hA b hb,.inl hb⟩,by simp,fun _ h=>h,fun t=>?_,⟨rfl,rfl,rfl,aUX _,fun _ _ _=>rfl⟩,rfl,by simp;omega,by simp⟩;simp only[S0];split
  ·rename_i x hx;obtain⟨v,hv,hr⟩:=aOC hargs hx;have ht:t<vs.size:=by have:=(aGL.1 hv).1;simpa using this
   rw[Array.getD_eq_getD_getElem?,Array.getElem?_append_left ht,<-Array.getElem?_toList,hv];exact aQK hr
  unfold aJ;trivial
 have hvc:=aA6 hT hm c [] [] (aAS 0 args) [] t _ h;simp only[aZC] at hvc;rw[<-bAg] at hvc;refine Code.wp_mono (fun e a' w' ⟨S,⟨K,φ,hG⟩,pre,prr,t',hS,hfin⟩=>?_) (hvc A _ _ w hG0);subst hS;unfold bAK at hfin;split at hfin
 ·rename_i he;split at hfin
  ·rename_i ren;split at hfin
   ·rename_i xs hxs;split at hfin
    ·rename_i hb;simp only[aCA,aI4] at hb;obtain⟨⟨⟨b1,b2⟩,b3⟩,b4⟩:=hb;obtain⟨v,hrun,hmv⟩:=aCO hG (aMw hT hxs)
     let φ' :iW:=fun h=>match bF rr h with | some _=>(match dC ren h with | some g=>φ g | none=>some jJ) | none=>none
     have p1: ∀h g pl,dC ren h=some g->φ' h=some pl->φ g=some pl:=fun h g pl e e' =>by
      simp only[φ',e] at e';split at e'
      ·exact e'
      cases e'
     have p2: ∀h pl,dC ren h=none->φ' h=some pl->pl=jJ:=fun h pl e e' =>by
      simp only[φ',e] at e';split at e'
      ·injection e' with e';exact e'.symm
      cases e'
     have p3: ∀h pl,φ' h=some pl->(∃g,dC ren h=some g/\φ g=some pl)\/pl=jJ:=fun h pl e=>by
      cases hl:dC ren h with
      | some g=>exact .inl ⟨g,rfl,p1 h g pl hl e⟩
      | none=>exact .inr (p2 h pl hl e)
     obtain⟨m1,m2⟩:=aRq (φ' :=φ') p1 p2 _ _ _ v hfin hmv
     have hR:aZE A w rv rr (.returned v) w' :=by
      refine⟨v,K,φ',rfl,aUe hG.bel,fun b hb=>⟨(hG.kin b hb).1,(hG.kin b hb).2.imp id aR6⟩,fun b hb h pl e=>?_,fun h r hr=>?_,fun h hr=>by simp[φ',hr],fun h h' pl pl' hne e e' g hg=>?_,fun h pl e=>?_,fun h pl e=>?_,m1⟩
      ·rcases p3 h pl e with ⟨g,_,e⟩ | e
       ·exact hG.kout b hb g pl e
       rw[e];simp[jJ,Pl.F]
      ·obtain⟨q1,q2⟩:=aQ3 m2 h r hr;cases hl:dC ren h with
       | some g=>
         obtain⟨pl,hp,hh⟩:=hG.dom g r (q1 g hl);exact⟨pl,by simp[φ',hr,hl,hp],Holds.arrPhi (b3 _ (dA hr)) hh⟩
       | none=>
         obtain⟨e,k,d,rfl⟩:=q2 hl;refine⟨jJ,by simp[φ',hr,hl],?_⟩;cases d with
         | true=>exact⟨[],[],World.ownsRow_nil w' 0 e k,rfl,rfl,by unfold cV;exact⟨rfl,rfl⟩⟩
         | false=>exact⟨[],World.ownsRow_nil w' 0 e k,rfl,rfl,rfl⟩
      ·rcases p3 h pl e with ⟨q,l1,e1⟩ | e1
       ·rcases p3 h' pl' e' with ⟨q',l1',e1'⟩ | e1'
        ·exact hG.disj q q' pl pl' (fun x=>by subst x;exact hne (aHl b1 l1 l1')) e1 e1' g hg
        rw[e1'];simp[jJ,Pl.F]
       rw[e1] at hg;simp[jJ,Pl.F] at hg
      ·rcases p3 h pl e with ⟨g,_,e⟩ | e
       ·exact hG.nodup g pl e
       rw[e];simp[jJ,Pl.F]
      rcases p3 h pl e with ⟨g,_,e⟩ | e
      ·exact fun q hq=>⟨aR6 (hG.ge g pl e q hq).1,(hG.ge g pl e q hq).2⟩
      rw[e];simp[jJ,Pl.F]
     cases e with
     | normal=>exact⟨hG.nd,v,hrun,hR⟩
     | ret=>exact⟨hG.nd,v,hrun,hR⟩
     | _=>cases he
    cases hfin
   cases hfin
  cases hfin
 cases hfin
def aK9 (fn : Func) (n : Nat) : Bool := (!(fn.name == "runtime.NumGoroutine") && fn.body.isSome) && Nat.ble n fn.ntmps
def aRs (P:Program)(tb:Tb)(fn:Func)(args:List Ar)(rv:AV)(rr:List (Nat × Rs))(t:T):Prop:=aHx args (match fn.body with | some c=>wpC P tb fn.ntmps c [] [] (aAS 0 args) [] t (bAK tb fn.results.toList rv rr) | none=>False)
theorem bAp {P:Program}{tb:Tb}(hT:mS P tb)(hm:P.follows .mixedOrders=true){f:FuncId}{fn:Func}{args:List Ar}{rv:AV}{rr:List (Nat × Rs)}(hf:P.funcs[f]? =some fn)(hc:aK9 fn args.length=true)(t:T)(h:aRs P tb fn args rv rr t):rM P f args rv rr:=by
 unfold aK9 at hc;rw[aCA] at hc;have hl:=aEP hc.2;cases hb:fn.body with
 | some c=>
   rw[aCA] at hc;refine bAo hT hm hf hb (by simpa using hc.1.1) hl t ?_;unfold aRs at h;rw[hb] at h;exact h
 | none=>
   rw[hb] at hc;simp at hc
theorem bAq {P:Program}{tb:Tb}(hT:mS P tb)(hm:P.follows .mixedOrders=true){f:FuncId}{fn:Func}{args:List Ar}{rv:AV}{rr:List (Nat × Rs)}(hf:P.funcs[f]? =some fn)(hc:aK9 fn args.length=true)(t:T){p:Prop}(h:aRs P tb fn args rv rr t=p)(hp:p):rM P f args rv rr:=bAp hT hm hf hc t (Eq.mpr h hp)
theorem nt {b:Bool}(h:(!b)=true):b=false:=by cases b<;>simp_all
theorem nf {b:Bool}(h:(!b)=false):b=true:=by cases b<;>simp_all
def rrB (rs:Rl)(ren:List (Nat × Nat)):List (Nat × Rs)->Prop
 | []=>True
 | (h,r)::l=>(match dC ren h with
   | some g=>(match bH rs g with
     | some r' =>(match r with
       | .box t cs=>(match r' with | .box t' cs' =>EqN t' t (wK (dC ren) cs cs' (rrB rs ren l)) | _=>False)
       | .arr e k d xs=>EqR r' (.arr e k d xs) (rrB rs ren l)
       | .hole _ _ _ _ _ _=>False)
     | none=>False)
   | none=>(match r with | .arr _ _ _ xs=>[]=xs/\rrB rs ren l | _=>False))
def bBP (rs:Rl)(ren:List (Nat × Nat))(h:Nat)(r:Rs):Prop:=
 (∀g,dC ren h=some g-> ∃r',bH rs g=some r' /\((r=r' /\aH2 r=true)\/ ∃t cs cs' Q,r= .box t cs/\r' = .box t cs' /\wK (dC ren) cs cs' Q))/\(dC ren h=none-> ∃e k d,r= .arr e k d [])
theorem aMz {rs:Rl}{ren:List (Nat × Nat)}: ∀{l:List (Nat × Rs)},rrB rs ren l-> ∀h r,bF l h=some r->bBP rs ren h r
 | [],_,h,r,e=>by simp[bF] at e
 | (k,r0)::l,hw,h,r,e=>by
   unfold rrB at hw;simp only[bF] at e;split at hw
   ·rename_i g hg;split at hw
    ·rename_i r' hr';split at hw
     ·rename_i t cs;split at hw
      ·rename_i t' cs';obtain⟨e1,hw1⟩:=hw.eq;split at e
       ·rename_i ek;subst ek;injection e with e
        subst e;exact⟨fun g' hg' =>by rw[hg] at hg';injection hg' with hg';subst hg';exact⟨_,hr',.inr ⟨_,cs,cs',_,rfl,by rw[e1],hw1⟩⟩,fun hn=>by rw[hg] at hn;cases hn⟩
       exact aMz (wL _ _ _ hw1) h r e
      cases hw
     ·obtain⟨e1,hw⟩:=hw.eq;split at e
      ·rename_i ek;subst ek;injection e with e
       subst e;exact⟨fun g' hg' =>by rw[hg] at hg';injection hg' with hg';subst hg';exact⟨_,hr',.inl ⟨e1.symm,rfl⟩⟩,fun hn=>by rw[hg] at hn;cases hn⟩
      exact aMz hw h r e
     cases hw
    cases hw
   rename_i hg;split at hw
   ·obtain⟨e1,hw⟩:=hw;split at e
    ·rename_i ek;subst ek;injection e with e
     subst e;exact⟨fun g' hg' =>(by rw[hg] at hg';cases hg'),fun _=>⟨_,_,_,by rw[<-e1]⟩⟩
    exact aMz hw h r e
   cases hw
def aCf:Nat->List AV->Sl
 | _,[]=>[]
 | i,x::xs=>(i,x)::aCf (i+1) xs
theorem aDx: ∀(xs:List AV) (i t:Nat),cF (aCf i xs) t=if i<=t then (match xs[t - i]? with | some x=>x | none=> .no) else .no
 | [],i,t=>by simp[aCf,cF]
 | x::xs,i,t=>by
   simp only[aCf,cF,aDx xs (i+1) t];by_cases e:t=i
   ·subst e;simp
   by_cases h:i<=t
   ·have:t - i=(t - (i+1))+1:=by omega
    rw[if_neg e,if_pos (by omega),if_pos h,this,List.getElem?_cons_succ]
   rw[if_neg e,if_neg (by omega),if_neg h]
def bAr (tb:Tb)(res:List ResultVar)(ri:List (Nat × Rs))(rv:AV)(ro:List (Nat × Rs))(e:Exit)(sl:Sl)(rs:Rl)(t:T):Prop:=
 (match (match e with | .normal=>true | .ret=>true | _=>false) with
 | true=>(match t with
   | .fin ren=>(match aSx tb sl rs res with
     | some xs=>(match nL (ren.map (·.2))&&(ro.all fun q=>match bF ri q.1 with | some _=>(match dC ren q.1 with | some g=>Nat.beq g q.1 | none=>false) | none=>true) with
       | true=>oB (dC ren) rv (aLJ xs) (rrB rs ren ro)
       | false=>False)
     | none=>False)
   | _=>False)
 | false=>False)
def aRt (P:Program)(tb:Tb)(fn:Func)(args:List AV)(ri:List (Nat × Rs))(rv:AV)(ro:List (Nat × Rs))(t:T):Prop:=match fn.body with | some c=>wpC P tb fn.ntmps c [] [] (aCf 0 args) (pP ri) t (bAr tb fn.results.toList ri rv ro) | none=>False
theorem bAM {P:Program}{tb:Tb}(hT:mS P tb)(hm:P.follows .mixedOrders=true){f:FuncId}{fn:Func}{args:List AV}{ri:List (Nat × Rs)}{rv:AV}{ro:List (Nat × Rs)}(hf:P.funcs[f]? =some fn)(hc:aK9 fn args.length=true)(hlow:(ri.all fun q=>Nat.blt q.1 100)=true)(t:T)(h:aRt P tb fn args ri rv ro t):vX P f args ri rv ro:=by
 unfold aK9 at hc;simp only[aCA] at hc;obtain⟨⟨hn,hbs⟩,hl⟩:=hc;have hl:=aEP hl;obtain⟨c,hb⟩:=Option.isSome_iff_exists.1 hbs;unfold aRt at h;rw[hb] at h;have hlow' : ∀q∈ri,q.1<100:=fun q hq=>by have:=aI4.1 hlow q hq;simpa [Nat.blt_eq] using this
 refine⟨by simp only[kF,hf,hb];simpa using hn,hlow',fun A φ w vs hI hargs=>?_⟩;refine calls_of_wp hf hb ?_;have hlen:=lR hargs;simp only[bA8] at hlen
 have hres: ∀h,bH (pP ri) h=bF ri h:=fun h=>by
  have:=aEr ri [] h;rw[aZC] at this;rw[this];cases bF ri h<;>rfl
 have hdom: ∀h pl,φ h=some pl->h<100:=fun h pl e=>by
  cases hr:bF ri h with
  | none=>rw[hI.non h hr] at e;cases e
  | some r=>exact hlow' _ (dA hr)
 have hG0:wH A ⟨w,aMr φ,φ,hdom⟩ fn.ntmps (mk (aCf 0 args) (pP ri)) { tmps:=vs++Array.replicate (fn.ntmps - vs.size) undef,defers:=[] } w:=by
  refine⟨A,φ,fun h r hr=>?_,fun h hr=>?_,hI.disj,hI.nodup,fun h pl e g hg=>⟨.inr ⟨h,pl,trivial,e,hg⟩,hI.ge h pl e g hg⟩,fun b hb=>⟨hI.lt b hb,.inl hb⟩,hI.out,fun _ h=>h,fun t=>?_,⟨rfl,rfl,rfl,aUX _,fun _ _ _=>rfl⟩,rfl,by simp;omega,fun h pl pl0 e e0=>by dsimp only at e0;rw[e] at e0;injection e0 with q;subst q;exact⟨rfl,rfl⟩⟩
  ·simp only[mk,hres] at hr;exact hI.dom h r hr
  ·simp only[mk,hres] at hr;exact hI.non h hr
  simp only[mk,aDx,aDB,if_true,Nat.sub_zero];split
  ·rename_i x hx;obtain⟨v,hv,hr⟩:=pX hargs hx;have ht:t<vs.size:=by have:=(aGL.1 hv).1;simpa using this
   rw[Array.getD_eq_getD_getElem?,Array.getElem?_append_left ht,<-Array.getElem?_toList,hv];exact hr
  unfold aJ;trivial
 have hvc:=aA6 hT hm c [] [] (aCf 0 args) (pP ri) t _ h;simp only[aZC] at hvc;refine Code.wp_mono (fun e a' w' ⟨S,⟨K,φ1,hG⟩,pre,prr,t',hS,hfin⟩=>?_) (hvc A _ _ w hG0);subst hS;unfold bAr at hfin;split at hfin
 ·rename_i he;split at hfin
  ·rename_i ren;split at hfin
   ·rename_i xs hxs;split at hfin
    ·rename_i hbb;simp only[aCA,aI4] at hbb;obtain⟨b1,b3⟩:=hbb;obtain⟨v,hrun,hmv⟩:=aCO hG (aMw hT hxs)
     let φ' :iW:=fun h=>match bF ro h with | some _=>(match dC ren h with | some g=>φ1 g | none=>some jJ) | none=>none
     have p1: ∀h g pl,dC ren h=some g->φ' h=some pl->φ1 g=some pl:=fun h g pl e e' =>by
      simp only[φ',e] at e';split at e'
      ·exact e'
      cases e'
     have p2: ∀h pl,dC ren h=none->φ' h=some pl->pl=jJ:=fun h pl e e' =>by
      simp only[φ',e] at e';split at e'
      ·injection e' with e';exact e'.symm
      cases e'
     have p0: ∀h pl,φ' h=some pl-> ∃r,bF ro h=some r:=fun h pl e=>by
      simp only[φ'] at e;split at e
      ·rename_i r hr;exact⟨r,hr⟩
      cases e
     have p3: ∀h pl,φ' h=some pl->(∃g,dC ren h=some g/\φ1 g=some pl)\/pl=jJ:=fun h pl e=>by
      cases hl:dC ren h with
      | some g=>exact .inl ⟨g,rfl,p1 h g pl hl e⟩
      | none=>exact .inr (p2 h pl hl e)
     obtain⟨m1,m2⟩:=aMq (φ' :=φ') p1 p2 _ _ _ v hfin hmv
     have hO:aSr A φ w ro K φ' w' :=by
      refine⟨hG.bel,hG.aK,fun b hb=>⟨(hG.kin b hb).1,(hG.kin b hb).2⟩,fun b hb h pl e=>?_,fun h r hr=>?_,fun h hr=>by simp[φ',hr],fun h h' pl pl' hne e e' g hg=>?_,fun h pl e=>?_,fun h pl e g hg=>?_,fun h pl pl0 e e0=>?_⟩
      ·rcases p3 h pl e with ⟨g,_,e⟩ | e
       ·exact hG.kout b hb g pl e
       rw[e];simp[jJ,Pl.F]
      ·obtain⟨q1,q2⟩:=aMz m2 h r hr;cases hl:dC ren h with
       | some g=>
         obtain⟨r',hr',q⟩:=q1 g hl;obtain⟨pl,hp,hh⟩:=hG.dom g r' hr';refine⟨pl,by simp[φ',hr,hl,hp],?_⟩;rcases q with ⟨rfl,ha⟩ | ⟨t,cs,cs',Q,rfl,rfl,hq⟩
         ·exact Holds.arrPhi ha hh
         obtain⟨g',vs',e1,e2,e3,e4⟩:=hh;exact⟨g',vs',e1,e2,e3,(aAX (φ' :=φ') p1 p2 _ _ _ _ hq e4).1⟩
       | none=>
         obtain⟨e,k,d,rfl⟩:=q2 hl;refine⟨jJ,by simp[φ',hr,hl],?_⟩;cases d with
         | true=>exact⟨[],[],World.ownsRow_nil w' 0 e k,rfl,rfl,by unfold cV;exact⟨rfl,rfl⟩⟩
         | false=>exact⟨[],World.ownsRow_nil w' 0 e k,rfl,rfl,rfl⟩
      ·rcases p3 h pl e with ⟨q,l1,e1⟩ | e1
       ·rcases p3 h' pl' e' with ⟨q',l1',e1'⟩ | e1'
        ·exact hG.disj q q' pl pl' (fun x=>by subst x;exact hne (aHl b1 l1 l1')) e1 e1' g hg
        rw[e1'];simp[jJ,Pl.F]
       rw[e1] at hg;simp[jJ,Pl.F] at hg
      ·rcases p3 h pl e with ⟨g,_,e⟩ | e
       ·exact hG.nodup g pl e
       rw[e];simp[jJ,Pl.F]
      ·rcases p3 h pl e with ⟨q,_,e⟩ | e
       ·exact hG.ge q pl e g hg
       rw[e] at hg;simp[jJ,Pl.F] at hg
      obtain⟨r,hr⟩:=p0 h pl e;have:=b3 _ (dA hr);cases hri:bF ri h with
      | none=>rw[hI.non h hri] at e0;cases e0
      | some r0=>
        simp only[hri] at this;cases hl:dC ren h with
        | none=>rw[hl] at this;cases this
        | some g=>
          rw[hl] at this;have hg:=aFj this;subst hg;exact hG.pin _ pl pl0 (p1 _ _ pl hl e) e0
     cases e with
     | normal=>exact⟨hG.nd,v,hrun,v,K,φ',rfl,hO,m1⟩
     | ret=>exact⟨hG.nd,v,hrun,v,K,φ',rfl,hO,m1⟩
     | _=>cases he
    cases hfin
   cases hfin
  cases hfin
 cases hfin
theorem bAN {P:Program}{tb:Tb}(hT:mS P tb)(hm:P.follows .mixedOrders=true){f:FuncId}{fn:Func}{args:List AV}{ri:List (Nat × Rs)}{rv:AV}{ro:List (Nat × Rs)}(hf:P.funcs[f]? =some fn)(hc:aK9 fn args.length=true)(hlow:(ri.all fun q=>Nat.blt q.1 100)=true)(t:T){p:Prop}(h:aRt P tb fn args ri rv ro t=p)(hp:p):vX P f args ri rv ro:=bAM hT hm hf hc hlow t (Eq.mpr h hp)
end Go.Proofs.YtlidmoeecphbmaaGreat
