/-
  Contracts and plain laws, joined: part 9.
-/
import Derived.Test.Ytepphdhnkaiamaapg7
import Derived.Test.Ytepphdhnkaiamaapg4
import Derived.Test.Ytepphdhnkaiamaapg3
import Derived.Test.Ytepphdhnkaiamaapg0
namespace Go.Proofs.Ytepphdhnkaiamaa
open Go.ChangeShapes Go.WideShapes Go.ChangeAt Go.RowKit
set_option linter.unusedVariables false
set_option linter.unusedSimpArgs false
set_option maxRecDepth 100000
set_option maxHeartbeats 4000000
section
variable {p:aQ} {d:aD}
theorem aDG (hp:aW p=true){i:Nat}(hi:i<p.rows.length):(p.rows.getD i []).length=p.objective.length/\ ∀n∈p.rows.getD i [],-99<=n/\n<=99:=by
 obtain⟨q1,q2,q3,q4,q5⟩:=cP hp;have e:p.rows.getD i []=p.rows[i]:=by rw[List.getD_eq_getElem?_getD,List.getElem?_eq_getElem hi];rfl
 have h:=q4 _ (List.mem_append_left _ (List.getElem_mem hi));rw[e];exact⟨h.1,fun n hn=>by have:=h.2 n hn;omega⟩
theorem aFV (hp:aW p=true): ∀n∈p.objective,-99<=n/\n<=99:=fun n hn=>by
 obtain⟨q1,q2,q3,q4,q5⟩:=cP hp;have:=(q4 p.objective (by simp)).2 n hn;omega
theorem aFW (hp:aW p=true):p.limits.length=p.rows.length/\ ∀n∈p.limits,-99<=n/\n<=99:=by
 obtain⟨q1,q2,q3,q4,q5⟩:=cP hp;exact⟨q3,fun n hn=>by have:=q5 n hn;omega⟩
theorem aDH (p:aQ)(k:Nat){i:Nat}(hi:i<p.rows.length):(iO p.rows k).getD i 0=pA p i k:=by
 rw[iO,rO _ hi 0 []];rfl
theorem aFX (hp:aW p=true)(k:Nat):(iO p.rows k).length=p.rows.length/\ ∀n∈iO p.rows k,-99<=n/\n<=99:=by
 refine⟨by simp[iO],fun n hn=>?_⟩;obtain⟨i,hi,rfl⟩:=List.getElem_of_mem hn;have hi' :i<p.rows.length:=by simpa [iO] using hi
 have e:(iO p.rows k)[i]=(iO p.rows k).getD i 0:=by rw[List.getD_eq_getElem?_getD,List.getElem?_eq_getElem hi];rfl
 rw[e,aDH p k hi'];have:=aDD hp (k:=k) hi';omega
def jS (p:aQ)(d:aD):List aC:=fZ d p.objective.length d.basic.length
def kB (p:aQ)(d:aD):List aC:=gA d p.objective.length p.rows.length d.others.length
theorem yQ (hD:lT (cH p) d){k:Nat}(hk:k<p.objective.length):gR (jS p d) k=bas d (k:Int):=by
 rw[gR,jS,aGT hD.ok _ hk _ (Nat.le_refl _),aLL]
theorem aDI (hp:aW p=true)(hD:lT (cH p) d){i:Nat}(hi:i<p.rows.length):gR (kB p d) i=bJ p.objective.length (fun t=>if eF d.others t=((p.objective.length+i:Nat):Int) then nH p d t else 0):=by
 obtain⟨h1,h2,_⟩:=fJ p hp;have hn:d.others.length=p.objective.length:=hD.n.trans h2;rw[gR,kB,aGU hD.ok _ _ hi _ (Nat.le_refl _),hn];refine bI fun t _=>?_;by_cases e:eF d.others t=((p.objective.length+i:Nat):Int)
 ·rw[if_pos e,if_pos e,nH,if_neg (by omega)]
 rw[if_neg e,if_neg e]
theorem aJX (hD:lT (cH p) d)(v:Int):0<=bas d v:=by
 rw[aLL]
 have:bJ d.basic.length (fun _=>0)<=bJ d.basic.length (fun r=>if eF d.basic r=v then iP d r else 0):=sL fun r hr=>by
  split
  ·exact hD.lim r hr
  grind
 rw[fO] at this;exact this
theorem aMU {n:Nat}{f:Nat->Rat}(h: ∀k,k<n->0<=f k):0<=bJ n f:=by
 have:=sL (f:=fun _=>0) (g:=f) h
 rwa [fO] at this
theorem aAy (hp:aW p=true)(hD:lT (cH p) d)(g:Nat->Rat){s:Nat}(hs:s<=p.rows.length):bJ s (fun i=>g i*gR (kB p d) i)=bJ p.objective.length (fun t=>if (p.objective.length:Int)<=eF d.others t/\eF d.others t<((p.objective.length+s:Nat):Int) then g (eF d.others t - p.objective.length).toNat*nH p d t else 0):=by
 rw[<-aCV d p.objective.length g (nH p d) p.objective.length s];exact bI fun i hi=>by rw[aDI hp hD (by omega)]
theorem aEb (hp:aW p=true)(hn4:p.objective.length<=4)(hD:lT (cH p) d){D:Int}(hl: ∀t,t<p.objective.length->xA D 157464 (nH p d t)){G:Nat->Int}(hG: ∀i,i<p.rows.length->(G i).natAbs<=99){i:Nat}(hi:i<p.rows.length):
 xA D 62355744 (((G i:Int):Rat)*gR (kB p d) i)/\xA D 62355744 (bJ (i+1) (fun i=>((G i:Int):Rat)*gR (kB p d) i)):=by
 obtain⟨h1,h2,_⟩:=fJ p hp;have hn:d.others.length=p.objective.length:=hD.n.trans h2;have hm:d.basic.length=p.rows.length:=hD.m.trans h1;constructor
 ·rw[aDI hp hD hi]
  have f:xA D (p.objective.length*157464) (bJ p.objective.length (fun t=>if eF d.others t=((p.objective.length+i:Nat):Int) then nH p d t else 0)):=yP fun t ht=>by
   split
   ·exact hl t ht
   exact nI (Nat.zero_le _) (aAw D)
  have f2:=aDC (hG i hi) f;refine nI ?_ f2;have:p.objective.length*157464<=4*157464:=Nat.mul_le_mul_right _ hn4;omega
 rw[aAy hp hD (fun i=>((G i:Int):Rat)) (s:=i+1) (by omega)]
 have f:xA D (p.objective.length*15588936) (bJ p.objective.length (fun t=>if (p.objective.length:Int)<=eF d.others t/\eF d.others t<((p.objective.length+(i+1):Nat):Int) then ((G (eF d.others t - p.objective.length).toNat:Int):Rat)*nH p d t else 0)):=yP fun t ht=>by
  split
  ·rename_i hv;have:=aDC (hG (eF d.others t - p.objective.length).toNat (by omega)) (hl t ht);exact nI (by omega) this
  exact nI (Nat.zero_le _) (aAw D)
 refine nI ?_ f;have:p.objective.length*15588936<=4*15588936:=Nat.mul_le_mul_right _ hn4;omega
theorem aEc (hn4:p.objective.length<=4)(hD:lT (cH p) d){D:Int}(hb: ∀k,k<p.objective.length->xA D 1732104 (bas d (k:Int))){G:Nat->Int}(hG: ∀i,(G i).natAbs<=9){k:Nat}(hk:k<p.objective.length):
 xA D 62355744 (((G k:Int):Rat)*gR (jS p d) k)/\xA D 62355744 (bJ (k+1) (fun k=>((G k:Int):Rat)*gR (jS p d) k)):=by
 have f: ∀k,k<p.objective.length->xA D 15588936 (((G k:Int):Rat)*gR (jS p d) k):=fun k hk=>by
  rw[yQ hD hk];exact aDC (hG k) (hb k hk)
 refine⟨nI (by omega) (f k hk),?_⟩;have f2:xA D ((k+1)*15588936) (bJ (k+1) (fun k=>((G k:Int):Rat)*gR (jS p d) k)):=yP fun j hj=>f j (by omega);refine nI ?_ f2;have:(k+1)*15588936<=4*15588936:=Nat.mul_le_mul_right _ (by omega);omega
theorem aKv (hp:aW p=true)(hn4:p.objective.length<=4)(hD:lT (cH p) d)(he:cZ d<0):kC p (aKa d p.objective.length p.rows.length)=true:=by
 obtain⟨h1,h2,_⟩:=fJ p hp;obtain⟨q1,q2,q3,q4,q5⟩:=cP hp;have hn:d.others.length=p.objective.length:=hD.n.trans h2;have hm:d.basic.length=p.rows.length:=hD.m.trans h1;obtain⟨D,d0,d1,d2,d3⟩:=aMs hp hn4 hD;have hcost: ∀t,t<p.objective.length->iL d t<=0:=fun t ht=>aCQ hD.ok (Nat.le_refl _) he t (by omega);have vv:aJ d.value=true:=(dE hD.ok).2.2.2.2.2.2.2;have pl:(jS p d).length=p.objective.length:=wS _ _ _;have dl:(kB p d).length=p.rows.length:=wU _ _ _ _;have pv: ∀x∈jS p d,aJ x=true:=aE9 hD.ok _ _ (Nat.le_refl _);have dv: ∀x∈kB p d,aJ x=true:=aEa hD.ok _ _ _ (Nat.le_refl _);have hDs:D.natAbs<=2147483647:=by omega
 have es:aKa d p.objective.length p.rows.length=⟨d.value,jS p d,kB p d⟩:=rfl
 have lamn: ∀t,t<p.objective.length->(p.objective.length:Int)<=eF d.others t->0<=nH p d t:=fun t ht hv=>by
  have:=hcost t ht;rw[nH,if_neg (by omega)];grind
 have fo:(cC p.objective (jS p d)).2=true:=sN (D:=D) (B:=62355744) pl.symm (aFV hp) pv d0 hDs (by decide) fun k hk=>aEc hn4 hD d2 (G:=pC p) (fun k=>aDF hp k) hk;have vo:=rQ (aFV hp) pv fo
 have eo:bM (cC p.objective (jS p d)).1=bM d.value:=by
  rw[vo.2.2];have hs:=yO hD.ok (fun _=>0);have ho:=hD.obj _ hs;rw[(rP hp _).2,aAt,hn] at ho;rw[bI (g:=fun k=>((pC p k:Int):Rat)*asg d (fun _=>0) (k:Int)) fun k hk=>by rw[yQ hD hk];rfl,<-ho,pU fun t ht=>by rw[aGN hD.ok _ (by omega)];grind]
  grind
 have fl:(cC p.limits (kB p d)).2=true:=sN (D:=D) (B:=62355744) (by omega) (aFW hp).2 dv d0 hDs (by decide) fun i hi=>aEb hp hn4 hD d3 (G:=pB p) (fun i _=>aDE hp i) (by omega);have vl:=rQ (aFW hp).2 dv fl
 have el:bM (cC p.limits (kB p d)).1=bM d.value:=by
  rw[vl.2.2,eqV hp hD,q3];refine(aAy hp hD (fun i=>((pB p i:Int):Rat)) (Nat.le_refl _)).trans (bI fun t ht=>?_);have v:=(mF hD.ok).o0 t (by omega);by_cases hv:eF d.others t<p.objective.length
  ·rw[if_neg (by omega),rT,if_pos hv];simp only[Rat.intCast_zero];grind
  rw[if_pos (by omega),rT,if_neg hv];grind
 have e1:(cC p.objective (jS p d)).1=d.value:=aE4 vo.2.1 vv eo;have e2:(cC p.limits (kB p d)).1=d.value:=aE4 vl.2.1 vv el
 have fr: ∀i,i<p.rows.length->dR p (jS p d) i=true:=fun i hi=>by
  have ri:=aDG hp hi;have f:(cC (p.rows.getD i []) (jS p d)).2=true:=sN (D:=D) (B:=62355744) (by rw[ri.1,pl]) ri.2 pv d0 hDs (by decide) fun k hk=>aEc hn4 hD d2 (G:=pA p i) (fun k=>aDD hp hi) (by rw[ri.1] at hk;exact hk);have v:=rQ ri.2 pv f;rw[dR,f,Bool.true_and,decide_eq_true_eq];have vw:aJ (aF (p.limits.getD i 0))=true:=dP (by have:=aDE hp i;rw[pB] at this;omega)
  have hle: ¬bM (aF (p.limits.getD i 0))<bM (cC (p.rows.getD i []) (jS p d)).1:=by
   rw[gX,v.2.2,ri.1];have hs:=(rP hp _).1.1 ((hD.sat _).1 (yO hD.ok (fun _=>0))) i hi;have hnn:0<=asg d (fun _=>0) ((p.objective.length+i:Nat):Int):=aJX hD _;rw[hs] at hnn;have e3:bJ p.objective.length (fun k=>gI (p.rows.getD i []) k*gR (jS p d) k)=bJ p.objective.length (fun k=>((pA p i k:Int):Rat)*asg d (fun _=>0) (k:Int)):=bI fun k hk=>by rw[yQ hD hk];rfl
   rw[e3];show ¬((pB p i:Int):Rat)< _
   grind
  have cv:=(xO v.2.1 vw).2;by_cases z:0<bK (cC (p.rows.getD i []) (jS p d)).1 (aF (p.limits.getD i 0))
  ·exact absurd (cv.1 z) hle
  omega
 have fc: ∀k,k<p.objective.length->dQ p (kB p d) k=true:=fun k hk=>by
  have ci:=aFX hp k
  have f:(cC (iO p.rows k) (kB p d)).2=true:=sN (D:=D) (B:=62355744) (by rw[ci.1,dl]) ci.2 dv d0 hDs (by decide) fun i hi=>by
   rw[ci.1] at hi;have q:=aEb hp hn4 hD d3 (G:=fun i=>(iO p.rows k).getD i 0) (fun j hj=>by rw[aDH p k hj];have:=aDD hp (k:=k) hj;omega) hi;exact q
  have v:=rQ ci.2 dv f;rw[dQ,f,Bool.true_and,decide_eq_true_eq];have vw:aJ (aF (p.objective.getD k 0))=true:=dP (by have:=aDF hp k;rw[pC] at this;omega)
  have hle: ¬bM (cC (iO p.rows k) (kB p d)).1<bM (aF (p.objective.getD k 0)):=by
   rw[gX,v.2.2,ci.1]
   have e3:bJ p.rows.length (fun i=>gI (iO p.rows k) i*gR (kB p d) i)=bJ p.objective.length (fun t=>if (p.objective.length:Int)<=eF d.others t/\eF d.others t<((p.objective.length+p.rows.length:Nat):Int) then ((pA p (eF d.others t - p.objective.length).toNat k:Int):Rat)*nH p d t else 0):=by
    rw[<-aAy hp hD (fun i=>((pA p i k:Int):Rat)) (Nat.le_refl _)];exact bI fun i hi=>by rw[gI,aDH p k hi]
   have e4:bJ p.objective.length (fun t=>nH p d t*((mT p d t k:Int):Rat))<=bJ p.objective.length (fun t=>if (p.objective.length:Int)<=eF d.others t/\eF d.others t<((p.objective.length+p.rows.length:Nat):Int) then ((pA p (eF d.others t - p.objective.length).toNat k:Int):Rat)*nH p d t else 0):=sL fun t ht=>by
    have v:=(mF hD.ok).o0 t (by omega);by_cases hv:eF d.others t<p.objective.length
    ·have:=hcost t ht;rw[if_neg (by omega),mT,if_pos hv,nH,if_pos hv];split
     ·rw[Rat.intCast_one];grind
     rw[Rat.intCast_zero];grind
    rw[if_pos (by omega),mT,if_neg hv];grind
   rw[eqL hp hD hk] at e4;rw[e3];have:((pC p k:Int):Rat)=(((p.objective.getD k 0:Int)):Rat):=rfl
   grind
  have cv:=(xO v.2.1 vw).1;by_cases z:bK (cC (iO p.rows k) (kB p d)).1 (aF (p.objective.getD k 0))<0
  ·exact absurd (cv.1 z) hle
  omega
 have np:cW (jS p d) p.objective.length=true:=aCU pl pv fun k hk=>by
  have:=yQ hD hk;rw[gR] at this;rw[this];exact aJX hD _
 have nd:cW (kB p d) p.rows.length=true:=aCU dl dv fun i hi=>by
  have:=aDI hp hD hi;rw[gR] at this;rw[this];refine aMU fun t ht=>?_;split
  ·rename_i hv;exact lamn t ht (by omega)
  grind
 have o1:dY p (jS p d)=cC p.objective (jS p d):=by rw[dY,if_pos hp]
 have o2:cS p (kB p d)=cC p.limits (kB p d):=iW hp;rw[es,kC]
 dsimp only
 rw[o1,o2,fo,fl,e1,e2,cA,bO,hp,np,nd,List.all_eq_true.2 fun i hi=>fr i (List.mem_range.1 hi),List.all_eq_true.2 fun k hk=>fc k (List.mem_range.1 hk)];simp
theorem aJY (hn4:p.objective.length<=4)(h:(bF p).2=true):kC p (bF p).1=true:=by
 unfold bF at*;split at h
 ·rename_i hs;rw[if_pos hs];cases e:eG 300 (cH p) with
  | mk d b=>
    rw[e] at hs;obtain⟨hp,hb⟩:=hs
    dsimp only at hb
    subst hb;obtain⟨hD,he⟩:=aE8 300 (cH p) d (aKl hp) e;exact aKv hp hn4 hD he
 cases h
theorem aMt (hp:aW p=true){xs ys:List aC}(hx:cA p xs=true)(hy:bO p ys=true)(h1:(dY p xs).2=true)(h2:(cS p ys).2=true):aJ (dY p xs).1=true/\aJ (cS p ys).1=true/\bM (dY p xs).1<=bM (cS p ys).1:=by
 rw[dY,if_pos hp] at h1 ⊢;rw[iW hp] at h2 ⊢;simp only[cA,Bool.and_eq_true,List.all_eq_true,List.mem_range] at hx;simp only[bO,Bool.and_eq_true,List.all_eq_true,List.mem_range] at hy;obtain⟨_,x1,x2⟩:=hx;obtain⟨_,y1,y2⟩:=hy;obtain⟨x3,x4,x5⟩:=aAx x1;obtain⟨y3,y4,y5⟩:=aAx y1;obtain⟨q1,q2,q3,q4,q5⟩:=cP hp;have vo:=rQ (aFV hp) x4 h1;have vl:=rQ (aFW hp).2 y4 h2;refine⟨vo.2.1,vl.2.1,?_⟩;rw[vo.2.2,vl.2.2,q3]
 have r: ∀i,i<p.rows.length->bJ p.objective.length (fun k=>((pA p i k:Int):Rat)*gR xs k)<=((pB p i:Int):Rat):=fun i hi=>by
  have f:=x2 i hi;rw[dR,Bool.and_eq_true,decide_eq_true_eq] at f;have v:=rQ (aDG hp hi).2 x4 f.1;have vw:aJ (aF (p.limits.getD i 0))=true:=dP (by have:=aDE hp i;rw[pB] at this;omega);have cv:=(xO v.2.1 vw).2;have: ¬bM (aF (p.limits.getD i 0))<bM (cC (p.rows.getD i []) xs).1:=fun z=>by have:=cv.2 z;omega
  rw[gX,v.2.2,(aDG hp hi).1] at this;have e:bJ p.objective.length (fun k=>gI (p.rows.getD i []) k*gR xs k)=bJ p.objective.length (fun k=>((pA p i k:Int):Rat)*gR xs k):=rfl;rw[e] at this;show _<=(((p.limits.getD i 0:Int)):Rat)
  grind
 have c: ∀k,k<p.objective.length->((pC p k:Int):Rat)<=bJ p.rows.length (fun i=>((pA p i k:Int):Rat)*gR ys i):=fun k hk=>by
  have f:=y2 k hk;rw[dQ,Bool.and_eq_true,decide_eq_true_eq] at f;have v:=rQ (aFX hp k).2 y4 f.1;have vw:aJ (aF (p.objective.getD k 0))=true:=dP (by have:=aDF hp k;rw[pC] at this;omega);have cv:=(xO v.2.1 vw).1;have: ¬bM (cC (iO p.rows k) ys).1<bM (aF (p.objective.getD k 0)):=fun z=>by have:=cv.2 z;omega
  rw[gX,v.2.2,(aFX hp k).1,bI (g:=fun i=>((pA p i k:Int):Rat)*gR ys i) fun i hi=>by rw[gI,aDH p k hi]] at this;show (((p.objective.getD k 0:Int)):Rat)<=_
  grind
 have s1:bJ p.objective.length (fun k=>gI p.objective k*gR xs k)<=bJ p.objective.length (fun k=>bJ p.rows.length (fun i=>((pA p i k:Int):Rat)*gR ys i)*gR xs k):=sL fun k hk=>Rat.mul_le_mul_of_nonneg_right (c k hk) (x5 k);have s2:bJ p.rows.length (fun i=>gR ys i*bJ p.objective.length (fun k=>((pA p i k:Int):Rat)*gR xs k))<=bJ p.rows.length (fun i=>gR ys i*((pB p i:Int):Rat)):=sL fun i hi=>Rat.mul_le_mul_of_nonneg_left (r i hi) (y5 i)
 have s3:bJ p.objective.length (fun k=>bJ p.rows.length (fun i=>((pA p i k:Int):Rat)*gR ys i)*gR xs k)=bJ p.rows.length (fun i=>gR ys i*bJ p.objective.length (fun k=>((pA p i k:Int):Rat)*gR xs k)):=by
  rw[bI (n:=p.objective.length) (g:=fun k=>bJ p.rows.length (fun i=>gR xs k*(((pA p i k:Int):Rat)*gR ys i))) fun k _=>by rw[iX];grind,aCN];refine bI fun i _=>?_;rw[<-iX];exact bI fun k _=>by grind
 have s4:bJ p.rows.length (fun i=>gR ys i*((pB p i:Int):Rat))=bJ p.rows.length (fun i=>gI p.limits i*gR ys i):=bI fun i _=>by
  show _=((pB p i:Int):Rat)*gR ys i
  grind
 grind
end
theorem aCW {p:aQ}{s:fN}(h:kC p s=true):aW p=true/\cA p s.primal=true/\bO p s.dual=true/\(dY p s.primal).2=true/\(cS p s.dual).2=true/\(dY p s.primal).1=s.value/\(cS p s.dual).1=s.value:=by
 simp only[kC,Bool.and_eq_true,decide_eq_true_eq] at h;obtain⟨h1,h2,h3,h4,h5,h6⟩:=h;have hp:aW p=true:=by simp only[cA,Bool.and_eq_true] at h3;exact h3.1
 exact⟨hp,h3,h4,h1,h2,h6,h5.symm.trans h6⟩
theorem aJZ {p:aQ}{s:fN}(h:kC p s=true){xs:List aC}(hf:cA p xs=true)(ho:(dY p xs).2=true): ¬0<bK (dY p xs).1 s.value:=by
 obtain⟨h1,h2,h3,h4,h5,h6,h7⟩:=aCW h;obtain⟨w1,w2,w3⟩:=aMt h1 hf h3 ho h5;rw[h7] at w2 w3;intro z;have:=(xO w1 w2).2.1 z
 grind
theorem rR {p:aQ}{s:fN}(h:kC p s=true){ys:List aC}(hf:bO p ys=true)(ho:(cS p ys).2=true): ¬bK (cS p ys).1 s.value<0:=by
 obtain⟨h1,h2,h3,h4,h5,h6,h7⟩:=aCW h;obtain⟨w1,w2,w3⟩:=aMt h1 h2 hf h4 ho;rw[h6] at w1 w3;intro z;have:=(xO w2 w1).1.1 z
 grind
theorem vT {p:aQ}{xs:List aC}(h:aW p=false):dY p xs=(zR,false):=by rw[dY,if_neg (by rw[h];decide)]
theorem lV {p:aQ}{xs:List aC}(h:aW p=true):dY p xs=cC p.objective xs:=by rw[dY,if_pos h]
abbrev nX (p:aQ)(ys:List aC):Prop:=Cn 18 [.agg [.sl 3 1 (p.objective.map aI),.sl 24 1 (p.rows.map aZ),.sl 3 1 (p.limits.map aI)],.one (.sl 30 2 (ys.map aB))] (vB (bO p ys)) []
theorem xB (p:aQ)(ys:List aC)(hrs: ∀r∈p.rows,r.length<=1048576):nX p ys:=by
 refine cq Try.func18 (.call (vB (aW p)) []<| .br (.fin []) (.len p.rows.length<| .call (vB (cW ys (p.rows.length:Int))) []<| .lit<| .lit<| .br (.fin []) (.len p.objective.length<| .loop Nat (Q1 Nat) ([5,6,7,9,10,11]++rg 26 37) [1000,3100,4400,4500] (fun k=>[(26,vI (k:Int))]) (fun k=>[]) (fun k=>k<=p.objective.length/\(List.range k).all (dQ p ys)=true) (fun k=>p.objective.length - k) (fun k=> .br (.elem _ aI p.objective (fun e29=> .len p.rows.length<| .loop (Nat × (List Int)) (Q2 Nat (List Int)) ([7,9,31]++rg 35 12) [3100,4400,4500] (fun yy1=>[(35,vI (yy1.1:Int)),(7,.own 3100)]) (fun yy1=>[(3100,some (.arr 3 1 true (yy1.2.map aI)))]) (fun yy1=>yy1.1<=p.rows.length/\yy1.2=iO (p.rows.take yy1.1) k) (fun yy1=>p.rows.length - yy1.1) (fun yy1=> .br (.elem _ aZ p.rows (fun e37=> .elem _ aI e37 (fun e42=> .app Int aI yy1.2 ([e42]:List Int)<| .back [(3100,4500)]))) (bX (jM yy1.2 ys)<| .br (.fin []) (.call (.agg [vI ((aF e29).num),vI ((aF e29).den)]) []<| .call (vI (bK ((cC yy1.2 ys).1) (aF e29))) []<| .lit<| .lit<| .br (.fin []) (.back [])))))) (.fin []))))) (p:=Lx (p.objective.map aI)<| Lx (p.rows.map aZ)<| Lx (p.limits.map aI)<| Lx (ys.map aB)<| iG p/\Nr (aW p) ((false)=(bO p ys)/\True) (Lm aZ p.rows/\(wN ys (p.rows.length:Int)/\Nr (cW ys (p.rows.length:Int)) ((false)=(bO p ys)/\True) (Lm aI p.objective/\((∃(k:Nat),0=(k:Int)/\k<=p.objective.length/\(List.range k).all (dQ p ys)=true)/\ ∀(k:Nat),(k<=p.objective.length/\(List.range k).all (dQ p ys)=true)->Br ((k:Int)<(p.objective.length:Int)) (0<=(k:Int)/\Em aI p.objective k fun e29=>Lm aZ p.rows/\((∃(i:Nat) (cl:List Int),0=(i:Int)/\[]=cl.map aI/\i<=p.rows.length/\cl=iO (p.rows.take i) k)/\ ∀(i:Nat) (cl:List Int),(i<=p.rows.length/\cl=iO (p.rows.take i) k)->Br ((i:Int)<(p.rows.length:Int)) (0<=(i:Int)/\Em aZ p.rows i fun e37=>0<=(k:Int)/\Em aI e37 k fun e42=>Ap aI cl ([e42]:List Int) 8 (cR ((i:Int)+1)/\ ∃(i' :Nat) (cl' :List Int),((i:Int)+1)=(i' :Int)/\(cl++[e42]).map aI=cl'.map aI/\(i' <=p.rows.length/\cl' =iO (p.rows.take i') k)/\p.rows.length - i' <p.rows.length - i)) (lR cl ys/\Nr ((cC cl ys).2) ((false)=(bO p ys)/\True) (jL e29/\pN ((cC cl ys).1) (aF e29)/\Br ((bK ((cC cl ys).1) (aF e29))<0) ((false)=(bO p ys)/\True) (cR ((k:Int)+1)/\ ∃(k' :Nat),((k:Int)+1)=(k' :Int)/\(k' <=p.objective.length/\(List.range k').all (dQ p ys)=true)/\p.objective.length - k' <p.objective.length - k))))) ((true)=(bO p ys)/\True)))))) (by kernel_rfl) ?_;refine lx fun n0=>lx fun n1=>lx fun n2=>lx fun n3=>?_;refine⟨mJ p (by first|assumption|exact hrs),dm (fun g15=>?_) fun g15=>?_⟩
 ·have hbad:bO p ys=false:=by first|(rw[bO,g15];rfl)|(rw[bO,g15,c0];rfl)
  apply et1
  ·first|(rw[hbad];done)|(rw[hX];done)|(rw[bO,hp,hN,show p.objective.length=k by omega,ha];rfl)
 ·refine⟨List.length_map _,aFv ys (p.rows.length:Int),dm (fun c0=>?_) fun c0=>?_⟩
  ·have hbad:bO p ys=false:=by first|(rw[bO,g15];rfl)|(rw[bO,g15,c0];rfl)
   apply et1
   ·first|(rw[hbad];done)|(rw[hX];done)|(rw[bO,hp,hN,show p.objective.length=k by omega,ha];rfl)
  ·have hp:aW p=true:=g15;have hN:cW ys p.rows.length=true:=c0;obtain⟨b1,b2,b3,b4,b5⟩:=cP hp;have hyl:ys.length=p.rows.length:=by have z:=hN;rw[cW,Bool.and_eq_true,decide_eq_true_eq] at z;omega
   refine⟨List.length_map _,⟨0,rfl,Nat.zero_le _,rfl⟩,fun k ⟨hk,ha⟩=>?_⟩;refine dd (fun c1=>?_) fun c1=>?_
   ·refine aBD fun e29 h29=>?_;refine⟨List.length_map _,⟨0,([]:List Int),rfl,rfl,Nat.zero_le _,rfl⟩,fun i cl ⟨hi,hcl⟩=>?_⟩;refine dd (fun c2=>?_) fun c2=>?_
    ·refine aBD fun e37 h37=>?_;have hrl:=(b4 e37 (by simp[List.mem_of_getElem? h37])).1;refine aBD fun e42 h42=>?_;refine ap ?_ (by first|omega|(rw[hcl];simp[iO];omega));refine aBV ?_;exact⟨i+1,_,rfl,rfl,⟨by omega,by rw[hcl,aBu h37 h42]⟩,by omega⟩
    ·have hcol:cl=iO p.rows k:=by rw[hcl,List.take_of_length_le (by omega)]
     have hP:cC (iO p.rows k) ys=cC cl ys:=by rw[<-hcol]
     refine⟨sE cl ys,dm (fun g55=>?_) fun g55=>?_⟩
     ·have hD:dQ p ys k=false:=by first|(rw[dQ,hP,g55];rfl)|(rw[dQ,hP,g55,aP h29,decide_eq_false (by omega)];rfl)
      have hX:bO p ys=false:=by rw[bO,gO (p:=dQ p ys) (n:=p.objective.length) (k:=k) (by omega) hD,Bool.and_false,Bool.and_false]
      apply et1
      ·first|(rw[hbad];done)|(rw[hX];done)|(rw[bO,hp,hN,show p.objective.length=k by omega,ha];rfl)
     ·refine⟨pO e29,aA2 ((cC cl ys).1) (aF e29),dd (fun c3=>?_) fun c3=>?_⟩
      ·have hD:dQ p ys k=false:=by first|(rw[dQ,hP,g55];rfl)|(rw[dQ,hP,g55,aP h29,decide_eq_false (by omega)];rfl)
       have hX:bO p ys=false:=by rw[bO,gO (p:=dQ p ys) (n:=p.objective.length) (k:=k) (by omega) hD,Bool.and_false,Bool.and_false]
       apply et1
       ·first|(rw[hbad];done)|(rw[hX];done)|(rw[bO,hp,hN,show p.objective.length=k by omega,ha];rfl)
      ·have hG:dQ p ys k=true:=by rw[dQ,hP,g55,aP h29,decide_eq_true (by omega)];rfl
       refine aBV ?_;exact⟨k+1,rfl,⟨by omega,nT ha hG⟩,by omega⟩
   ·apply et1
    ·first|(rw[hbad];done)|(rw[hX];done)|(rw[bO,hp,hN,show p.objective.length=k by omega,ha];rfl)
abbrev eH (p:aQ)(ys:List aC):Prop:=Cn 19 [.agg [.sl 3 1 (p.objective.map aI),.sl 24 1 (p.rows.map aZ),.sl 3 1 (p.limits.map aI)],.one (.sl 30 2 (ys.map aB))] (vB (bO p ys)) []
theorem gL (p:aQ)(ys:List aC):eH p ys:=by
 refine cq Try.func19 (.call (vB (aW p)) []<| .br (.fin []) (.len ys.length<| .len p.rows.length<| .lit<| .lit<| .br (.fin []) (.call (vB (ys.all mD)) []<| .lit<| .lit<| .br (.fin []) (.loop Nat (Q1 Nat) ([5,6,7,8,9]++rg 26 45) [800,3300,5000,5100] (fun k=>[(5,vI (k:Int))]) (fun k=>[]) (fun k=>k<=p.objective.length/\(List.range k).all (dQ p ys)=true) (fun k=>p.objective.length - k) (fun k=> .len p.objective.length<| .br (.loop (Nat × (List Int)) (Q2 Nat (List Int)) ([6,7]++rg 33 19) [3300,5000,5100] (fun yy1=>[(7,vI (yy1.1:Int)),(6,.own 3300)]) (fun yy1=>[(3300,some (.arr 3 1 true (yy1.2.map aI)))]) (fun yy1=>yy1.1<=p.rows.length/\yy1.2=iO (p.rows.take yy1.1) k) (fun yy1=>p.rows.length - yy1.1) (fun yy1=> .len p.rows.length<| .br (.elem _ aZ p.rows (fun e45=> .elem _ aI e45 (fun e48=> .app Int aI yy1.2 ([e48]:List Int)<| .back [(3300,5100)]))) (bX (kW yy1.2 ys)<| .br (.fin []) (.elem _ aI p.objective (fun e65=> .call (.agg [vI ((aF e65).num),vI ((aF e65).den)]) []<| .call (vI (bK ((dM yy1.2 ys (aF 0)).1) (aF e65))) []<| .lit<| .lit<| .br (.fin []) (.back [])))))) (.fin [])))))) (p:=Lx (p.objective.map aI)<| Lx (p.rows.map aZ)<| Lx (p.limits.map aI)<| Lx (ys.map aB)<| iH p/\Nr (aW p) ((false)=(bO p ys)/\True) (Lm aB ys/\(Lm aZ p.rows/\Nb ((ys.length:Int)=(p.rows.length:Int)) ((false)=(bO p ys)/\True) (tP ys/\Nr (ys.all mD) ((false)=(bO p ys)/\True) ((∃(k:Nat),0=(k:Int)/\k<=p.objective.length/\(List.range k).all (dQ p ys)=true)/\ ∀(k:Nat),(k<=p.objective.length/\(List.range k).all (dQ p ys)=true)->Lm aI p.objective/\Br ((k:Int)<(p.objective.length:Int)) ((∃(i:Nat) (cl:List Int),0=(i:Int)/\[]=cl.map aI/\i<=p.rows.length/\cl=iO (p.rows.take i) k)/\ ∀(i:Nat) (cl:List Int),(i<=p.rows.length/\cl=iO (p.rows.take i) k)->Lm aZ p.rows/\Br ((i:Int)<(p.rows.length:Int)) (0<=(i:Int)/\Em aZ p.rows i fun e45=>0<=(k:Int)/\Em aI e45 k fun e48=>Ap aI cl ([e48]:List Int) 8 (cR ((i:Int)+1)/\ ∃(i' :Nat) (cl' :List Int),((i:Int)+1)=(i' :Int)/\(cl++[e48]).map aI=cl'.map aI/\(i' <=p.rows.length/\cl' =iO (p.rows.take i') k)/\p.rows.length - i' <p.rows.length - i)) (nD cl ys/\Nr ((dM cl ys (aF 0)).2) ((false)=(bO p ys)/\True) (0<=(k:Int)/\Em aI p.objective k fun e65=>eM e65/\eC ((dM cl ys (aF 0)).1) (aF e65)/\Br ((bK ((dM cl ys (aF 0)).1) (aF e65))<0) ((false)=(bO p ys)/\True) (cR ((k:Int)+1)/\ ∃(k' :Nat),((k:Int)+1)=(k' :Int)/\(k' <=p.objective.length/\(List.range k').all (dQ p ys)=true)/\p.objective.length - k' <p.objective.length - k)))) ((true)=(bO p ys)/\True)))))) (by kernel_rfl) ?_;refine lx fun n0=>lx fun n1=>lx fun n2=>lx fun n3=>?_;refine⟨mK p,dm (fun g13=>?_) fun g13=>?_⟩
 ·have hbad:bO p ys=false:=by first|(rw[bO,g13];rfl)|(rw[bO,g13,cW,decide_eq_false (by omega)];rfl)|(rw[bO,g13,cW,c0];simp)
  apply et1
  ·first|(rw[hbad];done)|(rw[hX];done)|(rw[bO,hp,hN,show p.objective.length=k by omega,ha];rfl)
 ·refine⟨List.length_map _,List.length_map _,dn (fun g21=>?_) fun g21=>?_⟩
  ·have hbad:bO p ys=false:=by first|(rw[bO,g13];rfl)|(rw[bO,g13,cW,decide_eq_false (by omega)];rfl)|(rw[bO,g13,cW,c0];simp)
   apply et1
   ·first|(rw[hbad];done)|(rw[hX];done)|(rw[bO,hp,hN,show p.objective.length=k by omega,ha];rfl)
  ·refine⟨aED ys,dm (fun c0=>?_) fun c0=>?_⟩
   ·have hbad:bO p ys=false:=by first|(rw[bO,g13];rfl)|(rw[bO,g13,cW,decide_eq_false (by omega)];rfl)|(rw[bO,g13,cW,c0];simp)
    apply et1
    ·first|(rw[hbad];done)|(rw[hX];done)|(rw[bO,hp,hN,show p.objective.length=k by omega,ha];rfl)
   ·have hp:aW p=true:=g13;have hN:cW ys p.rows.length=true:=by rw[cW,decide_eq_true (by omega),c0];rfl
    obtain⟨b1,b2,b3,b4,b5⟩:=cP hp;have hyl:ys.length=p.rows.length:=by have z:=hN;rw[cW,Bool.and_eq_true,decide_eq_true_eq] at z;omega
    refine⟨⟨0,rfl,Nat.zero_le _,rfl⟩,fun k ⟨hk,ha⟩=>?_⟩;refine⟨List.length_map _,dd (fun c1=>?_) fun c1=>?_⟩
    ·refine⟨⟨0,([]:List Int),rfl,rfl,Nat.zero_le _,rfl⟩,fun i cl ⟨hi,hcl⟩=>?_⟩;refine⟨List.length_map _,dd (fun c2=>?_) fun c2=>?_⟩
     ·refine aBD fun e45 h45=>?_;have hrl:=(b4 e45 (by simp[List.mem_of_getElem? h45])).1;refine aBD fun e48 h48=>?_;refine ap ?_ (by first|omega|(rw[hcl];simp[iO];omega));refine aBV ?_;exact⟨i+1,_,rfl,rfl,⟨by omega,by rw[hcl,aBu h45 h48]⟩,by omega⟩
     ·have hcol:cl=iO p.rows k:=by rw[hcl,List.take_of_length_le (by omega)]
      have hP:cC (iO p.rows k) ys=dM cl ys (aF 0):=by rw[<-hcol];exact dD (by rw[hcol];simp[iO];omega)
      refine⟨vK cl ys,dm (fun g60=>?_) fun g60=>?_⟩
      ·have hD:dQ p ys k=false:=by first|(rw[dQ,hP,g60];rfl)|(rw[dQ,hP,g60,aP h65,decide_eq_false (by omega)];rfl)
       have hX:bO p ys=false:=by rw[bO,gO (p:=dQ p ys) (n:=p.objective.length) (k:=k) (by omega) hD,Bool.and_false,Bool.and_false]
       apply et1
       ·first|(rw[hbad];done)|(rw[hX];done)|(rw[bO,hp,hN,show p.objective.length=k by omega,ha];rfl)
      ·refine aBD fun e65 h65=>?_;refine⟨iC e65,gG ((dM cl ys (aF 0)).1) (aF e65),dd (fun c3=>?_) fun c3=>?_⟩
       ·have hD:dQ p ys k=false:=by first|(rw[dQ,hP,g60];rfl)|(rw[dQ,hP,g60,aP h65,decide_eq_false (by omega)];rfl)
        have hX:bO p ys=false:=by rw[bO,gO (p:=dQ p ys) (n:=p.objective.length) (k:=k) (by omega) hD,Bool.and_false,Bool.and_false]
        apply et1
        ·first|(rw[hbad];done)|(rw[hX];done)|(rw[bO,hp,hN,show p.objective.length=k by omega,ha];rfl)
       ·have hG:dQ p ys k=true:=by rw[dQ,hP,g60,aP h65,decide_eq_true (by omega)];rfl
        refine aBV ?_;exact⟨k+1,rfl,⟨by omega,nT ha hG⟩,by omega⟩
    ·apply et1
     ·first|(rw[hbad];done)|(rw[hX];done)|(rw[bO,hp,hN,show p.objective.length=k by omega,ha];rfl)
theorem aEd (a b:aC):decide (a=b)=(a.num==b.num&&a.den==b.den):=by
 rw[Bool.eq_iff_iff,decide_eq_true_eq];simp only[Bool.and_eq_true,beq_iff_eq];constructor
 ·rintro rfl;exact⟨rfl,rfl⟩
 rintro⟨h1,h2⟩;cases a;cases b;simp_all
theorem dC (p:aQ)(s:fN):kC p s=((dY p s.primal).2&&((cS p s.dual).2&&(cA p s.primal&&(bO p s.dual&&(((dY p s.primal).1.num==(cS p s.dual).1.num&&(dY p s.primal).1.den==(cS p s.dual).1.den)&&((dY p s.primal).1.num==s.value.num&&(dY p s.primal).1.den==s.value.den)))))):=by rw[kC,aEd,aEd]
abbrev nJ (p:aQ)(ys:List aC):AV × List (Nat × Rs):=(.tup [.agg [vI ((dY p ys).1.num),vI ((dY p ys).1.den)],vB ((dY p ys).2)],[])
abbrev pV (p:aQ)(ys:List aC):Prop:=Cn 20 [.agg [.sl 3 1 (p.objective.map aI),.sl 24 1 (p.rows.map aZ),.sl 3 1 (p.limits.map aI)],.one (.sl 30 2 (ys.map aB))] (nJ p ys).1 (nJ p ys).2
theorem aAz (p:aQ)(ys:List aC)(hrs: ∀r∈p.rows,r.length<=1048576):pV p ys:=by
 refine cq Try.func20 (.call (vB (aW p)) []<| .br (.fin []) (bX (jM p.objective ys)<| .fin [])) (p:=Lx (p.objective.map aI)<| Lx (p.rows.map aZ)<| Lx (p.limits.map aI)<| Lx (ys.map aB)<| iG p/\Nr (aW p) (0=((dY p ys).1.num)/\0=((dY p ys).1.den)/\(false)=((dY p ys).2)/\True) (lR p.objective ys/\((cC p.objective ys).1.num)=((dY p ys).1.num)/\((cC p.objective ys).1.den)=((dY p ys).1.den)/\((cC p.objective ys).2)=((dY p ys).2)/\True)) (by kernel_rfl) ?_;refine lx fun n0=>lx fun n1=>lx fun n2=>lx fun n3=>?_;refine⟨mJ p (by first|assumption|exact hrs),dm (fun c0=>?_) fun c0=>?_⟩
 ·apply et3<;>(first|(rw[vT c0]<;>rfl)|(rw[lV c0]<;>rfl))
 ·refine⟨sE p.objective ys,?_,?_,?_,trivial⟩<;>(first|(rw[vT c0]<;>rfl)|(rw[lV c0]<;>rfl))
abbrev nY (p:aQ)(ys:List aC):Prop:=Cn 16 [.agg [.sl 3 1 (p.objective.map aI),.sl 24 1 (p.rows.map aZ),.sl 3 1 (p.limits.map aI)],.one (.sl 30 2 (ys.map aB))] (vB (cA p ys)) []
theorem xC (p:aQ)(ys:List aC)(hrs: ∀r∈p.rows,r.length<=1048576):nY p ys:=by
 refine cq Try.func16 (.call (vB (aW p)) []<| .br (.fin []) (.len p.objective.length<| .call (vB (cW ys (p.objective.length:Int))) []<| .lit<| .lit<| .br (.fin []) (.len p.rows.length<| .loop Nat (Q1 Nat) ([5,6,7,8]++rg 23 25) [700] (fun k=>[(23,vI (k:Int))]) (fun k=>[]) (fun k=>k<=p.rows.length/\(List.range k).all (dR p ys)=true) (fun k=>p.rows.length - k) (fun k=> .br (.elem _ aZ p.rows (fun e26=>bX (jM e26 ys)<| .br (.fin []) (.elem _ aI p.limits (fun e41=> .call (.agg [vI ((aF e41).num),vI ((aF e41).den)]) []<| .call (vI (bK ((cC e26 ys).1) (aF e41))) []<| .lit<| .lit<| .br (.fin []) (.back []))))) (.fin []))))) (p:=Lx (p.objective.map aI)<| Lx (p.rows.map aZ)<| Lx (p.limits.map aI)<| Lx (ys.map aB)<| iG p/\Nr (aW p) ((false)=(cA p ys)/\True) (Lm aI p.objective/\(wN ys (p.objective.length:Int)/\Nr (cW ys (p.objective.length:Int)) ((false)=(cA p ys)/\True) (Lm aZ p.rows/\((∃(k:Nat),0=(k:Int)/\k<=p.rows.length/\(List.range k).all (dR p ys)=true)/\ ∀(k:Nat),(k<=p.rows.length/\(List.range k).all (dR p ys)=true)->Br ((k:Int)<(p.rows.length:Int)) (0<=(k:Int)/\Em aZ p.rows k fun e26=>lR e26 ys/\Nr ((cC e26 ys).2) ((false)=(cA p ys)/\True) (0<=(k:Int)/\Em aI p.limits k fun e41=>jL e41/\pN ((cC e26 ys).1) (aF e41)/\Br (0<(bK ((cC e26 ys).1) (aF e41))) ((false)=(cA p ys)/\True) (cR ((k:Int)+1)/\ ∃(k' :Nat),((k:Int)+1)=(k' :Int)/\(k' <=p.rows.length/\(List.range k').all (dR p ys)=true)/\p.rows.length - k' <p.rows.length - k))) ((true)=(cA p ys)/\True)))))) (by kernel_rfl) ?_;refine lx fun n0=>lx fun n1=>lx fun n2=>lx fun n3=>?_;refine⟨mJ p (by first|assumption|exact hrs),dm (fun g12=>?_) fun g12=>?_⟩
 ·have hbad:cA p ys=false:=by first|(rw[cA,g12];rfl)|(rw[cA,g12,c0];rfl)
  apply et1
  ·first|(rw[hbad];done)|(rw[hX];done)|(rw[cA,hp,hN,show p.rows.length=k by omega,ha];rfl)
 ·refine⟨List.length_map _,aFv ys (p.objective.length:Int),dm (fun c0=>?_) fun c0=>?_⟩
  ·have hbad:cA p ys=false:=by first|(rw[cA,g12];rfl)|(rw[cA,g12,c0];rfl)
   apply et1
   ·first|(rw[hbad];done)|(rw[hX];done)|(rw[cA,hp,hN,show p.rows.length=k by omega,ha];rfl)
  ·have hp:aW p=true:=g12;have hN:cW ys p.objective.length=true:=c0;obtain⟨b1,b2,b3,b4,b5⟩:=cP hp;have hyl:ys.length=p.objective.length:=by have z:=hN;rw[cW,Bool.and_eq_true,decide_eq_true_eq] at z;omega
   refine⟨List.length_map _,⟨0,rfl,Nat.zero_le _,rfl⟩,fun k ⟨hk,ha⟩=>?_⟩;refine dd (fun c1=>?_) fun c1=>?_
   ·refine aBD fun e26 h26=>?_;have hrl:=(b4 e26 (by simp[List.mem_of_getElem? h26])).1;have hP:cC (p.rows.getD k []) ys=cC e26 ys:=by rw[aP h26]
    refine⟨sE e26 ys,dm (fun g36=>?_) fun g36=>?_⟩
    ·have hD:dR p ys k=false:=by first|(rw[dR,hP,g36];rfl)|(rw[dR,hP,g36,aP h41,decide_eq_false (by omega)];rfl)
     have hX:cA p ys=false:=by rw[cA,gO (p:=dR p ys) (n:=p.rows.length) (k:=k) (by omega) hD,Bool.and_false,Bool.and_false]
     apply et1
     ·first|(rw[hbad];done)|(rw[hX];done)|(rw[cA,hp,hN,show p.rows.length=k by omega,ha];rfl)
    ·refine aBD fun e41 h41=>?_;refine⟨pO e41,aA2 ((cC e26 ys).1) (aF e41),dd (fun c2=>?_) fun c2=>?_⟩
     ·have hD:dR p ys k=false:=by first|(rw[dR,hP,g36];rfl)|(rw[dR,hP,g36,aP h41,decide_eq_false (by omega)];rfl)
      have hX:cA p ys=false:=by rw[cA,gO (p:=dR p ys) (n:=p.rows.length) (k:=k) (by omega) hD,Bool.and_false,Bool.and_false]
      apply et1
      ·first|(rw[hbad];done)|(rw[hX];done)|(rw[cA,hp,hN,show p.rows.length=k by omega,ha];rfl)
     ·have hG:dR p ys k=true:=by rw[dR,hP,g36,aP h41,decide_eq_true (by omega)];rfl
      refine aBV ?_;exact⟨k+1,rfl,⟨by omega,nT ha hG⟩,by omega⟩
   ·apply et1
    ·first|(rw[hbad];done)|(rw[hX];done)|(rw[cA,hp,hN,show p.rows.length=k by omega,ha];rfl)
abbrev aBA (p:aQ)(s:fN):Prop:=Cn 12 [.agg [.sl 3 1 (p.objective.map aI),.sl 24 1 (p.rows.map aZ),.sl 3 1 (p.limits.map aI)],.agg [.int .i64 s.value.num,.int .i64 s.value.den,.sl 30 2 (s.primal.map aB),.sl 30 2 (s.dual.map aB)]] (vB (kC p s)) []
theorem aJ0 (p:aQ)(s:fN)(hrs: ∀r∈p.rows,r.length<=1048576):aBA p s:=by
 refine cq Try.func12 (bX (nJ p s.primal)<| bX (fI p s.dual)<| .br (.lit<| .br (.lit<| .lit<| .lit<| .lit<| .br (.lit<| .lit<| .lit<| .lit<| .br (.call (vB (cA p s.primal)) []<| .lit<| .br (.call (vB (bO p s.dual)) []<| .fin []) (.fin [])) (.fin [])) (.fin [])) (.fin [])) (.fin [])) (p:=Lx (p.objective.map aI)<| Lx (p.rows.map aZ)<| Lx (p.limits.map aI)<| Lx (s.primal.map aB)<| Lx (s.dual.map aB)<| pV p s.primal/\fX p s.dual/\Bb ((dY p s.primal).2) (Bb ((cS p s.dual).2) (Bb ((((dY p s.primal).1.num)==s.value.num)&&((((dY p s.primal).1.den)==s.value.den)&&true)) (Bb ((((cS p s.dual).1.num)==s.value.num)&&((((cS p s.dual).1.den)==s.value.den)&&true)) (nY p s.primal/\Bb (cA p s.primal) (nX p s.dual/\(bO p s.dual)=(kC p s)/\True) ((false)=(kC p s)/\True)) ((false)=(kC p s)/\True)) ((false)=(kC p s)/\True)) ((false)=(kC p s)/\True)) ((false)=(kC p s)/\True)) (by kernel_rfl) ?_;refine lx fun n0=>lx fun n1=>lx fun n2=>lx fun n3=>lx fun n4=>?_;refine⟨aAz p s.primal (by assumption),kA p s.dual (by assumption),db (fun g24=>?_) fun g24=>?_⟩
 ·refine db (fun g27=>?_) fun g27=>?_
  ·refine db (fun g33=>?_) fun g33=>?_
   ·refine db (fun g39=>?_) fun g39=>?_
    ·refine⟨xC p s.primal (by assumption),db (fun g45=>?_) fun g45=>?_⟩
     ·refine⟨xB p s.dual (by assumption),?_,trivial⟩
      ·first|(rw[dC];simp[*];done)|(rw[dC];grind)
     ·apply et1
      ·first|(rw[dC];simp[*];done)|(rw[dC];grind)
    ·apply et1
     ·first|(rw[dC];simp[*];done)|(rw[dC];grind)
   ·apply et1
    ·first|(rw[dC];simp[*];done)|(rw[dC];grind)
  ·apply et1
   ·first|(rw[dC];simp[*];done)|(rw[dC];grind)
 ·apply et1
  ·first|(rw[dC];simp[*];done)|(rw[dC];grind)
abbrev uB (p:aQ)(ys:List aC):AV × List (Nat × Rs):=(.tup [.agg [vI ((dY p ys).1.num),vI ((dY p ys).1.den)],vB ((dY p ys).2)],[])
abbrev aBB (p:aQ)(ys:List aC):Prop:=Cn 49 [.agg [.sl 3 1 (p.objective.map aI),.sl 24 1 (p.rows.map aZ),.sl 3 1 (p.limits.map aI)],.one (.sl 30 2 (ys.map aB))] (uB p ys).1 (uB p ys).2
theorem aJ1 (p:aQ)(ys:List aC):aBB p ys:=by
 refine cq Try.func49 (.call (vB (aW p)) []<| .br (.fin []) (.len ys.length<| .len p.objective.length<| .lit<| .lit<| .br (.fin []) (bX (kW p.objective ys)<| .fin []))) (p:=Lx (p.objective.map aI)<| Lx (p.rows.map aZ)<| Lx (p.limits.map aI)<| Lx (ys.map aB)<| iH p/\Nr (aW p) (0=((dY p ys).1.num)/\0=((dY p ys).1.den)/\(false)=((dY p ys).2)/\True) (Lm aB ys/\Lm aI p.objective/\Nb ((ys.length:Int)=(p.objective.length:Int)) (0=((dY p ys).1.num)/\0=((dY p ys).1.den)/\(false)=((dY p ys).2)/\True) (nD p.objective ys/\((dM p.objective ys (aF 0)).1.num)=((dY p ys).1.num)/\((dM p.objective ys (aF 0)).1.den)=((dY p ys).1.den)/\((dM p.objective ys (aF 0)).2)=((dY p ys).2)/\True))) (by kernel_rfl) ?_;refine lx fun n0=>lx fun n1=>lx fun n2=>lx fun n3=>?_;refine⟨mK p,dm (fun g11=>?_) fun g11=>?_⟩
 ·apply et3<;>(first|(rw[vT g11]<;>rfl)|(rw[lV g11,iV (by omega)]<;>rfl)|(rw[lV g11,dD (by omega)]<;>rfl))
 ·refine⟨List.length_map _,List.length_map _,dn (fun c0=>?_) fun c0=>?_⟩
  ·apply et3<;>(first|(rw[vT g11]<;>rfl)|(rw[lV g11,iV (by omega)]<;>rfl)|(rw[lV g11,dD (by omega)]<;>rfl))
  ·refine⟨vK p.objective ys,?_,?_,?_,trivial⟩<;>(first|(rw[vT g11]<;>rfl)|(rw[lV g11,iV (by omega)]<;>rfl)|(rw[lV g11,dD (by omega)]<;>rfl))
abbrev jT (p:aQ)(ys:List aC):Prop:=Cn 17 [.agg [.sl 3 1 (p.objective.map aI),.sl 24 1 (p.rows.map aZ),.sl 3 1 (p.limits.map aI)],.one (.sl 30 2 (ys.map aB))] (vB (cA p ys)) []
theorem oU (p:aQ)(ys:List aC):jT p ys:=by
 refine cq Try.func17 (.call (vB (aW p)) []<| .br (.fin []) (.len ys.length<| .len p.objective.length<| .lit<| .lit<| .br (.fin []) (.call (vB (ys.all mD)) []<| .lit<| .lit<| .br (.fin []) (.loop Nat (Q1 Nat) ([5,6,7]++rg 24 30) [600] (fun k=>[(5,vI (k:Int))]) (fun k=>[]) (fun k=>k<=p.rows.length/\(List.range k).all (dR p ys)=true) (fun k=>p.rows.length - k) (fun k=> .len p.rows.length<| .br (.elem _ aZ p.rows (fun e35=>bX (kW e35 ys)<| .br (.fin []) (.elem _ aI p.limits (fun e48=> .call (.agg [vI ((aF e48).num),vI ((aF e48).den)]) []<| .call (vI (bK ((dM e35 ys (aF 0)).1) (aF e48))) []<| .lit<| .lit<| .br (.fin []) (.back []))))) (.fin [])))))) (p:=Lx (p.objective.map aI)<| Lx (p.rows.map aZ)<| Lx (p.limits.map aI)<| Lx (ys.map aB)<| iH p/\Nr (aW p) ((false)=(cA p ys)/\True) (Lm aB ys/\(Lm aI p.objective/\Nb ((ys.length:Int)=(p.objective.length:Int)) ((false)=(cA p ys)/\True) (tP ys/\Nr (ys.all mD) ((false)=(cA p ys)/\True) ((∃(k:Nat),0=(k:Int)/\k<=p.rows.length/\(List.range k).all (dR p ys)=true)/\ ∀(k:Nat),(k<=p.rows.length/\(List.range k).all (dR p ys)=true)->Lm aZ p.rows/\Br ((k:Int)<(p.rows.length:Int)) (0<=(k:Int)/\Em aZ p.rows k fun e35=>nD e35 ys/\Nr ((dM e35 ys (aF 0)).2) ((false)=(cA p ys)/\True) (0<=(k:Int)/\Em aI p.limits k fun e48=>eM e48/\eC ((dM e35 ys (aF 0)).1) (aF e48)/\Br (0<(bK ((dM e35 ys (aF 0)).1) (aF e48))) ((false)=(cA p ys)/\True) (cR ((k:Int)+1)/\ ∃(k' :Nat),((k:Int)+1)=(k' :Int)/\(k' <=p.rows.length/\(List.range k').all (dR p ys)=true)/\p.rows.length - k' <p.rows.length - k))) ((true)=(cA p ys)/\True)))))) (by kernel_rfl) ?_;refine lx fun n0=>lx fun n1=>lx fun n2=>lx fun n3=>?_;refine⟨mK p,dm (fun g11=>?_) fun g11=>?_⟩
 ·have hbad:cA p ys=false:=by first|(rw[cA,g11];rfl)|(rw[cA,g11,cW,decide_eq_false (by omega)];rfl)|(rw[cA,g11,cW,c0];simp)
  apply et1
  ·first|(rw[hbad];done)|(rw[hX];done)|(rw[cA,hp,hN,show p.rows.length=k by omega,ha];rfl)
 ·refine⟨List.length_map _,List.length_map _,dn (fun g19=>?_) fun g19=>?_⟩
  ·have hbad:cA p ys=false:=by first|(rw[cA,g11];rfl)|(rw[cA,g11,cW,decide_eq_false (by omega)];rfl)|(rw[cA,g11,cW,c0];simp)
   apply et1
   ·first|(rw[hbad];done)|(rw[hX];done)|(rw[cA,hp,hN,show p.rows.length=k by omega,ha];rfl)
  ·refine⟨aED ys,dm (fun c0=>?_) fun c0=>?_⟩
   ·have hbad:cA p ys=false:=by first|(rw[cA,g11];rfl)|(rw[cA,g11,cW,decide_eq_false (by omega)];rfl)|(rw[cA,g11,cW,c0];simp)
    apply et1
    ·first|(rw[hbad];done)|(rw[hX];done)|(rw[cA,hp,hN,show p.rows.length=k by omega,ha];rfl)
   ·have hp:aW p=true:=g11;have hN:cW ys p.objective.length=true:=by rw[cW,decide_eq_true (by omega),c0];rfl
    obtain⟨b1,b2,b3,b4,b5⟩:=cP hp;have hyl:ys.length=p.objective.length:=by have z:=hN;rw[cW,Bool.and_eq_true,decide_eq_true_eq] at z;omega
    refine⟨⟨0,rfl,Nat.zero_le _,rfl⟩,fun k ⟨hk,ha⟩=>?_⟩;refine⟨List.length_map _,dd (fun c1=>?_) fun c1=>?_⟩
    ·refine aBD fun e35 h35=>?_;have hrl:=(b4 e35 (by simp[List.mem_of_getElem? h35])).1;have hP:cC (p.rows.getD k []) ys=dM e35 ys (aF 0):=by rw[aP h35];exact dD (by omega)
     refine⟨vK e35 ys,dm (fun g43=>?_) fun g43=>?_⟩
     ·have hD:dR p ys k=false:=by first|(rw[dR,hP,g43];rfl)|(rw[dR,hP,g43,aP h48,decide_eq_false (by omega)];rfl)
      have hX:cA p ys=false:=by rw[cA,gO (p:=dR p ys) (n:=p.rows.length) (k:=k) (by omega) hD,Bool.and_false,Bool.and_false]
      apply et1
      ·first|(rw[hbad];done)|(rw[hX];done)|(rw[cA,hp,hN,show p.rows.length=k by omega,ha];rfl)
     ·refine aBD fun e48 h48=>?_;refine⟨iC e48,gG ((dM e35 ys (aF 0)).1) (aF e48),dd (fun c2=>?_) fun c2=>?_⟩
      ·have hD:dR p ys k=false:=by first|(rw[dR,hP,g43];rfl)|(rw[dR,hP,g43,aP h48,decide_eq_false (by omega)];rfl)
       have hX:cA p ys=false:=by rw[cA,gO (p:=dR p ys) (n:=p.rows.length) (k:=k) (by omega) hD,Bool.and_false,Bool.and_false]
       apply et1
       ·first|(rw[hbad];done)|(rw[hX];done)|(rw[cA,hp,hN,show p.rows.length=k by omega,ha];rfl)
      ·have hG:dR p ys k=true:=by rw[dR,hP,g43,aP h48,decide_eq_true (by omega)];rfl
       refine aBV ?_;exact⟨k+1,rfl,⟨by omega,nT ha hG⟩,by omega⟩
    ·apply et1
     ·first|(rw[hbad];done)|(rw[hX];done)|(rw[cA,hp,hN,show p.rows.length=k by omega,ha];rfl)
abbrev aBC (p:aQ)(s:fN):Prop:=Cn 13 [.agg [.sl 3 1 (p.objective.map aI),.sl 24 1 (p.rows.map aZ),.sl 3 1 (p.limits.map aI)],.agg [.int .i64 s.value.num,.int .i64 s.value.den,.sl 30 2 (s.primal.map aB),.sl 30 2 (s.dual.map aB)]] (vB (kC p s)) []
theorem aJ2 (p:aQ)(s:fN):aBC p s:=by
 refine cq Try.func13 (bX (uB p s.primal)<| bX (tO p s.dual)<| .br (.lit<| .br (.call (vB (cA p s.primal)) []<| .lit<| .br (.call (vB (bO p s.dual)) []<| .lit<| .br (.lit<| .lit<| .lit<| .br (.fin []) (.fin [])) (.fin [])) (.fin [])) (.fin [])) (.fin [])) (p:=Lx (p.objective.map aI)<| Lx (p.rows.map aZ)<| Lx (p.limits.map aI)<| Lx (s.primal.map aB)<| Lx (s.dual.map aB)<| aBB p s.primal/\aA3 p s.dual/\Bb ((dY p s.primal).2) (Bb ((cS p s.dual).2) (jT p s.primal/\Bb (cA p s.primal) (eH p s.dual/\Bb (bO p s.dual) (Bb ((((dY p s.primal).1.num)==((cS p s.dual).1.num))&&((((dY p s.primal).1.den)==((cS p s.dual).1.den))&&true)) (((((dY p s.primal).1.num)==s.value.num)&&((((dY p s.primal).1.den)==s.value.den)&&true))=(kC p s)/\True) ((false)=(kC p s)/\True)) ((false)=(kC p s)/\True)) ((false)=(kC p s)/\True)) ((false)=(kC p s)/\True)) ((false)=(kC p s)/\True)) (by kernel_rfl) ?_;refine lx fun n0=>lx fun n1=>lx fun n2=>lx fun n3=>lx fun n4=>?_;refine⟨aJ1 p s.primal,aIi p s.dual,db (fun g24=>?_) fun g24=>?_⟩
 ·refine db (fun g27=>?_) fun g27=>?_
  ·refine⟨oU p s.primal,db (fun g33=>?_) fun g33=>?_⟩
   ·refine⟨gL p s.dual,db (fun g39=>?_) fun g39=>?_⟩
    ·refine db (fun g44=>?_) fun g44=>?_
     ·apply et1
      ·first|(rw[dC];simp[*];done)|(rw[dC];grind)
     ·apply et1
      ·first|(rw[dC];simp[*];done)|(rw[dC];grind)
    ·apply et1
     ·first|(rw[dC];simp[*];done)|(rw[dC];grind)
   ·apply et1
    ·first|(rw[dC];simp[*];done)|(rw[dC];grind)
  ·apply et1
   ·first|(rw[dC];simp[*];done)|(rw[dC];grind)
 ·apply et1
  ·first|(rw[dC];simp[*];done)|(rw[dC];grind)
theorem lawFnProgram (a0:List Int)(h0:aI6 a0):Con Try.prog 3 [.one (.sl 5 1 (a0.map bD))] (vB true) []:=by
 refine cq Try.func3 (.call (vB (decide (1048576<(a0.length:Int)))) []<| .br (.fin []) (bX (aCw a0)<| bX (tX (bH a0))<| bX (nF (bH a0))<| .no<| .call (vB (aW (bH a0))) []<| .call (vB (aW (bH a0))) []<| .lit<| .lit<| .no<| .br (.lit<| .lit<| .lit<| .lit<| .lit<| .no<| .call (vB (kC (bH a0) ((bF (bH a0)).1))) []<| .lit<| .lit<| .lit<| .lit<| .no<| .call (vB (kC (bH a0) ((bF (bH a0)).1))) []<| .lit<| .lit<| .lit<| .lit<| .no<| bX (yL a0)<| bX (yM a0)<| .call (vB (cA (bH a0) (fB a0))) []<| .call (vB (cA (bH a0) (fB a0))) []<| .no<| .call (vB (bO (bH a0) (bT a0))) []<| .call (vB (bO (bH a0) (bT a0))) []<| .lit<| .lit<| .no<| .br (.call (vB (cA (bH a0) (fB a0))) []<| .lit<| .br (bX (nJ (bH a0) (fB a0))<| .br (.call (vI (bK ((dY (bH a0) (fB a0)).1) ((bF (bH a0)).1.value))) []<| .lit<| .lit<| .no<| .br (.call (vB (bO (bH a0) (bT a0))) []<| .lit<| .br (bX (fI (bH a0) (bT a0))<| .br (.call (vI (bK ((cS (bH a0) (bT a0)).1) ((bF (bH a0)).1.value))) []<| .lit<| .lit<| .no<| .fin []) (.fin [])) (.fin [])) (.fin [])) (.lit<| .lit<| .lit<| .lit<| .lit<| .lit<| .br (.call (vB (bO (bH a0) (bT a0))) []<| .lit<| .br (bX (fI (bH a0) (bT a0))<| .br (.call (vI (bK ((cS (bH a0) (bT a0)).1) ((bF (bH a0)).1.value))) []<| .lit<| .lit<| .no<| .fin []) (.fin [])) (.fin [])) (.fin []))) (.br (.call (vB (bO (bH a0) (bT a0))) []<| .lit<| .br (bX (fI (bH a0) (bT a0))<| .br (.call (vI (bK ((cS (bH a0) (bT a0)).1) ((bF (bH a0)).1.value))) []<| .lit<| .lit<| .no<| .fin []) (.fin [])) (.fin [])) (.fin []))) (.lit<| .lit<| .lit<| .lit<| .br (.call (vB (bO (bH a0) (bT a0))) []<| .lit<| .br (bX (fI (bH a0) (bT a0))<| .br (.call (vI (bK ((cS (bH a0) (bT a0)).1) ((bF (bH a0)).1.value))) []<| .lit<| .lit<| .no<| .fin []) (.fin [])) (.fin [])) (.fin []))) (bX (yL a0)<| bX (yM a0)<| .call (vB (cA (bH a0) (fB a0))) []<| .call (vB (cA (bH a0) (fB a0))) []<| .no<| .call (vB (bO (bH a0) (bT a0))) []<| .call (vB (bO (bH a0) (bT a0))) []<| .lit<| .lit<| .no<| .br (.call (vB (cA (bH a0) (fB a0))) []<| .lit<| .br (bX (nJ (bH a0) (fB a0))<| .br (.call (vI (bK ((dY (bH a0) (fB a0)).1) ((bF (bH a0)).1.value))) []<| .lit<| .lit<| .no<| .br (.call (vB (bO (bH a0) (bT a0))) []<| .lit<| .br (bX (fI (bH a0) (bT a0))<| .br (.call (vI (bK ((cS (bH a0) (bT a0)).1) ((bF (bH a0)).1.value))) []<| .lit<| .lit<| .no<| .fin []) (.fin [])) (.fin [])) (.fin [])) (.lit<| .lit<| .lit<| .lit<| .lit<| .lit<| .br (.call (vB (bO (bH a0) (bT a0))) []<| .lit<| .br (bX (fI (bH a0) (bT a0))<| .br (.call (vI (bK ((cS (bH a0) (bT a0)).1) ((bF (bH a0)).1.value))) []<| .lit<| .lit<| .no<| .fin []) (.fin [])) (.fin [])) (.fin []))) (.br (.call (vB (bO (bH a0) (bT a0))) []<| .lit<| .br (bX (fI (bH a0) (bT a0))<| .br (.call (vI (bK ((cS (bH a0) (bT a0)).1) ((bF (bH a0)).1.value))) []<| .lit<| .lit<| .no<| .fin []) (.fin [])) (.fin [])) (.fin []))) (.lit<| .lit<| .lit<| .lit<| .br (.call (vB (bO (bH a0) (bT a0))) []<| .lit<| .br (bX (fI (bH a0) (bT a0))<| .br (.call (vI (bK ((cS (bH a0) (bT a0)).1) ((bF (bH a0)).1.value))) []<| .lit<| .lit<| .no<| .fin []) (.fin [])) (.fin [])) (.fin []))))) (p:=Lx (a0.map bD)<| aBq a0/\Br (1048576<(a0.length:Int)) ((true)=true/\True) (aGJ a0/\aAn (bH a0)/\pS (bH a0)/\(!(((bF (bH a0)).2)==((bF (bH a0)).2)))=false/\iG (bH a0)/\iH (bH a0)/\(!((aW (bH a0))==(aW (bH a0))))=false/\Bb ((bF (bH a0)).2) ((!((((bF (bH a0)).1.value.num)==((bF (bH a0)).1.value.num))&&((((bF (bH a0)).1.value.den)==((bF (bH a0)).1.value.den))&&true)))=false/\aBA (bH a0) ((bF (bH a0)).1)/\(!(kC (bH a0) ((bF (bH a0)).1)))=false/\aBC (bH a0) ((bF (bH a0)).1)/\(!(kC (bH a0) ((bF (bH a0)).1)))=false/\aCx a0/\aCy a0/\nY (bH a0) (fB a0)/\jT (bH a0) (fB a0)/\(!((cA (bH a0) (fB a0))==(cA (bH a0) (fB a0))))=false/\nX (bH a0) (bT a0)/\eH (bH a0) (bT a0)/\(!((bO (bH a0) (bT a0))==(bO (bH a0) (bT a0))))=false/\Bb ((bF (bH a0)).2) (jT (bH a0) (fB a0)/\Bb (cA (bH a0) (fB a0)) (pV (bH a0) (fB a0)/\Bb ((dY (bH a0) (fB a0)).2) (eC ((dY (bH a0) (fB a0)).1) ((bF (bH a0)).1.value)/\(decide (0<(bK ((dY (bH a0) (fB a0)).1) ((bF (bH a0)).1.value))))=false/\Bb ((bF (bH a0)).2) (eH (bH a0) (bT a0)/\Bb (bO (bH a0) (bT a0)) (fX (bH a0) (bT a0)/\Bb ((cS (bH a0) (bT a0)).2) (eC ((cS (bH a0) (bT a0)).1) ((bF (bH a0)).1.value)/\(decide ((bK ((cS (bH a0) (bT a0)).1) ((bF (bH a0)).1.value))<0))=false/\(true)=true/\True) ((true)=true/\True)) ((true)=true/\True)) ((true)=true/\True)) (Bb ((bF (bH a0)).2) (eH (bH a0) (bT a0)/\Bb (bO (bH a0) (bT a0)) (fX (bH a0) (bT a0)/\Bb ((cS (bH a0) (bT a0)).2) (eC ((cS (bH a0) (bT a0)).1) ((bF (bH a0)).1.value)/\(decide ((bK ((cS (bH a0) (bT a0)).1) ((bF (bH a0)).1.value))<0))=false/\(true)=true/\True) ((true)=true/\True)) ((true)=true/\True)) ((true)=true/\True))) (Bb ((bF (bH a0)).2) (eH (bH a0) (bT a0)/\Bb (bO (bH a0) (bT a0)) (fX (bH a0) (bT a0)/\Bb ((cS (bH a0) (bT a0)).2) (eC ((cS (bH a0) (bT a0)).1) ((bF (bH a0)).1.value)/\(decide ((bK ((cS (bH a0) (bT a0)).1) ((bF (bH a0)).1.value))<0))=false/\(true)=true/\True) ((true)=true/\True)) ((true)=true/\True)) ((true)=true/\True))) (Bb ((bF (bH a0)).2) (eH (bH a0) (bT a0)/\Bb (bO (bH a0) (bT a0)) (fX (bH a0) (bT a0)/\Bb ((cS (bH a0) (bT a0)).2) (eC ((cS (bH a0) (bT a0)).1) ((bF (bH a0)).1.value)/\(decide ((bK ((cS (bH a0) (bT a0)).1) ((bF (bH a0)).1.value))<0))=false/\(true)=true/\True) ((true)=true/\True)) ((true)=true/\True)) ((true)=true/\True))) (aCx a0/\aCy a0/\nY (bH a0) (fB a0)/\jT (bH a0) (fB a0)/\(!((cA (bH a0) (fB a0))==(cA (bH a0) (fB a0))))=false/\nX (bH a0) (bT a0)/\eH (bH a0) (bT a0)/\(!((bO (bH a0) (bT a0))==(bO (bH a0) (bT a0))))=false/\Bb ((bF (bH a0)).2) (jT (bH a0) (fB a0)/\Bb (cA (bH a0) (fB a0)) (pV (bH a0) (fB a0)/\Bb ((dY (bH a0) (fB a0)).2) (eC ((dY (bH a0) (fB a0)).1) ((bF (bH a0)).1.value)/\(decide (0<(bK ((dY (bH a0) (fB a0)).1) ((bF (bH a0)).1.value))))=false/\Bb ((bF (bH a0)).2) (eH (bH a0) (bT a0)/\Bb (bO (bH a0) (bT a0)) (fX (bH a0) (bT a0)/\Bb ((cS (bH a0) (bT a0)).2) (eC ((cS (bH a0) (bT a0)).1) ((bF (bH a0)).1.value)/\(decide ((bK ((cS (bH a0) (bT a0)).1) ((bF (bH a0)).1.value))<0))=false/\(true)=true/\True) ((true)=true/\True)) ((true)=true/\True)) ((true)=true/\True)) (Bb ((bF (bH a0)).2) (eH (bH a0) (bT a0)/\Bb (bO (bH a0) (bT a0)) (fX (bH a0) (bT a0)/\Bb ((cS (bH a0) (bT a0)).2) (eC ((cS (bH a0) (bT a0)).1) ((bF (bH a0)).1.value)/\(decide ((bK ((cS (bH a0) (bT a0)).1) ((bF (bH a0)).1.value))<0))=false/\(true)=true/\True) ((true)=true/\True)) ((true)=true/\True)) ((true)=true/\True))) (Bb ((bF (bH a0)).2) (eH (bH a0) (bT a0)/\Bb (bO (bH a0) (bT a0)) (fX (bH a0) (bT a0)/\Bb ((cS (bH a0) (bT a0)).2) (eC ((cS (bH a0) (bT a0)).1) ((bF (bH a0)).1.value)/\(decide ((bK ((cS (bH a0) (bT a0)).1) ((bF (bH a0)).1.value))<0))=false/\(true)=true/\True) ((true)=true/\True)) ((true)=true/\True)) ((true)=true/\True))) (Bb ((bF (bH a0)).2) (eH (bH a0) (bT a0)/\Bb (bO (bH a0) (bT a0)) (fX (bH a0) (bT a0)/\Bb ((cS (bH a0) (bT a0)).2) (eC ((cS (bH a0) (bT a0)).1) ((bF (bH a0)).1.value)/\(decide ((bK ((cS (bH a0) (bT a0)).1) ((bF (bH a0)).1.value))<0))=false/\(true)=true/\True) ((true)=true/\True)) ((true)=true/\True)) ((true)=true/\True))))) (by kernel_rfl) ?_;refine lx fun n0=>?_;refine⟨aK1 a0,dd (fun c0=>?_) fun c0=>?_⟩
 ·apply et1
  ·first|rfl|(simp[*];done)
 ·have hl:a0.length<=1048576:=by omega
  have hz:(bH a0).objective.length<=4/\(bH a0).rows.length<=9/\(bH a0).limits.length<=10:=aAY a0 (aT a0);have hrs: ∀r∈(bH a0).rows,r.length<=1048576:=fun r hr=>Nat.le_trans (aGx a0 (aT a0) r hr) (by decide);refine⟨aMk a0 (by assumption),aJF (bH a0) (by assumption),aAq (bH a0),by first|(simp;done)|(simp;omega)|(simp[*];done),mJ (bH a0) (by first|assumption|exact hrs),mK (bH a0),by first|(simp;done)|(simp;omega)|(simp[*];done),db (fun g41=>?_) fun g41=>?_⟩
  ·have hopt:kC (bH a0) (bF (bH a0)).1=true:=aJY hz.1 g41;refine⟨by first|(simp;done)|(simp;omega)|(simp[*];done),aJ0 (bH a0) ((bF (bH a0)).1) (by assumption),by first|(simp;done)|(simp;omega)|(simp[*];done),aJ2 (bH a0) ((bF (bH a0)).1),by first|(simp;done)|(simp;omega)|(simp[*];done),aLI a0 (by assumption),aLJ a0 (by assumption),xC (bH a0) (fB a0) (by assumption),oU (bH a0) (fB a0),by first|(simp;done)|(simp;omega)|(simp[*];done),xB (bH a0) (bT a0) (by assumption),gL (bH a0) (bT a0),by first|(simp;done)|(simp;omega)|(simp[*];done),db (fun g87=>?_) fun g87=>?_⟩
   ·refine⟨oU (bH a0) (fB a0),db (fun c4=>?_) fun c4=>?_⟩
    ·refine⟨aAz (bH a0) (fB a0) (by assumption),db (fun g99=>?_) fun g99=>?_⟩
     ·refine⟨gG ((dY (bH a0) (fB a0)).1) ((bF (bH a0)).1.value),by first|(simp;done)|exact decide_eq_false (aJZ hopt (by assumption) (by assumption))|(simp[*];done)|(rw[g41] at g87;cases g87),db (fun g107=>?_) fun g107=>?_⟩
      ·refine⟨gL (bH a0) (bT a0),db (fun c6=>?_) fun c6=>?_⟩
       ·refine⟨kA (bH a0) (bT a0) (by assumption),db (fun g119=>?_) fun g119=>?_⟩
        ·refine⟨gG ((cS (bH a0) (bT a0)).1) ((bF (bH a0)).1.value),by first|(simp;done)|exact decide_eq_false (rR hopt (by assumption) (by assumption))|(simp[*];done)|(rw[g41] at g107;cases g107),?_,trivial⟩
         ·first|rfl|(simp[*];done)
        ·apply et1
         ·first|rfl|(simp[*];done)
       ·apply et1
        ·first|rfl|(simp[*];done)
      ·apply et1
       ·first|rfl|(simp[*];done)
     ·refine db (fun g107=>?_) fun g107=>?_
      ·refine⟨gL (bH a0) (bT a0),db (fun c6=>?_) fun c6=>?_⟩
       ·refine⟨kA (bH a0) (bT a0) (by assumption),db (fun g119=>?_) fun g119=>?_⟩
        ·refine⟨gG ((cS (bH a0) (bT a0)).1) ((bF (bH a0)).1.value),by first|(simp;done)|exact decide_eq_false (rR hopt (by assumption) (by assumption))|(simp[*];done)|(rw[g41] at g107;cases g107),?_,trivial⟩
         ·first|rfl|(simp[*];done)
        ·apply et1
         ·first|rfl|(simp[*];done)
       ·apply et1
        ·first|rfl|(simp[*];done)
      ·apply et1
       ·first|rfl|(simp[*];done)
    ·refine db (fun g107=>?_) fun g107=>?_
     ·refine⟨gL (bH a0) (bT a0),db (fun c6=>?_) fun c6=>?_⟩
      ·refine⟨kA (bH a0) (bT a0) (by assumption),db (fun g119=>?_) fun g119=>?_⟩
       ·refine⟨gG ((cS (bH a0) (bT a0)).1) ((bF (bH a0)).1.value),by first|(simp;done)|exact decide_eq_false (rR hopt (by assumption) (by assumption))|(simp[*];done)|(rw[g41] at g107;cases g107),?_,trivial⟩
        ·first|rfl|(simp[*];done)
       ·apply et1
        ·first|rfl|(simp[*];done)
      ·apply et1
       ·first|rfl|(simp[*];done)
     ·apply et1
      ·first|rfl|(simp[*];done)
   ·refine db (fun g107=>?_) fun g107=>?_
    ·refine⟨gL (bH a0) (bT a0),db (fun c6=>?_) fun c6=>?_⟩
     ·refine⟨kA (bH a0) (bT a0) (by assumption),db (fun g119=>?_) fun g119=>?_⟩
      ·refine⟨gG ((cS (bH a0) (bT a0)).1) ((bF (bH a0)).1.value),by first|(simp;done)|exact decide_eq_false (rR hopt (by assumption) (by assumption))|(simp[*];done)|(rw[g41] at g107;cases g107),?_,trivial⟩
       ·first|rfl|(simp[*];done)
      ·apply et1
       ·first|rfl|(simp[*];done)
     ·apply et1
      ·first|rfl|(simp[*];done)
    ·apply et1
     ·first|rfl|(simp[*];done)
  ·refine⟨aLI a0 (by assumption),aLJ a0 (by assumption),xC (bH a0) (fB a0) (by assumption),oU (bH a0) (fB a0),by first|(simp;done)|(simp;omega)|(simp[*];done),xB (bH a0) (bT a0) (by assumption),gL (bH a0) (bT a0),by first|(simp;done)|(simp;omega)|(simp[*];done),db (fun g87=>?_) fun g87=>?_⟩
   ·refine⟨oU (bH a0) (fB a0),db (fun c4=>?_) fun c4=>?_⟩
    ·refine⟨aAz (bH a0) (fB a0) (by assumption),db (fun g99=>?_) fun g99=>?_⟩
     ·refine⟨gG ((dY (bH a0) (fB a0)).1) ((bF (bH a0)).1.value),by first|(simp;done)|exact decide_eq_false (aJZ hopt (by assumption) (by assumption))|(simp[*];done)|(rw[g41] at g87;cases g87),db (fun g107=>?_) fun g107=>?_⟩
      ·refine⟨gL (bH a0) (bT a0),db (fun c6=>?_) fun c6=>?_⟩
       ·refine⟨kA (bH a0) (bT a0) (by assumption),db (fun g119=>?_) fun g119=>?_⟩
        ·refine⟨gG ((cS (bH a0) (bT a0)).1) ((bF (bH a0)).1.value),by first|(simp;done)|exact decide_eq_false (rR hopt (by assumption) (by assumption))|(simp[*];done)|(rw[g41] at g107;cases g107),?_,trivial⟩
         ·first|rfl|(simp[*];done)
        ·apply et1
         ·first|rfl|(simp[*];done)
       ·apply et1
        ·first|rfl|(simp[*];done)
      ·apply et1
       ·first|rfl|(simp[*];done)
     ·refine db (fun g107=>?_) fun g107=>?_
      ·refine⟨gL (bH a0) (bT a0),db (fun c6=>?_) fun c6=>?_⟩
       ·refine⟨kA (bH a0) (bT a0) (by assumption),db (fun g119=>?_) fun g119=>?_⟩
        ·refine⟨gG ((cS (bH a0) (bT a0)).1) ((bF (bH a0)).1.value),by first|(simp;done)|exact decide_eq_false (rR hopt (by assumption) (by assumption))|(simp[*];done)|(rw[g41] at g107;cases g107),?_,trivial⟩
         ·first|rfl|(simp[*];done)
        ·apply et1
         ·first|rfl|(simp[*];done)
       ·apply et1
        ·first|rfl|(simp[*];done)
      ·apply et1
       ·first|rfl|(simp[*];done)
    ·refine db (fun g107=>?_) fun g107=>?_
     ·refine⟨gL (bH a0) (bT a0),db (fun c6=>?_) fun c6=>?_⟩
      ·refine⟨kA (bH a0) (bT a0) (by assumption),db (fun g119=>?_) fun g119=>?_⟩
       ·refine⟨gG ((cS (bH a0) (bT a0)).1) ((bF (bH a0)).1.value),by first|(simp;done)|exact decide_eq_false (rR hopt (by assumption) (by assumption))|(simp[*];done)|(rw[g41] at g107;cases g107),?_,trivial⟩
        ·first|rfl|(simp[*];done)
       ·apply et1
        ·first|rfl|(simp[*];done)
      ·apply et1
       ·first|rfl|(simp[*];done)
     ·apply et1
      ·first|rfl|(simp[*];done)
   ·refine db (fun g107=>?_) fun g107=>?_
    ·refine⟨gL (bH a0) (bT a0),db (fun c6=>?_) fun c6=>?_⟩
     ·refine⟨kA (bH a0) (bT a0) (by assumption),db (fun g119=>?_) fun g119=>?_⟩
      ·refine⟨gG ((cS (bH a0) (bT a0)).1) ((bF (bH a0)).1.value),by first|(simp;done)|exact decide_eq_false (rR hopt (by assumption) (by assumption))|(simp[*];done)|(rw[g41] at g107;cases g107),?_,trivial⟩
       ·first|rfl|(simp[*];done)
      ·apply et1
       ·first|rfl|(simp[*];done)
     ·apply et1
      ·first|rfl|(simp[*];done)
    ·apply et1
     ·first|rfl|(simp[*];done)
theorem fr_own:ownKnob Try.prog.godebug=none:=by kernel_rfl
theorem fr_laid:laidOutB Try.prog=true:=by kernel_rfl
theorem fr_maps:mapsRowed Try.prog=true:=by kernel_rfl
theorem fr_stops:(Try.prog.stops== [])=true:=by kernel_rfl
theorem fr_sk:(Try.prog.stopKnobs== [])=true:=by kernel_rfl
theorem fr_heard:Try.prog.stopsHeard=true:=by kernel_rfl
theorem fr_enter:Try.prog.mayEnter=true:=by kernel_rfl
theorem fr_keys:(Rows.fnProgramRow.plainKeys==Try.prog.plainKeys)=true:=by kernel_rfl
theorem fr_lifts:(Rows.fnProgramRow.lifted==Try.prog.liftsFinal)=true:=by kernel_rfl
theorem fr_make:(Try.prog.make==some Rows.fnProgramRow.make)=true:=by kernel_rfl
end Go.Proofs.Ytepphdhnkaiamaa
