/-
  Contracts and plain laws, joined: part 18.
-/
import Derived.Test.YtlidmoeecphbmaaGreateb16
import Derived.Test.YtlidmoeecphbmaaGreateb14
import Derived.Test.YtlidmoeecphbmaaGreateb8
namespace Go.Proofs.YtlidmoeecphbmaaGreat
open Go.ChangeShapes Go.WideShapes Go.ChangeAt Go.RowKit
set_option linter.unusedVariables false
set_option linter.unusedSimpArgs false
set_option maxRecDepth 100000
set_option maxHeartbeats 4000000
theorem aW1 (s:StoreD)(q:QueryD)(m:Int): ∀r∈(fW s q m).1.rows,r.length<=1048576:=by
 intro r hr;have h1:=aPA s q m;have e1:yA (fW s q m).1=cC (fW s q m).1.objective+cO (fW s q m).1.rows+cC (fW s q m).1.limits:=rfl;obtain⟨k,hk⟩:=List.getElem?_of_mem hr;have h2:=aAX hk;have e:cC r=r.length:=rfl;omega
abbrev zQ (s:StoreD)(q:QueryD)(m:Int):AV × List (Nat × Rs):=(.tup [.agg [.own 0,.own 1,.own 2],.own 3,vB ((fW s q m).2)],[(0,.arr 3 1 true ((fW s q m).1.objective.map intD)),(1,.arr 91 1 true ((fW s q m).1.rows.map aC)),(2,.arr 3 1 true ((fW s q m).1.limits.map intD)),(3,.arr 192 3 true ((dS s q m).map aE))])
abbrev aEh (s:StoreD)(q:QueryD)(m:Int):Prop:=Cn 47 [.agg [.sl 142 3 (s.database.tables.map aS),.int .i64 s.catalogue.version,.sl 88 4 (s.catalogue.tables.map aG),.sl 121 3 (s.dependencies.map aN),.sl 123 4 (s.inclusions.map aR)],.agg [.int .i64 q.variableCount,.sl 125 2 (q.atoms.map bI)],.one (.int .i64 m)] (zQ s q m).1 (zQ s q m).2
theorem aRk (s:StoreD)(q:QueryD)(m:Int)(hc:dO s<=1048576)(hcq:gX q<=1048576):aEh s q m:=by
 refine cq Tryz.func47 (bH (vQ s q m)<| .len ((dS s q m).length)<| .br (.fin []) (bH (zC q m)<| bH (aB8 (dS s q m) (dZ q m))<| .len ((dZ q m).length)<| bH (aBh ((dS s q m).map (lW (dZ q m))) (((dZ q m).length:Nat):Int))<| .fin [(0,3000),(1,3001),(2,3002),(3,1600)])) (p:=Lx (s.database.tables.map aS)<| Lx (s.catalogue.tables.map aG)<| Lx (s.dependencies.map aN)<| Lx (s.inclusions.map aR)<| Lx (q.atoms.map bI)<| aCt s q m/\Lm aE (dS s q m)/\Br ((((dS s q m).length:Nat):Int)=0) ((false)=((fW s q m).2)/\[]=(fW s q m).1.objective.map intD/\[]=(fW s q m).1.rows.map aC/\[]=(fW s q m).1.limits.map intD/\[]=(dS s q m).map aE/\True) (aE6 q m/\aHZ (dS s q m) (dZ q m)/\Lm intD (dZ q m)/\aHe ((dS s q m).map (lW (dZ q m))) (((dZ q m).length:Nat):Int)/\((dM ((dS s q m).map (lW (dZ q m))) (((dZ q m).length:Nat):Int)).2)=((fW s q m).2)/\(((dM ((dS s q m).map (lW (dZ q m))) (((dZ q m).length:Nat):Int)).1).objective).map intD=(fW s q m).1.objective.map intD/\(((dM ((dS s q m).map (lW (dZ q m))) (((dZ q m).length:Nat):Int)).1).rows).map aC=(fW s q m).1.rows.map aC/\(((dM ((dS s q m).map (lW (dZ q m))) (((dZ q m).length:Nat):Int)).1).limits).map intD=(fW s q m).1.limits.map intD/\(dS s q m).map aE=(dS s q m).map aE/\True)) (by kernel_rfl) ?_;refine lx fun n0=>lx fun n1=>lx fun n2=>lx fun n3=>lx fun n4=>?_;have hS:dO s=bN s.database+bS s.catalogue+bY s.dependencies+cP s.inclusions:=rfl;have hI:=dX s.inclusions;have hQ:gX q=jS q.atoms:=rfl;have hql:=aKH s q m;have hff:=aNW (s:=s) (q:=q) (m:=m) (dZ q m);have hq28:((dS s q m).map (lW (dZ q m))).length<=28:=by rw[aA8];exact hql
 refine⟨aOo s q m (by omega) (by omega),aA8 _,dd (fun c0=>?_) fun c0=>?_⟩
 ·apply et5<;>(first|(rw[aQF (by omega)]<;>rfl)|(rw[aIi (show (dS s q m).length=0 by omega)];rfl))
 ·refine⟨aRa _ m,aUV _ _ (by omega),aA8 _,aUb ((dS s q m).map (lW (dZ q m))) (((dZ q m).length:Nat):Int) (by omega) (by assumption),?_,?_,?_,?_,rfl,trivial⟩<;>((rw[aNX (by omega)]<;>rfl))
abbrev zS (s:StoreD)(q:QueryD)(m:Int):AV × List (Nat × Rs):=(.tup [.agg [.own 0,.own 1,.own 2],vB ((fW s q m).2)],[(0,.arr 3 1 true ((fW s q m).1.objective.map intD)),(1,.arr 91 1 true ((fW s q m).1.rows.map aC)),(2,.arr 3 1 true ((fW s q m).1.limits.map intD))])
abbrev aEi (s:StoreD)(q:QueryD)(m:Int):Prop:=Cn 45 [.agg [.sl 142 3 (s.database.tables.map aS),.int .i64 s.catalogue.version,.sl 88 4 (s.catalogue.tables.map aG),.sl 121 3 (s.dependencies.map aN),.sl 123 4 (s.inclusions.map aR)],.agg [.int .i64 q.variableCount,.sl 125 2 (q.atoms.map bI)],.one (.int .i64 m)] (zS s q m).1 (zS s q m).2
theorem aRl (s:StoreD)(q:QueryD)(m:Int)(hc:dO s<=1048576)(hcq:gX q<=1048576):aEi s q m:=by
 refine cq Tryz.func45 (bH (vR s q m)<| .len ((dS s q m).length)<| .br (.fin []) (bH (zD q m)<| bH (aB9 (dS s q m) (dZ q m))<| .len ((dZ q m).length)<| bH (aBi ((dS s q m).map (lW (dZ q m))) (((dZ q m).length:Nat):Int))<| .fin [(0,2900),(1,2901),(2,2902)])) (p:=Lx (s.database.tables.map aS)<| Lx (s.catalogue.tables.map aG)<| Lx (s.dependencies.map aN)<| Lx (s.inclusions.map aR)<| Lx (q.atoms.map bI)<| aCu s q m/\Lm aE (dS s q m)/\Br ((((dS s q m).length:Nat):Int)=0) ((false)=((fW s q m).2)/\[]=(fW s q m).1.objective.map intD/\[]=(fW s q m).1.rows.map aC/\[]=(fW s q m).1.limits.map intD/\True) (aE7 q m/\aH0 (dS s q m) (dZ q m)/\Lm intD (dZ q m)/\aHf ((dS s q m).map (lW (dZ q m))) (((dZ q m).length:Nat):Int)/\((dM ((dS s q m).map (lW (dZ q m))) (((dZ q m).length:Nat):Int)).2)=((fW s q m).2)/\(((dM ((dS s q m).map (lW (dZ q m))) (((dZ q m).length:Nat):Int)).1).objective).map intD=(fW s q m).1.objective.map intD/\(((dM ((dS s q m).map (lW (dZ q m))) (((dZ q m).length:Nat):Int)).1).rows).map aC=(fW s q m).1.rows.map aC/\(((dM ((dS s q m).map (lW (dZ q m))) (((dZ q m).length:Nat):Int)).1).limits).map intD=(fW s q m).1.limits.map intD/\True)) (by kernel_rfl) ?_;refine lx fun n0=>lx fun n1=>lx fun n2=>lx fun n3=>lx fun n4=>?_;have hS:dO s=bN s.database+bS s.catalogue+bY s.dependencies+cP s.inclusions:=rfl;have hI:=dX s.inclusions;have hQ:gX q=jS q.atoms:=rfl;have hql:=aKH s q m;have hff:=aNW (s:=s) (q:=q) (m:=m) (dZ q m);have hq28:((dS s q m).map (lW (dZ q m))).length<=28:=by rw[aA8];exact hql
 refine⟨aOp s q m (by omega) (by omega),aA8 _,dd (fun c0=>?_) fun c0=>?_⟩
 ·apply et4<;>((rw[aQF (by omega)]<;>rfl))
 ·refine⟨aRb _ m,aUW _ _ (by omega),aA8 _,aUc ((dS s q m).map (lW (dZ q m))) (((dZ q m).length:Nat):Int) (by omega) (by assumption),?_,?_,?_,?_,trivial⟩<;>((rw[aNX (by omega)]<;>rfl))
abbrev aAc (n:Int):Prop:=Cn 161 [.one (.int .i64 n)] (.agg [vI ((aP n).num),vI ((aP n).den)]) []
theorem aL4 (n:Int):aAc n:=by
 refine cq Tryz.func161 (.fin []) (p:=n=((aP n).num)/\1=((aP n).den)/\True) (by kernel_rfl) ?_;apply et2<;>(rfl)
abbrev jW (n:Int):Prop:=Cn 96 [.one (.int .i64 n)] (.agg [vI ((aP n).num),vI ((aP n).den)]) []
theorem oZ (n:Int):jW n:=by
 refine cq Tryz.func96 (.fin []) (p:=n=((aP n).num)/\1=((aP n).den)/\True) (by kernel_rfl) ?_;apply et2<;>(rfl)
def dT (r:aB):aB:=⟨-r.num,r.den⟩
def aFE:aB:=⟨1,1⟩
def aIl:aB:=⟨0,1⟩
def bW (a b c:aB):aB × Bool:=if b.num=0\/c.num=0 then (a,true) else ((nQ a (dN b c).1).1,(dN b c).2&&(nQ a (dN b c).1).2)
theorem aNY (n d:Int):Int.gcd (-n) d=Int.gcd n d:=by simp[Int.gcd]
theorem aPB (n d:Int):bO (-n) d=(-(bO n d).1,(bO n d).2.1,(bO n d).2.2):=by
 rcases Int.lt_trichotomy d 0 with h | h | h
 ·rw[zP h,zP h,aNY (-n),Int.neg_tdiv,rP];split<;>rfl
 ·subst h;rw[mH,mH];rfl
 rw[tB h,tB h,aNY,Int.neg_tdiv,rP];split<;>rfl
theorem aBj (n d:Int):bO (-n) (-d)=bO n d:=by
 rcases Int.lt_trichotomy d 0 with h | h | h
 ·rw[zP h,tB (show 0< -d by omega)]
 ·subst h;rw[Int.neg_zero,mH,mH]
 rw[tB h,zP (show -d<0 by omega),Int.neg_neg,Int.neg_neg]
theorem aUd {n d:Int}(h:(bO n d).2.2=true):cV (bO n d).1 (bO n d).2.1=true:=by
 rcases Int.lt_trichotomy d 0 with q | q | q
 ·rw[zP q] at*;split at h
  ·rename_i hv;rw[if_pos hv];exact hv
  cases h
 ·subst q;rw[mH] at h;cases h
 rw[tB q] at*;split at h
 ·rename_i hv;rw[if_pos hv];exact hv
 cases h
theorem aRm {n d:Int}(h:(bO n d).2.2=false):bO n d=(0,0,false):=by
 rcases Int.lt_trichotomy d 0 with q | q | q
 ·rw[zP q] at*;split at h
  ·cases h
  rename_i hv;rw[if_neg hv]
 ·subst q;exact mH _
 rw[tB q] at*;split at h
 ·cases h
 rename_i hv;rw[if_neg hv]
theorem aAd {n d:Int}(h:cV n d=true):bO n d=(n,d,true):=by
 obtain⟨h1,_,_,_,h2⟩:=aHU h;rw[tB (by omega),h2];simp only[Int.cast_ofNat_Int,Int.tdiv_one];rw[if_pos h]
theorem aUe (b c:aB):dN (dT b) c=(dT (dN b c).1,(dN b c).2):=by
 simp only[dN,dT,aRe,rP];split
 ·rw[Int.neg_mul,aPB];rfl
 rfl
theorem aUf (a p:aB):fQ a (dT p)=nQ a p:=by
 simp only[fQ,nQ,dT,aU7]
theorem aRn (a b c:aB):(if (dT b).num=0\/c.num=0 then (a,true) else ((fQ a (dN (dT b) c).1).1,(dN (dT b) c).2&&(fQ a (dN (dT b) c).1).2))=bW a b c:=by
 rw[aUe,aUf,bW];have e:(dT b).num=0↔b.num=0:=by simp only[dT];omega
 simp only[e]
theorem aUg {q:Int × Int × Bool}{n d:Int}{p:Prop}[Decidable p](e:q=if p then bO n d else (0,0,false))(h:(iI q).2=true):bA (iI q).1=true:=by
 subst e;split at h
 ·rename_i hp;rw[if_pos hp];exact aUd h
 cases h
theorem aW2 {a c:aB}(h:(nQ a c).2=true):bA (nQ a c).1=true:=aUg (q:=aLU a.num a.den c.num c.den) rfl h
theorem aW3 {a c:aB}(h:(fQ a c).2=true):bA (fQ a c).1=true:=aUg (q:=aLT a.num a.den c.num c.den) rfl h
theorem aAe {a c:aB}(h:(aX a c).2=true):bA (aX a c).1=true:=aUg (q:=aIj a.num a.den c.num c.den) rfl h
theorem aNZ {a c:aB}(h:(aX a c).2=false):(aX a c).1=⟨0,0⟩:=by
 unfold aX aIj at*;split at h
 ·rename_i hp;rw[if_pos hp,aRm h];rfl
 rename_i hp;rw[if_neg hp];rfl
theorem aN0 {a b c:aB}(ha:bA a=true)(h:(bW a b c).2=true):bA (bW a b c).1=true:=by
 unfold bW at*;split at h
 ·rename_i hp;rw[if_pos hp];exact ha
 rename_i hp;rw[if_neg hp];simp only[aB4] at h;exact aW2 h.2
theorem aL5 {a:aB}(h:bA a=true)(h0:a.num≠0):aX aFE a=((if 0<a.num then ⟨a.den,a.num⟩ else ⟨-a.den,-a.num⟩),true):=by
 obtain⟨h1,h2,h3,h4,h5⟩:=cN h;have v1:cV 1 1=true:=by decide
 rw[aX,show aIj aFE.num aFE.den a.num a.den=bO (1*a.den) (1*a.num) from zH v1 h,Int.one_mul,Int.one_mul];by_cases hp:0<a.num
 ·rw[if_pos hp,aAd (by simp only[cV,Int.gcd_comm a.den,h5,aB4,aTb,and_true];exact⟨pU (by omega) (by omega),pU (by omega) (by omega)⟩)];rfl
 rw[if_neg hp,<-aBj,aAd (by
  have e:Int.gcd (-a.den) (-a.num)=1:=by rw[aU4,Int.gcd_comm];exact h5
  simp only[cV,e,aB4,aTb,and_true];exact⟨pU (by omega) (by omega),pU (by omega) (by omega)⟩)];rfl
theorem aW4 {c a:aB}(hc:bA c=true)(ha:bA a=true)(h0:a.num≠0):dN c (aX aFE a).1=aX c a:=by
 have hi:=aAe (show (aX aFE a).2=true by rw[aL5 ha h0]);rw[aL5 ha h0] at*;rw[aX,zH hc ha];split at hi
 ·rename_i hp;rw[if_pos hp,dN,zG hc hi]
 rename_i hp;rw[if_neg hp,dN,zG hc hi];simp only[Int.mul_neg];rw[aBj]
theorem zero_sub {x:aB}(h:bA x=true):nQ aIl x=(dT x,true):=by
 have v:cV 0 1=true:=by decide
 rw[nQ,show aLU aIl.num aIl.den x.num x.den=bO (0*x.den - x.num*1) (1*x.den) from aNO v h];rw[Int.zero_mul,Int.mul_one,Int.one_mul,Int.zero_sub,aAd (by rw[rP];exact h)];rfl
theorem aKR {d:Int}(h:d≠0):bO 0 d=(0,1,true):=by
 have key: ∀e:Int,0<e->bO 0 e=(0,1,true):=fun e he=>by
  have hg:((Int.gcd 0 e:Nat):Int)=e:=by rw[Int.gcd_zero_left];omega
  rw[tB he,hg,Int.zero_tdiv,Int.tdiv_self (by omega)];rfl
 rcases Int.lt_or_gt_of_ne h with q | q
 ·rw[<-aBj,Int.neg_zero];exact key _ (by omega)
 exact key _ q
theorem aUh {c a:aB}(hc:bA c=true)(ha:bA a=true)(h0:a.num≠0):bW aIl c (aX aFE a).1=(dT (aX c a).1,(aX c a).2):=by
 have hb:=cN hc;have hba:=cN ha;by_cases hz:c.num=0
 ·have hd:c.den*a.num≠0:=Int.mul_ne_zero (by omega) h0;rw[bW,if_pos (.inl hz),aX,zH hc ha,hz,Int.zero_mul,aKR hd];rfl
 have hn: ¬(c.num=0\/(aX aFE a).1.num=0):=by
  rw[aL5 ha h0];rintro(q | q)
  ·exact hz q
  revert q;split
  ·show ¬a.den=0;omega
  show ¬ -a.den=0;omega
 rw[bW,if_neg hn,aW4 hc ha h0];cases e:(aX c a).2 with
 | true=>rw[zero_sub (aAe e)];rfl
 | false=>rw[aNZ e];rfl
theorem aKS: ∀(r s:List Int),r.Nodup->(∀x∈r,x∈s)->s.length<=r.length->s.Perm r
 | [],s,_,_,h=>by
   have:s= []:=List.length_eq_zero_iff.1 (by simpa using h);rw[this]
 | a::r,s,hn,hs,hl=>by
   have ha:a∈s:=hs a (by simp);have p1:s.Perm (a::s.erase a):=List.perm_cons_erase ha;have hn' :=List.nodup_cons.1 hn
   have:=aKS r (s.erase a) hn'.2 (fun x hx=>(List.mem_erase_of_ne (fun (e:x=a)=>hn'.1 (by rw[<-e];exact hx))).2 (hs x (by simp[hx]))) (by
    rw[List.length_erase_of_mem ha];simp only[aPS] at hl;omega)
   exact p1.trans (this.cons a)
def isD (n x:Int):Bool:=decide (x=n)
def pV (l:List Int):Bool:=(List.range l.length).all fun (i:Nat)=>l.any (isD i)
abbrev upto (n:Nat):List Int:=(List.range n).map fun (i:Nat)=>(i:Int)
theorem aEj {l:List Int}(h:pV l=true):l.Perm (upto l.length):=by
 refine aKS _ _ ?_ ?_ (by simp)
 ·rw[List.Nodup,List.pairwise_map];exact List.nodup_range.imp fun hne he=>hne (by omega)
 intro x hx;obtain⟨j,hj,rfl⟩:=aON.1 hx;have:=aIZ.1 h j hj;obtain⟨y,hy,e⟩:=List.any_eq_true.1 this;rw[isD,aTb] at e
 rwa [<-e]
theorem aN1 {l:List Int}(h:l.Perm (upto l.length)):pV l=true:=by
 refine aIZ.2 fun i hi=>?_;have:(i:Int)∈l:=h.mem_iff.2 (aON.2 ⟨i,hi,rfl⟩);exact List.any_eq_true.2 ⟨_,this,by simp[isD]⟩
theorem aPC {l:List Int}(h:pV l=true){x:Int}(hx:x∈l):0<=x/\x<l.length:=by
 have:=(aEj h).mem_iff.1 hx;obtain⟨j,hj,rfl⟩:=aON.1 this;have:=aSN.1 hj;omega
def hJ (l:List aB)(n:Int):Bool:=decide ((l.length:Int)=n)&&l.all bA
def dF (d:aJ):Bool:=decide ((d.basic.length:Int)<=64)&&(decide (1<=(d.others.length:Int)/\(d.others.length:Int)<=15)&&(decide ((d.table.length:Int)=d.basic.length)&&(pV (d.basic++d.others)&&(d.table.all (fun r=>hJ r d.others.length)&&(hJ d.limits d.basic.length&&(hJ d.costs d.others.length&&bA d.value))))))
theorem aPD {d:aJ}(h:pV (d.basic++d.others)=false):dF d=false:=by simp only[dF,h,Bool.false_and,Bool.and_false]
theorem aHg {d:aJ}{k:Nat}{r:List aB}(h:d.table[k]? =some r)(hr:hJ r d.others.length=false):dF d=false:=by
 have:d.table.all (fun r=>hJ r d.others.length)=false:=eJ h hr;simp only[dF,this,Bool.false_and,Bool.and_false]
theorem aPE {d:aJ}(h:hJ d.limits d.basic.length=false):dF d=false:=by simp only[dF,h,Bool.false_and,Bool.and_false]
theorem aN2 {d:aJ}(h:hJ d.costs d.others.length=false):dF d=false:=by simp only[dF,h,Bool.false_and,Bool.and_false]
theorem aN3 {d:aJ}(h:(d.basic.length:Int)<=64/\(1<=(d.others.length:Int)/\(d.others.length:Int)<=15)/\(d.table.length:Int)=d.basic.length)(h1:pV (d.basic++d.others)=true)(h2:d.table.all (fun r=>hJ r d.others.length)=true)(h3:hJ d.limits d.basic.length=true)(h4:hJ d.costs d.others.length=true)(h5:bA d.value=true):dF d=true:=by
 simp only[dF,h1,h2,h3,h4,h5,Bool.and_true,aB4,aTb];exact h
theorem aPF {l:List aB}{n:Int}(h: ¬(l.length:Int)=n):hJ l n=false:=by simp only[hJ,decide_eq_false h,Bool.false_and]
theorem aBk {l:List aB}{n:Int}(h:l.all bA=false):hJ l n=false:=by simp only[hJ,h,Bool.and_false]
theorem aDh {l:List aB}{n:Int}(h:(l.length:Int)=n)(h1:l.all bA=true):hJ l n=true:=by simp only[hJ,decide_eq_true h,h1,Bool.and_true]
theorem kI {l:List aB}{n:Nat}:hJ l n=true↔l.length=n/\ ∀x∈l,bA x=true:=by
 simp only[hJ,aB4,aTb,aIZ];constructor
 ·exact fun h=>⟨by omega,h.2⟩
 exact fun h=>⟨by omega,h.2⟩
theorem iH {d:aJ}(h:dF d=true):d.basic.length<=64/\(1<=d.others.length/\d.others.length<=15)/\d.table.length=d.basic.length/\pV (d.basic++d.others)=true/\(∀r∈d.table,r.length=d.others.length/\ ∀x∈r,bA x=true)/\(d.limits.length=d.basic.length/\ ∀x∈d.limits,bA x=true)/\(d.costs.length=d.others.length/\ ∀x∈d.costs,bA x=true)/\bA d.value=true:=by
 simp only[dF,aB4,aTb,aIZ (l:=d.table)] at h;obtain⟨h1,h2,h3,h4,h5,h6,h7,h8⟩:=h;exact⟨by omega,by omega,by omega,h4,fun r hr=>kI.1 (h5 r hr),kI.1 h6,kI.1 h7,h8⟩
theorem aKU {d:aJ}(h:dF d=true):(∀x∈d.basic,0<=x/\x<d.basic.length+d.others.length)/\ ∀x∈d.others,0<=x/\x<d.basic.length+d.others.length:=by
 obtain⟨_,_,_,hp,_⟩:=iH h
 have key: ∀x∈d.basic++d.others,0<=x/\x<d.basic.length+d.others.length:=fun x hx=>by
  have:=aPC hp hx;rw[aSM] at this;omega
 exact⟨fun x hx=>key x (aKD _ hx),fun x hx=>key x (aI0 _ hx)⟩
def aBl (d:aJ)(b:Int)(k:Nat):Bool:=decide (0<(d.costs.getD k zR).num)&&(decide (b<0) || decide (d.others.getD k 0<d.others.getD b.toNat 0))
def kR (d:aJ):Nat->Int
 | 0=> -1
 | k+1=>if aBl d (kR d k) k=true then (k:Int) else kR d k
def eU (d:aJ):Int:=kR d d.others.length
theorem zT (d:aJ): ∀k:Nat,-1<=kR d k/\kR d k<k
 | 0=>by simp[kR]
 | k+1=>by
   have:=zT d k;rw[kR];split<;>omega
theorem aN4 {d:aJ}{k:Nat}{b:Int}(hb:b=kR d k)(h:aBl d b k=true):(k:Int)=kR d (k+1):=by rw[kR,<-hb,if_pos h]
theorem aQG {d:aJ}{k:Nat}{b:Int}(hb:b=kR d k)(h:aBl d b k=false):b=kR d (k+1):=by rw[kR,<-hb,if_neg (by rw[h];decide)]
def jZ (d:aJ):Int:=if dF d=true then eU d else -1
def iF (d:aJ)(i j:Nat):aB:=(d.table.getD i []).getD j zR
def mJ (d:aJ)(b:Int)(c:Int)(k:Nat):Bool:=decide (b<0) || (decide (c<0) || (decide (c=0)&&decide (d.basic.getD k 0<d.basic.getD b.toNat 0)))
def eN (d:aJ)(j:Nat):Nat->Nat->Int->aB->Int
 | 0,_,b,_=>b
 | f+1,k,b,l=>if (iF d k j).num<=0 then eN d j f (k+1) b l else if (aX (d.limits.getD k zR) (iF d k j)).2=false then -1 else if mJ d b (eW (aX (d.limits.getD k zR) (iF d k j)).1 l) k=true then eN d j f (k+1) (k:Int) (aX (d.limits.getD k zR) (iF d k j)).1 else eN d j f (k+1) b l
def gG (d:aJ)(j:Nat):Int:=eN d j d.basic.length 0 (-1) zR
theorem aPG {d:aJ}{j n k:Nat}{b:Int}{l:aB}(hk:k<n)(h:(iF d k j).num<=0):eN d j (n - k) k b l=eN d j (n - (k+1)) (k+1) b l:=by
 rw[show n - k=(n - (k+1))+1 by omega,eN,if_pos h]
theorem aRo {d:aJ}{j n k:Nat}{b:Int}{l:aB}(hk:k<n)(h: ¬(iF d k j).num<=0)(h2:(aX (d.limits.getD k zR) (iF d k j)).2=false):eN d j (n - k) k b l= -1:=by
 rw[show n - k=(n - (k+1))+1 by omega,eN,if_neg h,if_pos h2]
theorem aRp {d:aJ}{j n k:Nat}{b:Int}{l:aB}(hk:k<n)(h: ¬(iF d k j).num<=0)(h2:(aX (d.limits.getD k zR) (iF d k j)).2=true)(h3:mJ d b (eW (aX (d.limits.getD k zR) (iF d k j)).1 l) k=true):eN d j (n - k) k b l=eN d j (n - (k+1)) (k+1) (k:Int) (aX (d.limits.getD k zR) (iF d k j)).1:=by
 rw[show n - k=(n - (k+1))+1 by omega,eN,if_neg h,if_neg (by rw[h2];decide),if_pos h3]
theorem aUi {d:aJ}{j n k:Nat}{b:Int}{l:aB}(hk:k<n)(h: ¬(iF d k j).num<=0)(h2:(aX (d.limits.getD k zR) (iF d k j)).2=true)(h3:mJ d b (eW (aX (d.limits.getD k zR) (iF d k j)).1 l) k=false):eN d j (n - k) k b l=eN d j (n - (k+1)) (k+1) b l:=by
 rw[show n - k=(n - (k+1))+1 by omega,eN,if_neg h,if_neg (by rw[h2];decide),if_neg (by rw[h3];decide)]
theorem aDi (d:aJ)(j:Nat): ∀(f k:Nat) (b:Int) (l:aB),-1<=b/\b<k-> -1<=eN d j f k b l/\eN d j f k b l<(k+f:Nat)
 | 0,k,b,l,h=>by rw[eN];omega
 | f+1,k,b,l,h=>by
   have h1:=aDi d j f (k+1) b l (by omega);have h2:=aDi d j f (k+1) (k:Int) (aX (d.limits.getD k zR) (iF d k j)).1 (by omega);rw[eN];split
   ·omega
   split
   ·omega
   split<;>omega
theorem aN5 (d:aJ)(j:Nat): -1<=gG d j/\gG d j<d.basic.length:=by
 have:=aDi d j d.basic.length 0 (-1) zR (by omega);rw[gG];omega
def oN (d:aJ)(j:Int):Int:=if dF d=true/\0<=j/\j<d.others.length then gG d j.toNat else -1
def aIm (d:aJ)(i j k:Nat):aB × Bool:=aX (if k=j then aFE else iF d i k) (iF d i j)
def fB (d:aJ)(i j n:Nat):List aB:=(List.range n).map fun k=>(aIm d i j k).1
def eB (d:aJ)(i j n:Nat):Bool:=(List.range n).all fun k=>(aIm d i j k).2
def dY (d:aJ)(i j:Nat):aB × Bool:=aX (d.limits.getD i zR) (iF d i j)
def chX (l:List aB)(c:aB)(p:List aB)(j k:Nat):aB × Bool:=bW (if k=j then aIl else l.getD k zR) c (p.getD k zR)
def eG (l:List aB)(p:List aB)(j n:Nat):List aB:=(List.range n).map fun k=>(chX l (l.getD j zR) p j k).1
def fF (l:List aB)(p:List aB)(j n:Nat):Bool:=(List.range n).all fun k=>(chX l (l.getD j zR) p j k).2
def aUj (d:aJ)(i j r:Nat):aB × Bool:=bW (d.limits.getD r zR) (iF d r j) (dY d i j).1
def aCx (d:aJ)(i j r:Nat):List aB:=if r=i then fB d i j d.others.length else eG (d.table.getD r []) (fB d i j d.others.length) j d.others.length
def aEk (d:aJ)(i j r:Nat):aB:=if r=i then (dY d i j).1 else (aUj d i j r).1
def aL6 (d:aJ)(i j r:Nat):Bool:=if r=i then true else fF (d.table.getD r []) (fB d i j d.others.length) j d.others.length&&(aUj d i j r).2
def gP (d:aJ)(i j n:Nat):List (List aB):=(List.range n).map (aCx d i j)
def hX (d:aJ)(i j n:Nat):List aB:=(List.range n).map (aEk d i j)
def gH (d:aJ)(i j n:Nat):Bool:=(List.range n).all (aL6 d i j)
def aPH (d:aJ)(i j:Nat):List aB:=eG d.costs (fB d i j d.others.length) j d.others.length
def aQH (d:aJ)(i j:Nat):Bool:=fF d.costs (fB d i j d.others.length) j d.others.length
def dQ (a b c:aB):aB × Bool:=if b.num=0\/c.num=0 then (a,true) else ((fQ a (dN b c).1).1,(dN b c).2&&(fQ a (dN b c).1).2)
def zU (d:aJ)(i j:Nat):aB × Bool:=dQ d.value (d.costs.getD j zR) (dY d i j).1
def lX (d:aJ)(i j:Nat):Bool:=((eB d i j d.others.length&&(dY d i j).2)&&gH d i j d.basic.length)&&aQH d i j
def zV:aJ:=⟨[],[],[],[],[],⟨0,0⟩⟩
def rQ (d:aJ)(i j:Nat):aJ:=⟨d.basic.set i (d.others.getD j 0),d.others.set j (d.basic.getD i 0),gP d i j d.basic.length,hX d i j d.basic.length,aPH d i j,(zU d i j).1⟩
def fJ (d:aJ)(i j:Nat):aJ × Bool:=if (iF d i j).num≠0/\lX d i j=true/\(zU d i j).2=true then (rQ d i j,true) else (zV,false)
def bL (d:aJ)(i j:Int):aJ × Bool:=if dF d=true/\(0<=i/\i<d.basic.length)/\0<=j/\j<d.others.length then fJ d i.toNat j.toNat else (zV,false)
theorem aKV (a b c:aB):dQ a (dT b) c=bW a b c:=aRn a b c
theorem aUk {a b c:aB}(ha:bA a=true)(h:(dQ a b c).2=true):bA (dQ a b c).1=true:=by
 unfold dQ at*;split at h
 ·rename_i hp;rw[if_pos hp];exact ha
 rename_i hp;rw[if_neg hp];simp only[aB4] at h;exact aW3 h.2
theorem aW5 {a:aB}(h:bA a=true):fQ a aIl=(a,true):=by
 have v:cV 0 1=true:=by decide
 rw[fQ,show aLT a.num a.den aIl.num aIl.den=bO (a.num*1+0*a.den) (a.den*1) from aHW h v];rw[Int.zero_mul,Int.mul_one,Int.mul_one,Int.add_zero,aAd h];rfl
theorem aW6 {b c:aB}(hb:bA b=true)(hc:bA c=true)(h:b.num=0\/c.num=0):dN b c=(aIl,true):=by
 have h1:=cN hb;have h2:=cN hc;rw[dN,zG hb hc,show b.num*c.num=0 from Int.mul_eq_zero.2 h,aKR (Int.mul_ne_zero (by omega) (by omega))];rfl
theorem aPI {a b c:aB}(ha:bA a=true)(hb:bA b=true)(hc:bA c=true):dQ a b c=((fQ a (dN b c).1).1,(dN b c).2&&(fQ a (dN b c).1).2):=by
 unfold dQ;split
 ·rename_i h;rw[aW6 hb hc h,aW5 ha];rfl
 rfl
theorem aRq:bA aIl=true:=by decide
theorem aBm {l:List aB}{n k:Nat}(h:l.length=n/\ ∀x∈l,bA x=true)(hk:k<n):bA (l.getD k zR)=true:=by
 have hk' :k<l.length:=by omega
 rw[aI2,aEA hk'];exact h.2 _ (aYS hk')
theorem aPJ (d:aJ)(i j n:Nat):(fB d i j n).length=n:=by simp[fB]
theorem aRr {d:aJ}{i j n:Nat}(h:eB d i j n=true): ∀x∈fB d i j n,bA x=true:=by
 intro x hx;obtain⟨k,hk,rfl⟩:=aON.1 hx;exact aAe (aIZ.1 h k hk)
theorem aN6 {l p:List aB}{j n:Nat}(hl:l.length=n/\ ∀x∈l,bA x=true)(h:fF l p j n=true): ∀x∈eG l p j n,bA x=true:=by
 intro x hx;obtain⟨k,hk,rfl⟩:=aON.1 hx;refine aN0 ?_ (aIZ.1 h k hk);split
 ·exact aRq
 exact aBm hl (aSN.1 hk)
theorem aUl {a b:List Int}{i j:Nat}{x y:Int}(hx:a[i]? =some x)(hy:b[j]? =some y):(a.set i y++b.set j x).Perm (a++b):=by
 obtain⟨hi,rfl⟩:=aEa.1 hx;obtain⟨hj,rfl⟩:=aEa.1 hy;have ea:a.set i b[j]=a.take i++b[j]::a.drop (i+1):=List.set_eq_take_append_cons_drop .. |>.trans (if_pos hi)
 have eb:b.set j a[i]=b.take j++a[i]::b.drop (j+1):=List.set_eq_take_append_cons_drop .. |>.trans (if_pos hj)
 have fa:a=a.take i++a[i]::a.drop (i+1):=by rw[<-List.drop_eq_getElem_cons hi,List.take_append_drop]
 have fb:b=b.take j++b[j]::b.drop (j+1):=by rw[<-List.drop_eq_getElem_cons hj,List.take_append_drop]
 rw[ea,eb]
 conv=>rhs;rw[fa,fb]
 rw[List.perm_iff_count];intro z;simp only[List.count_append,List.count_cons];omega
theorem aW7 {d:aJ}{i j:Nat}(h:dF d=true)(hi:i<d.basic.length)(hj:j<d.others.length)(h1:lX d i j=true)(h2:(zU d i j).2=true):dF (rQ d i j)=true:=by
 obtain⟨b1,b2,b3,b4,b5,b6,b7,b8⟩:=iH h;simp only[lX,aB4] at h1;obtain⟨⟨⟨q1,q2⟩,q3⟩,q4⟩:=h1;have hb:d.basic[i]? =some (d.basic.getD i 0):=by rw[aI2,aEA hi];rfl
 have hf:d.others[j]? =some (d.others.getD j 0):=by rw[aI2,aEA hj];rfl
 refine aN3 ?_ ?_ ?_ ?_ ?_ ?_
 ·simp only[rQ,aJa,gP,aA8,List.length_range];exact⟨by omega,by omega,trivial⟩
 ·refine aN1 ?_;have:=aUl hb hf;exact(this.trans (aEj b4)).trans (by simp only[rQ,aSM,aJa];exact .refl _)
 ·refine aIZ.2 fun r hr=>?_;simp only[rQ,aJa] at hr ⊢;obtain⟨k,hk,rfl⟩:=aON.1 hr;rw[aSN] at hk;have ok:=aIZ.1 q3 k (aSN.2 hk);refine kI.2 ?_;unfold aCx;split
  ·exact⟨aPJ _ _ _ _,aRr q1⟩
  rename_i hne;rw[aL6,if_neg hne,aB4] at ok;have hk' :k<d.table.length:=by omega
  have hc:d.table.getD k []=d.table[k]:=by rw[aI2,aEA hk'];rfl
  exact⟨by simp[eG],aN6 (by rw[hc];exact b5 _ (aYS hk')) ok.1⟩
 ·refine kI.2 ⟨by simp[rQ,hX],fun x hx=>?_⟩;obtain⟨k,hk,rfl⟩:=aON.1 hx;rw[aSN] at hk;have ok:=aIZ.1 q3 k (aSN.2 hk);unfold aEk;split
  ·exact aAe q2
  rename_i hne;rw[aL6,if_neg hne,aB4] at ok;exact aN0 (aBm b6 hk) ok.2
 ·refine kI.2 ⟨by simp[rQ,aPH,eG],?_⟩;exact aN6 b7 q4
 exact aUk b8 h2
theorem aQI {d:aJ}{i j:Nat}(h:dF d=true)(hi:i<d.basic.length)(hj:j<d.others.length)(h1:(fJ d i j).2=true):dF (fJ d i j).1=true/\(fJ d i j).1.basic.length=d.basic.length/\(fJ d i j).1.others.length=d.others.length:=by
 unfold fJ at*;split at h1
 ·rename_i hp;rw[if_pos hp];exact⟨aW7 h hi hj hp.2.1 hp.2.2,by simp[rQ],by simp[rQ]⟩
 cases h1
def kD (p:bU):aJ:=⟨(List.range p.rows.length).map (fun (i:Nat)=>((p.objective.length+i:Nat):Int)),upto p.objective.length,p.rows.map (List.map aP),p.limits.map aP,p.objective.map aP,aP 0⟩
theorem sP {n:Int}(h: -99<=n/\n<=99):bA (aP n)=true:=by
 have e:Int.gcd n 1=1:=by simp
 simp only[bA,aP,cV,e,aB4,aTb,and_true];exact⟨by decide,pU (by omega) (by omega)⟩
theorem aN7 {p:bU}(h:cQ p=true):dF (kD p)=true:=by
 obtain⟨b1,b2,b3,b4,b5⟩:=mI h;refine aN3 ?_ ?_ ?_ ?_ ?_ ?_
 ·simp only[kD,aA8,List.length_range];exact⟨by omega,by omega,trivial⟩
 ·refine aIZ.2 fun i hi=>?_;rw[aSN] at hi;simp only[kD,aSM,aA8,List.length_range] at hi;refine List.any_eq_true.2 ⟨(i:Int),?_,by simp[isD]⟩;simp only[kD,aI1,aON,aSN];by_cases hn:i<p.objective.length
  ·exact .inr ⟨i,hn,rfl⟩
  exact .inl ⟨i - p.objective.length,by omega,by omega⟩
 ·refine aIZ.2 fun r hr=>?_;obtain⟨l,hl,rfl⟩:=aON.1 hr;have hb:=b4 l (aKD _ hl);refine kI.2 ⟨by simp[kD,hb.1],fun x hx=>?_⟩;obtain⟨n,hn,rfl⟩:=aON.1 hx;have:=hb.2 n hn;exact sP (by omega)
 ·refine kI.2 ⟨by simp[kD,b3],fun x hx=>?_⟩;obtain⟨n,hn,rfl⟩:=aON.1 hx;have:=b5 n hn;exact sP (by omega)
 ·refine kI.2 ⟨by simp[kD],fun x hx=>?_⟩;obtain⟨n,hn,rfl⟩:=aON.1 hx;have:=(b4 p.objective (by simp)).2 n hn;exact sP (by omega)
 exact sP (by omega)
theorem aKW (p:bU):(kD p).basic.length=p.rows.length/\(kD p).others.length=p.objective.length:=by simp[kD]
def eM (p:bU):aJ × Bool:=if cQ p=true then (kD p,true) else (zV,false)
theorem zW {p:bU}(h:cQ p=true):eM p=(kD p,true):=by rw[eM,if_pos h]
theorem aL7 {p:bU}(h:cQ p=false):eM p=(zV,false):=by rw[eM,if_neg (by rw[h];decide)]
def gU:Nat->aJ->aJ × Bool
 | 0,_=>(zV,false)
 | f+1,d=>if eU d<0 then (d,true) else if gG d (eU d).toNat<0 then (zV,false) else if (fJ d (gG d (eU d).toNat).toNat (eU d).toNat).2=true then gU f (fJ d (gG d (eU d).toNat).toNat (eU d).toNat).1 else (zV,false)
theorem aHh {d:aJ}{n s:Nat}(hs:s<n)(h:eU d<0):gU (n - s) d=(d,true):=by
 rw[show n - s=(n - (s+1))+1 by omega,gU,if_pos h]
theorem aKX {d:aJ}{n s:Nat}(hs:s<n)(h: ¬eU d<0)(h2:gG d (eU d).toNat<0):gU (n - s) d=(zV,false):=by
 rw[show n - s=(n - (s+1))+1 by omega,gU,if_neg h,if_pos h2]
theorem aKY {d:aJ}{n s:Nat}(hs:s<n)(h: ¬eU d<0)(h2: ¬gG d (eU d).toNat<0)(h3:(fJ d (gG d (eU d).toNat).toNat (eU d).toNat).2=false):gU (n - s) d=(zV,false):=by
 rw[show n - s=(n - (s+1))+1 by omega,gU,if_neg h,if_neg h2,if_neg (by rw[h3];decide)]
theorem aHi {d:aJ}{n s:Nat}(hs:s<n)(h: ¬eU d<0)(h2: ¬gG d (eU d).toNat<0)(h3:(fJ d (gG d (eU d).toNat).toNat (eU d).toNat).2=true):gU (n - s) d=gU (n - (s+1)) (fJ d (gG d (eU d).toNat).toNat (eU d).toNat).1:=by
 rw[show n - s=(n - (s+1))+1 by omega,gU,if_neg h,if_neg h2,if_pos h3]
theorem aPK {d:aJ}{n s:Nat}(hs:s+1=n)(h: ¬eU d<0):gU (n - s) d=(zV,false):=by
 rw[show n - s=0+1 by omega,gU,if_neg h];split
 ·rfl
 split<;>rfl
def nN (d:aJ)(n:Nat):Nat->List aB
 | 0=>List.replicate n (aP 0)
 | i+1=>if d.basic.getD i 0<n then (nN d n i).set (d.basic.getD i 0).toNat (d.limits.getD i zR) else nN d n i
def nO (d:aJ)(n m:Nat):Nat->List aB
 | 0=>List.replicate m (aP 0)
 | k+1=>if (n:Int)<=d.others.getD k 0 then (nO d n m k).set (d.others.getD k 0 - n).toNat (dT (d.costs.getD k zR)) else nO d n m k
def aHj:aAY:=⟨⟨0,0⟩,[],[]⟩
def aYh (d:aJ)(n m:Nat):aAY:=⟨d.value,nN d n d.basic.length,nO d n m d.others.length⟩
def dW (p:bU):aAY × Bool:=if cQ p=true/\(gU 300 (kD p)).2=true then (aYh (gU 300 (kD p)).1 p.objective.length p.rows.length,true) else (aHj,false)
theorem aQJ {p:bU}(h:cQ p=false):dW p=(aHj,false):=by rw[dW,if_neg (by rw[h];simp)]
theorem uA {p:bU}(h:gU 300 (kD p)=(zV,false)):dW p=(aHj,false):=by rw[dW,h,if_neg (by simp)]
theorem aN8 {p:bU}{d:aJ}(h:cQ p=true)(h2:gU 300 (kD p)=(d,true)):dW p=(aYh d p.objective.length p.rows.length,true):=by rw[dW,h2,if_pos ⟨h,rfl⟩]
theorem aRs {α:Type}{p:α->Bool}{l:List α}{k:Nat}{x:α}(h:l[k]? =some x)(hp:p x=true):l.any p=true:=List.any_eq_true.2 ⟨x,aCf h,hp⟩
theorem aRt {α:Type}{p:α->Bool}{l:List α}{k:Nat}{x:α}(h:l[k]? =some x)(ha:(l.take k).any p=false)(hp:p x=false):(l.take (k+1)).any p=false:=by
 rw[List.take_add_one,h];simp[ha,hp]
theorem aRu {α:Type}{p:α->Bool}{l:List α}{k:Nat}(hge:l.length<=k)(ha:(l.take k).any p=false):l.any p=false:=by rwa [aGj hge] at ha
theorem upN {p:Nat->Prop}{k:Nat}(ha: ∀i,i<k->p i)(h:p k): ∀i,i<k+1->p i:=by
 intro i hi;rcases Nat.lt_or_eq_of_le (Nat.le_of_lt_succ hi) with h' | rfl
 ·exact ha i h'
 exact h
theorem aW8 {l:List Int}{n:Nat}(hn:l.length<=n)(h: ∀i,i<n->l.any (isD (i:Nat))=true):pV l=true:=aIZ.2 fun i hi=>h i (by rw[aSN] at hi;omega)
theorem aW9 {l:List Int}{k:Nat}(hk:k<l.length)(h:l.any (isD (k:Nat))=false):pV l=false:=by
 cases e:pV l with
 | false=>rfl
 | true=>rw[aIZ.1 e k (aSN.2 hk)] at h;cases h
abbrev aEl (l:List Int)(n:Int):Prop:=Cn 183 [.one (.sl 3 1 (l.map intD)),.one (.int .i64 n)] (vB (l.any (isD n))) []
theorem aRv (l:List Int)(n:Int):aEl l n:=by
 refine cq Tryz.func183 (.loop Nat (Q1 Nat) (rg 5 13) [] (fun k=>[(5,vI (k:Int))]) (fun k=>[]) (fun k=>k<=l.length/\(l.take k).any (isD n)=false) (fun k=>l.length - k) (fun k=> .len l.length<| .br (.elem _ intD l (fun e14=> .br (.fin []) (.back []))) (.fin []))) (p:=Lx (l.map intD)<| (∃(k:Nat),0=(k:Int)/\k<=l.length/\(l.take k).any (isD n)=false)/\ ∀(k:Nat),(k<=l.length/\(l.take k).any (isD n)=false)->Lm intD l/\Br ((k:Int)<(l.length:Int)) (0<=(k:Int)/\Em intD l k fun e14=>Br (e14=n) ((true)=(l.any (isD n))/\True) (bK ((k:Int)+1)/\ ∃(k' :Nat),((k:Int)+1)=(k' :Int)/\(k' <=l.length/\(l.take k').any (isD n)=false)/\l.length - k' <l.length - k)) ((false)=(l.any (isD n))/\True)) (by kernel_rfl) ?_;refine lx fun n0=>?_;refine⟨⟨0,rfl,aCC _,rfl⟩,fun k ⟨hk,ha⟩=>?_⟩;refine⟨aA8 _,dd (fun c0=>?_) fun c0=>?_⟩
 ·refine⟨by omega,rfl,by omega,fun e14 h14=>?_⟩;refine dd (fun c1=>?_) fun c1=>?_
  ·apply et1
   ·(rw[aRs h14 (decide_eq_true c1)];done)
  ·refine⟨⟨by omega,by omega⟩,?_⟩;exact⟨k+1,rfl,⟨by omega,aRt h14 ha (decide_eq_false c1)⟩,by omega⟩
 ·apply et1
  ·(rw[aRu (by omega) ha];done)
abbrev sQ (l:List aB):Prop:=Cn 201 [.one (.sl 38 2 (l.map aA))] (vB (l.all bA)) []
theorem aDj (l:List aB):sQ l:=by
 refine cq Tryz.func201 (.loop Nat (Q1 Nat) (rg 3 13) [] (fun k=>[(3,vI (k:Int))]) (fun k=>[]) (fun k=>k<=l.length/\(l.take k).all bA=true) (fun k=>l.length - k) (fun k=> .len l.length<| .br (.elem _ aA l (fun e12=> .call (vB (bA e12)) []<| .br (.fin []) (.back []))) (.fin []))) (p:=Lx (l.map aA)<| (∃(k:Nat),0=(k:Int)/\k<=l.length/\(l.take k).all bA=true)/\ ∀(k:Nat),(k<=l.length/\(l.take k).all bA=true)->Lm aA l/\Br ((k:Int)<(l.length:Int)) (0<=(k:Int)/\Em aA l k fun e12=>fE e12/\Nr (bA e12) ((false)=(l.all bA)/\True) (bK ((k:Int)+1)/\ ∃(k' :Nat),((k:Int)+1)=(k' :Int)/\(k' <=l.length/\(l.take k').all bA=true)/\l.length - k' <l.length - k)) ((true)=(l.all bA)/\True)) (by kernel_rfl) ?_;refine lx fun n0=>?_;refine⟨⟨0,rfl,aCC _,rfl⟩,fun k ⟨hk,ha⟩=>?_⟩;refine⟨aA8 _,dd (fun c0=>?_) fun c0=>?_⟩
 ·refine⟨by omega,rfl,by omega,fun e12 h12=>?_⟩;refine⟨jC e12,dm (fun c1=>?_) fun c1=>?_⟩
  ·apply et1
   ·(rw[eJ h12 c1];done)
  ·refine⟨⟨by omega,by omega⟩,?_⟩;exact⟨k+1,rfl,⟨by omega,cG h12 ha c1⟩,by omega⟩
 ·apply et1
  ·(rw[cY (by omega) ha];done)
theorem pT {d:aJ}(h: ¬((d.basic.length:Int)<=64/\(1<=(d.others.length:Int)/\(d.others.length:Int)<=15)/\(d.table.length:Int)=d.basic.length/\(d.limits.length:Int)=d.basic.length/\(d.costs.length:Int)=d.others.length)):dF d=false:=by
 cases e:dF d with
 | false=>rfl
 | true=>
   obtain⟨b1,b2,b3,_,_,b6,b7,_⟩:=iH e;exact absurd ⟨by omega,by omega,by omega,by omega,by omega⟩ h
theorem aRw {d:aJ}(h:(d.basic.length:Int)<=64/\(1<=(d.others.length:Int)/\(d.others.length:Int)<=15)/\(d.table.length:Int)=d.basic.length)(h1:pV (d.basic++d.others)=true)(h2:d.table.all (fun r=>hJ r d.others.length)=true)(h3:hJ d.limits d.basic.length=true)(h4:hJ d.costs d.others.length=true):dF d=bA d.value:=by
 simp only[dF,h1,h2,h3,h4,decide_eq_true h.1,decide_eq_true h.2.1,decide_eq_true h.2.2,Bool.true_and]
abbrev wA (d:aJ):Prop:=Cn 148 [.agg [.sl 3 1 (d.basic.map intD),.sl 3 1 (d.others.map intD),.sl 61 1 (d.table.map aF),.sl 38 2 (d.limits.map aA),.sl 38 2 (d.costs.map aA),.int .i64 d.value.num,.int .i64 d.value.den]] (vB (dF d)) []
theorem aHk (d:aJ)(h0:d.basic.length<=1048576)(h1:d.others.length<=1048576):wA d:=by
 refine cq Tryz.func148 (.len d.basic.length<| .len d.others.length<| .br (.fin []) (.call (vB (decide (1<=(d.others.length:Int)/\(d.others.length:Int)<=15))) []<| .lit<| .lit<| .br (.fin []) (.len d.table.length<| .lit<| .lit<| .lit<| .br (.fin []) (.len d.limits.length<| .lit<| .lit<| .lit<| .br (.fin []) (.len d.costs.length<| .lit<| .lit<| .lit<| .br (.fin []) (.app Int intD ([]:List Int) d.basic<| .app Int intD (([]:List Int)++d.basic) d.others<| .loop Nat (Q1 Nat) ([6]++rg 49 11) [] (fun k=>[(6,vI (k:Int))]) (fun k=>[]) (fun k=>k<=d.basic.length+d.others.length/\(∀i,i<k->((([]:List Int)++d.basic)++d.others).any (isD (i:Nat))=true)) (fun k=>d.basic.length+d.others.length - k) (fun k=> .br (.call (vB (((([]:List Int)++d.basic)++d.others).any (isD (k:Int)))) []<| .br (.fin []) (.back [])) (.loop Nat (Q1 Nat) ([7]++rg 60 22) [] (fun j=>[(7,vI (j:Int))]) (fun j=>[]) (fun j=>j<=d.basic.length/\(d.table.take j).all (fun r=>hJ r d.others.length)=true) (fun j=>d.basic.length - j) (fun j=> .br (.elem _ aF d.table (fun e68=> .len e68.length<| .br (.fin []) (.elem _ aF d.table (fun e77=> .call (vB (e77.all bA)) []<| .lit<| .lit<| .br (.fin []) (.back []))))) (.call (vB (d.limits.all bA)) []<| .br (.call (vB (d.costs.all bA)) []<| .lit<| .br (.call (vB (bA d.value)) []<| .fin []) (.fin [])) (.fin []))))))))))) (p:=Lx (d.basic.map intD)<| Lx (d.others.map intD)<| Lx (d.table.map aF)<| Lx (d.limits.map aA)<| Lx (d.costs.map aA)<| Lm intD d.basic/\(Lm intD d.others/\Br (64<(d.basic.length:Int)) ((false)=(dF d)/\True) (eX (d.others.length:Int) (1:Int) (15:Int)/\Nb (1<=(d.others.length:Int)/\(d.others.length:Int)<=15) ((false)=(dF d)/\True) (Lm aF d.table/\Nb ((d.table.length:Int)=(d.basic.length:Int)) ((false)=(dF d)/\True) (Lm aA d.limits/\Nb ((d.limits.length:Int)=(d.basic.length:Int)) ((false)=(dF d)/\True) (Lm aA d.costs/\Nb ((d.costs.length:Int)=(d.others.length:Int)) ((false)=(dF d)/\True) (Ap intD ([]:List Int) d.basic 8 (Ap intD (([]:List Int)++d.basic) d.others 8 ((∃(k:Nat),0=(k:Int)/\k<=d.basic.length+d.others.length/\(∀i,i<k->((([]:List Int)++d.basic)++d.others).any (isD (i:Nat))=true))/\ ∀(k:Nat),(k<=d.basic.length+d.others.length/\(∀i,i<k->((([]:List Int)++d.basic)++d.others).any (isD (i:Nat))=true))->bK ((d.basic.length:Int)+(d.others.length:Int))/\Br ((k:Int)<((d.basic.length:Int)+(d.others.length:Int))) (aEl ((([]:List Int)++d.basic)++d.others) (k:Int)/\Nr (((([]:List Int)++d.basic)++d.others).any (isD (k:Int))) ((false)=(dF d)/\True) (bK ((k:Int)+1)/\ ∃(k' :Nat),((k:Int)+1)=(k' :Int)/\(k' <=d.basic.length+d.others.length/\(∀i,i<k' ->((([]:List Int)++d.basic)++d.others).any (isD (i:Nat))=true))/\d.basic.length+d.others.length - k' <d.basic.length+d.others.length - k)) ((∃(j:Nat),0=(j:Int)/\j<=d.basic.length/\(d.table.take j).all (fun r=>hJ r d.others.length)=true)/\ ∀(j:Nat),(j<=d.basic.length/\(d.table.take j).all (fun r=>hJ r d.others.length)=true)->Br ((j:Int)<(d.basic.length:Int)) (0<=(j:Int)/\Em aF d.table j fun e68=>Lm aA e68/\Nb ((e68.length:Int)=(d.others.length:Int)) ((false)=(dF d)/\True) (0<=(j:Int)/\Em aF d.table j fun e77=>sQ e77/\Nr (e77.all bA) ((false)=(dF d)/\True) (bK ((j:Int)+1)/\ ∃(j' :Nat),((j:Int)+1)=(j' :Int)/\(j' <=d.basic.length/\(d.table.take j').all (fun r=>hJ r d.others.length)=true)/\d.basic.length - j' <d.basic.length - j))) (sQ d.limits/\Bb (d.limits.all bA) (sQ d.costs/\Bb (d.costs.all bA) (fE d.value/\(bA d.value)=(dF d)/\True) ((false)=(dF d)/\True)) ((false)=(dF d)/\True)))))))))))) (by kernel_rfl) ?_;refine lx fun n0=>lx fun n1=>lx fun n2=>lx fun n3=>lx fun n4=>?_;refine⟨aA8 _,aA8 _,dd (fun g16=>?_) fun g16=>?_⟩
 ·apply et1
  ·(exact(pT (by omega)).symm)
 ·refine⟨iP _ _ _,dn (fun g21=>?_) fun g21=>?_⟩
  ·apply et1
   ·(exact(pT (by omega)).symm)
  ·refine⟨aA8 _,dn (fun g28=>?_) fun g28=>?_⟩
   ·apply et1
    ·(exact(pT (by omega)).symm)
   ·refine⟨aA8 _,dn (fun g35=>?_) fun g35=>?_⟩
    ·apply et1
     ·(exact(pT (by omega)).symm)
    ·refine⟨aA8 _,dn (fun c0=>?_) fun c0=>?_⟩
     ·apply et1
      ·(exact(pT (by omega)).symm)
     ·refine ap ?_ (fun _=>rfl) (by (simp;omega));refine ap ?_ (fun _=>rfl) (by (simp;omega));refine⟨⟨0,rfl,aCC _,fun i h=>absurd h (Nat.not_lt_zero _)⟩,fun k ⟨hk,ha⟩=>?_⟩;refine⟨⟨by omega,by omega⟩,dd (fun c1=>?_) fun c1=>?_⟩
      ·refine⟨aRv ((([]:List Int)++d.basic)++d.others) (k:Int),dm (fun c2=>?_) fun c2=>?_⟩
       ·apply et1
        ·(exact(aPD (aW9 (k:=k) (by simp;omega) c2)).symm)
       ·refine⟨⟨by omega,by omega⟩,?_⟩;exact⟨k+1,rfl,⟨by omega,upN (p:=fun i=>((([]:List Int)++d.basic)++d.others).any (isD (i:Nat))=true) ha c2⟩,by omega⟩
      ·have hp:pV (d.basic++d.others)=true:=aW8 (n:=k) (by simp;omega) ha;refine⟨⟨0,rfl,aCC _,rfl⟩,fun j ⟨hj,hb⟩=>?_⟩;refine dd (fun c3=>?_) fun c3=>?_
       ·refine⟨by omega,rfl,by omega,fun e68 h68=>?_⟩;refine⟨aA8 _,dn (fun g73=>?_) fun g73=>?_⟩
        ·apply et1
         ·(exact(aHg h68 (aPF (by omega))).symm)
        ·refine⟨by omega,rfl,by omega,fun e77 h77=>?_⟩;obtain rfl:=(aW h68 h77).symm;refine⟨aDj _,dm (fun c4=>?_) fun c4=>?_⟩
         ·apply et1
          ·(exact(aHg h68 (aBk c4)).symm)
         ·refine⟨⟨by omega,by omega⟩,?_⟩;exact⟨j+1,rfl,⟨by omega,cG h68 hb (aDh g73 c4)⟩,by omega⟩
       ·have hcl:=cY (by omega) hb;refine⟨aDj _,db (fun g85=>?_) fun g85=>?_⟩
        ·refine⟨aDj _,db (fun g90=>?_) fun g90=>?_⟩
         ·refine⟨jC d.value,?_,trivial⟩
          ·(exact(aRw (by omega) hp hcl (aDh (by omega) g85) (aDh (by omega) g90)).symm)
         ·apply et1
          ·(exact(aN2 (aBk g90)).symm)
        ·apply et1
         ·(exact(aPE (aBk g85)).symm)
end Go.Proofs.YtlidmoeecphbmaaGreat
