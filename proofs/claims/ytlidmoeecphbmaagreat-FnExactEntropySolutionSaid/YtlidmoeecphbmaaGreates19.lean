/-
  Contracts and plain laws, joined: part 20.
-/
import Derived.Test.YtlidmoeecphbmaaGreates18
import Derived.Test.YtlidmoeecphbmaaGreates8
import Derived.Test.YtlidmoeecphbmaaGreates14
namespace Go.Proofs.YtlidmoeecphbmaaGreat
open Go.ChangeShapes Go.WideShapes Go.ChangeAt Go.RowKit
set_option linter.unusedVariables false
set_option linter.unusedSimpArgs false
set_option maxRecDepth 100000
set_option maxHeartbeats 4000000
theorem aMP: ∀(r s:List Int),r.Nodup->(∀x∈r,x∈s)->s.length<=r.length->s.Perm r
 | [],s,_,_,h=>by
   have:s= []:=List.length_eq_zero_iff.1 (by simpa using h);rw[this]
 | a::r,s,hn,hs,hl=>by
   have ha:a∈s:=hs a (by simp);have p1:s.Perm (a::s.erase a):=List.perm_cons_erase ha;have hn' :=List.nodup_cons.1 hn
   have:=aMP r (s.erase a) hn'.2 (fun x hx=>(List.mem_erase_of_ne (fun (e:x=a)=>hn'.1 (by rw[<-e];exact hx))).2 (hs x (by simp[hx]))) (by
    rw[List.length_erase_of_mem ha];simp only[aQP] at hl;omega)
   exact p1.trans (this.cons a)
def isD (n x:Int):Bool:=decide (x=n)
def sI (l:List Int):Bool:=(List.range l.length).all fun (i:Nat)=>l.any (isD i)
abbrev upto (n:Nat):List Int:=(List.range n).map fun (i:Nat)=>(i:Int)
theorem aG4 {l:List Int}(h:sI l=true):l.Perm (upto l.length):=by
 refine aMP _ _ ?_ ?_ (by simp)
 ·rw[List.Nodup,List.pairwise_map];exact List.nodup_range.imp fun hne he=>hne (by omega)
 intro x hx;obtain⟨j,hj,rfl⟩:=aQO.1 hx;have:=aI4.1 h j hj;obtain⟨y,hy,e⟩:=List.any_eq_true.1 this;rw[isD,aUa] at e
 rwa [<-e]
theorem aP8 {l:List Int}(h:l.Perm (upto l.length)):sI l=true:=by
 refine aI4.2 fun i hi=>?_;have:(i:Int)∈l:=h.mem_iff.2 (aQO.2 ⟨i,hi,rfl⟩);exact List.any_eq_true.2 ⟨_,this,by simp[isD]⟩
theorem aRL {l:List Int}(h:sI l=true){x:Int}(hx:x∈l):0<=x/\x<l.length:=by
 have:=(aG4 h).mem_iff.1 hx;obtain⟨j,hj,rfl⟩:=aQO.1 this;have:=aR2.1 hj;omega
def iS (l:List aB)(n:Int):Bool:=decide ((l.length:Int)=n)&&l.all bC
def dR (d:aM):Bool:=decide ((d.basic.length:Int)<=64)&&(decide (1<=(d.others.length:Int)/\(d.others.length:Int)<=15)&&(decide ((d.table.length:Int)=d.basic.length)&&(sI (d.basic++d.others)&&(d.table.all (fun r=>iS r d.others.length)&&(iS d.limits d.basic.length&&(iS d.costs d.others.length&&bC d.value))))))
theorem aRM {d:aM}(h:sI (d.basic++d.others)=false):dR d=false:=by simp only[dR,h,Bool.false_and,Bool.and_false]
theorem aJb {d:aM}{k:Nat}{r:List aB}(h:d.table[k]? =some r)(hr:iS r d.others.length=false):dR d=false:=by
 have:d.table.all (fun r=>iS r d.others.length)=false:=eX h hr;simp only[dR,this,Bool.false_and,Bool.and_false]
theorem aRN {d:aM}(h:iS d.limits d.basic.length=false):dR d=false:=by simp only[dR,h,Bool.false_and,Bool.and_false]
theorem aP9 {d:aM}(h:iS d.costs d.others.length=false):dR d=false:=by simp only[dR,h,Bool.false_and,Bool.and_false]
theorem aPa {d:aM}(h:(d.basic.length:Int)<=64/\(1<=(d.others.length:Int)/\(d.others.length:Int)<=15)/\(d.table.length:Int)=d.basic.length)(h1:sI (d.basic++d.others)=true)(h2:d.table.all (fun r=>iS r d.others.length)=true)(h3:iS d.limits d.basic.length=true)(h4:iS d.costs d.others.length=true)(h5:bC d.value=true):dR d=true:=by
 simp only[dR,h1,h2,h3,h4,h5,Bool.and_true,aCA,aUa];exact h
theorem aRO {l:List aB}{n:Int}(h: ¬(l.length:Int)=n):iS l n=false:=by simp only[iS,decide_eq_false h,Bool.false_and]
theorem aDV {l:List aB}{n:Int}(h:l.all bC=false):iS l n=false:=by simp only[iS,h,Bool.and_false]
theorem aF0 {l:List aB}{n:Int}(h:(l.length:Int)=n)(h1:l.all bC=true):iS l n=true:=by simp only[iS,decide_eq_true h,h1,Bool.and_true]
theorem lW {l:List aB}{n:Nat}:iS l n=true↔l.length=n/\ ∀x∈l,bC x=true:=by
 simp only[iS,aCA,aUa,aI4];constructor
 ·exact fun h=>⟨by omega,h.2⟩
 exact fun h=>⟨by omega,h.2⟩
theorem jG {d:aM}(h:dR d=true):d.basic.length<=64/\(1<=d.others.length/\d.others.length<=15)/\d.table.length=d.basic.length/\sI (d.basic++d.others)=true/\(∀r∈d.table,r.length=d.others.length/\ ∀x∈r,bC x=true)/\(d.limits.length=d.basic.length/\ ∀x∈d.limits,bC x=true)/\(d.costs.length=d.others.length/\ ∀x∈d.costs,bC x=true)/\bC d.value=true:=by
 simp only[dR,aCA,aUa,aI4 (l:=d.table)] at h;obtain⟨h1,h2,h3,h4,h5,h6,h7,h8⟩:=h;exact⟨by omega,by omega,by omega,h4,fun r hr=>lW.1 (h5 r hr),lW.1 h6,lW.1 h7,h8⟩
theorem aMR {d:aM}(h:dR d=true):(∀x∈d.basic,0<=x/\x<d.basic.length+d.others.length)/\ ∀x∈d.others,0<=x/\x<d.basic.length+d.others.length:=by
 obtain⟨_,_,_,hp,_⟩:=jG h
 have key: ∀x∈d.basic++d.others,0<=x/\x<d.basic.length+d.others.length:=fun x hx=>by
  have:=aRL hp hx;rw[aQT] at this;omega
 exact⟨fun x hx=>key x (aL6 _ hx),fun x hx=>key x (aKS _ hx)⟩
def aDW (d:aM)(b:Int)(k:Nat):Bool:=decide (0<(d.costs.getD k zR).num)&&(decide (b<0) || decide (d.others.getD k 0<d.others.getD b.toNat 0))
def mH (d:aM):Nat->Int
 | 0=> -1
 | k+1=>if aDW d (mH d k) k=true then (k:Int) else mH d k
def fM (d:aM):Int:=mH d d.others.length
theorem aBX (d:aM): ∀k:Nat,-1<=mH d k/\mH d k<k
 | 0=>by simp[mH]
 | k+1=>by
   have:=aBX d k;rw[mH];split<;>omega
theorem aPb {d:aM}{k:Nat}{b:Int}(hb:b=mH d k)(h:aDW d b k=true):(k:Int)=mH d (k+1):=by rw[mH,<-hb,if_pos h]
theorem aSR {d:aM}{k:Nat}{b:Int}(hb:b=mH d k)(h:aDW d b k=false):b=mH d (k+1):=by rw[mH,<-hb,if_neg (by rw[h];decide)]
def lK (d:aM):Int:=if dR d=true then fM d else -1
def jE (d:aM)(i j:Nat):aB:=(d.table.getD i []).getD j zR
def oH (d:aM)(b:Int)(c:Int)(k:Nat):Bool:=decide (b<0) || (decide (c<0) || (decide (c=0)&&decide (d.basic.getD k 0<d.basic.getD b.toNat 0)))
def fD (d:aM)(j:Nat):Nat->Nat->Int->aB->Int
 | 0,_,b,_=>b
 | f+1,k,b,l=>if (jE d k j).num<=0 then fD d j f (k+1) b l else if (bA (d.limits.getD k zR) (jE d k j)).2=false then -1 else if oH d b (fP (bA (d.limits.getD k zR) (jE d k j)).1 l) k=true then fD d j f (k+1) (k:Int) (bA (d.limits.getD k zR) (jE d k j)).1 else fD d j f (k+1) b l
def hZ (d:aM)(j:Nat):Int:=fD d j d.basic.length 0 (-1) zR
theorem aRP {d:aM}{j n k:Nat}{b:Int}{l:aB}(hk:k<n)(h:(jE d k j).num<=0):fD d j (n - k) k b l=fD d j (n - (k+1)) (k+1) b l:=by
 rw[show n - k=(n - (k+1))+1 by omega,fD,if_pos h]
theorem aUC {d:aM}{j n k:Nat}{b:Int}{l:aB}(hk:k<n)(h: ¬(jE d k j).num<=0)(h2:(bA (d.limits.getD k zR) (jE d k j)).2=false):fD d j (n - k) k b l= -1:=by
 rw[show n - k=(n - (k+1))+1 by omega,fD,if_neg h,if_pos h2]
theorem aUD {d:aM}{j n k:Nat}{b:Int}{l:aB}(hk:k<n)(h: ¬(jE d k j).num<=0)(h2:(bA (d.limits.getD k zR) (jE d k j)).2=true)(h3:oH d b (fP (bA (d.limits.getD k zR) (jE d k j)).1 l) k=true):fD d j (n - k) k b l=fD d j (n - (k+1)) (k+1) (k:Int) (bA (d.limits.getD k zR) (jE d k j)).1:=by
 rw[show n - k=(n - (k+1))+1 by omega,fD,if_neg h,if_neg (by rw[h2];decide),if_pos h3]
theorem aWy {d:aM}{j n k:Nat}{b:Int}{l:aB}(hk:k<n)(h: ¬(jE d k j).num<=0)(h2:(bA (d.limits.getD k zR) (jE d k j)).2=true)(h3:oH d b (fP (bA (d.limits.getD k zR) (jE d k j)).1 l) k=false):fD d j (n - k) k b l=fD d j (n - (k+1)) (k+1) b l:=by
 rw[show n - k=(n - (k+1))+1 by omega,fD,if_neg h,if_neg (by rw[h2];decide),if_neg (by rw[h3];decide)]
theorem aF1 (d:aM)(j:Nat): ∀(f k:Nat) (b:Int) (l:aB),-1<=b/\b<k-> -1<=fD d j f k b l/\fD d j f k b l<(k+f:Nat)
 | 0,k,b,l,h=>by rw[fD];omega
 | f+1,k,b,l,h=>by
   have h1:=aF1 d j f (k+1) b l (by omega);have h2:=aF1 d j f (k+1) (k:Int) (bA (d.limits.getD k zR) (jE d k j)).1 (by omega);rw[fD];split
   ·omega
   split
   ·omega
   split<;>omega
theorem aPc (d:aM)(j:Nat): -1<=hZ d j/\hZ d j<d.basic.length:=by
 have:=aF1 d j d.basic.length 0 (-1) zR (by omega);rw[hZ];omega
def qP (d:aM)(j:Int):Int:=if dR d=true/\0<=j/\j<d.others.length then hZ d j.toNat else -1
def aKi (d:aM)(i j k:Nat):aB × Bool:=bA (if k=j then aGn else jE d i k) (jE d i j)
def fV (d:aM)(i j n:Nat):List aB:=(List.range n).map fun k=>(aKi d i j k).1
def eP (d:aM)(i j n:Nat):Bool:=(List.range n).all fun k=>(aKi d i j k).2
def eL (d:aM)(i j:Nat):aB × Bool:=bA (d.limits.getD i zR) (jE d i j)
def chX (l:List aB)(c:aB)(p:List aB)(j k:Nat):aB × Bool:=bZ (if k=j then aKh else l.getD k zR) c (p.getD k zR)
def eT (l:List aB)(p:List aB)(j n:Nat):List aB:=(List.range n).map fun k=>(chX l (l.getD j zR) p j k).1
def fZ (l:List aB)(p:List aB)(j n:Nat):Bool:=(List.range n).all fun k=>(chX l (l.getD j zR) p j k).2
def aWz (d:aM)(i j r:Nat):aB × Bool:=bZ (d.limits.getD r zR) (jE d r j) (eL d i j).1
def aEc (d:aM)(i j r:Nat):List aB:=if r=i then fV d i j d.others.length else eT (d.table.getD r []) (fV d i j d.others.length) j d.others.length
def aG5 (d:aM)(i j r:Nat):aB:=if r=i then (eL d i j).1 else (aWz d i j r).1
def aN9 (d:aM)(i j r:Nat):Bool:=if r=i then true else fZ (d.table.getD r []) (fV d i j d.others.length) j d.others.length&&(aWz d i j r).2
def iH (d:aM)(i j n:Nat):List (List aB):=(List.range n).map (aEc d i j)
def iT (d:aM)(i j n:Nat):List aB:=(List.range n).map (aG5 d i j)
def iA (d:aM)(i j n:Nat):Bool:=(List.range n).all (aN9 d i j)
def aRQ (d:aM)(i j:Nat):List aB:=eT d.costs (fV d i j d.others.length) j d.others.length
def aSS (d:aM)(i j:Nat):Bool:=fZ d.costs (fV d i j d.others.length) j d.others.length
def eE (a b c:aB):aB × Bool:=if b.num=0\/c.num=0 then (a,true) else ((gL a (dY b c).1).1,(dY b c).2&&(gL a (dY b c).1).2)
def aBY (d:aM)(i j:Nat):aB × Bool:=eE d.value (d.costs.getD j zR) (eL d i j).1
def nW (d:aM)(i j:Nat):Bool:=((eP d i j d.others.length&&(eL d i j).2)&&iA d i j d.basic.length)&&aSS d i j
def aBZ:aM:=⟨[],[],[],[],[],⟨0,0⟩⟩
def uK (d:aM)(i j:Nat):aM:=⟨d.basic.set i (d.others.getD j 0),d.others.set j (d.basic.getD i 0),iH d i j d.basic.length,iT d i j d.basic.length,aRQ d i j,(aBY d i j).1⟩
def gD (d:aM)(i j:Nat):aM × Bool:=if (jE d i j).num≠0/\nW d i j=true/\(aBY d i j).2=true then (uK d i j,true) else (aBZ,false)
def bN (d:aM)(i j:Int):aM × Bool:=if dR d=true/\(0<=i/\i<d.basic.length)/\0<=j/\j<d.others.length then gD d i.toNat j.toNat else (aBZ,false)
theorem aMS (a b c:aB):eE a (eI b) c=bZ a b c:=aUB a b c
theorem aXA {a b c:aB}(ha:bC a=true)(h:(eE a b c).2=true):bC (eE a b c).1=true:=by
 unfold eE at*;split at h
 ·rename_i hp;rw[if_pos hp];exact ha
 rename_i hp;rw[if_neg hp];simp only[aCA] at h;exact aYj h.2
theorem aYl {a:aB}(h:bC a=true):gL a aKh=(a,true):=by
 have v:dF 0 1=true:=by decide
 rw[gL,show aNU a.num a.den aKh.num aKh.den=bQ (a.num*1+0*a.den) (a.den*1) from aJH h v];rw[Int.zero_mul,Int.mul_one,Int.mul_one,Int.add_zero,aCH h];rfl
theorem aYm {b c:aB}(hb:bC b=true)(hc:bC c=true)(h:b.num=0\/c.num=0):dY b c=(aKh,true):=by
 have h1:=cY hb;have h2:=cY hc;rw[dY,aBH hb hc,show b.num*c.num=0 from Int.mul_eq_zero.2 h,aMO (Int.mul_ne_zero (by omega) (by omega))];rfl
theorem aRR {a b c:aB}(ha:bC a=true)(hb:bC b=true)(hc:bC c=true):eE a b c=((gL a (dY b c).1).1,(dY b c).2&&(gL a (dY b c).1).2):=by
 unfold eE;split
 ·rename_i h;rw[aYm hb hc h,aYl ha];rfl
 rfl
theorem aUE:bC aKh=true:=by decide
theorem aDX {l:List aB}{n k:Nat}(h:l.length=n/\ ∀x∈l,bC x=true)(hk:k<n):bC (l.getD k zR)=true:=by
 have hk' :k<l.length:=by omega
 rw[aKU,aFZ hk'];exact h.2 _ (bA7 hk')
theorem aRS (d:aM)(i j n:Nat):(fV d i j n).length=n:=by simp[fV]
theorem aUF {d:aM}{i j n:Nat}(h:eP d i j n=true): ∀x∈fV d i j n,bC x=true:=by
 intro x hx;obtain⟨k,hk,rfl⟩:=aQO.1 hx;exact aCI (aI4.1 h k hk)
theorem aPd {l p:List aB}{j n:Nat}(hl:l.length=n/\ ∀x∈l,bC x=true)(h:fZ l p j n=true): ∀x∈eT l p j n,bC x=true:=by
 intro x hx;obtain⟨k,hk,rfl⟩:=aQO.1 hx;refine aP7 ?_ (aI4.1 h k hk);split
 ·exact aUE
 exact aDX hl (aR2.1 hk)
theorem aXB {a b:List Int}{i j:Nat}{x y:Int}(hx:a[i]? =some x)(hy:b[j]? =some y):(a.set i y++b.set j x).Perm (a++b):=by
 obtain⟨hi,rfl⟩:=aGL.1 hx;obtain⟨hj,rfl⟩:=aGL.1 hy;have ea:a.set i b[j]=a.take i++b[j]::a.drop (i+1):=List.set_eq_take_append_cons_drop .. |>.trans (if_pos hi)
 have eb:b.set j a[i]=b.take j++a[i]::b.drop (j+1):=List.set_eq_take_append_cons_drop .. |>.trans (if_pos hj)
 have fa:a=a.take i++a[i]::a.drop (i+1):=by rw[<-List.drop_eq_getElem_cons hi,List.take_append_drop]
 have fb:b=b.take j++b[j]::b.drop (j+1):=by rw[<-List.drop_eq_getElem_cons hj,List.take_append_drop]
 rw[ea,eb]
 conv=>rhs;rw[fa,fb]
 rw[List.perm_iff_count];intro z;simp only[List.count_append,List.count_cons];omega
theorem aYn {d:aM}{i j:Nat}(h:dR d=true)(hi:i<d.basic.length)(hj:j<d.others.length)(h1:nW d i j=true)(h2:(aBY d i j).2=true):dR (uK d i j)=true:=by
 obtain⟨b1,b2,b3,b4,b5,b6,b7,b8⟩:=jG h;simp only[nW,aCA] at h1;obtain⟨⟨⟨q1,q2⟩,q3⟩,q4⟩:=h1;have hb:d.basic[i]? =some (d.basic.getD i 0):=by rw[aKU,aFZ hi];rfl
 have hf:d.others[j]? =some (d.others.getD j 0):=by rw[aKU,aFZ hj];rfl
 refine aPa ?_ ?_ ?_ ?_ ?_ ?_
 ·simp only[uK,aKb,iH,aAH,List.length_range];exact⟨by omega,by omega,trivial⟩
 ·refine aP8 ?_;have:=aXB hb hf;exact(this.trans (aG4 b4)).trans (by simp only[uK,aQT,aKb];exact .refl _)
 ·refine aI4.2 fun r hr=>?_;simp only[uK,aKb] at hr ⊢;obtain⟨k,hk,rfl⟩:=aQO.1 hr;rw[aR2] at hk;have ok:=aI4.1 q3 k (aR2.2 hk);refine lW.2 ?_;unfold aEc;split
  ·exact⟨aRS _ _ _ _,aUF q1⟩
  rename_i hne;rw[aN9,if_neg hne,aCA] at ok;have hk' :k<d.table.length:=by omega
  have hc:d.table.getD k []=d.table[k]:=by rw[aKU,aFZ hk'];rfl
  exact⟨by simp[eT],aPd (by rw[hc];exact b5 _ (bA7 hk')) ok.1⟩
 ·refine lW.2 ⟨by simp[uK,iT],fun x hx=>?_⟩;obtain⟨k,hk,rfl⟩:=aQO.1 hx;rw[aR2] at hk;have ok:=aI4.1 q3 k (aR2.2 hk);unfold aG5;split
  ·exact aCI q2
  rename_i hne;rw[aN9,if_neg hne,aCA] at ok;exact aP7 (aDX b6 hk) ok.2
 ·refine lW.2 ⟨by simp[uK,aRQ,eT],?_⟩;exact aPd b7 q4
 exact aXA b8 h2
theorem aST {d:aM}{i j:Nat}(h:dR d=true)(hi:i<d.basic.length)(hj:j<d.others.length)(h1:(gD d i j).2=true):dR (gD d i j).1=true/\(gD d i j).1.basic.length=d.basic.length/\(gD d i j).1.others.length=d.others.length:=by
 unfold gD at*;split at h1
 ·rename_i hp;rw[if_pos hp];exact⟨aYn h hi hj hp.2.1 hp.2.2,by simp[uK],by simp[uK]⟩
 cases h1
def jQ (p:bW):aM:=⟨(List.range p.rows.length).map (fun (i:Nat)=>((p.objective.length+i:Nat):Int)),upto p.objective.length,p.rows.map (List.map aU),p.limits.map aU,p.objective.map aU,aU 0⟩
theorem vP {n:Int}(h: -99<=n/\n<=99):bC (aU n)=true:=by
 have e:Int.gcd n 1=1:=by simp
 simp only[bC,aU,dF,e,aCA,aUa,and_true];exact⟨by decide,sE (by omega) (by omega)⟩
theorem aPe {p:bW}(h:cZ p=true):dR (jQ p)=true:=by
 obtain⟨b1,b2,b3,b4,b5⟩:=mX h;refine aPa ?_ ?_ ?_ ?_ ?_ ?_
 ·simp only[jQ,aAH,List.length_range];exact⟨by omega,by omega,trivial⟩
 ·refine aI4.2 fun i hi=>?_;rw[aR2] at hi;simp only[jQ,aQT,aAH,List.length_range] at hi;refine List.any_eq_true.2 ⟨(i:Int),?_,by simp[isD]⟩;simp only[jQ,aKT,aQO,aR2];by_cases hn:i<p.objective.length
  ·exact .inr ⟨i,hn,rfl⟩
  exact .inl ⟨i - p.objective.length,by omega,by omega⟩
 ·refine aI4.2 fun r hr=>?_;obtain⟨l,hl,rfl⟩:=aQO.1 hr;have hb:=b4 l (aL6 _ hl);refine lW.2 ⟨by simp[jQ,hb.1],fun x hx=>?_⟩;obtain⟨n,hn,rfl⟩:=aQO.1 hx;have:=hb.2 n hn;exact vP (by omega)
 ·refine lW.2 ⟨by simp[jQ,b3],fun x hx=>?_⟩;obtain⟨n,hn,rfl⟩:=aQO.1 hx;have:=b5 n hn;exact vP (by omega)
 ·refine lW.2 ⟨by simp[jQ],fun x hx=>?_⟩;obtain⟨n,hn,rfl⟩:=aQO.1 hx;have:=(b4 p.objective (by simp)).2 n hn;exact vP (by omega)
 exact vP (by omega)
theorem aMT (p:bW):(jQ p).basic.length=p.rows.length/\(jQ p).others.length=p.objective.length:=by simp[jQ]
def fC (p:bW):aM × Bool:=if cZ p=true then (jQ p,true) else (aBZ,false)
theorem aB0 {p:bW}(h:cZ p=true):fC p=(jQ p,true):=by rw[fC,if_pos h]
theorem aNa {p:bW}(h:cZ p=false):fC p=(aBZ,false):=by rw[fC,if_neg (by rw[h];decide)]
def gN:Nat->aM->aM × Bool
 | 0,_=>(aBZ,false)
 | f+1,d=>if fM d<0 then (d,true) else if hZ d (fM d).toNat<0 then (aBZ,false) else if (gD d (hZ d (fM d).toNat).toNat (fM d).toNat).2=true then gN f (gD d (hZ d (fM d).toNat).toNat (fM d).toNat).1 else (aBZ,false)
theorem aJc {d:aM}{n s:Nat}(hs:s<n)(h:fM d<0):gN (n - s) d=(d,true):=by
 rw[show n - s=(n - (s+1))+1 by omega,gN,if_pos h]
theorem aMU {d:aM}{n s:Nat}(hs:s<n)(h: ¬fM d<0)(h2:hZ d (fM d).toNat<0):gN (n - s) d=(aBZ,false):=by
 rw[show n - s=(n - (s+1))+1 by omega,gN,if_neg h,if_pos h2]
theorem aMV {d:aM}{n s:Nat}(hs:s<n)(h: ¬fM d<0)(h2: ¬hZ d (fM d).toNat<0)(h3:(gD d (hZ d (fM d).toNat).toNat (fM d).toNat).2=false):gN (n - s) d=(aBZ,false):=by
 rw[show n - s=(n - (s+1))+1 by omega,gN,if_neg h,if_neg h2,if_neg (by rw[h3];decide)]
theorem aJd {d:aM}{n s:Nat}(hs:s<n)(h: ¬fM d<0)(h2: ¬hZ d (fM d).toNat<0)(h3:(gD d (hZ d (fM d).toNat).toNat (fM d).toNat).2=true):gN (n - s) d=gN (n - (s+1)) (gD d (hZ d (fM d).toNat).toNat (fM d).toNat).1:=by
 rw[show n - s=(n - (s+1))+1 by omega,gN,if_neg h,if_neg h2,if_pos h3]
theorem aRT {d:aM}{n s:Nat}(hs:s+1=n)(h: ¬fM d<0):gN (n - s) d=(aBZ,false):=by
 rw[show n - s=0+1 by omega,gN,if_neg h];split
 ·rfl
 split<;>rfl
def nC (d:aM)(n:Nat):Nat->List aB
 | 0=>List.replicate n (aU 0)
 | i+1=>if d.basic.getD i 0<n then (nC d n i).set (d.basic.getD i 0).toNat (d.limits.getD i zR) else nC d n i
def nD (d:aM)(n m:Nat):Nat->List aB
 | 0=>List.replicate m (aU 0)
 | k+1=>if (n:Int)<=d.others.getD k 0 then (nD d n m k).set (d.others.getD k 0 - n).toNat (eI (d.costs.getD k zR)) else nD d n m k
theorem aMW (d:aM)(n:Nat): ∀k,(nC d n k).length=n
 | 0=>by simp[nC]
 | k+1=>by rw[nC];split<;>simp[aMW d n k]
theorem aMX (d:aM)(n m:Nat): ∀k,(nD d n m k).length=m
 | 0=>by simp[nD]
 | k+1=>by rw[nD];split<;>simp[aMX d n m k]
def aJe:gQ:=⟨⟨0,0⟩,[],[]⟩
def bA0 (d:aM)(n m:Nat):gQ:=⟨d.value,nC d n d.basic.length,nD d n m d.others.length⟩
def eJ (p:bW):gQ × Bool:=if cZ p=true/\(gN 300 (jQ p)).2=true then (bA0 (gN 300 (jQ p)).1 p.objective.length p.rows.length,true) else (aJe,false)
theorem aSU {p:bW}(h:cZ p=false):eJ p=(aJe,false):=by rw[eJ,if_neg (by rw[h];simp)]
theorem xH {p:bW}(h:gN 300 (jQ p)=(aBZ,false)):eJ p=(aJe,false):=by rw[eJ,h,if_neg (by simp)]
theorem aPf {p:bW}{d:aM}(h:cZ p=true)(h2:gN 300 (jQ p)=(d,true)):eJ p=(bA0 d p.objective.length p.rows.length,true):=by rw[eJ,h2,if_pos ⟨h,rfl⟩]
theorem aUG {α:Type}{p:α->Bool}{l:List α}{k:Nat}{x:α}(h:l[k]? =some x)(hp:p x=true):l.any p=true:=List.any_eq_true.2 ⟨x,aDd h,hp⟩
theorem aUH {α:Type}{p:α->Bool}{l:List α}{k:Nat}{x:α}(h:l[k]? =some x)(ha:(l.take k).any p=false)(hp:p x=false):(l.take (k+1)).any p=false:=by
 rw[List.take_add_one,h];simp[ha,hp]
theorem aUI {α:Type}{p:α->Bool}{l:List α}{k:Nat}(hge:l.length<=k)(ha:(l.take k).any p=false):l.any p=false:=by rwa [aGT hge] at ha
theorem upN {p:Nat->Prop}{k:Nat}(ha: ∀i,i<k->p i)(h:p k): ∀i,i<k+1->p i:=by
 intro i hi;rcases Nat.lt_or_eq_of_le (Nat.le_of_lt_succ hi) with h' | rfl
 ·exact ha i h'
 exact h
theorem aYo {l:List Int}{n:Nat}(hn:l.length<=n)(h: ∀i,i<n->l.any (isD (i:Nat))=true):sI l=true:=aI4.2 fun i hi=>h i (by rw[aR2] at hi;omega)
theorem aYp {l:List Int}{k:Nat}(hk:k<l.length)(h:l.any (isD (k:Nat))=false):sI l=false:=by
 cases e:sI l with
 | false=>rfl
 | true=>rw[aI4.1 e k (aR2.2 hk)] at h;cases h
abbrev aG6 (l:List Int)(n:Int):Prop:=Cn 183 [.one (.sl 3 1 (l.map intD)),.one (.int .i64 n)] (vB (l.any (isD n))) []
theorem aUJ (l:List Int)(n:Int):aG6 l n:=by
 refine cq Tryz.func183 (.loop Nat (Q1 Nat) (rg 5 13) [] (fun k=>[(5,vI (k:Int))]) (fun k=>[]) (fun k=>k<=l.length/\(l.take k).any (isD n)=false) (fun k=>l.length - k) (fun k=> .len l.length<| .br (.elem _ intD l (fun e14=> .br (.fin []) (.back []))) (.fin []))) (p:=Lx (l.map intD)<| (∃(k:Nat),0=(k:Int)/\k<=l.length/\(l.take k).any (isD n)=false)/\ ∀(k:Nat),(k<=l.length/\(l.take k).any (isD n)=false)->Lm intD l/\Br ((k:Int)<(l.length:Int)) (0<=(k:Int)/\Em intD l k fun e14=>Br (e14=n) ((true)=(l.any (isD n))/\True) (bK ((k:Int)+1)/\ ∃(k' :Nat),((k:Int)+1)=(k' :Int)/\(k' <=l.length/\(l.take k').any (isD n)=false)/\l.length - k' <l.length - k)) ((false)=(l.any (isD n))/\True)) (by kernel_rfl) ?_;refine lx fun n0=>?_;refine⟨⟨0,rfl,aDB _,rfl⟩,fun k ⟨hk,ha⟩=>?_⟩;refine⟨aAH _,dd (fun c0=>?_) fun c0=>?_⟩
 ·refine⟨by omega,rfl,by omega,fun e14 h14=>?_⟩;refine dd (fun c1=>?_) fun c1=>?_
  ·apply et1
   ·(rw[aUG h14 (decide_eq_true c1)];done)
  ·refine⟨⟨by omega,by omega⟩,?_⟩;exact⟨k+1,rfl,⟨by omega,aUH h14 ha (decide_eq_false c1)⟩,by omega⟩
 ·apply et1
  ·(rw[aUI (by omega) ha];done)
abbrev vQ (l:List aB):Prop:=Cn 201 [.one (.sl 38 2 (l.map aA))] (vB (l.all bC)) []
theorem aF2 (l:List aB):vQ l:=by
 refine cq Tryz.func201 (.loop Nat (Q1 Nat) (rg 3 13) [] (fun k=>[(3,vI (k:Int))]) (fun k=>[]) (fun k=>k<=l.length/\(l.take k).all bC=true) (fun k=>l.length - k) (fun k=> .len l.length<| .br (.elem _ aA l (fun e12=> .call (vB (bC e12)) []<| .br (.fin []) (.back []))) (.fin []))) (p:=Lx (l.map aA)<| (∃(k:Nat),0=(k:Int)/\k<=l.length/\(l.take k).all bC=true)/\ ∀(k:Nat),(k<=l.length/\(l.take k).all bC=true)->Lm aA l/\Br ((k:Int)<(l.length:Int)) (0<=(k:Int)/\Em aA l k fun e12=>fY e12/\Nr (bC e12) ((false)=(l.all bC)/\True) (bK ((k:Int)+1)/\ ∃(k' :Nat),((k:Int)+1)=(k' :Int)/\(k' <=l.length/\(l.take k').all bC=true)/\l.length - k' <l.length - k)) ((true)=(l.all bC)/\True)) (by kernel_rfl) ?_;refine lx fun n0=>?_;refine⟨⟨0,rfl,aDB _,rfl⟩,fun k ⟨hk,ha⟩=>?_⟩;refine⟨aAH _,dd (fun c0=>?_) fun c0=>?_⟩
 ·refine⟨by omega,rfl,by omega,fun e12 h12=>?_⟩;refine⟨kI e12,dm (fun c1=>?_) fun c1=>?_⟩
  ·apply et1
   ·(rw[eX h12 c1];done)
  ·refine⟨⟨by omega,by omega⟩,?_⟩;exact⟨k+1,rfl,⟨by omega,cO h12 ha c1⟩,by omega⟩
 ·apply et1
  ·(rw[dJ (by omega) ha];done)
theorem sD {d:aM}(h: ¬((d.basic.length:Int)<=64/\(1<=(d.others.length:Int)/\(d.others.length:Int)<=15)/\(d.table.length:Int)=d.basic.length/\(d.limits.length:Int)=d.basic.length/\(d.costs.length:Int)=d.others.length)):dR d=false:=by
 cases e:dR d with
 | false=>rfl
 | true=>
   obtain⟨b1,b2,b3,_,_,b6,b7,_⟩:=jG e;exact absurd ⟨by omega,by omega,by omega,by omega,by omega⟩ h
theorem aUK {d:aM}(h:(d.basic.length:Int)<=64/\(1<=(d.others.length:Int)/\(d.others.length:Int)<=15)/\(d.table.length:Int)=d.basic.length)(h1:sI (d.basic++d.others)=true)(h2:d.table.all (fun r=>iS r d.others.length)=true)(h3:iS d.limits d.basic.length=true)(h4:iS d.costs d.others.length=true):dR d=bC d.value:=by
 simp only[dR,h1,h2,h3,h4,decide_eq_true h.1,decide_eq_true h.2.1,decide_eq_true h.2.2,Bool.true_and]
abbrev zG (d:aM):Prop:=Cn 148 [.agg [.sl 3 1 (d.basic.map intD),.sl 3 1 (d.others.map intD),.sl 61 1 (d.table.map aH),.sl 38 2 (d.limits.map aA),.sl 38 2 (d.costs.map aA),.int .i64 d.value.num,.int .i64 d.value.den]] (vB (dR d)) []
theorem aJf (d:aM)(h0:d.basic.length<=1048576)(h1:d.others.length<=1048576):zG d:=by
 refine cq Tryz.func148 (.len d.basic.length<| .len d.others.length<| .br (.fin []) (.call (vB (decide (1<=(d.others.length:Int)/\(d.others.length:Int)<=15))) []<| .lit<| .lit<| .br (.fin []) (.len d.table.length<| .lit<| .lit<| .lit<| .br (.fin []) (.len d.limits.length<| .lit<| .lit<| .lit<| .br (.fin []) (.len d.costs.length<| .lit<| .lit<| .lit<| .br (.fin []) (.app Int intD ([]:List Int) d.basic<| .app Int intD (([]:List Int)++d.basic) d.others<| .loop Nat (Q1 Nat) ([6]++rg 49 11) [] (fun k=>[(6,vI (k:Int))]) (fun k=>[]) (fun k=>k<=d.basic.length+d.others.length/\(∀i,i<k->((([]:List Int)++d.basic)++d.others).any (isD (i:Nat))=true)) (fun k=>d.basic.length+d.others.length - k) (fun k=> .br (.call (vB (((([]:List Int)++d.basic)++d.others).any (isD (k:Int)))) []<| .br (.fin []) (.back [])) (.loop Nat (Q1 Nat) ([7]++rg 60 22) [] (fun j=>[(7,vI (j:Int))]) (fun j=>[]) (fun j=>j<=d.basic.length/\(d.table.take j).all (fun r=>iS r d.others.length)=true) (fun j=>d.basic.length - j) (fun j=> .br (.elem _ aH d.table (fun e68=> .len e68.length<| .br (.fin []) (.elem _ aH d.table (fun e77=> .call (vB (e77.all bC)) []<| .lit<| .lit<| .br (.fin []) (.back []))))) (.call (vB (d.limits.all bC)) []<| .br (.call (vB (d.costs.all bC)) []<| .lit<| .br (.call (vB (bC d.value)) []<| .fin []) (.fin [])) (.fin []))))))))))) (p:=Lx (d.basic.map intD)<| Lx (d.others.map intD)<| Lx (d.table.map aH)<| Lx (d.limits.map aA)<| Lx (d.costs.map aA)<| Lm intD d.basic/\(Lm intD d.others/\Br (64<(d.basic.length:Int)) ((false)=(dR d)/\True) (fQ (d.others.length:Int) (1:Int) (15:Int)/\Nb (1<=(d.others.length:Int)/\(d.others.length:Int)<=15) ((false)=(dR d)/\True) (Lm aH d.table/\Nb ((d.table.length:Int)=(d.basic.length:Int)) ((false)=(dR d)/\True) (Lm aA d.limits/\Nb ((d.limits.length:Int)=(d.basic.length:Int)) ((false)=(dR d)/\True) (Lm aA d.costs/\Nb ((d.costs.length:Int)=(d.others.length:Int)) ((false)=(dR d)/\True) (Ap intD ([]:List Int) d.basic 8 (Ap intD (([]:List Int)++d.basic) d.others 8 ((∃(k:Nat),0=(k:Int)/\k<=d.basic.length+d.others.length/\(∀i,i<k->((([]:List Int)++d.basic)++d.others).any (isD (i:Nat))=true))/\ ∀(k:Nat),(k<=d.basic.length+d.others.length/\(∀i,i<k->((([]:List Int)++d.basic)++d.others).any (isD (i:Nat))=true))->bK ((d.basic.length:Int)+(d.others.length:Int))/\Br ((k:Int)<((d.basic.length:Int)+(d.others.length:Int))) (aG6 ((([]:List Int)++d.basic)++d.others) (k:Int)/\Nr (((([]:List Int)++d.basic)++d.others).any (isD (k:Int))) ((false)=(dR d)/\True) (bK ((k:Int)+1)/\ ∃(k' :Nat),((k:Int)+1)=(k' :Int)/\(k' <=d.basic.length+d.others.length/\(∀i,i<k' ->((([]:List Int)++d.basic)++d.others).any (isD (i:Nat))=true))/\d.basic.length+d.others.length - k' <d.basic.length+d.others.length - k)) ((∃(j:Nat),0=(j:Int)/\j<=d.basic.length/\(d.table.take j).all (fun r=>iS r d.others.length)=true)/\ ∀(j:Nat),(j<=d.basic.length/\(d.table.take j).all (fun r=>iS r d.others.length)=true)->Br ((j:Int)<(d.basic.length:Int)) (0<=(j:Int)/\Em aH d.table j fun e68=>Lm aA e68/\Nb ((e68.length:Int)=(d.others.length:Int)) ((false)=(dR d)/\True) (0<=(j:Int)/\Em aH d.table j fun e77=>vQ e77/\Nr (e77.all bC) ((false)=(dR d)/\True) (bK ((j:Int)+1)/\ ∃(j' :Nat),((j:Int)+1)=(j' :Int)/\(j' <=d.basic.length/\(d.table.take j').all (fun r=>iS r d.others.length)=true)/\d.basic.length - j' <d.basic.length - j))) (vQ d.limits/\Bb (d.limits.all bC) (vQ d.costs/\Bb (d.costs.all bC) (fY d.value/\(bC d.value)=(dR d)/\True) ((false)=(dR d)/\True)) ((false)=(dR d)/\True)))))))))))) (by kernel_rfl) ?_;refine lx fun n0=>lx fun n1=>lx fun n2=>lx fun n3=>lx fun n4=>?_;refine⟨aAH _,aAH _,dd (fun g16=>?_) fun g16=>?_⟩
 ·apply et1
  ·(exact(sD (by omega)).symm)
 ·refine⟨jP _ _ _,dn (fun g21=>?_) fun g21=>?_⟩
  ·apply et1
   ·(exact(sD (by omega)).symm)
  ·refine⟨aAH _,dn (fun g28=>?_) fun g28=>?_⟩
   ·apply et1
    ·(exact(sD (by omega)).symm)
   ·refine⟨aAH _,dn (fun g35=>?_) fun g35=>?_⟩
    ·apply et1
     ·(exact(sD (by omega)).symm)
    ·refine⟨aAH _,dn (fun c0=>?_) fun c0=>?_⟩
     ·apply et1
      ·(exact(sD (by omega)).symm)
     ·refine ap ?_ (fun _=>rfl) (by (simp;omega));refine ap ?_ (fun _=>rfl) (by (simp;omega));refine⟨⟨0,rfl,aDB _,fun i h=>absurd h (Nat.not_lt_zero _)⟩,fun k ⟨hk,ha⟩=>?_⟩;refine⟨⟨by omega,by omega⟩,dd (fun c1=>?_) fun c1=>?_⟩
      ·refine⟨aUJ ((([]:List Int)++d.basic)++d.others) (k:Int),dm (fun c2=>?_) fun c2=>?_⟩
       ·apply et1
        ·(exact(aRM (aYp (k:=k) (by simp;omega) c2)).symm)
       ·refine⟨⟨by omega,by omega⟩,?_⟩;exact⟨k+1,rfl,⟨by omega,upN (p:=fun i=>((([]:List Int)++d.basic)++d.others).any (isD (i:Nat))=true) ha c2⟩,by omega⟩
      ·have hp:sI (d.basic++d.others)=true:=aYo (n:=k) (by simp;omega) ha;refine⟨⟨0,rfl,aDB _,rfl⟩,fun j ⟨hj,hb⟩=>?_⟩;refine dd (fun c3=>?_) fun c3=>?_
       ·refine⟨by omega,rfl,by omega,fun e68 h68=>?_⟩;refine⟨aAH _,dn (fun g73=>?_) fun g73=>?_⟩
        ·apply et1
         ·(exact(aJb h68 (aRO (by omega))).symm)
        ·refine⟨by omega,rfl,by omega,fun e77 h77=>?_⟩;obtain rfl:=(aY h68 h77).symm;refine⟨aF2 _,dm (fun c4=>?_) fun c4=>?_⟩
         ·apply et1
          ·(exact(aJb h68 (aDV c4)).symm)
         ·refine⟨⟨by omega,by omega⟩,?_⟩;exact⟨j+1,rfl,⟨by omega,cO h68 hb (aF0 g73 c4)⟩,by omega⟩
       ·have hcl:=dJ (by omega) hb;refine⟨aF2 _,db (fun g85=>?_) fun g85=>?_⟩
        ·refine⟨aF2 _,db (fun g90=>?_) fun g90=>?_⟩
         ·refine⟨kI d.value,?_,trivial⟩
          ·(exact(aUK (by omega) hp hcl (aF0 (by omega) g85) (aF0 (by omega) g90)).symm)
         ·apply et1
          ·(exact(aP9 (aDV g90)).symm)
        ·apply et1
         ·(exact(aRN (aDV g85)).symm)
theorem aPg {d:aM}{k:Nat}{b:Int}{x:aB}(hb:b=mH d k)(hx:d.costs[k]? =some x)(h: ¬0<x.num):b=mH d (k+1):=aSR hb (by rw[aDW,bG hx,decide_eq_false h];rfl)
theorem aPh {d:aM}{k:Nat}{b:Int}{x:aB}(hb:b=mH d k)(hx:d.costs[k]? =some x)(h:0<x.num)(h2:b<0):(k:Int)=mH d (k+1):=aPb hb (by rw[aDW,bG hx,decide_eq_true h,decide_eq_true h2];rfl)
theorem aMY {d:aM}{k:Nat}{b y z:Int}{x:aB}(hb:b=mH d k)(hx:d.costs[k]? =some x)(h:0<x.num)(hy:d.others[k]? =some y)(hz:d.others[b.toNat]? =some z)(h2:y<z):(k:Int)=mH d (k+1):=aPb hb (by rw[aDW,bG hx,bG hy,bG hz,decide_eq_true h,decide_eq_true h2,Bool.or_true];rfl)
theorem aPi {d:aM}{k:Nat}{b y z:Int}{x:aB}(hb:b=mH d k)(hx:d.costs[k]? =some x)(h1: ¬b<0)(hy:d.others[k]? =some y)(hz:d.others[b.toNat]? =some z)(h2: ¬y<z):b=mH d (k+1):=aSR hb (by rw[aDW,bG hx,bG hy,bG hz,decide_eq_false h1,decide_eq_false h2,Bool.or_false,Bool.and_false])
theorem aYq {d:aM}(h:dR d=false):lK d= -1:=by rw[lK,if_neg (by rw[h];decide)]
theorem aPj {d:aM}(h:dR d=true):lK d=fM d:=by rw[lK,if_pos h]
theorem aSV {d:aM}{k:Nat}{b:Int}(hb:b=mH d k)(h:d.others.length=k):fM d=b:=by rw[fM,h,hb]
abbrev aDY (d:aM):Prop:=Cn 104 [.agg [.sl 3 1 (d.basic.map intD),.sl 3 1 (d.others.map intD),.sl 61 1 (d.table.map aH),.sl 38 2 (d.limits.map aA),.sl 38 2 (d.costs.map aA),.int .i64 d.value.num,.int .i64 d.value.den]] (vI (fM d)) []
theorem aPk (d:aM)(hd:dR d=true):aDY d:=by
 refine cq Tryz.func104 (.len d.costs.length<| .loop (Nat × Int) (Q2 Nat Int) ([3,4,5]++rg 9 27) [500] (fun yy0=>[(9,vI (yy0.1:Int)),(3,vI yy0.2)]) (fun yy0=>[]) (fun yy0=>yy0.1<=d.others.length/\yy0.2=mH d yy0.1) (fun yy0=>d.others.length - yy0.1) (fun yy0=> .br (.elem _ aA d.costs (fun e12=> .br (.lit<| .lit<| .br (.back []) (.elem _ intD d.others (fun e24=> .elem _ intD d.others (fun e29=> .lit<| .lit<| .lit<| .lit<| .lit<| .br (.back []) (.back []))))) (.back []))) (.fin []))) (p:=Lx (d.basic.map intD)<| Lx (d.others.map intD)<| Lx (d.table.map aH)<| Lx (d.limits.map aA)<| Lx (d.costs.map aA)<| Lm aA d.costs/\((∃(k:Nat) (b:Int),0=(k:Int)/\(-1:Int)=b/\k<=d.others.length/\b=mH d k)/\ ∀(k:Nat) (b:Int),(k<=d.others.length/\b=mH d k)->Br ((k:Int)<(d.costs.length:Int)) (0<=(k:Int)/\Em aA d.costs k fun e12=>Br (0<e12.num) (Br (b<0) (bK ((k:Int)+1)/\ ∃(k' :Nat) (b' :Int),((k:Int)+1)=(k' :Int)/\(k:Int)=b' /\(k' <=d.others.length/\b' =mH d k')/\d.others.length - k' <d.others.length - k) (0<=(k:Int)/\Em intD d.others k fun e24=>0<=b/\Em intD d.others ((b).toNat) fun e29=>Br (e24<e29) (bK ((k:Int)+1)/\ ∃(k' :Nat) (b' :Int),((k:Int)+1)=(k' :Int)/\(k:Int)=b' /\(k' <=d.others.length/\b' =mH d k')/\d.others.length - k' <d.others.length - k) (bK ((k:Int)+1)/\ ∃(k' :Nat) (b' :Int),((k:Int)+1)=(k' :Int)/\b=b' /\(k' <=d.others.length/\b' =mH d k')/\d.others.length - k' <d.others.length - k))) (bK ((k:Int)+1)/\ ∃(k' :Nat) (b' :Int),((k:Int)+1)=(k' :Int)/\b=b' /\(k' <=d.others.length/\b' =mH d k')/\d.others.length - k' <d.others.length - k)) (b=(fM d)/\True))) (by kernel_rfl) ?_;refine lx fun n0=>lx fun n1=>lx fun n2=>lx fun n3=>lx fun n4=>?_;obtain⟨b1,b2,b3,b4,b5,b6,b7,b8⟩:=jG hd;refine⟨aAH _,⟨0,-1,rfl,rfl,aDB _,rfl⟩,fun k b ⟨hk,hb⟩=>?_⟩;refine dd (fun c0=>?_) fun c0=>?_
 ·have eb:=aBX d k;refine⟨by omega,rfl,by omega,fun e12 h12=>?_⟩;refine dd (fun g17=>?_) fun g17=>?_
  ·refine dd (fun g20=>?_) fun g20=>?_
   ·refine⟨⟨by omega,by omega⟩,?_⟩;exact⟨k+1,(k:Int),rfl,rfl,⟨by omega,by exact aPh hb h12 g17 g20⟩,by omega⟩
   ·refine⟨by omega,rfl,by omega,fun e24 h24=>?_⟩;refine⟨by omega,rfl,by omega,fun e29 h29=>?_⟩;refine dd (fun c1=>?_) fun c1=>?_
    ·refine⟨⟨by omega,by omega⟩,?_⟩;exact⟨k+1,(k:Int),rfl,rfl,⟨by omega,by exact aMY hb h12 g17 h24 h29 c1⟩,by omega⟩
    ·refine⟨⟨by omega,by omega⟩,?_⟩;exact⟨k+1,b,rfl,rfl,⟨by omega,by exact aPi hb h12 g20 h24 h29 c1⟩,by omega⟩
  ·refine⟨⟨by omega,by omega⟩,?_⟩;exact⟨k+1,b,rfl,rfl,⟨by omega,by exact aPg hb h12 g17⟩,by omega⟩
 ·apply et1
  ·(rw[aSV hb (by omega)];done)
abbrev aJg (d:aM):Prop:=Cn 95 [.agg [.sl 3 1 (d.basic.map intD),.sl 3 1 (d.others.map intD),.sl 61 1 (d.table.map aH),.sl 38 2 (d.limits.map aA),.sl 38 2 (d.costs.map aA),.int .i64 d.value.num,.int .i64 d.value.den]] (vI (lK d)) []
theorem aXC (d:aM)(h0:d.basic.length<=1048576)(h1:d.others.length<=1048576):aJg d:=by
 refine cq Tryz.func95 (.call (vB (dR d)) []<| .br (.fin []) (.loop (Nat × Int) (Q2 Nat Int) ([3,4]++rg 8 32) [] (fun yy0=>[(4,vI (yy0.1:Int)),(3,vI yy0.2)]) (fun yy0=>[]) (fun yy0=>yy0.1<=d.others.length/\yy0.2=mH d yy0.1) (fun yy0=>d.others.length - yy0.1) (fun yy0=> .len d.others.length<| .br (.elem _ aA d.costs (fun e18=> .br (.lit<| .lit<| .br (.back []) (.elem _ intD d.others (fun e29=> .elem _ intD d.others (fun e34=> .lit<| .lit<| .lit<| .lit<| .lit<| .br (.back []) (.back []))))) (.back []))) (.fin [])))) (p:=Lx (d.basic.map intD)<| Lx (d.others.map intD)<| Lx (d.table.map aH)<| Lx (d.limits.map aA)<| Lx (d.costs.map aA)<| zG d/\Nr (dR d) ((-1:Int)=(lK d)/\True) ((∃(k:Nat) (b:Int),0=(k:Int)/\(-1:Int)=b/\k<=d.others.length/\b=mH d k)/\ ∀(k:Nat) (b:Int),(k<=d.others.length/\b=mH d k)->Lm intD d.others/\Br ((k:Int)<(d.others.length:Int)) (0<=(k:Int)/\Em aA d.costs k fun e18=>Br (0<e18.num) (Br (b<0) (bK ((k:Int)+1)/\ ∃(k' :Nat) (b' :Int),((k:Int)+1)=(k' :Int)/\(k:Int)=b' /\(k' <=d.others.length/\b' =mH d k')/\d.others.length - k' <d.others.length - k) (0<=(k:Int)/\Em intD d.others k fun e29=>0<=b/\Em intD d.others ((b).toNat) fun e34=>Br (e29<e34) (bK ((k:Int)+1)/\ ∃(k' :Nat) (b' :Int),((k:Int)+1)=(k' :Int)/\(k:Int)=b' /\(k' <=d.others.length/\b' =mH d k')/\d.others.length - k' <d.others.length - k) (bK ((k:Int)+1)/\ ∃(k' :Nat) (b' :Int),((k:Int)+1)=(k' :Int)/\b=b' /\(k' <=d.others.length/\b' =mH d k')/\d.others.length - k' <d.others.length - k))) (bK ((k:Int)+1)/\ ∃(k' :Nat) (b' :Int),((k:Int)+1)=(k' :Int)/\b=b' /\(k' <=d.others.length/\b' =mH d k')/\d.others.length - k' <d.others.length - k)) (b=(lK d)/\True))) (by kernel_rfl) ?_;refine lx fun n0=>lx fun n1=>lx fun n2=>lx fun n3=>lx fun n4=>?_;refine⟨aJf d (by omega) (by omega),dm (fun c0=>?_) fun c0=>?_⟩
 ·apply et1
  ·(rw[aYq c0];done)
 ·have hd:dR d=true:=c0;obtain⟨b1,b2,b3,b4,b5,b6,b7,b8⟩:=jG hd;refine⟨⟨0,-1,rfl,rfl,aDB _,rfl⟩,fun k b ⟨hk,hb⟩=>?_⟩;refine⟨aAH _,dd (fun c1=>?_) fun c1=>?_⟩
  ·have eb:=aBX d k;refine⟨by omega,rfl,by omega,fun e18 h18=>?_⟩;refine dd (fun g22=>?_) fun g22=>?_
   ·refine dd (fun g25=>?_) fun g25=>?_
    ·refine⟨⟨by omega,by omega⟩,?_⟩;exact⟨k+1,(k:Int),rfl,rfl,⟨by omega,by exact aPh hb h18 g22 g25⟩,by omega⟩
    ·refine⟨by omega,rfl,by omega,fun e29 h29=>?_⟩;refine⟨by omega,rfl,by omega,fun e34 h34=>?_⟩;refine dd (fun c2=>?_) fun c2=>?_
     ·refine⟨⟨by omega,by omega⟩,?_⟩;exact⟨k+1,(k:Int),rfl,rfl,⟨by omega,by exact aMY hb h18 g22 h29 h34 c2⟩,by omega⟩
     ·refine⟨⟨by omega,by omega⟩,?_⟩;exact⟨k+1,b,rfl,rfl,⟨by omega,by exact aPi hb h18 g25 h29 h34 c2⟩,by omega⟩
   ·refine⟨⟨by omega,by omega⟩,?_⟩;exact⟨k+1,b,rfl,rfl,⟨by omega,by exact aPg hb h18 g22⟩,by omega⟩
  ·apply et1
   ·(rw[aPj c0,aSV hb (by omega)];done)
end Go.Proofs.YtlidmoeecphbmaaGreat
