/-
  Contracts and plain laws, joined: part 6.
-/
import Derived.Test.YtgamjlgfnmpcjaaGreatep4
import Derived.Shelf.SlicesE.Clone
namespace Go.Proofs.YtgamjlgfnmpcjaaGreat
open Go.ChangeShapes Go.WideShapes Go.ChangeAt Go.RowKit
set_option linter.all false
set_option maxRecDepth 100000
set_option maxHeartbeats 4000000
theorem NY: ∀(r s:Z),r.Nodup->(∀x∈r,x∈s)->s.length<=r.length->s.Perm r
 | [],s,_,_,h=>by
   have:s= []:=List.length_eq_zero_iff.1 (by simpa using h);rw[this]
 | a::r,s,hn,hs,hl=>by
   have ha:a∈s:=hs a (by simp);have p1:s.Perm (a::s.erase a):=List.perm_cons_erase ha;have hn' :=List.nodup_cons.1 hn
   have:=NY r (s.erase a) hn'.2 (fun x hx=>(List.mem_erase_of_ne (fun (e:x=a)=>hn'.1 (by rw[<-e];exact hx))).2 (hs x (by simp[hx]))) (by
    rw[List.length_erase_of_mem ha];simp only[aEb] at hl;omega)
   exact p1.trans (this.cons a)
def NZ (n x:Int):Bool:=decide (x=n)
def tK (l:Z):Bool:=(List.range l.length).all fun (i:Nat)=>l.any (NZ i)
abbrev upto (n:Nat):Z:=(List.range n).map fun (i:Nat)=>(i:Int)
def Bt {l:Z}(h:tK l=true):l.Perm (upto l.length):=by
 refine NY _ _ ?_ ?_ (by simp)
 ·rw[List.Nodup,List.pairwise_map];exact List.nodup_range.imp fun hne he=>hne aGR
 intro x hx;obtain⟨j,hj,rfl⟩:=aE9.1 hx;have:=aCS.1 h j hj;obtain⟨y,hy,e⟩:=List.any_eq_true.1 this;rw[NZ,aFI] at e
 rwa [<-e]
def Rv {l:Z}(h:l.Perm (upto l.length)):tK l=true:=by
 refine aCS.2 fun i hi=>?_;have:(i:Int)∈l:=h.mem_iff.2 (aE9.2 ⟨i,hi,rfl⟩);exact List.any_eq_true.2 ⟨_,this,by simp[NZ]⟩
def Tl {l:Z}(h:tK l=true){x:Int}(hx:x∈l):0<=x/\x<l.length:=by
 have:=(Bt h).mem_iff.1 hx;obtain⟨j,hj,rfl⟩:=aE9.1 this;have:=aEt.1 hj;omega
def jM (l:List aB)(n:Int):Bool:=decide ((l.length:Int)=n)&&l.all aR
def dE (d:aE):Bool:=decide ((d.c.length:Int)<=64)&&(decide (1<=(d.r.length:Int)/\(d.r.length:Int)<=15)&&(decide ((d.u.length:Int)=d.c.length)&&(tK (d.c++d.r)&&(d.u.all (fun r=>jM r d.r.length)&&(jM d.b d.c.length&&(jM d.s d.r.length&&aR d.value))))))
def Tm {d:aE}(h:tK (d.c++d.r)=false):dE d=false:=by simp only[dE,h,Bool.false_and,Bool.and_false]
def K4 {d:aE}{k:Nat}{r:List aB}(h:d.u[k]? =some r)(hr:jM r d.r.length=false):dE d=false:=by
 have:d.u.all (fun r=>jM r d.r.length)=false:=eT h hr;simp only[dE,this,Bool.false_and,Bool.and_false]
def Tn {d:aE}(h:jM d.b d.c.length=false):dE d=false:=by simp only[dE,h,Bool.false_and,Bool.and_false]
def Rw {d:aE}(h:jM d.s d.r.length=false):dE d=false:=by simp only[dE,h,Bool.false_and,Bool.and_false]
def Rx {d:aE}(h:(d.c.length:Int)<=64/\(1<=(d.r.length:Int)/\(d.r.length:Int)<=15)/\(d.u.length:Int)=d.c.length)(h1:tK (d.c++d.r)=true)(h2:d.u.all (fun r=>jM r d.r.length)=true)(h3:jM d.b d.c.length=true)(h4:jM d.s d.r.length=true)(h5:aR d.value=true):dE d=true:=by
 simp only[dE,h1,h2,h3,h4,h5,Bool.and_true,aBB,aFI];exact h
def Tp {l:List aB}{n:Int}(h: ¬(l.length:Int)=n):jM l n=false:=by simp only[jM,decide_eq_false h,Bool.false_and]
def D9 {l:List aB}{n:Int}(h:l.all aR=false):jM l n=false:=by simp only[jM,h,Bool.and_false]
def GZ {l:List aB}{n:Int}(h:(l.length:Int)=n)(h1:l.all aR=true):jM l n=true:=by simp only[jM,decide_eq_true h,h1,Bool.and_true]
def mS {l:List aB}{n:Nat}:jM l n=true↔l.length=n/\ ∀x∈l,aR x=true:=by
 simp only[jM,aBB,aFI,aCS];constructor
 ·exact fun h=>⟨aGR,h.2⟩
 exact fun h=>⟨aGR,h.2⟩
def fP {d:aE}(h:dE d=true):d.c.length<=64/\(1<=d.r.length/\d.r.length<=15)/\d.u.length=d.c.length/\tK (d.c++d.r)=true/\(∀r∈d.u,r.length=d.r.length/\ ∀x∈r,aR x=true)/\(d.b.length=d.c.length/\ ∀x∈d.b,aR x=true)/\(d.s.length=d.r.length/\ ∀x∈d.s,aR x=true)/\aR d.value=true:=by
 simp only[dE,aBB,aFI,aCS (l:=d.u)] at h;obtain⟨h1,h2,h3,h4,h5,h6,h7,h8⟩:=h;exact⟨aGR,aGR,aGR,h4,fun r hr=>mS.1 (h5 r hr),mS.1 h6,mS.1 h7,h8⟩
def Ga {d:aE}(h:dE d=true):(∀x∈d.c,0<=x/\x<d.c.length+d.r.length)/\ ∀x∈d.r,0<=x/\x<d.c.length+d.r.length:=by
 obtain⟨_,_,_,hp,_⟩:=fP h
 have key: ∀x∈d.c++d.r,0<=x/\x<d.c.length+d.r.length:=fun x hx=>by
  have:=Tl hp hx;rw[aEh] at this;omega
 exact⟨fun x hx=>key x (aDG _ hx),fun x hx=>key x (aCX _ hx)⟩
def Bu (d:aE)(b:Int)(k:Nat):Bool:=decide (0<(d.s.getD k zR).num)&&(decide (b<0) || decide (d.r.getD k 0<d.r.getD b.toNat 0))
def mF (d:aE):Nat->Int
 | 0=> -1
 | k+1=>if Bu d (mF d k) k=true then (k:Int) else mF d k
def eX (d:aE):Int:=mF d d.r.length
theorem yH (d:aE): ∀k:Nat,-1<=mF d k/\mF d k<k
 | 0=>by simp[mF]
 | k+1=>by
   have:=yH d k;rw[mF];split<;>omega
def Ry {d:aE}{k:Nat}{b:Int}(hb:b=mF d k)(h:Bu d b k=true):(k:Int)=mF d (k+1):=by rw[mF,<-hb,if_pos h]
def VO {d:aE}{k:Nat}{b:Int}(hb:b=mF d k)(h:Bu d b k=false):b=mF d (k+1):=by rw[mF,<-hb,if_neg (by rw[h];decide)]
def mI (d:aE):Int:=if dE d=true then eX d else -1
def fQ (d:aE)(i j:Nat):aB:=(d.u.getD i []).getD j zR
def nU (d:aE)(b:Int)(c:Int)(k:Nat):Bool:=decide (b<0) || (decide (c<0) || (decide (c=0)&&decide (d.c.getD k 0<d.c.getD b.toNat 0)))
def fA (d:aE)(j:Nat):Nat->Nat->Int->aB->Int
 | 0,_,b,_=>b
 | f+1,k,b,l=>if (fQ d k j).num<=0 then fA d j f (k+1) b l else if (aZ (d.b.getD k zR) (fQ d k j)).2=false then -1 else if nU d b (eB (aZ (d.b.getD k zR) (fQ d k j)).1 l) k=true then fA d j f (k+1) (k:Int) (aZ (d.b.getD k zR) (fQ d k j)).1 else fA d j f (k+1) b l
def gG (d:aE)(j:Nat):Int:=fA d j d.c.length 0 (-1) zR
def Tq {d:aE}{j n k:Nat}{b:Int}{l:aB}(hk:k<n)(h:(fQ d k j).num<=0):fA d j (n - k) k b l=fA d j (n - (k+1)) (k+1) b l:=by
 rw[show n - k=(n - (k+1))+1 by omega,fA,if_pos h]
def XI {d:aE}{j n k:Nat}{b:Int}{l:aB}(hk:k<n)(h: ¬(fQ d k j).num<=0)(h2:(aZ (d.b.getD k zR) (fQ d k j)).2=false):fA d j (n - k) k b l= -1:=by
 rw[show n - k=(n - (k+1))+1 by omega,fA,if_neg h,if_pos h2]
def XJ {d:aE}{j n k:Nat}{b:Int}{l:aB}(hk:k<n)(h: ¬(fQ d k j).num<=0)(h2:(aZ (d.b.getD k zR) (fQ d k j)).2=true)(h3:nU d b (eB (aZ (d.b.getD k zR) (fQ d k j)).1 l) k=true):fA d j (n - k) k b l=fA d j (n - (k+1)) (k+1) (k:Int) (aZ (d.b.getD k zR) (fQ d k j)).1:=by
 rw[show n - k=(n - (k+1))+1 by omega,fA,if_neg h,if_neg (by rw[h2];decide),if_pos h3]
def aAL {d:aE}{j n k:Nat}{b:Int}{l:aB}(hk:k<n)(h: ¬(fQ d k j).num<=0)(h2:(aZ (d.b.getD k zR) (fQ d k j)).2=true)(h3:nU d b (eB (aZ (d.b.getD k zR) (fQ d k j)).1 l) k=false):fA d j (n - k) k b l=fA d j (n - (k+1)) (k+1) b l:=by
 rw[show n - k=(n - (k+1))+1 by omega,fA,if_neg h,if_neg (by rw[h2];decide),if_neg (by rw[h3];decide)]
theorem Gb (d:aE)(j:Nat): ∀(f k:Nat) (b:Int) (l:aB),-1<=b/\b<k-> -1<=fA d j f k b l/\fA d j f k b l<(k+f:Nat)
 | 0,k,b,l,h=>by rw[fA];omega
 | f+1,k,b,l,h=>by
   have h1:=Gb d j f (k+1) b l aGR;have h2:=Gb d j f (k+1) (k:Int) (aZ (d.b.getD k zR) (fQ d k j)).1 aGR;rw[fA];split
   ·omega
   split
   ·omega
   split<;>omega
def Rz (d:aE)(j:Nat): -1<=gG d j/\gG d j<d.c.length:=by
 have:=Gb d j d.c.length 0 (-1) zR aGR;rw[gG];omega
def sB (d:aE)(j:Int):Int:=if dE d=true/\0<=j/\j<d.r.length then gG d j.toNat else -1
def FSq (d:aE)(i j k:Nat):aB × Bool:=aZ (if k=j then C6 else fQ d i k) (fQ d i j)
def fI (d:aE)(i j n:Nat):List aB:=(List.range n).map fun k=>(FSq d i j k).1
def fE (d:aE)(i j n:Nat):Bool:=(List.range n).all fun k=>(FSq d i j k).2
def eH (d:aE)(i j:Nat):aB × Bool:=aZ (d.b.getD i zR) (fQ d i j)
def Sd (l:List aB)(c:aB)(p:List aB)(j k:Nat):aB × Bool:=cB (if k=j then GY else l.getD k zR) c (p.getD k zR)
def fG (l:List aB)(p:List aB)(j n:Nat):List aB:=(List.range n).map fun k=>(Sd l (l.getD j zR) p j k).1
def gS (l:List aB)(p:List aB)(j n:Nat):Bool:=(List.range n).all fun k=>(Sd l (l.getD j zR) p j k).2
def VP (d:aE)(i j r:Nat):aB × Bool:=cB (d.b.getD r zR) (fQ d r j) (eH d i j).1
def Bv (d:aE)(i j r:Nat):List aB:=if r=i then fI d i j d.r.length else fG (d.u.getD r []) (fI d i j d.r.length) j d.r.length
def DG (d:aE)(i j r:Nat):aB:=if r=i then (eH d i j).1 else (VP d i j r).1
def K5 (d:aE)(i j r:Nat):Bool:=if r=i then true else gS (d.u.getD r []) (fI d i j d.r.length) j d.r.length&&(VP d i j r).2
def iQ (d:aE)(i j n:Nat):List (List aB):=(List.range n).map (Bv d i j)
def jB (d:aE)(i j n:Nat):List aB:=(List.range n).map (DG d i j)
def iR (d:aE)(i j n:Nat):Bool:=(List.range n).all (K5 d i j)
def PN (d:aE)(i j:Nat):List aB:=fG d.s (fI d i j d.r.length) j d.r.length
def VQ (d:aE)(i j:Nat):Bool:=gS d.s (fI d i j d.r.length) j d.r.length
def eG (a b c:aB):aB × Bool:=if b.num=0\/c.num=0 then (a,true) else ((fH a (dC b c).1).1,(dC b c).2&&(fH a (dC b c).1).2)
def vN (d:aE)(i j:Nat):aB × Bool:=eG d.value (d.s.getD j zR) (eH d i j).1
def nV (d:aE)(i j:Nat):Bool:=((fE d i j d.r.length&&(eH d i j).2)&&iR d i j d.c.length)&&VQ d i j
def Bw:aE:=⟨[],[],[],[],[],⟨0,0⟩⟩
def fR (d:aE)(i j:Nat):aE:=⟨d.c.set i (d.r.getD j 0),d.r.set j (d.c.getD i 0),iQ d i j d.c.length,jB d i j d.c.length,PN d i j,(vN d i j).1⟩
def fT (d:aE)(i j:Nat):aE × Bool:=if (fQ d i j).num≠0/\nV d i j=true/\(vN d i j).2=true then (fR d i j,true) else (Bw,false)
def bU (d:aE)(i j:Int):aE × Bool:=if dE d=true/\(0<=i/\i<d.c.length)/\0<=j/\j<d.r.length then fT d i.toNat j.toNat else (Bw,false)
def Na (a b c:aB):eG a (eK b) c=cB a b c:=XH a b c
def R0 {a b c:aB}(ha:aR a=true)(h:(eG a b c).2=true):aR (eG a b c).1=true:=by
 unfold eG at*;split at h
 ·rename_i hp;rw[if_pos hp];exact ha
 rename_i hp;rw[if_neg hp];simp only[aBB] at h;exact aC3 h.2
def aC5 {a:aB}(h:aR a=true):fH a GY=(a,true):=by
 have v:cY 0 1=true:=by decide
 rw[fH,show PI a.num a.den GY.num GY.den=bS (a.num*1+0*a.den) (a.den*1) from Bl h v];rw[Int.zero_mul,Int.mul_one,Int.mul_one,Int.add_zero,Cp h];rfl
def aC6 {b c:aB}(hb:aR b=true)(hc:aR c=true)(h:b.num=0\/c.num=0):dC b c=(GY,true):=by
 have h1:=bT hb;have h2:=bT hc;rw[dC,vH hb hc,show b.num*c.num=0 from Int.mul_eq_zero.2 h,NX (Int.mul_ne_zero aGR aGR)];rfl
def K6 {a b c:aB}(ha:aR a=true)(hb:aR b=true)(hc:aR c=true):eG a b c=((fH a (dC b c).1).1,(dC b c).2&&(fH a (dC b c).1).2):=by
 unfold eG;split
 ·rename_i h;rw[aC6 hb hc h,aC5 ha];rfl
 rfl
def Nc:aR GY=true:=by decide
def XK:aR C6=true:=by decide
def jN {l:List aB}{n k:Nat}(h:l.length=n/\ ∀x∈l,aR x=true)(hk:k<n):aR (l.getD k zR)=true:=by
 have hk' :k<l.length:=aGR
 rw[aCz,aBP hk'];exact h.2 _ (aGF hk')
def AD {d:aE}(h:dE d=true){i j:Nat}(hi:i<d.c.length)(hj:j<d.r.length):aR (fQ d i j)=true:=by
 obtain⟨_,_,b3,_,b5,_⟩:=fP h;have hi' :i<d.u.length:=aGR
 have hc:d.u.getD i []=d.u[i]:=by rw[aCz,aBP hi'];rfl
 rw[fQ,hc];exact jN (b5 _ (aGF hi')) hj
def Ts (d:aE)(i j n:Nat):(fI d i j n).length=n:=by simp[fI]
def XL {d:aE}{i j n:Nat}(h:fE d i j n=true): ∀x∈fI d i j n,aR x=true:=by
 intro x hx;obtain⟨k,hk,rfl⟩:=aE9.1 hx;exact Cq (aCS.1 h k hk)
def R1 {l p:List aB}{j n:Nat}(hl:l.length=n/\ ∀x∈l,aR x=true)(h:gS l p j n=true): ∀x∈fG l p j n,aR x=true:=by
 intro x hx;obtain⟨k,hk,rfl⟩:=aE9.1 hx;refine K3 ?_ (aCS.1 h k hk);split
 ·exact Nc
 exact jN hl (aEt.1 hk)
def aAM {a b:Z}{i j:Nat}{x y:Int}(hx:a[i]? =some x)(hy:b[j]? =some y):(a.set i y++b.set j x).Perm (a++b):=by
 obtain⟨hi,rfl⟩:=aCO.1 hx;obtain⟨hj,rfl⟩:=aCO.1 hy;have ea:a.set i b[j]=a.take i++b[j]::a.drop (i+1):=List.set_eq_take_append_cons_drop .. |>.trans (if_pos hi)
 have eb:b.set j a[i]=b.take j++a[i]::b.drop (j+1):=List.set_eq_take_append_cons_drop .. |>.trans (if_pos hj)
 have fa:a=a.take i++a[i]::a.drop (i+1):=by rw[<-List.drop_eq_getElem_cons hi,List.take_append_drop]
 have fb:b=b.take j++b[j]::b.drop (j+1):=by rw[<-List.drop_eq_getElem_cons hj,List.take_append_drop]
 rw[ea,eb]
 conv=>rhs;rw[fa,fb]
 rw[List.perm_iff_count];intro z;simp only[List.count_append,List.count_cons];omega
def PO {d:aE}{i j:Nat}(h:dE d=true)(hi:i<d.c.length)(hj:j<d.r.length)(h1:nV d i j=true)(h2:(vN d i j).2=true):dE (fR d i j)=true:=by
 obtain⟨b1,b2,b3,b4,b5,b6,b7,b8⟩:=fP h;simp only[nV,aBB] at h1;obtain⟨⟨⟨q1,q2⟩,q3⟩,q4⟩:=h1;have hb:d.c[i]? =some (d.c.getD i 0):=by rw[aCz,aBP hi];rfl
 have hf:d.r[j]? =some (d.r.getD j 0):=by rw[aCz,aBP hj];rfl
 refine Rx ?_ ?_ ?_ ?_ ?_ ?_
 ·simp only[fR,aDF,iQ,aAb,List.length_range];exact⟨aGR,aGR,trivial⟩
 ·refine Rv ?_;have:=aAM hb hf;exact(this.trans (Bt b4)).trans (by simp only[fR,aEh,aDF];exact .refl _)
 ·refine aCS.2 fun r hr=>?_;simp only[fR,aDF] at hr ⊢;obtain⟨k,hk,rfl⟩:=aE9.1 hr;rw[aEt] at hk;have ok:=aCS.1 q3 k (aEt.2 hk);refine mS.2 ?_;unfold Bv;split
  ·exact⟨Ts _ _ _ _,XL q1⟩
  rename_i hne;rw[K5,if_neg hne,aBB] at ok;have hk' :k<d.u.length:=aGR
  have hc:d.u.getD k []=d.u[k]:=by rw[aCz,aBP hk'];rfl
  exact⟨by simp[fG],R1 (by rw[hc];exact b5 _ (aGF hk')) ok.1⟩
 ·refine mS.2 ⟨by simp[fR,jB],fun x hx=>?_⟩;obtain⟨k,hk,rfl⟩:=aE9.1 hx;rw[aEt] at hk;have ok:=aCS.1 q3 k (aEt.2 hk);unfold DG;split
  ·exact Cq q2
  rename_i hne;rw[K5,if_neg hne,aBB] at ok;exact K3 (jN b6 hk) ok.2
 ·refine mS.2 ⟨by simp[fR,PN,fG],?_⟩;exact R1 b7 q4
 exact R0 b8 h2
def VR {d:aE}{i j:Nat}(h:dE d=true)(hi:i<d.c.length)(hj:j<d.r.length)(h1:(fT d i j).2=true):dE (fT d i j).1=true/\(fT d i j).1.c.length=d.c.length/\(fT d i j).1.r.length=d.r.length:=by
 unfold fT at*;split at h1
 ·rename_i hp;rw[if_pos hp];exact⟨PO h hi hj hp.2.1 hp.2.2,by simp[fR],by simp[fR]⟩
 cases h1
def dP (p:bC):aE:=⟨(List.range p.rows.length).map (fun (i:Nat)=>((p.q.length+i:Nat):Int)),upto p.q.length,p.rows.map (List.map aN),p.b.map aN,p.q.map aN,aN 0⟩
def kD {n:Int}(h: -99<=n/\n<=99):aR (aN n)=true:=by
 have e:Int.gcd n 1=1:=by simp
 simp only[aR,aN,cY,e,aBB,aFI,and_true];exact⟨by decide,qF aGR aGR⟩
def K7 {p:bC}(h:bY p=true):dE (dP p)=true:=by
 obtain⟨b1,b2,b3,b4,b5⟩:=gE h;refine Rx ?_ ?_ ?_ ?_ ?_ ?_
 ·simp only[dP,aAb,List.length_range];exact⟨aGR,aGR,trivial⟩
 ·refine aCS.2 fun i hi=>?_;rw[aEt] at hi;simp only[dP,aEh,aAb,List.length_range] at hi;refine List.any_eq_true.2 ⟨(i:Int),?_,by simp[NZ]⟩;simp only[dP,aCy,aE9,aEt];by_cases hn:i<p.q.length
  ·exact .inr ⟨i,hn,rfl⟩
  exact .inl ⟨i - p.q.length,aGR,aGR⟩
 ·refine aCS.2 fun r hr=>?_;obtain⟨l,hl,rfl⟩:=aE9.1 hr;have hb:=b4 l (aDG _ hl);refine mS.2 ⟨by simp[dP,hb.1],fun x hx=>?_⟩;obtain⟨n,hn,rfl⟩:=aE9.1 hx;have:=hb.2 n hn;exact kD aGR
 ·refine mS.2 ⟨by simp[dP,b3],fun x hx=>?_⟩;obtain⟨n,hn,rfl⟩:=aE9.1 hx;have:=b5 n hn;exact kD aGR
 ·refine mS.2 ⟨by simp[dP],fun x hx=>?_⟩;obtain⟨n,hn,rfl⟩:=aE9.1 hx;have:=(b4 p.q (by simp)).2 n hn;exact kD aGR
 exact kD aGR
def Nd (p:bC):(dP p).c.length=p.rows.length/\(dP p).r.length=p.q.length:=by simp[dP]
def fU (p:bC):aE × Bool:=if bY p=true then (dP p,true) else (Bw,false)
def Bx {p:bC}(h:bY p=true):fU p=(dP p,true):=by rw[fU,if_pos h]
def PQ {p:bC}(h:bY p=false):fU p=(Bw,false):=by rw[fU,if_neg (by rw[h];decide)]
def fV:Nat->aE->aE × Bool
 | 0,_=>(Bw,false)
 | f+1,d=>if eX d<0 then (d,true) else if gG d (eX d).toNat<0 then (Bw,false) else if (fT d (gG d (eX d).toNat).toNat (eX d).toNat).2=true then fV f (fT d (gG d (eX d).toNat).toNat (eX d).toNat).1 else (Bw,false)
def K8 {d:aE}{n s:Nat}(hs:s<n)(h:eX d<0):fV (n - s) d=(d,true):=by
 rw[show n - s=(n - (s+1))+1 by omega,fV,if_pos h]
def Nf {d:aE}{n s:Nat}(hs:s<n)(h: ¬eX d<0)(h2:gG d (eX d).toNat<0):fV (n - s) d=(Bw,false):=by
 rw[show n - s=(n - (s+1))+1 by omega,fV,if_neg h,if_pos h2]
def Ng {d:aE}{n s:Nat}(hs:s<n)(h: ¬eX d<0)(h2: ¬gG d (eX d).toNat<0)(h3:(fT d (gG d (eX d).toNat).toNat (eX d).toNat).2=false):fV (n - s) d=(Bw,false):=by
 rw[show n - s=(n - (s+1))+1 by omega,fV,if_neg h,if_neg h2,if_neg (by rw[h3];decide)]
def K9 {d:aE}{n s:Nat}(hs:s<n)(h: ¬eX d<0)(h2: ¬gG d (eX d).toNat<0)(h3:(fT d (gG d (eX d).toNat).toNat (eX d).toNat).2=true):fV (n - s) d=fV (n - (s+1)) (fT d (gG d (eX d).toNat).toNat (eX d).toNat).1:=by
 rw[show n - s=(n - (s+1))+1 by omega,fV,if_neg h,if_neg h2,if_pos h3]
def Tt {d:aE}{n s:Nat}(hs:s+1=n)(h: ¬eX d<0):fV (n - s) d=(Bw,false):=by
 rw[show n - s=0+1 by omega,fV,if_neg h];split
 ·rfl
 split<;>rfl
def nW (d:aE)(n:Nat):Nat->List aB
 | 0=>List.replicate n (aN 0)
 | i+1=>if d.c.getD i 0<n then (nW d n i).set (d.c.getD i 0).toNat (d.b.getD i zR) else nW d n i
def lI (d:aE)(n m:Nat):Nat->List aB
 | 0=>List.replicate m (aN 0)
 | k+1=>if (n:Int)<=d.r.getD k 0 then (lI d n m k).set (d.r.getD k 0 - n).toNat (eK (d.s.getD k zR)) else lI d n m k
theorem Nh (d:aE)(n:Nat): ∀k,(nW d n k).length=n
 | 0=>by simp[nW]
 | k+1=>by rw[nW];split<;>simp[Nh d n k]
theorem Cr (d:aE)(n m:Nat): ∀k,(lI d n m k).length=m
 | 0=>by simp[lI]
 | k+1=>by rw[lI];split<;>simp[Cr d n m k]
def LA:tX:=⟨⟨0,0⟩,[],[]⟩
def aEm (d:aE)(n m:Nat):tX:=⟨d.value,nW d n d.c.length,lI d n m d.r.length⟩
def dV (p:bC):tX × Bool:=if bY p=true/\(fV 300 (dP p)).2=true then (aEm (fV 300 (dP p)).1 p.q.length p.rows.length,true) else (LA,false)
def VS {p:bC}(h:bY p=false):dV p=(LA,false):=by rw[dV,if_neg (by rw[h];simp)]
def yI {p:bC}(h:fV 300 (dP p)=(Bw,false)):dV p=(LA,false):=by rw[dV,h,if_neg (by simp)]
def R2 {p:bC}{d:aE}(h:bY p=true)(h2:fV 300 (dP p)=(d,true)):dV p=(aEm d p.q.length p.rows.length,true):=by rw[dV,h2,if_pos ⟨h,rfl⟩]
def XM {α:Type}{p:α->Bool}{l:List α}{k:Nat}{x:α}(h:l[k]? =some x)(hp:p x=true):l.any p=true:=List.any_eq_true.2 ⟨x,aBD h,hp⟩
def XN {α:Type}{p:α->Bool}{l:List α}{k:Nat}{x:α}(h:l[k]? =some x)(ha:(l.take k).any p=false)(hp:p x=false):(l.take (k+1)).any p=false:=by
 rw[List.take_add_one,h];simp[ha,hp]
def XO {α:Type}{p:α->Bool}{l:List α}{k:Nat}(hge:l.length<=k)(ha:(l.take k).any p=false):l.any p=false:=by rwa [aCR hge] at ha
def upN {p:Nat->Prop}{k:Nat}(ha: ∀i,i<k->p i)(h:p k): ∀i,i<k+1->p i:=by
 intro i hi;rcases Nat.lt_or_eq_of_le (Nat.le_of_lt_succ hi) with h' | rfl
 ·exact ha i h'
 exact h
def aC7 {l:Z}{n:Nat}(hn:l.length<=n)(h: ∀i,i<n->l.any (NZ (i:Nat))=true):tK l=true:=aCS.2 fun i hi=>h i (by rw[aEt] at hi;omega)
def aC8 {l:Z}{k:Nat}(hk:k<l.length)(h:l.any (NZ (k:Nat))=false):tK l=false:=by
 cases e:tK l with
 | false=>rfl
 | true=>rw[aCS.1 e k (aEt.2 hk)] at h;cases h
abbrev Hk (l:Z)(n:Int):Prop:=Cn 112 [.one (.sl 3 1 (l.map intD)),.one (.int .i64 n)] (vB (l.any (NZ n))) []
def XP (l:Z)(n:Int):Hk l n:=by
 refine cq Tryz.func112 (.loop Nat (Q1 Nat) (rg 5 13) [] (fun k=>[(5,vI (k:Int))]) (fun k=>[]) (fun k=>k<=l.length/\(l.take k).any (NZ n)=false) (fun k=>l.length - k) (fun k=> .len l.length<| .br (.elem _ intD l (fun e14=> .br (.fin []) (.back []))) (.fin []))) (p:=Lx (l.map intD)<| (∃(k:Nat),0=(k:Int)/\k<=l.length/\(l.take k).any (NZ n)=false)/\ ∀(k:Nat),(k<=l.length/\(l.take k).any (NZ n)=false)->Lm intD l/\Br ((k:Int)<(l.length:Int)) (0<=(k:Int)/\Em intD l k fun e14=>Br (e14=n) ((true)=(l.any (NZ n))/\True) (bO ((k:Int)+1)/\ ∃(k' :Nat),((k:Int)+1)=(k' :Int)/\(k' <=l.length/\(l.take k').any (NZ n)=false)/\l.length - k' <l.length - k)) ((false)=(l.any (NZ n))/\True)) ?_;refine lx fun n0=>?_;refine⟨⟨0,rfl,aBC _,rfl⟩,fun k ⟨hk,ha⟩=>?_⟩;refine⟨aAb _,dd (fun c0=>?_) fun c0=>?_⟩
 ·refine⟨aGR,rfl,aGR,fun e14 h14=>?_⟩;apply dd<;>intro c1
  ·apply et1
   ·(rw[XM h14 (decide_eq_true c1)];done)
  ·refine⟨aGS,?_⟩;exact⟨k+1,rfl,⟨aGR,XN h14 ha (decide_eq_false c1)⟩,aGR⟩
 ·apply et1
  ·(rw[XO aGR ha];done)
abbrev wN (l:List aB):Prop:=Cn 137 [.one (.sl 40 2 (l.map aA))] (vB (l.all aR)) []
def Gc (l:List aB):wN l:=by
 refine cq Tryz.func137 (.loop Nat (Q1 Nat) (rg 3 13) [] (fun k=>[(3,vI (k:Int))]) (fun k=>[]) (fun k=>k<=l.length/\(l.take k).all aR=true) (fun k=>l.length - k) (fun k=> .len l.length<| .br (.elem _ aA l (fun e12=> .call (vB (aR e12)) []<| .br (.fin []) (.back []))) (.fin []))) (p:=Lx (l.map aA)<| (∃(k:Nat),0=(k:Int)/\k<=l.length/\(l.take k).all aR=true)/\ ∀(k:Nat),(k<=l.length/\(l.take k).all aR=true)->Lm aA l/\Br ((k:Int)<(l.length:Int)) (0<=(k:Int)/\Em aA l k fun e12=>gD e12/\Nr (aR e12) ((false)=(l.all aR)/\True) (bO ((k:Int)+1)/\ ∃(k' :Nat),((k:Int)+1)=(k' :Int)/\(k' <=l.length/\(l.take k').all aR=true)/\l.length - k' <l.length - k)) ((true)=(l.all aR)/\True)) ?_;refine lx fun n0=>?_;refine⟨⟨0,rfl,aBC _,rfl⟩,fun k ⟨hk,ha⟩=>?_⟩;refine⟨aAb _,dd (fun c0=>?_) fun c0=>?_⟩
 ·refine⟨aGR,rfl,aGR,fun e12 h12=>?_⟩;refine⟨kN e12,dm (fun c1=>?_) fun c1=>?_⟩
  ·apply et1
   ·(rw[eT h12 c1];done)
  ·refine⟨aGS,?_⟩;exact⟨k+1,rfl,⟨aGR,cL h12 ha c1⟩,aGR⟩
 ·apply et1
  ·(rw[dD aGR ha];done)
def tE {d:aE}(h: ¬((d.c.length:Int)<=64/\(1<=(d.r.length:Int)/\(d.r.length:Int)<=15)/\(d.u.length:Int)=d.c.length/\(d.b.length:Int)=d.c.length/\(d.s.length:Int)=d.r.length)):dE d=false:=by
 cases e:dE d with
 | false=>rfl
 | true=>
   obtain⟨b1,b2,b3,_,_,b6,b7,_⟩:=fP e;exact absurd ⟨aGR,aGR,aGR,aGR,aGR⟩ h
def XQ {d:aE}(h:(d.c.length:Int)<=64/\(1<=(d.r.length:Int)/\(d.r.length:Int)<=15)/\(d.u.length:Int)=d.c.length)(h1:tK (d.c++d.r)=true)(h2:d.u.all (fun r=>jM r d.r.length)=true)(h3:jM d.b d.c.length=true)(h4:jM d.s d.r.length=true):dE d=aR d.value:=by
 simp only[dE,h1,h2,h3,h4,decide_eq_true h.1,decide_eq_true h.2.1,decide_eq_true h.2.2,Bool.true_and]
abbrev aG0(x:aE):Ar:=.agg [.sl 3 1 (x.c.map intD),.sl 3 1 (x.r.map intD),.sl 41 1 (x.u.map aG),.sl 40 2 (x.b.map aA),.sl 40 2 (x.s.map aA),.int .i64 x.value.num,.int .i64 x.value.den]
abbrev AE (d:aE):Prop:=Cn 93 [aG0 d] (vB (dE d)) []
abbrev aGy(x:aE)(p:Prop):Prop:=Lx (x.c.map intD)<| Lx (x.r.map intD)<| Lx (x.u.map aG)<| Lx (x.b.map aA)<| Lx (x.s.map aA)<| p
def LB (d:aE)(h0:d.c.length<=1048576)(h1:d.r.length<=1048576):AE d:=by
 refine cq Tryz.func93 (.len d.c.length<| .len d.r.length<| .br (.fin []) (.call (vB (decide (1<=(d.r.length:Int)/\(d.r.length:Int)<=15))) []<| aGQ<| .br (.fin []) (.len d.u.length<| aGP<| .br (.fin []) (.len d.b.length<| aGP<| .br (.fin []) (.len d.s.length<| aGP<| .br (.fin []) (.app Int intD ([]:Z) d.c<| .app Int intD (([]:Z)++d.c) d.r<| .loop Nat (Q1 Nat) ([6]++rg 49 11) [] (fun k=>[(6,vI (k:Int))]) (fun k=>[]) (fun k=>k<=d.c.length+d.r.length/\(∀i,i<k->((([]:Z)++d.c)++d.r).any (NZ (i:Nat))=true)) (fun k=>d.c.length+d.r.length - k) (fun k=> .br (.call (vB (((([]:Z)++d.c)++d.r).any (NZ (k:Int)))) []<| .br (.fin []) (.back [])) (.loop Nat (Q1 Nat) ([7]++rg 60 22) [] (fun j=>[(7,vI (j:Int))]) (fun j=>[]) (fun j=>j<=d.c.length/\(d.u.take j).all (fun r=>jM r d.r.length)=true) (fun j=>d.c.length - j) (fun j=> .br (.elem _ aG d.u (fun e68=> .len e68.length<| .br (.fin []) (.elem _ aG d.u (fun e77=> .call (vB (e77.all aR)) []<| aGQ<| .br (.fin []) (.back []))))) (.call (vB (d.b.all aR)) []<| .br (.call (vB (d.s.all aR)) []<| .lit<| .br (.call (vB (aR d.value)) []<| .fin []) (.fin [])) (.fin []))))))))))) (p:=aGy d<| Lm intD d.c/\(Lm intD d.r/\Br (64<(d.c.length:Int)) ((false)=(dE d)/\True) (gC (d.r.length:Int) (1:Int) (15:Int)/\Nb (1<=(d.r.length:Int)/\(d.r.length:Int)<=15) ((false)=(dE d)/\True) (Lm aG d.u/\Nb ((d.u.length:Int)=(d.c.length:Int)) ((false)=(dE d)/\True) (Lm aA d.b/\Nb ((d.b.length:Int)=(d.c.length:Int)) ((false)=(dE d)/\True) (Lm aA d.s/\Nb ((d.s.length:Int)=(d.r.length:Int)) ((false)=(dE d)/\True) (Ap intD ([]:Z) d.c 8 (Ap intD (([]:Z)++d.c) d.r 8 ((∃(k:Nat),0=(k:Int)/\k<=d.c.length+d.r.length/\(∀i,i<k->((([]:Z)++d.c)++d.r).any (NZ (i:Nat))=true))/\ ∀(k:Nat),(k<=d.c.length+d.r.length/\(∀i,i<k->((([]:Z)++d.c)++d.r).any (NZ (i:Nat))=true))->bO ((d.c.length:Int)+(d.r.length:Int))/\Br ((k:Int)<((d.c.length:Int)+(d.r.length:Int))) (Hk ((([]:Z)++d.c)++d.r) (k:Int)/\Nr (((([]:Z)++d.c)++d.r).any (NZ (k:Int))) ((false)=(dE d)/\True) (bO ((k:Int)+1)/\ ∃(k' :Nat),((k:Int)+1)=(k' :Int)/\(k' <=d.c.length+d.r.length/\(∀i,i<k' ->((([]:Z)++d.c)++d.r).any (NZ (i:Nat))=true))/\d.c.length+d.r.length - k' <d.c.length+d.r.length - k)) ((∃(j:Nat),0=(j:Int)/\j<=d.c.length/\(d.u.take j).all (fun r=>jM r d.r.length)=true)/\ ∀(j:Nat),(j<=d.c.length/\(d.u.take j).all (fun r=>jM r d.r.length)=true)->Br ((j:Int)<(d.c.length:Int)) (0<=(j:Int)/\Em aG d.u j fun e68=>Lm aA e68/\Nb ((e68.length:Int)=(d.r.length:Int)) ((false)=(dE d)/\True) (0<=(j:Int)/\Em aG d.u j fun e77=>wN e77/\Nr (e77.all aR) ((false)=(dE d)/\True) (bO ((j:Int)+1)/\ ∃(j' :Nat),((j:Int)+1)=(j' :Int)/\(j' <=d.c.length/\(d.u.take j').all (fun r=>jM r d.r.length)=true)/\d.c.length - j' <d.c.length - j))) (wN d.b/\Bb (d.b.all aR) (wN d.s/\Bb (d.s.all aR) (gD d.value/\(aR d.value)=(dE d)/\True) ((false)=(dE d)/\True)) ((false)=(dE d)/\True)))))))))))) ?_;refine lx fun n0=>lx fun n1=>lx fun n2=>lx fun n3=>lx fun n4=>?_;refine⟨aAb _,aAb _,dd (fun g16=>?_) fun g16=>?_⟩
 ·apply et1
  ·(exact(tE aGR).symm)
 ·refine⟨kM _ _ _,dn (fun g21=>?_) fun g21=>?_⟩
  ·apply et1
   ·(exact(tE aGR).symm)
  ·refine⟨aAb _,dn (fun g28=>?_) fun g28=>?_⟩
   ·apply et1
    ·(exact(tE aGR).symm)
   ·refine⟨aAb _,dn (fun g35=>?_) fun g35=>?_⟩
    ·apply et1
     ·(exact(tE aGR).symm)
    ·refine⟨aAb _,dn (fun c0=>?_) fun c0=>?_⟩
     ·apply et1
      ·(exact(tE aGR).symm)
     ·refine ap ?_ (fun _=>rfl) (by (simp;omega));refine ap ?_ (fun _=>rfl) (by (simp;omega));refine⟨⟨0,rfl,aBC _,fun i h=>absurd h (Nat.not_lt_zero _)⟩,fun k ⟨hk,ha⟩=>?_⟩;refine⟨aGS,dd (fun c1=>?_) fun c1=>?_⟩
      ·refine⟨XP ((([]:Z)++d.c)++d.r) (k:Int),dm (fun c2=>?_) fun c2=>?_⟩
       ·apply et1
        ·(exact(Tm (aC8 (k:=k) (by simp;omega) c2)).symm)
       ·refine⟨aGS,?_⟩;exact⟨k+1,rfl,⟨aGR,upN (p:=fun i=>((([]:Z)++d.c)++d.r).any (NZ (i:Nat))=true) ha c2⟩,aGR⟩
      ·have hp:tK (d.c++d.r)=true:=aC7 (n:=k) (by simp;omega) ha;refine⟨⟨0,rfl,aBC _,rfl⟩,fun j ⟨hj,hb⟩=>?_⟩;apply dd<;>intro c3
       ·refine⟨aGR,rfl,aGR,fun e68 h68=>?_⟩;refine⟨aAb _,dn (fun g73=>?_) fun g73=>?_⟩
        ·apply et1
         ·(exact(K4 h68 (Tp aGR)).symm)
        ·refine⟨aGR,rfl,aGR,fun e77 h77=>?_⟩;obtain rfl:=(bE h68 h77).symm;refine⟨Gc _,dm (fun c4=>?_) fun c4=>?_⟩
         ·apply et1
          ·(exact(K4 h68 (D9 c4)).symm)
         ·refine⟨aGS,?_⟩;exact⟨j+1,rfl,⟨aGR,cL h68 hb (GZ g73 c4)⟩,aGR⟩
       ·have hcl:=dD aGR hb;refine⟨Gc _,db (fun g85=>?_) fun g85=>?_⟩
        ·refine⟨Gc _,db (fun g90=>?_) fun g90=>?_⟩
         ·refine⟨kN d.value,?_,trivial⟩
          ·(exact(XQ aGR hp hcl (GZ aGR g85) (GZ aGR g90)).symm)
         ·apply et1
          ·(exact(Rw (D9 g90)).symm)
        ·apply et1
         ·(exact(Tn (D9 g85)).symm)
def R3 {d:aE}{k:Nat}{b:Int}{x:aB}(hb:b=mF d k)(hx:d.s[k]? =some x)(h: ¬0<x.num):b=mF d (k+1):=VO hb (by rw[Bu,bD hx,decide_eq_false h];rfl)
def R4 {d:aE}{k:Nat}{b:Int}{x:aB}(hb:b=mF d k)(hx:d.s[k]? =some x)(h:0<x.num)(h2:b<0):(k:Int)=mF d (k+1):=Ry hb (by rw[Bu,bD hx,decide_eq_true h,decide_eq_true h2];rfl)
def Ni {d:aE}{k:Nat}{b y z:Int}{x:aB}(hb:b=mF d k)(hx:d.s[k]? =some x)(h:0<x.num)(hy:d.r[k]? =some y)(hz:d.r[b.toNat]? =some z)(h2:y<z):(k:Int)=mF d (k+1):=Ry hb (by rw[Bu,bD hx,bD hy,bD hz,decide_eq_true h,decide_eq_true h2,Bool.or_true];rfl)
def R5 {d:aE}{k:Nat}{b y z:Int}{x:aB}(hb:b=mF d k)(hx:d.s[k]? =some x)(h1: ¬b<0)(hy:d.r[k]? =some y)(hz:d.r[b.toNat]? =some z)(h2: ¬y<z):b=mF d (k+1):=VO hb (by rw[Bu,bD hx,bD hy,bD hz,decide_eq_false h1,decide_eq_false h2,Bool.or_false,Bool.and_false])
def aC9 {d:aE}(h:dE d=false):mI d= -1:=by rw[mI,if_neg (by rw[h];decide)]
def R6 {d:aE}(h:dE d=true):mI d=eX d:=by rw[mI,if_pos h]
def VT {d:aE}{k:Nat}{b:Int}(hb:b=mF d k)(h:d.r.length=k):eX d=b:=by rw[eX,h,hb]
abbrev EA (d:aE):Prop:=Cn 39 [aG0 d] (vI (eX d)) []
def R7 (d:aE)(hd:dE d=true):EA d:=by
 refine cq Tryz.func39 (.len d.s.length<| .loop (Nat × Int) (Q2 Nat Int) ([3,4,5]++rg 9 27) [500] (fun yy0=>[(9,vI (yy0.1:Int)),(3,vI yy0.2)]) (fun yy0=>[]) (fun yy0=>yy0.1<=d.r.length/\yy0.2=mF d yy0.1) (fun yy0=>d.r.length - yy0.1) (fun yy0=> .br (.elem _ aA d.s (fun e12=> .br (aGQ<| .br (.back []) (.elem _ intD d.r (fun e24=> .elem _ intD d.r (fun e29=> aGN<| .br (.back []) (.back []))))) (.back []))) (.fin []))) (p:=aGy d<| Lm aA d.s/\((∃(k:Nat) (b:Int),0=(k:Int)/\(-1:Int)=b/\k<=d.r.length/\b=mF d k)/\ ∀(k:Nat) (b:Int),(k<=d.r.length/\b=mF d k)->Br ((k:Int)<(d.s.length:Int)) (0<=(k:Int)/\Em aA d.s k fun e12=>Br (0<e12.num) (Br (b<0) (bO ((k:Int)+1)/\ ∃(k' :Nat) (b' :Int),((k:Int)+1)=(k' :Int)/\(k:Int)=b' /\(k' <=d.r.length/\b' =mF d k')/\d.r.length - k' <d.r.length - k) (0<=(k:Int)/\Em intD d.r k fun e24=>0<=b/\Em intD d.r ((b).toNat) fun e29=>Br (e24<e29) (bO ((k:Int)+1)/\ ∃(k' :Nat) (b' :Int),((k:Int)+1)=(k' :Int)/\(k:Int)=b' /\(k' <=d.r.length/\b' =mF d k')/\d.r.length - k' <d.r.length - k) (bO ((k:Int)+1)/\ ∃(k' :Nat) (b' :Int),((k:Int)+1)=(k' :Int)/\b=b' /\(k' <=d.r.length/\b' =mF d k')/\d.r.length - k' <d.r.length - k))) (bO ((k:Int)+1)/\ ∃(k' :Nat) (b' :Int),((k:Int)+1)=(k' :Int)/\b=b' /\(k' <=d.r.length/\b' =mF d k')/\d.r.length - k' <d.r.length - k)) (b=(eX d)/\True))) ?_;refine lx fun n0=>lx fun n1=>lx fun n2=>lx fun n3=>lx fun n4=>?_;obtain⟨b1,b2,b3,b4,b5,b6,b7,b8⟩:=fP hd;refine⟨aAb _,⟨0,-1,rfl,rfl,aBC _,rfl⟩,fun k b ⟨hk,hb⟩=>?_⟩;apply dd<;>intro c0
 ·have eb:=yH d k;refine⟨aGR,rfl,aGR,fun e12 h12=>?_⟩;apply dd<;>intro g17
  ·apply dd<;>intro g20
   ·refine⟨aGS,?_⟩;exact⟨k+1,(k:Int),rfl,rfl,⟨aGR,by exact R4 hb h12 g17 g20⟩,aGR⟩
   ·refine⟨aGR,rfl,aGR,fun e24 h24=>?_⟩;refine⟨aGR,rfl,aGR,fun e29 h29=>?_⟩;apply dd<;>intro c1
    ·refine⟨aGS,?_⟩;exact⟨k+1,(k:Int),rfl,rfl,⟨aGR,by exact Ni hb h12 g17 h24 h29 c1⟩,aGR⟩
    ·refine⟨aGS,?_⟩;exact⟨k+1,b,rfl,rfl,⟨aGR,by exact R5 hb h12 g20 h24 h29 c1⟩,aGR⟩
  ·refine⟨aGS,?_⟩;exact⟨k+1,b,rfl,rfl,⟨aGR,by exact R3 hb h12 g17⟩,aGR⟩
 ·apply et1
  ·(rw[VT hb aGR];done)
abbrev LC (d:aE):Prop:=Cn 48 [aG0 d] (vI (mI d)) []
def aAN (d:aE)(h0:d.c.length<=1048576)(h1:d.r.length<=1048576):LC d:=by
 refine cq Tryz.func48 (.call (vB (dE d)) []<| .br (.fin []) (.loop (Nat × Int) (Q2 Nat Int) ([3,4]++rg 8 32) [] (fun yy0=>[(4,vI (yy0.1:Int)),(3,vI yy0.2)]) (fun yy0=>[]) (fun yy0=>yy0.1<=d.r.length/\yy0.2=mF d yy0.1) (fun yy0=>d.r.length - yy0.1) (fun yy0=> .len d.r.length<| .br (.elem _ aA d.s (fun e18=> .br (aGQ<| .br (.back []) (.elem _ intD d.r (fun e29=> .elem _ intD d.r (fun e34=> aGN<| .br (.back []) (.back []))))) (.back []))) (.fin [])))) (p:=aGy d<| AE d/\Nr (dE d) ((-1:Int)=(mI d)/\True) ((∃(k:Nat) (b:Int),0=(k:Int)/\(-1:Int)=b/\k<=d.r.length/\b=mF d k)/\ ∀(k:Nat) (b:Int),(k<=d.r.length/\b=mF d k)->Lm intD d.r/\Br ((k:Int)<(d.r.length:Int)) (0<=(k:Int)/\Em aA d.s k fun e18=>Br (0<e18.num) (Br (b<0) (bO ((k:Int)+1)/\ ∃(k' :Nat) (b' :Int),((k:Int)+1)=(k' :Int)/\(k:Int)=b' /\(k' <=d.r.length/\b' =mF d k')/\d.r.length - k' <d.r.length - k) (0<=(k:Int)/\Em intD d.r k fun e29=>0<=b/\Em intD d.r ((b).toNat) fun e34=>Br (e29<e34) (bO ((k:Int)+1)/\ ∃(k' :Nat) (b' :Int),((k:Int)+1)=(k' :Int)/\(k:Int)=b' /\(k' <=d.r.length/\b' =mF d k')/\d.r.length - k' <d.r.length - k) (bO ((k:Int)+1)/\ ∃(k' :Nat) (b' :Int),((k:Int)+1)=(k' :Int)/\b=b' /\(k' <=d.r.length/\b' =mF d k')/\d.r.length - k' <d.r.length - k))) (bO ((k:Int)+1)/\ ∃(k' :Nat) (b' :Int),((k:Int)+1)=(k' :Int)/\b=b' /\(k' <=d.r.length/\b' =mF d k')/\d.r.length - k' <d.r.length - k)) (b=(mI d)/\True))) ?_;refine lx fun n0=>lx fun n1=>lx fun n2=>lx fun n3=>lx fun n4=>?_;refine⟨LB d aGR aGR,dm (fun c0=>?_) fun c0=>?_⟩
 ·apply et1
  ·(rw[aC9 c0];done)
 ·have hd:dE d=true:=c0;obtain⟨b1,b2,b3,b4,b5,b6,b7,b8⟩:=fP hd;refine⟨⟨0,-1,rfl,rfl,aBC _,rfl⟩,fun k b ⟨hk,hb⟩=>?_⟩;refine⟨aAb _,dd (fun c1=>?_) fun c1=>?_⟩
  ·have eb:=yH d k;refine⟨aGR,rfl,aGR,fun e18 h18=>?_⟩;apply dd<;>intro g22
   ·apply dd<;>intro g25
    ·refine⟨aGS,?_⟩;exact⟨k+1,(k:Int),rfl,rfl,⟨aGR,by exact R4 hb h18 g22 g25⟩,aGR⟩
    ·refine⟨aGR,rfl,aGR,fun e29 h29=>?_⟩;refine⟨aGR,rfl,aGR,fun e34 h34=>?_⟩;apply dd<;>intro c2
     ·refine⟨aGS,?_⟩;exact⟨k+1,(k:Int),rfl,rfl,⟨aGR,by exact Ni hb h18 g22 h29 h34 c2⟩,aGR⟩
     ·refine⟨aGS,?_⟩;exact⟨k+1,b,rfl,rfl,⟨aGR,by exact R5 hb h18 g25 h29 h34 c2⟩,aGR⟩
   ·refine⟨aGS,?_⟩;exact⟨k+1,b,rfl,rfl,⟨aGR,by exact R3 hb h18 g22⟩,aGR⟩
  ·apply et1
   ·(rw[R6 c0,VT hb aGR];done)
def jJ {d:aE}{i j:Nat}{r:List aB}{x:aB}(hr:d.u[i]? =some r)(hx:r[j]? =some x):fQ d i j=x:=by rw[fQ,bD hr,bD hx]
def R8 {d:aE}{j n k:Nat}{b:Int}{l x:aB}{r:List aB}(hk:k<n)(hr:d.u[k]? =some r)(hx:r[j]? =some x)(h:x.num<=0):fA d j (n - k) k b l=fA d j (n - (k+1)) (k+1) b l:=Tq hk (by rw[jJ hr hx];exact h)
def VU {d:aE}{j n k:Nat}{b:Int}{l x m:aB}{r:List aB}(hk:k<n)(hr:d.u[k]? =some r)(hx:r[j]? =some x)(h: ¬x.num<=0)(hm:d.b[k]? =some m)(h2:(aZ m x).2=false):fA d j (n - k) k b l= -1:=XI hk (by rw[jJ hr hx];exact h) (by rw[jJ hr hx,bD hm];exact h2)
def Cs {d:aE}{j n k:Nat}{b:Int}{l x m:aB}{r:List aB}(hk:k<n)(hr:d.u[k]? =some r)(hx:r[j]? =some x)(h: ¬x.num<=0)(hm:d.b[k]? =some m)(h2:(aZ m x).2=true)(h3:nU d b (eB (aZ m x).1 l) k=true):fA d j (n - k) k b l=fA d j (n - (k+1)) (k+1) (k:Int) (aZ m x).1:=by
 have e:=XJ (d:=d) (j:=j) (b:=b) (l:=l) hk (by rw[jJ hr hx];exact h) (by rw[jJ hr hx,bD hm];exact h2) (by rw[jJ hr hx,bD hm];exact h3);rw[e,jJ hr hx,bD hm]
def PR {d:aE}{j n k:Nat}{b:Int}{l x m:aB}{r:List aB}(hk:k<n)(hr:d.u[k]? =some r)(hx:r[j]? =some x)(h: ¬x.num<=0)(hm:d.b[k]? =some m)(h2:(aZ m x).2=true)(h3:nU d b (eB (aZ m x).1 l) k=false):fA d j (n - k) k b l=fA d j (n - (k+1)) (k+1) b l:=aAL hk (by rw[jJ hr hx];exact h) (by rw[jJ hr hx,bD hm];exact h2) (by rw[jJ hr hx,bD hm];exact h3)
def aDW {d:aE}{b c:Int}{k:Nat}(h:b<0):nU d b c k=true:=by rw[nU,decide_eq_true h];rfl
def aDX {d:aE}{b c:Int}{k:Nat}(h:c<0):nU d b c k=true:=by rw[nU,decide_eq_true h];simp
def aDY {d:aE}{b c y z:Int}{k:Nat}(h:c=0)(hy:d.c[k]? =some y)(hz:d.c[b.toNat]? =some z)(h2:y<z):nU d b c k=true:=by rw[nU,decide_eq_true h,bD hy,bD hz,decide_eq_true h2];simp
def aDZ {d:aE}{b c:Int}{k:Nat}(h: ¬b<0)(h1: ¬c<0)(h2: ¬c=0):nU d b c k=false:=by rw[nU,decide_eq_false h,decide_eq_false h1,decide_eq_false h2];rfl
def aD0 {d:aE}{b c y z:Int}{k:Nat}(h: ¬b<0)(h1: ¬c<0)(hy:d.c[k]? =some y)(hz:d.c[b.toNat]? =some z)(h2: ¬y<z):nU d b c k=false:=by rw[nU,decide_eq_false h,decide_eq_false h1,bD hy,bD hz,decide_eq_false h2];simp
def Nj {d:aE}{j k:Nat}{b:Int}{l:aB}(h:d.c.length<=k)(hv:fA d j (d.c.length - k) k b l=gG d j):gG d j=b:=by rw[<-hv,Nat.sub_eq_zero_of_le h,fA]
def LD {d:aE}{j:Int}(h:dE d=true)(hj:0<=j/\j<d.r.length):sB d j=gG d j.toNat:=by rw[sB,if_pos ⟨h,hj⟩]
def aCa {d:aE}{j:Int}(h:dE d=false):sB d j= -1:=by rw[sB,if_neg (by rw[h];simp)]
def aAO {d:aE}{j:Int}(h: ¬(0<=j/\j<d.r.length)):sB d j= -1:=by rw[sB,if_neg (fun q=>h q.2)]
abbrev LF (d:aE)(j:Int):Prop:=Cn 40 [aG0 d,.one (.int .i64 j)] (vI (gG d j.toNat)) []
def aAP (d:aE)(j:Int)(hd:dE d=true)(hj:0<=j/\j<d.r.length):LF d j:=by
 refine cq Tryz.func40 (.len d.c.length<| .loop (Nat × Int × Int × Int) (Q4 Nat Int Int Int) ([5,7,8,9,10]++rg 15 61) [600,800] (fun yy0=>[(15,vI (yy0.1:Int)),(5,vI yy0.2.1)]) (fun yy0=>[(600,some (.box 40 [vI yy0.2.2.1,vI yy0.2.2.2]))]) (fun yy0=>yy0.1<=d.c.length/\(-1<=yy0.2.1/\yy0.2.1<yy0.1)/\fA d j.toNat (d.c.length - yy0.1) yy0.1 yy0.2.1 ⟨yy0.2.2.1,yy0.2.2.2⟩=gG d j.toNat) (fun yy0=>d.c.length - yy0.1) (fun yy0=> .br (.elem _ aG d.u (fun e21=> .elem _ aA e21 (fun e24=> .br (.back [(600,600)]) (.elem _ aA d.b (fun e32=> .elem _ aG d.u (fun e37=> .elem _ aA e37 (fun e40=>bN (zX e32 e40)<| .br (.fin []) (.call (vI (eB ((aZ e32 e40).1) (⟨yy0.2.2.1,yy0.2.2.2⟩:aB))) []<| .br (.back [(600,600)]) (aGQ<| .br (.back [(600,600)]) (aGQ<| .br (.elem _ intD d.c (fun e63=> .elem _ intD d.c (fun e68=> aGN<| .br (.back [(600,600)]) (.back [(600,600)])))) (.back [(600,600)]))))))))))) (.fin []))) (p:=aGy d<| Lm intD d.c/\((∃(k:Nat) (b:Int) (ln:Int) (ld:Int),0=(k:Int)/\(-1:Int)=b/\0=ln/\0=ld/\k<=d.c.length/\(-1<=b/\b<k)/\fA d j.toNat (d.c.length - k) k b ⟨ln,ld⟩=gG d j.toNat)/\ ∀(k:Nat) (b:Int) (ln:Int) (ld:Int),(k<=d.c.length/\(-1<=b/\b<k)/\fA d j.toNat (d.c.length - k) k b ⟨ln,ld⟩=gG d j.toNat)->Br ((k:Int)<(d.c.length:Int)) (0<=(k:Int)/\Em aG d.u k fun e21=>0<=j/\Em aA e21 ((j).toNat) fun e24=>Br (e24.num<=0) (bO ((k:Int)+1)/\ ∃(k' :Nat) (b' :Int) (ln' :Int) (ld' :Int),((k:Int)+1)=(k' :Int)/\b=b' /\ln=ln' /\ld=ld' /\(k' <=d.c.length/\(-1<=b' /\b' <k')/\fA d j.toNat (d.c.length - k') k' b' ⟨ln',ld'⟩=gG d j.toNat)/\d.c.length - k' <d.c.length - k) (0<=(k:Int)/\Em aA d.b k fun e32=>0<=(k:Int)/\Em aG d.u k fun e37=>0<=j/\Em aA e37 ((j).toNat) fun e40=>D5 e32 e40/\Nr ((aZ e32 e40).2) ((-1:Int)=(gG d j.toNat)/\True) (AB ((aZ e32 e40).1) (⟨ln,ld⟩:aB)/\Br (b<0) (bO ((k:Int)+1)/\ ∃(k' :Nat) (b' :Int) (ln' :Int) (ld' :Int),((k:Int)+1)=(k' :Int)/\(k:Int)=b' /\((aZ e32 e40).1.num)=ln' /\((aZ e32 e40).1.den)=ld' /\(k' <=d.c.length/\(-1<=b' /\b' <k')/\fA d j.toNat (d.c.length - k') k' b' ⟨ln',ld'⟩=gG d j.toNat)/\d.c.length - k' <d.c.length - k) (Br ((eB ((aZ e32 e40).1) (⟨ln,ld⟩:aB))<0) (bO ((k:Int)+1)/\ ∃(k' :Nat) (b' :Int) (ln' :Int) (ld' :Int),((k:Int)+1)=(k' :Int)/\(k:Int)=b' /\((aZ e32 e40).1.num)=ln' /\((aZ e32 e40).1.den)=ld' /\(k' <=d.c.length/\(-1<=b' /\b' <k')/\fA d j.toNat (d.c.length - k') k' b' ⟨ln',ld'⟩=gG d j.toNat)/\d.c.length - k' <d.c.length - k) (Br ((eB ((aZ e32 e40).1) (⟨ln,ld⟩:aB))=0) (0<=(k:Int)/\Em intD d.c k fun e63=>0<=b/\Em intD d.c ((b).toNat) fun e68=>Br (e63<e68) (bO ((k:Int)+1)/\ ∃(k' :Nat) (b' :Int) (ln' :Int) (ld' :Int),((k:Int)+1)=(k' :Int)/\(k:Int)=b' /\((aZ e32 e40).1.num)=ln' /\((aZ e32 e40).1.den)=ld' /\(k' <=d.c.length/\(-1<=b' /\b' <k')/\fA d j.toNat (d.c.length - k') k' b' ⟨ln',ld'⟩=gG d j.toNat)/\d.c.length - k' <d.c.length - k) (bO ((k:Int)+1)/\ ∃(k' :Nat) (b' :Int) (ln' :Int) (ld' :Int),((k:Int)+1)=(k' :Int)/\b=b' /\ln=ln' /\ld=ld' /\(k' <=d.c.length/\(-1<=b' /\b' <k')/\fA d j.toNat (d.c.length - k') k' b' ⟨ln',ld'⟩=gG d j.toNat)/\d.c.length - k' <d.c.length - k)) (bO ((k:Int)+1)/\ ∃(k' :Nat) (b' :Int) (ln' :Int) (ld' :Int),((k:Int)+1)=(k' :Int)/\b=b' /\ln=ln' /\ld=ld' /\(k' <=d.c.length/\(-1<=b' /\b' <k')/\fA d j.toNat (d.c.length - k') k' b' ⟨ln',ld'⟩=gG d j.toNat)/\d.c.length - k' <d.c.length - k)))))) (b=(gG d j.toNat)/\True))) ?_;refine lx fun n0=>lx fun n1=>lx fun n2=>lx fun n3=>lx fun n4=>?_;obtain⟨b1,b2,b3,b4,b5,b6,b7,b8⟩:=fP hd;refine⟨aAb _,⟨0,-1,0,0,rfl,rfl,rfl,rfl,aBC _,aGR,rfl⟩,fun k b ln ld ⟨hk,hb,hv⟩=>?_⟩;apply dd<;>intro c0
 ·refine⟨aGR,rfl,aGR,fun e21 h21=>?_⟩;have hrl:=(b5 _ (aBD h21)).1;refine⟨aGR,rfl,aGR,fun e24 h24=>?_⟩;apply dd<;>intro c1
  ·refine⟨aGS,?_⟩;exact⟨k+1,b,ln,ld,rfl,rfl,rfl,rfl,⟨aGR,aGR,by exact(R8 aGR h21 h24 c1).symm.trans hv⟩,aGR⟩
  ·refine⟨aGR,rfl,aGR,fun e32 h32=>?_⟩;refine⟨aGR,rfl,aGR,fun e37 h37=>?_⟩;obtain rfl:=bE h21 h37;refine⟨aGR,rfl,aGR,fun e40 h40=>?_⟩;obtain rfl:=bE h24 h40;refine⟨Rn e32 e40,dm (fun c2=>?_) fun c2=>?_⟩
   ·apply et1
    ·(rw[<-hv,VU aGR h21 h24 c1 h32 c2];done)
   ·refine⟨Ku ((aZ e32 e40).1) (⟨ln,ld⟩:aB),dd (fun g52=>?_) fun g52=>?_⟩
    ·refine⟨aGS,?_⟩;exact⟨k+1,(k:Int),(aZ e32 e40).1.num,(aZ e32 e40).1.den,rfl,rfl,rfl,rfl,⟨aGR,aGR,by exact(Cs aGR h21 h24 c1 h32 c2 (aDW g52)).symm.trans hv⟩,aGR⟩
    ·apply dd<;>intro g56
     ·refine⟨aGS,?_⟩;exact⟨k+1,(k:Int),(aZ e32 e40).1.num,(aZ e32 e40).1.den,rfl,rfl,rfl,rfl,⟨aGR,aGR,by exact(Cs aGR h21 h24 c1 h32 c2 (aDX g56)).symm.trans hv⟩,aGR⟩
     ·apply dd<;>intro g59
      ·refine⟨aGR,rfl,aGR,fun e63 h63=>?_⟩;refine⟨aGR,rfl,aGR,fun e68 h68=>?_⟩;apply dd<;>intro c3
       ·refine⟨aGS,?_⟩;exact⟨k+1,(k:Int),(aZ e32 e40).1.num,(aZ e32 e40).1.den,rfl,rfl,rfl,rfl,⟨aGR,aGR,by exact(Cs aGR h21 h24 c1 h32 c2 (aDY g59 h63 h68 c3)).symm.trans hv⟩,aGR⟩
       ·refine⟨aGS,?_⟩;exact⟨k+1,b,ln,ld,rfl,rfl,rfl,rfl,⟨aGR,aGR,by exact(PR aGR h21 h24 c1 h32 c2 (aD0 g52 g56 h63 h68 c3)).symm.trans hv⟩,aGR⟩
      ·refine⟨aGS,?_⟩;exact⟨k+1,b,ln,ld,rfl,rfl,rfl,rfl,⟨aGR,aGR,by exact(PR aGR h21 h24 c1 h32 c2 (aDZ g52 g56 g59)).symm.trans hv⟩,aGR⟩
 ·apply et1
  ·(rw[Nj aGR hv];done)
abbrev LG (d:aE)(j:Int):Prop:=Cn 50 [aG0 d,.one (.int .i64 j)] (vI (sB d j)) []
def aAQ (d:aE)(j:Int)(h0:d.c.length<=1048576)(h1:d.r.length<=1048576):LG d j:=by
 refine cq Tryz.func50 (.call (vB (dE d)) []<| .br (.fin []) (.len d.r.length<| .call (vB (decide (0<=j/\j<=((d.r.length:Int) - 1)))) []<| aGQ<| .br (.fin []) (.loop (Nat × Int × Int × Int) (Q4 Nat Int Int Int) ([5,7,8,9,10]++rg 24 64) [600,800] (fun yy0=>[(7,vI (yy0.1:Int)),(5,vI yy0.2.1)]) (fun yy0=>[(600,some (.box 40 [vI yy0.2.2.1,vI yy0.2.2.2]))]) (fun yy0=>yy0.1<=d.c.length/\(-1<=yy0.2.1/\yy0.2.1<yy0.1)/\fA d j.toNat (d.c.length - yy0.1) yy0.1 yy0.2.1 ⟨yy0.2.2.1,yy0.2.2.2⟩=gG d j.toNat) (fun yy0=>d.c.length - yy0.1) (fun yy0=> .len d.c.length<| .br (.elem _ aG d.u (fun e34=> .elem _ aA e34 (fun e37=> .br (.back [(600,600)]) (.elem _ aA d.b (fun e45=> .elem _ aG d.u (fun e50=> .elem _ aA e50 (fun e53=>bN (rX e45 e53)<| .br (.fin []) (.call (vI (eB ((aZ e45 e53).1) (⟨yy0.2.2.1,yy0.2.2.2⟩:aB))) []<| .br (.back [(600,600)]) (aGQ<| .br (.back [(600,600)]) (aGQ<| .br (.elem _ intD d.c (fun e76=> .elem _ intD d.c (fun e81=> aGN<| .br (.back [(600,600)]) (.back [(600,600)])))) (.back [(600,600)]))))))))))) (.fin []))))) (p:=aGy d<| AE d/\Nr (dE d) ((-1:Int)=(sB d j)/\True) (Lm intD d.r/\(bO ((d.r.length:Int) - 1)/\(gC j (0:Int) ((d.r.length:Int) - 1)/\Nb (0<=j/\j<=((d.r.length:Int) - 1)) ((-1:Int)=(sB d j)/\True) ((∃(k:Nat) (b:Int) (ln:Int) (ld:Int),0=(k:Int)/\(-1:Int)=b/\0=ln/\0=ld/\k<=d.c.length/\(-1<=b/\b<k)/\fA d j.toNat (d.c.length - k) k b ⟨ln,ld⟩=gG d j.toNat)/\ ∀(k:Nat) (b:Int) (ln:Int) (ld:Int),(k<=d.c.length/\(-1<=b/\b<k)/\fA d j.toNat (d.c.length - k) k b ⟨ln,ld⟩=gG d j.toNat)->Lm intD d.c/\Br ((k:Int)<(d.c.length:Int)) (0<=(k:Int)/\Em aG d.u k fun e34=>0<=j/\Em aA e34 ((j).toNat) fun e37=>Br (e37.num<=0) (bO ((k:Int)+1)/\ ∃(k' :Nat) (b' :Int) (ln' :Int) (ld' :Int),((k:Int)+1)=(k' :Int)/\b=b' /\ln=ln' /\ld=ld' /\(k' <=d.c.length/\(-1<=b' /\b' <k')/\fA d j.toNat (d.c.length - k') k' b' ⟨ln',ld'⟩=gG d j.toNat)/\d.c.length - k' <d.c.length - k) (0<=(k:Int)/\Em aA d.b k fun e45=>0<=(k:Int)/\Em aG d.u k fun e50=>0<=j/\Em aA e50 ((j).toNat) fun e53=>vL e45 e53/\Nr ((aZ e45 e53).2) ((-1:Int)=(sB d j)/\True) (Kv ((aZ e45 e53).1) (⟨ln,ld⟩:aB)/\Br (b<0) (bO ((k:Int)+1)/\ ∃(k' :Nat) (b' :Int) (ln' :Int) (ld' :Int),((k:Int)+1)=(k' :Int)/\(k:Int)=b' /\((aZ e45 e53).1.num)=ln' /\((aZ e45 e53).1.den)=ld' /\(k' <=d.c.length/\(-1<=b' /\b' <k')/\fA d j.toNat (d.c.length - k') k' b' ⟨ln',ld'⟩=gG d j.toNat)/\d.c.length - k' <d.c.length - k) (Br ((eB ((aZ e45 e53).1) (⟨ln,ld⟩:aB))<0) (bO ((k:Int)+1)/\ ∃(k' :Nat) (b' :Int) (ln' :Int) (ld' :Int),((k:Int)+1)=(k' :Int)/\(k:Int)=b' /\((aZ e45 e53).1.num)=ln' /\((aZ e45 e53).1.den)=ld' /\(k' <=d.c.length/\(-1<=b' /\b' <k')/\fA d j.toNat (d.c.length - k') k' b' ⟨ln',ld'⟩=gG d j.toNat)/\d.c.length - k' <d.c.length - k) (Br ((eB ((aZ e45 e53).1) (⟨ln,ld⟩:aB))=0) (0<=(k:Int)/\Em intD d.c k fun e76=>0<=b/\Em intD d.c ((b).toNat) fun e81=>Br (e76<e81) (bO ((k:Int)+1)/\ ∃(k' :Nat) (b' :Int) (ln' :Int) (ld' :Int),((k:Int)+1)=(k' :Int)/\(k:Int)=b' /\((aZ e45 e53).1.num)=ln' /\((aZ e45 e53).1.den)=ld' /\(k' <=d.c.length/\(-1<=b' /\b' <k')/\fA d j.toNat (d.c.length - k') k' b' ⟨ln',ld'⟩=gG d j.toNat)/\d.c.length - k' <d.c.length - k) (bO ((k:Int)+1)/\ ∃(k' :Nat) (b' :Int) (ln' :Int) (ld' :Int),((k:Int)+1)=(k' :Int)/\b=b' /\ln=ln' /\ld=ld' /\(k' <=d.c.length/\(-1<=b' /\b' <k')/\fA d j.toNat (d.c.length - k') k' b' ⟨ln',ld'⟩=gG d j.toNat)/\d.c.length - k' <d.c.length - k)) (bO ((k:Int)+1)/\ ∃(k' :Nat) (b' :Int) (ln' :Int) (ld' :Int),((k:Int)+1)=(k' :Int)/\b=b' /\ln=ln' /\ld=ld' /\(k' <=d.c.length/\(-1<=b' /\b' <k')/\fA d j.toNat (d.c.length - k') k' b' ⟨ln',ld'⟩=gG d j.toNat)/\d.c.length - k' <d.c.length - k)))))) (b=(sB d j)/\True)))))) ?_;refine lx fun n0=>lx fun n1=>lx fun n2=>lx fun n3=>lx fun n4=>?_;refine⟨LB d aGR aGR,dm (fun g15=>?_) fun g15=>?_⟩
 ·apply et1
  ·(rw[aCa g15];done)
 ·refine⟨aAb _,aGS,kM _ _ _,dn (fun c0=>?_) fun c0=>?_⟩
  ·apply et1
   ·(rw[aAO aGR];done)
  ·have hd:dE d=true:=g15;have hj:0<=j/\j<d.r.length:=aGR
   obtain⟨b1,b2,b3,b4,b5,b6,b7,b8⟩:=fP hd;refine⟨⟨0,-1,0,0,rfl,rfl,rfl,rfl,aBC _,aGR,rfl⟩,fun k b ln ld ⟨hk,hb,hv⟩=>?_⟩;refine⟨aAb _,dd (fun c1=>?_) fun c1=>?_⟩
   ·refine⟨aGR,rfl,aGR,fun e34 h34=>?_⟩;have hrl:=(b5 _ (aBD h34)).1;refine⟨aGR,rfl,aGR,fun e37 h37=>?_⟩;apply dd<;>intro c2
    ·refine⟨aGS,?_⟩;exact⟨k+1,b,ln,ld,rfl,rfl,rfl,rfl,⟨aGR,aGR,by exact(R8 aGR h34 h37 c2).symm.trans hv⟩,aGR⟩
    ·refine⟨aGR,rfl,aGR,fun e45 h45=>?_⟩;refine⟨aGR,rfl,aGR,fun e50 h50=>?_⟩;obtain rfl:=bE h34 h50;refine⟨aGR,rfl,aGR,fun e53 h53=>?_⟩;obtain rfl:=bE h37 h53;refine⟨FQ e45 e53,dm (fun c3=>?_) fun c3=>?_⟩
     ·apply et1
      ·(rw[LD hd hj,<-hv,VU aGR h34 h37 c2 h45 c3];done)
     ·refine⟨aAA ((aZ e45 e53).1) (⟨ln,ld⟩:aB),dd (fun g65=>?_) fun g65=>?_⟩
      ·refine⟨aGS,?_⟩;exact⟨k+1,(k:Int),(aZ e45 e53).1.num,(aZ e45 e53).1.den,rfl,rfl,rfl,rfl,⟨aGR,aGR,by exact(Cs aGR h34 h37 c2 h45 c3 (aDW g65)).symm.trans hv⟩,aGR⟩
      ·apply dd<;>intro g69
       ·refine⟨aGS,?_⟩;exact⟨k+1,(k:Int),(aZ e45 e53).1.num,(aZ e45 e53).1.den,rfl,rfl,rfl,rfl,⟨aGR,aGR,by exact(Cs aGR h34 h37 c2 h45 c3 (aDX g69)).symm.trans hv⟩,aGR⟩
       ·apply dd<;>intro g72
        ·refine⟨aGR,rfl,aGR,fun e76 h76=>?_⟩;refine⟨aGR,rfl,aGR,fun e81 h81=>?_⟩;apply dd<;>intro c4
         ·refine⟨aGS,?_⟩;exact⟨k+1,(k:Int),(aZ e45 e53).1.num,(aZ e45 e53).1.den,rfl,rfl,rfl,rfl,⟨aGR,aGR,by exact(Cs aGR h34 h37 c2 h45 c3 (aDY g72 h76 h81 c4)).symm.trans hv⟩,aGR⟩
         ·refine⟨aGS,?_⟩;exact⟨k+1,b,ln,ld,rfl,rfl,rfl,rfl,⟨aGR,aGR,by exact(PR aGR h34 h37 c2 h45 c3 (aD0 g65 g69 h76 h81 c4)).symm.trans hv⟩,aGR⟩
        ·refine⟨aGS,?_⟩;exact⟨k+1,b,ln,ld,rfl,rfl,rfl,rfl,⟨aGR,aGR,by exact(PR aGR h34 h37 c2 h45 c3 (aDZ g65 g69 g72)).symm.trans hv⟩,aGR⟩
   ·apply et1
    ·(rw[LD hd hj,Nj aGR hv];done)
def pY (d:aE)(i j k:Nat):fI d i j (k+1)=fI d i j k++[(FSq d i j k).1]:=by simp[fI,List.range_succ]
def pZ (d:aE)(i j k:Nat):fE d i j (k+1)=(fE d i j k&&(FSq d i j k).2):=by simp[fE,List.range_succ]
def Gd {d:aE}{i j k:Nat}{x a:aB}(ha:fQ d i j=a)(hx:fQ d i k=x)(h: ¬k=j):FSq d i j k=aZ x a:=by rw[FSq,if_neg h,ha,hx]
def Ge {d:aE}{i j k:Nat}{a:aB}(ha:fQ d i j=a)(h:k=j):FSq d i j k=aZ (aN 1) a:=by rw[FSq,if_pos h,ha];rfl
def iC (l p:List aB)(j k:Nat):fG l p j (k+1)=fG l p j k++[(Sd l (l.getD j zR) p j k).1]:=by simp[fG,List.range_succ]
def jK (l p:List aB)(j k:Nat):gS l p j (k+1)=(gS l p j k&&(Sd l (l.getD j zR) p j k).2):=by simp[gS,List.range_succ]
def AX {l p:List aB}{j k:Nat}{x c y:aB}(h: ¬k=j)(hx:l[k]? =some x)(hc:l[j]? =some c)(hy:p[k]? =some y):Sd l (l.getD j zR) p j k=cB x c y:=by rw[Sd,if_neg h,bD hx,bD hc,bD hy]
def AY {l p:List aB}{j k:Nat}{c y:aB}(h:k=j)(hc:l[j]? =some c)(hy:p[k]? =some y):Sd l (l.getD j zR) p j k=cB (aN 0) c y:=by rw[Sd,if_pos h,bD hc,bD hy];rfl
def mK (d:aE)(i j k:Nat):iQ d i j (k+1)=iQ d i j k++[Bv d i j k]:=by simp[iQ,List.range_succ]
def mL (d:aE)(i j k:Nat):jB d i j (k+1)=jB d i j k++[DG d i j k]:=by simp[jB,List.range_succ]
def mM (d:aE)(i j k:Nat):iR d i j (k+1)=(iR d i j k&&K5 d i j k):=by simp[iR,List.range_succ]
def Ct {F R C L f g:Bool}(h1:f=(F&&R))(h2:g=(f&&C)):(g&&L)=(F&&(R&&(C&&L))):=by subst h1;subst h2;cases F<;>cases R<;>cases C<;>rfl
def Nk {d:aE}{i j r:Nat}(h:r=i):Bv d i j r=fI d i j d.r.length/\DG d i j r=(eH d i j).1/\K5 d i j r=true:=by rw[Bv,DG,K5,if_pos h,if_pos h,if_pos h];exact⟨rfl,rfl,rfl⟩
def aAR {d:aE}{i j r:Nat}{p:List aB}{x c l:aB}{row:List aB}(h: ¬r=i)(hp:p=fI d i j d.r.length)(hr:d.u[r]? =some row)(hc:row[j]? =some c)(hx:d.b[r]? =some x)(hl:(eH d i j).1=l):Bv d i j r=fG row p j d.r.length/\DG d i j r=(cB x c l).1/\K5 d i j r=(gS row p j d.r.length&&(cB x c l).2):=by
 rw[Bv,DG,K5,if_neg h,if_neg h,if_neg h,VP,jJ hr hc,bD hx,bD hr,hl,<-hp];exact⟨rfl,rfl,rfl⟩
def FT {d:aE}{i j:Int}(h: ¬((0<=i/\i<d.c.length)/\0<=j/\j<d.r.length)):bU d i j=(Bw,false):=by rw[bU,if_neg (fun q=>h q.2)]
def aCb {d:aE}{i j:Int}(h:dE d=false):bU d i j=(Bw,false):=by rw[bU,if_neg (by rw[h];simp)]
def mG {d:aE}{i j:Int}(h: ¬((fQ d i.toNat j.toNat).num≠0/\nV d i.toNat j.toNat=true/\(vN d i.toNat j.toNat).2=true)):bU d i j=(Bw,false):=by
 rw[bU];split
 ·rw[fT,if_neg h]
 rfl
def R9 {d:aE}{i j:Int}(h:dE d=true)(hi:0<=i/\i<d.c.length)(hj:0<=j/\j<d.r.length)(h1:(fQ d i.toNat j.toNat).num≠0)(h2:nV d i.toNat j.toNat=true)(h3:(vN d i.toNat j.toNat).2=true):bU d i j=(fR d i.toNat j.toNat,true):=by rw[bU,if_pos ⟨h,hi,hj⟩,fT,if_pos ⟨h1,h2,h3⟩]
def LH {d:aE}{i j:Nat}(h:dE d=true)(hj:j<d.r.length)(hl:(eH d i j).2=true):vN d i j=((fH d.value (dC (d.s.getD j zR) (eH d i j).1).1).1,(dC (d.s.getD j zR) (eH d i j).1).2&&(fH d.value (dC (d.s.getD j zR) (eH d i j).1).1).2):=by
 obtain⟨_,_,_,_,_,_,b7,b8⟩:=fP h;exact K6 b8 (jN b7 hj) (Cq hl)
def XR {α:Type}{l:List α}{i:Nat}{x:α}(h:l[i]? =some x):l.set i x=l:=by
 obtain⟨hi,rfl⟩:=aCO.1 h;simp
def LI {p:Nat->Bool}{k n:Nat}(hk:k<=n)(h:(List.range k).all p=false):(List.range n).all p=false:=by
 cases e:(List.range n).all p with
 | false=>rfl
 | true=>
   rw[aCS] at e;have:(List.range k).all p=true:=aCS.2 fun x hx=>e x (aEt.2 (by have:=aEt.1 hx;omega));rw[this] at h;cases h
def SA {d:aE}{i j r k:Nat}{p:List aB}{f g:Bool}(hf:f=((fE d i j d.r.length&&(eH d i j).2)&&iR d i j r))(hr:r<=d.c.length)(hp:p=fI d i j d.r.length)(hg:g=(f&&gS d.s p j k))(hk:k<=d.r.length)(h:g=false):nV d i j=false:=by
 rw[nV,VQ,<-hp];subst hf;rw[hg] at h;simp only[Bool.and_eq_false_iff] at h ⊢;rcases h with (h | h) | h
 ·exact .inl (.inl h)
 ·exact .inl (.inr (LI hr h))
 exact .inr (LI hk h)
def XS {d:aE}{i j r k:Nat}{p:List aB}{f g:Bool}(hf:f=((fE d i j d.r.length&&(eH d i j).2)&&iR d i j r))(hr:r=d.c.length)(hp:p=fI d i j d.r.length)(hg:g=(f&&gS d.s p j k))(hk:k=d.r.length)(h:g=true):nV d i j=true:=by
 rw[nV,VQ,<-hp,<-hr,<-hf,<-hk,<-hg,h]
def IU {d:aE}{i j r:Nat}{f:Bool}(hf:f=((fE d i j d.r.length&&(eH d i j).2)&&iR d i j r))(hr:r<=d.c.length)(h:f=false):nV d i j=false:=by
 subst hf;rw[nV];simp only[Bool.and_eq_false_iff] at h ⊢;rcases h with h | h
 ·exact .inl (.inl h)
 exact .inl (.inr (LI hr h))
def IV {d:aE}{i j:Nat}(h:fE d i j d.r.length=false):nV d i j=false:=by
 rw[nV,h];rfl
def Nl {d:aE}{i j:Nat}(h:nV d i j=true):(eH d i j).2=true:=by
 simp only[nV,aBB] at h;exact h.1.1.2
def EB {d:aE}{i j:Nat}(hi:i<d.c.length):(iQ d i j d.c.length).set i (fI d i j d.r.length)=iQ d i j d.c.length:=XR (by simp[iQ,hi,Bv])
abbrev kE (a:aB)(b:aB)(c:aB):AV × aGJ:=(.tup [.agg [vI ((cB a b c).1.num),vI ((cB a b c).1.den)],vB ((cB a b c).2)],[])
abbrev lJ (a:aB)(b:aB)(c:aB):Prop:=Cn 96 [aGv a,aGv b,aGv c] (kE a b c).1 (kE a b c).2
def qA (a b c:aB):lJ a b c:=by
 refine cq Tryz.func96 (.br (.fin []) (aGP<| .br (.fin []) (bN (vK b c)<| bN (vM a ((dC b c).1))<| .br (.fin []) (.fin [])))) (p:=Br (b.num=0) (a.num=((cB a b c).1.num)/\a.den=((cB a b c).1.den)/\(true)=((cB a b c).2)/\True) (Br (c.num=0) (a.num=((cB a b c).1.num)/\a.den=((cB a b c).1.den)/\(true)=((cB a b c).2)/\True) (zZ b c/\AA a ((dC b c).1)/\Bb ((dC b c).2) ((((kF a ((dC b c).1)).1).num)=((cB a b c).1.num)/\(((kF a ((dC b c).1)).1).den)=((cB a b c).1.den)/\((kF a ((dC b c).1)).2)=((cB a b c).2)/\True) ((((kF a ((dC b c).1)).1).num)=((cB a b c).1.num)/\(((kF a ((dC b c).1)).1).den)=((cB a b c).1.den)/\(false)=((cB a b c).2)/\True)))) ?_;apply dd<;>intro g15
 ·apply et3<;>((rw[cB,if_pos (.inl (by exact g15))]<;>rfl))
 ·apply dd<;>intro c0
  ·apply et3<;>((rw[cB,if_pos (.inr c0)]<;>rfl))
  ·refine⟨Ks b c,Kt a ((dC b c).1),db (fun g35=>?_) fun g35=>?_⟩
   ·apply et3<;>(first|(rw[cB,if_neg (by rintro(q|q);exact g15 q;exact c0 q)];simp[*];done)|(rw[cB,if_neg (by rintro(q|q);exact g15 q;exact c0 q)]<;>rfl))
   ·apply et3<;>(first|(rw[cB,if_neg (by rintro(q|q);exact g15 q;exact c0 q)];simp[*];done)|(rw[cB,if_neg (by rintro(q|q);exact g15 q;exact c0 q)]<;>rfl))
end Go.Proofs.YtgamjlgfnmpcjaaGreat
namespace Go.Proofs
open Go.Shelf
namespace YtgamjlgfnmpcjaaGreat
def Tryz.cloneRats_ren:Go.Shelf.Ren:=⟨fun | 41=>84 | n=>n,fun | 22=>41 | 23=>40 | 4=>4 | n=>n,fun | n=>n⟩
theorem Tryz.cloneRats:Go.Proofs.SlLaysE0.n41 Tryz.prog Tryz.cloneRats_ren:={
 mixed:=by kernel_rfl
 f41:=⟨Tryz.f84.name,by decide,Tryz.func84.trans (congrArg some (by kernel_rfl))⟩
 t4:=Tryz.underlying4
 a4:=Tryz.isAgg4
 z4:=Tryz.sizeOf4
 v4:=Tryz.zeroValue4
 t22:=Tryz.underlying41
 a22:=Tryz.isAgg41
 z22:=Tryz.sizeOf41
 v22:=Tryz.zeroValue41 }
end YtgamjlgfnmpcjaaGreat
end Go.Proofs
namespace Go.Proofs.YtgamjlgfnmpcjaaGreat
open Go.ChangeShapes Go.WideShapes Go.ChangeAt Go.RowKit
set_option linter.unusedVariables false
section
variable {P:Program}
theorem XT {f:FuncId}{args:List Ar}{e k:Nat}{xs:List (List bX)}(hc:lB P f=true)(h: ∀A w (vs:Array Value),(∀b,A b->b<w.heap.size)->tL A w args vs.toList->Calls P f vs w (fun en w' => ∃(v:Value) (F:List Nat),en= .returned v/\sG w' (.sl e k xs) v F/\F.Nodup/\(∀g∈F,w.heap.size<=g)/\Below w.heap.size w w' /\ ∀g∈F,g<w'.heap.size)):
 xK P f args (.own 0) [(0,.arr e k true xs)]:=by
 refine⟨hc,fun A w vs hA ha=>(h A w vs hA ha).mono fun en w' ⟨v,F,he,ho,hn,hg,hb,hlt⟩=>?_⟩;unfold sG at ho;obtain⟨css,Fs,r1,r2,r3⟩:=ho;have hpl:(⟨v,v.ownBlock.toList,Fs.flatten⟩:Pl).F=F:=by unfold Pl.F;exact r2.symm
 refine⟨v,fun _=>False,fun x=>if x=0 then some ⟨v,v.ownBlock.toList,Fs.flatten⟩ else none,he,hb,by simp,by simp,fun x r hx=>?_,fun x hx=>?_,fun x x' pl pl' hne hx hx' g hg hg' =>?_,fun x pl hx=>?_,fun x pl hx g hg' =>?_,?_⟩
 ·simp only[bF] at hx;split at hx
  ·rename_i e1;injection hx with hx
   subst hx;exact⟨_,if_pos e1,⟨css,Fs,r1,rfl,rfl,r3⟩⟩
  cases hx
 ·simp only[bF] at hx;split at hx
  ·cases hx
  rename_i e1;exact if_neg e1
 ·simp only at hx hx';split at hx
  ·split at hx'
   ·subst_vars;exact hne rfl
   cases hx'
  cases hx
 ·simp only at hx;split at hx
  ·injection hx with hx
   subst hx;rw[hpl];exact hn
  cases hx
 ·simp only at hx;split at hx
  ·injection hx with hx
   subst hx;rw[hpl] at hg';exact⟨hg g hg',hlt g hg'⟩
  cases hx
 unfold aH;intro pl hp;simp only[if_true,Option.some.injEq] at hp;subst hp;rfl
end
def aCc (x:aB):List Value:=[.int .i64 x.num,.int .i64 x.den]
theorem Hl {K:Nat->Prop}{w:World}: ∀{l:List aB} {css:List (List Value)},fM K w 2 (l.map aA) css->css=l.map aCc
 | [],css,h=>h
 | x::l,css,⟨c,css',e,h1,h2,h3⟩=>by
   subst e;obtain⟨v,vs,e1,m1,v2,vs2,e2,m2,m3⟩:=h2;unfold jX at m1 m2;rw[Hl h3,e1,e2,m1,m2,show vs2= [] from m3];rfl
theorem Nm {w:World}: ∀(l:List aB),dB w 2 (l.map aA) (l.map aCc) (l.map fun _=>[])
 | []=>by unfold dB;exact⟨rfl,rfl⟩
 | x::l=>by
   rw[aDH,aDH,aDH];unfold dB;refine⟨_,_,_,_,rfl,rfl,rfl,?_,Nm l⟩;have h1:sG w (.int .i64 x.num) (.int .i64 x.num) []:=by unfold sG;exact⟨rfl,rfl⟩
   have h2:sG w (.int .i64 x.den) (.int .i64 x.den) []:=by unfold sG;exact⟨rfl,rfl⟩
   exact pR (F1:=[]) (F2:=[]) h1 (pR (F1:=[]) (F2:=[]) h2 P6)
theorem SB: ∀l:List aB,(l.map aCc).flatten.length=l.length*2
 | []=>rfl
 | x::l=>by simp only[aDH,aE8,aEh,aEb,SB l,aCc,List.length_nil];omega
theorem EC (l:List aB)(h0:0<l.length)(hl:l.length<=1048576):xK Tryz.prog 84 [.one (.sl 40 2 (l.map aA))] (.own 0) [(0,.arr 40 2 true (l.map aA))]:=
 XT (by kernel_rfl) fun A w vs hA ha=>by
  obtain⟨v,vs',e,hv,hv2⟩:=ha;simp only[Pv] at hv;unfold jX at hv;obtain⟨a,c,rfl,h1,h2,h3⟩:=hv;obtain⟨css,hr,hne⟩:=iH.vals h3;obtain⟨b,off,rfl,hcell⟩:=hne (by intro q;rw[List.map_eq_nil_iff] at q;rw[q] at h0;exact absurd h0 (aGD 0));have ev:vs= #[.slice (some ⟨b,off,none⟩) (l.map aA).length c]:=by apply Array.ext';rw[e,show vs' = [] from hv2]
  have hcs:=Hl hr;have hone:=DL hr
  have hlen:css.flatten.length=(l.map aA).length*2:=by
   rw[hcs,SB,aAb]
  rw[ev];have hT:iJ Tryz.prog 40=some (true,2,16,.agg #[.int .i64 0,.int .i64 0]):=by kernel_rfl
  have hI:=iE hT w;refine(AnyE.slices_Clone Tryz.cloneRats _ _ 2 16 hI.2.2.2.2.2.1 hI.2.2.2.2.2.2.2 hI.2.2.2.2.2.2.1 hI.2.2.2.2.1 rfl aGR (fun w=>(iE hT w).2.1) b off _ c css.flatten w hlen (by simp[maxLen];omega) (by simp;omega) (fun j u hj=>by have:=hcell j u hj;rwa [Nat.add_zero] at this) hone).mono fun e w' ⟨v',he,ho,_,hb⟩=>?_;refine⟨v',v'.ownBlock.toList,he,?_,?_,fun g hg=>(yO ho g hg).1,hb,fun g hg=>(yO ho g hg).2⟩
  ·unfold sG;refine⟨css,l.map fun _=>[],Fj ho (fun g hg=>aBC g),?_,?_⟩
   ·simp
   rw[hcs];exact Nm l
  cases v'.ownBlock<;>simp
set_option linter.all false
set_option maxRecDepth 100000
set_option maxHeartbeats 4000000
abbrev Bz (f:Bool)(a:aB)(b:aB):List AV × aGJ × AV × aGJ:=([.ptr 0 0,.agg [vI a.num,vI a.den],.agg [vI b.num,vI b.den]],[(0,.box 122 [vB f])],.agg [vI ((aZ a b).1.num),vI ((aZ a b).1.den)],[(0,.box 122 [vB (f || !(aZ a b).2)])])
abbrev LJ (f:Bool)(a:aB)(b:aB):Prop:=Cm 85 (Bz f a b).1 (Bz f a b).2.1 (Bz f a b).2.2.1 (Bz f a b).2.2.2
def aCd (f:Bool)(a b:aB):LJ f a b:=by
 refine Ls Tryz.func85 (bN (zX a b)<| .br (.fin [(0,0)]) (.fin [(0,0)])) (p:=D5 a b/\Bb (f) (((aZ a b).1.num)=((aZ a b).1.num)/\((aZ a b).1.den)=((aZ a b).1.den)/\(true)=(f || !(aZ a b).2)/\True) (((aZ a b).1.num)=((aZ a b).1.num)/\((aZ a b).1.den)=((aZ a b).1.den)/\(!((aZ a b).2))=(f || !(aZ a b).2)/\True)) ?_;refine⟨Rn a b,db (fun g20=>?_) fun g20=>?_⟩
 ·refine⟨rfl,rfl,?_,trivial⟩
  ·(rw[g20]<;>rfl)
 ·refine⟨rfl,rfl,?_,trivial⟩
  ·(rw[g20]<;>rfl)
abbrev wO (f:Bool)(a:aB)(b:aB)(c:aB):List AV × aGJ × AV × aGJ:=([.ptr 0 0,.agg [vI a.num,vI a.den],.agg [vI b.num,vI b.den],.agg [vI c.num,vI c.den]],[(0,.box 122 [vB f])],.agg [vI ((eG a b c).1.num),vI ((eG a b c).1.den)],[(0,.box 122 [vB (f || !(eG a b c).2)])])
abbrev FU (f:Bool)(a:aB)(b:aB)(c:aB):Prop:=Cm 87 (wO f a b c).1 (wO f a b c).2.1 (wO f a b c).2.2.1 (wO f a b c).2.2.2
def VV (f:Bool)(a b c:aB):FU f a b c:=by
 refine Ls Tryz.func87 (.br (.fin [(0,0)]) (aGP<| .br (.fin [(0,0)]) (bN (zW b c)<| bN (zV a ((dC b c).1))<| .br (.fin [(0,0)]) (aGQ<| .br (.fin [(0,0)]) (.fin [(0,0)]))))) (p:=Br (b.num=0) (a.num=((eG a b c).1.num)/\a.den=((eG a b c).1.den)/\(f)=(f || !(eG a b c).2)/\True) (Br (c.num=0) (a.num=((eG a b c).1.num)/\a.den=((eG a b c).1.den)/\(f)=(f || !(eG a b c).2)/\True) (D4 b c/\D3 a ((dC b c).1)/\Bb (f) ((((fH a ((dC b c).1)).1).num)=((eG a b c).1.num)/\(((fH a ((dC b c).1)).1).den)=((eG a b c).1.den)/\(true)=(f || !(eG a b c).2)/\True) (Nr ((dC b c).2) ((((fH a ((dC b c).1)).1).num)=((eG a b c).1.num)/\(((fH a ((dC b c).1)).1).den)=((eG a b c).1.den)/\(true)=(f || !(eG a b c).2)/\True) ((((fH a ((dC b c).1)).1).num)=((eG a b c).1.num)/\(((fH a ((dC b c).1)).1).den)=((eG a b c).1.den)/\(!((fH a ((dC b c).1)).2))=(f || !(eG a b c).2)/\True))))) ?_;apply dd<;>intro g16
 ·apply et3<;>((rw[eG,if_pos (.inl g16)]<;>(simp;done)))
 ·apply dd<;>intro c0
  ·apply et3<;>((rw[eG,if_pos (.inr c0)]<;>(simp;done)))
  ·have hP:eG a b c=((fH a (dC b c).1).1,(dC b c).2&&(fH a (dC b c).1).2):=by rw[eG,if_neg (by rintro(q | q);exact g16 q;exact c0 q)]
   refine⟨Rm b c,Rk a ((dC b c).1),db (fun g39=>?_) fun g39=>?_⟩
   ·apply et3<;>((rw[hP]<;>(simp[*];done)))
   ·apply dm<;>intro g43
    ·apply et3<;>((rw[hP]<;>(simp[*];done)))
    ·apply et3<;>((rw[hP]<;>(simp[*];done)))
abbrev sC (a:aB):Prop:=Cn 43 [aGv a] (.agg [vI ((eK a).num),vI ((eK a).den)]) []
def B0 (a:aB)(ha: -9223372036854775807<=a.num/\a.num<=9223372036854775807):sC a:=by
 refine cq Tryz.func43 (.fin []) (p:=bO (-a.num)/\(-a.num)=((eK a).num)/\a.den=((eK a).den)/\True) ?_;refine⟨by exact aGS,?_,?_,trivial⟩<;>(rfl)
def aEn (a c:aB): -9223372036854775807<=(aZ a c).1.num/\(aZ a c).1.num<=9223372036854775807:=by
 cases e:(aZ a c).2 with
 | true=>have:=bT (Cq e);omega
 | false=>rw[Ru e];exact⟨by decide,by decide⟩
def aEo {α:Type}{A l:List α}{k:Nat}(h:A.length=k):(A++l.drop k)[k]? =l[k]? :=by
 subst h;rw[aD8 (aFC _)];simp[List.getElem?_drop]
def FV {α:Type}{A l:List α}{k:Nat}{y:α}(h:A.length=k)(hk:k<l.length):(A++l.drop k).set k y=(A++[y])++l.drop (k+1):=by
 subst h;rw[List.drop_eq_getElem_cons hk,List.set_append_right _ _ (aFC _),Nat.sub_self,List.set_cons_zero,aD2];rfl
def VW {α:Type}{A l:List α}{k:Nat}(h:l.length<=k):A++l.drop k=A:=by rw[List.drop_eq_nil_of_le h,aFk]
def nt2 (A B:Bool):(!A || !B)= !(A&&B):=by cases A<;>cases B<;>rfl
def nt3 (f A B:Bool):((f || !A) || !B)=(f || !(A&&B)):=by cases f<;>cases A<;>cases B<;>rfl
def Gf (l p:List aB)(j n:Nat):(fG l p j n).length=n:=by simp[fG]
def aAS {l p:List aB}{j k:Nat}{x c y:aB}(h: ¬k=j)(hx:l[k]? =some x)(hc:l.getD j zR=c)(hy:p[k]? =some y):Sd l (l.getD j zR) p j k=eG x (eK c) y:=by rw[Sd,if_neg h,bD hx,hc,bD hy,Na]
def aAT {l p:List aB}{j k:Nat}{c a:aB}(h:k=j)(hc:l.getD j zR=c)(hy:p.getD j zR=(aZ C6 a).1)(vc:aR c=true)(va:aR a=true)(h0: ¬a.num=0):Sd l (l.getD j zR) p j k=(eK (aZ c a).1,(aZ c a).2):=by
 rw[Sd,if_pos h,hc,h,hy];exact aAK vc va h0
def aAU {d:aE}{i j n:Nat}{a:aB}(hj:j<n)(ha:fQ d i j=a):(fI d i j n).getD j zR=(aZ C6 a).1:=by
 have e:(fI d i j n)[j]? =some (FSq d i j j).1:=by rw[fI,aGB,List.getElem?_range hj];rfl
 rw[bD e,FSq,if_pos rfl,ha]
abbrev pN (l:List aB)(p:List aB)(a:aB)(j:Int)(f:Bool):List AV × aGJ × AV × aGJ:=([.p none (.sl 40 2 (l.map aA)),.rp none [.int .i64 j],.ptr 0 0,.rp none [.int .i64 a.num,.int .i64 a.den],.rp none [.sl 40 2 (p.map aA)]],[(0,.box 120 [.ptr 1 0]),(1,.box 122 [vB f])],.own 2,[(0,.box 120 [.ptr 1 0]),(1,.box 122 [vB (f || !gS l p j.toNat l.length)]),(2,.arr 40 2 true ((fG l p j.toNat l.length).map aA))])
abbrev AF (l:List aB)(p:List aB)(a:aB)(j:Int)(f:Bool):Prop:=Cm 86 (pN l p a j f).1 (pN l p a j f).2.1 (pN l p a j f).2.2.1 (pN l p a j f).2.2.2
def LK (l p:List aB)(a:aB)(j:Int)(f:Bool)(hj:0<=j/\j<l.length)(hl:l.length<=15)(hp:p.length=l.length)(hv: ∀x∈l,aR x=true)(hva:aR a=true)(hnz: ¬a.num=0)(hpj:p.getD j.toNat zR=(aZ C6 a).1):AF l p a j f:=by
 refine Ls Tryz.func86 (.elem _ aA l (fun e11=> .call (.own 0) [(0,.arr 40 2 true (l.map aA))]<| .len l.length<| .loop (Nat × (List aB) × Bool) (Q3 Nat (List aB) Bool) ([0,8]++rg 17 30) [1,1400] (fun yy0=>[(17,vI (yy0.1:Int)),(0,.own 1400)]) (fun yy0=>[(1400,some (.arr 40 2 true (yy0.2.1.map aA))),(1,some (.box 122 [vB yy0.2.2]))]) (fun yy0=>yy0.1<=l.length/\yy0.2.1=fG l p j.toNat yy0.1++l.drop yy0.1/\yy0.2.2=(f || !gS l p j.toNat yy0.1)/\yy0.2.1.length=l.length) (fun yy0=>l.length - yy0.1) (fun yy0=> .br (.br (rL (Bz yy0.2.2 e11 a) [(0,1)]<| .call (.agg [vI ((eK ((aZ e11 a).1)).num),vI ((eK ((aZ e11 a).1)).den)]) []<| .len yy0.2.1.length<| .set aB aA yy0.2.1 (fun s7_8=>(eK ((aZ e11 a).1))) (fun s7_8=> .back [(1,1),(1400,1400)])) (.len yy0.2.1.length<| .elem _ aA yy0.2.1 (fun e37=> .call (.agg [vI ((eK e11).num),vI ((eK e11).den)]) []<| .elem _ aA p (fun e42=>rL (wO yy0.2.2 e37 (eK e11) e42) [(0,1)]<| .len yy0.2.1.length<| .set aB aA yy0.2.1 (fun s8_15=>((eG e37 (eK e11) e42).1)) (fun s8_15=> .back [(1,1),(1400,1400)]))))) (.fin [(0,0),(1,1),(2,1400)])))) (p:=0<=j/\Em aA l ((j).toNat) fun e11=>xK Tryz.prog 84 [.one (.sl 40 2 (l.map aA))] (.own 0) [(0,.arr 40 2 true (l.map aA))]/\(Lm aA l/\((∃(k:Nat) (o:List aB) (g:Bool),0=(k:Int)/\l.map aA=o.map aA/\(f)=g/\k<=l.length/\o=fG l p j.toNat k++l.drop k/\g=(f || !gS l p j.toNat k)/\o.length=l.length)/\ ∀(k:Nat) (o:List aB) (g:Bool),(k<=l.length/\o=fG l p j.toNat k++l.drop k/\g=(f || !gS l p j.toNat k)/\o.length=l.length)->Br ((k:Int)<(l.length:Int)) (Br ((k:Int)=j) (LJ g e11 a/\e11.num=e11.num/\e11.den=e11.den/\a.num=a.num/\a.den=a.den/\(g)=g/\(sC ((aZ e11 a).1)/\(0<=(k:Int)/\Lm aA o/\(k:Int)<(o.length:Int)/\(o.map aA=o.map aA/\k<o.length/\ ∀s7_8,o[k]? =some s7_8->iU (aA s7_8)=true/\0+2<=(aA s7_8).length/\(aA s7_8).take 0++[.int .i64 ((eK ((aZ e11 a).1)).num),.int .i64 ((eK ((aZ e11 a).1)).den)]++(aA s7_8).drop (0+2)=aA (eK ((aZ e11 a).1))/\bO ((k:Int)+1)/\ ∃(k' :Nat) (o' :List aB) (g' :Bool),((k:Int)+1)=(k' :Int)/\(o.set k (eK ((aZ e11 a).1))).map aA=o'.map aA/\(g || !(aZ e11 a).2)=g' /\(k' <=l.length/\o' =fG l p j.toNat k' ++l.drop k' /\g' =(f || !gS l p j.toNat k')/\o'.length=l.length)/\l.length - k' <l.length - k)))) (0<=(k:Int)/\Lm aA o/\(k:Int)<(o.length:Int)/\Em aA o k fun e37=>sC e11/\(0<=(k:Int)/\Em aA p k fun e42=>FU g e37 (eK e11) e42/\e37.num=e37.num/\e37.den=e37.den/\((eK e11).num)=((eK e11).num)/\((eK e11).den)=((eK e11).den)/\e42.num=e42.num/\e42.den=e42.den/\(g)=g/\(0<=(k:Int)/\Lm aA o/\(k:Int)<(o.length:Int)/\(o.map aA=o.map aA/\k<o.length/\ ∀s8_15,o[k]? =some s8_15->iU (aA s8_15)=true/\0+2<=(aA s8_15).length/\(aA s8_15).take 0++[.int .i64 ((eG e37 (eK e11) e42).1.num),.int .i64 ((eG e37 (eK e11) e42).1.den)]++(aA s8_15).drop (0+2)=aA ((eG e37 (eK e11) e42).1)/\bO ((k:Int)+1)/\ ∃(k' :Nat) (o' :List aB) (g' :Bool),((k:Int)+1)=(k' :Int)/\(o.set k ((eG e37 (eK e11) e42).1)).map aA=o'.map aA/\(g || !(eG e37 (eK e11) e42).2)=g' /\(k' <=l.length/\o' =fG l p j.toNat k' ++l.drop k' /\g' =(f || !gS l p j.toNat k')/\o'.length=l.length)/\l.length - k' <l.length - k))))) ((g)=(f || !gS l p j.toNat l.length)/\o.map aA=(fG l p j.toNat l.length).map aA/\True)))) ?_;refine⟨aGR,rfl,aGR,fun e11 h11=>?_⟩;have hc:l.getD j.toNat zR=e11:=bD h11;have hcv:=hv _ (aBD h11);have hcb:=bT hcv;refine⟨EC l aGR aGR,aAb _,⟨0,l,f,rfl,rfl,rfl,aBC _,rfl,by simp[gS],rfl⟩,fun k o g ⟨hk,ho,hg,hL⟩=>?_⟩;apply dd<;>intro c0
 ·apply dd<;>intro c1
  ·refine⟨aCd g e11 a,rfl,rfl,rfl,rfl,rfl,B0 ((aZ e11 a).1) (by exact aEn _ _),aGR,aAb _,aGR,rfl,aGR,fun s7_8 hs7_8=>⟨rfl,aBF rfl,rfl,?_⟩⟩;refine⟨aGS,?_⟩;exact⟨k+1,_,g || !(aZ e11 a).2,rfl,rfl,rfl,⟨aGR,by (rw[ho,FV (Gf _ _ _ _) aGR,iC,aAT aGR hc hpj hcv hva hnz]<;>rfl),by (rw[hg,nt3,jK,aAT aGR hc hpj hcv hva hnz]<;>rfl),by rw[aDF];exact hL⟩,aGR⟩
  ·refine⟨aGR,aAb _,aGR,rfl,aGR,fun e37 h37=>?_⟩;have w37:l[k]? =some e37:=by rw[<-aEo (A:=fG l p j.toNat k) (l:=l) (Gf l p j.toNat k),<-ho];exact h37
   refine⟨B0 e11 aGR,aGR,rfl,aGR,fun e42 h42=>?_⟩;refine⟨VV g e37 (eK e11) e42,rfl,rfl,rfl,rfl,rfl,rfl,rfl,aGR,aAb _,aGR,rfl,aGR,fun s8_15 hs8_15=>⟨rfl,aBF rfl,rfl,?_⟩⟩;refine⟨aGS,?_⟩;exact⟨k+1,_,g || !(eG e37 (eK e11) e42).2,rfl,rfl,rfl,⟨aGR,by (rw[ho,FV (Gf _ _ _ _) aGR,iC,aAS aGR w37 hc h42]<;>rfl),by (rw[hg,nt3,jK,aAS aGR w37 hc h42]<;>rfl),by rw[aDF];exact hL⟩,aGR⟩
 ·apply et2<;>(first|(rw[hg,show k=l.length by omega];done)|(rw[ho,show k=l.length by omega,VW (aFC _)];done))
def aEp {d:aE}{i j:Nat}(h:(fQ d i j).num=0):fT d i j=(Bw,false):=by rw[fT,if_neg (fun q=>q.1 h)]
def aCe {d:aE}{i j:Nat}(h:(!((nV d i j)&&(vN d i j).2))=true):fT d i j=(Bw,false):=by
 rw[fT,if_neg];rintro⟨_,h1,h2⟩;rw[h1,h2] at h;cases h
def aAV {d:aE}{i j:Nat}(h0: ¬(fQ d i j).num=0)(h:(!((nV d i j)&&(vN d i j).2))=false):fT d i j=(fR d i j,true):=by
 rw[fT,if_pos];rw[Bool.not_eq_false',aBB] at h;exact⟨h0,h.1,h.2⟩
def aAW (F R C V:Bool):((!(F&&R) || !C) || !V)= !(((F&&R)&&C)&&V):=by cases F<;>cases R<;>cases C<;>cases V<;>rfl
def SC (F R C L:Bool):((!(F&&R) || !C) || !L)= !(F&&(R&&(C&&L))):=by cases F<;>cases R<;>cases C<;>cases L<;>rfl
def ED (d:aE)(i j r:Nat):(jB d i j r).length=r:=by simp[jB]
def aAX {d:aE}{i j r:Nat}{p:List aB}{x c l:aB}{row:List aB}(h: ¬r=i)(hp:p=fI d i j d.r.length)(hr:d.u[r]? =some row)(hn:row.length=d.r.length)(hc:row[j]? =some c)(hx:d.b[r]? =some x)(hl:(eH d i j).1=l):Bv d i j r=fG row p j row.length/\DG d i j r=(eG x (eK c) l).1/\K5 d i j r=(gS row p j row.length&&(eG x (eK c) l).2):=by
 rw[Na,hn];exact aAR h hp hr hc hx hl
abbrev Tu (d:aE)(i:Int)(j:Int):AV × aGJ:=(.tup [.agg [.own 0,.own 1,.own 2,.own 3,.own 4,vI ((fT d i.toNat j.toNat).1.value.num),vI ((fT d i.toNat j.toNat).1.value.den)],vB ((fT d i.toNat j.toNat).2)],[(0,.arr 3 1 true ((fT d i.toNat j.toNat).1.c.map intD)),(1,.arr 3 1 true ((fT d i.toNat j.toNat).1.r.map intD)),(2,.arr 41 1 true ((fT d i.toNat j.toNat).1.u.map aG)),(3,.arr 40 2 true ((fT d i.toNat j.toNat).1.b.map aA)),(4,.arr 40 2 true ((fT d i.toNat j.toNat).1.s.map aA))])
abbrev aAY (d:aE)(i:Int)(j:Int):Prop:=Cn 41 [aG0 d,.one (.int .i64 i),.one (.int .i64 j)] (Tu d i j).1 (Tu d i j).2
def aGs (d:aE)(i j:Int)(hd:dE d=true)(hi:0<=i/\i<d.c.length)(hj:0<=j/\j<d.r.length):aAY d i j:=by
 refine cq Tryz.func41 (.elem _ aG d.u (fun e23=> .elem _ aA e23 (fun e26=> .br (.fin []) (bN (Gy d.c)<| bN (Gy d.r)<| .call (.own 0) [(0,.arr 40 2 true (d.b.map aA))]<| .call (.own 0) [(0,.arr 40 2 true (d.s.map aA))]<| .elem _ intD d.r (fun e56=> .elem _ intD d.c (fun e61=> .len d.c.length<| .set Int intD d.c (fun s6_17=>e56) (fun s6_17=> .len d.r.length<| .set Int intD d.r (fun s6_19=>e61) (fun s6_19=> .elem _ aG d.u (fun e69=> .len e69.length<| .loop (Nat × (List aB) × Bool) (Q3 Nat (List aB) Bool) ([12,13,65]++rg 72 17) [1100,1300,1900,6500,8600,8700] (fun yy0=>[(72,vI (yy0.1:Int))]) (fun yy0=>[(1100,some (.box 41 [.own 6500])),(6500,some (.arr 40 2 true (yy0.2.1.map aA))),(1900,some (.box 122 [vB yy0.2.2]))]) (fun yy0=>yy0.1<=d.r.length/\yy0.2.1=fI d i.toNat j.toNat yy0.1/\yy0.2.2= !fE d i.toNat j.toNat yy0.1/\yy0.2.1.length=yy0.1) (fun yy0=>d.r.length - yy0.1) (fun yy0=> .br (.elem _ aA e69 (fun e75=> .br (.call (.agg [vI ((aN (1:Int)).num),vI ((aN (1:Int)).den)]) []<| rL (Bz yy0.2.2 (aN (1:Int)) e26) [(0,1900)]<| .app aB aA yy0.2.1 ([((aZ (aN (1:Int)) e26).1)]:List aB)<| .back [(1100,1100),(1900,1900),(6500,8700)]) (rL (Bz yy0.2.2 e75 e26) [(0,1900)]<| .app aB aA yy0.2.1 ([((aZ e75 e26).1)]:List aB)<| .back [(1100,1100),(1900,1900),(6500,8700)]))) (.elem _ aA d.b (fun e93=>rL (Bz yy0.2.2 e93 e26) [(0,1900)]<| .len d.u.length<| .loop ((Nat × (List (List aB)) × (List aB) × Bool) ⊕ (Nat × (List (List aB)) × (List aB) × Bool)) (Qs (Q4 Nat (List (List aB)) (List aB) Bool) (Q4 Nat (List (List aB)) (List aB) Bool)) ([16,17]++rg 101 45) [800,1000,1900,4000,9003,11200,11300,12402,12500,12600] (Sum.elim (fun yy1=>([(101,vI (yy1.1:Int))]:Sl)) (fun yy1=>([(101,vI (yy1.1:Int))]:Sl))) (Sum.elim (fun yy1=>([(1000,some (.box 83 [.own 3400,.own 3700,.own 9003,.own 4000,.own 4300,vI d.value.num,vI d.value.den])),(4000,some (.arr 40 2 true (yy1.2.2.1.map aA))),(1900,some (.box 122 [vB yy1.2.2.2])),(800,some (.box 120 [.ptr 1900 0])),(9003,some (.arr 41 1 true (yy1.2.1.map aG)))]:Rl)) (fun yy1=>([(1000,some (.box 83 [.own 3400,.own 3700,.own 9003,.own 4000,.own 4300,vI d.value.num,vI d.value.den])),(4000,some (.arr 40 2 true (yy1.2.2.1.map aA))),(1900,some (.box 122 [vB yy1.2.2.2])),(800,some (.box 120 [.ptr 1900 0])),(9003,some (.hole 41 1 (yy1.2.1.map aG) i.toNat 0 6500))]:Rl))) (Sum.elim (fun yy1=>(yy1.1<=d.c.length/\(yy1.1:Int)<=i)/\yy1.2.1=iQ d i.toNat j.toNat yy1.1/\yy1.2.1.length=yy1.1/\yy1.2.2.1=jB d i.toNat j.toNat yy1.1++d.b.drop yy1.1/\yy1.2.2.1.length=d.b.length/\yy1.2.2.2= !((fE d i.toNat j.toNat d.r.length&&(eH d i.toNat j.toNat).2)&&iR d i.toNat j.toNat yy1.1)) (fun yy1=>(yy1.1<=d.c.length/\i<(yy1.1:Int))/\yy1.2.1=iQ d i.toNat j.toNat yy1.1/\yy1.2.1.length=yy1.1/\yy1.2.2.1=jB d i.toNat j.toNat yy1.1++d.b.drop yy1.1/\yy1.2.2.1.length=d.b.length/\yy1.2.2.2= !((fE d i.toNat j.toNat d.r.length&&(eH d i.toNat j.toNat).2)&&iR d i.toNat j.toNat yy1.1))) (Sum.elim (fun yy1=>d.c.length - yy1.1) (fun yy1=>d.c.length - yy1.1)) (Sum.elim (fun yy1=>(.yes<| .elem _ aG d.u (fun e104=> .br (.apph (List aB) aG yy1.2.1 yy0.2.1<| .len yy1.2.2.1.length<| .set aB aA yy1.2.2.1 (fun s22_5=>((aZ e93 e26).1)) (fun s22_5=> .back [(800,800),(1000,1000),(1900,1900),(4000,4000),(9003,11300)] 1)) (rL (pN e104 yy0.2.1 e26 j yy1.2.2.2) [(0,800),(1,1900)]<| .appx (List aB) aG yy1.2.1 (fG e104 yy0.2.1 j.toNat e104.length)<| .elem _ aA d.b (fun e135=> .elem _ aA e104 (fun e139=> .call (.agg [vI ((eK e139).num),vI ((eK e139).den)]) []<| rL (wO (yy1.2.2.2 || !gS e104 yy0.2.1 j.toNat e104.length) e135 (eK e139) ((aZ e93 e26).1)) [(0,1900)]<| .len yy1.2.2.1.length<| .set aB aA yy1.2.2.1 (fun s24_17=>((eG e135 (eK e139) ((aZ e93 e26).1)).1)) (fun s24_17=> .back [(800,800),(1000,1000),(1900,1900),(4000,4000),(9003,12600)] 0))))):T)) (fun yy1=>(.br (.elem _ aG d.u (fun e104=> .no<| rL (pN e104 yy0.2.1 e26 j yy1.2.2.2) [(0,800),(1,1900)]<| .appy (List aB) aG yy1.2.1 (fG e104 yy0.2.1 j.toNat e104.length)<| .elem _ aA d.b (fun e135=> .elem _ aA e104 (fun e139=> .call (.agg [vI ((eK e139).num),vI ((eK e139).den)]) []<| rL (wO (yy1.2.2.2 || !gS e104 yy0.2.1 j.toNat e104.length) e135 (eK e139) ((aZ e93 e26).1)) [(0,1900)]<| .len yy1.2.2.1.length<| .set aB aA yy1.2.2.1 (fun s24_17=>((eG e135 (eK e139) ((aZ e93 e26).1)).1)) (fun s24_17=> .back [(800,800),(1000,1000),(1900,1900),(4000,4000),(9003,12600)] 1))))) (rL (pN d.s yy0.2.1 e26 j yy1.2.2.2) [(0,800),(1,1900)]<| .join 27 9003 6500 (List aB) aG yy1.2.1 (fun a6500=>yy0.2.1) (fun a6500=> .elem _ aA d.s (fun e157=>rL (wO (yy1.2.2.2 || !gS d.s yy0.2.1 j.toNat d.s.length) d.value e157 ((aZ e93 e26).1)) [(0,1900)]<| .br (.fin []) (.fin [(0,3400),(1,3700),(2,9003),(3,4000),(4,14902)])))):T))))))))))))))) (p:=aGy d<| 0<=i/\Em aG d.u ((i).toNat) fun e23=>0<=j/\Em aA e23 ((j).toNat) fun e26=>Br (e26.num=0) (0=((fT d i.toNat j.toNat).1.value.num)/\0=((fT d i.toNat j.toNat).1.value.den)/\(false)=((fT d i.toNat j.toNat).2)/\[]=(fT d i.toNat j.toNat).1.c.map intD/\[]=(fT d i.toNat j.toNat).1.r.map intD/\[]=(fT d i.toNat j.toNat).1.u.map aG/\[]=(fT d i.toNat j.toNat).1.b.map aA/\[]=(fT d i.toNat j.toNat).1.s.map aA/\True) (Jb d.c/\(Jb d.r/\(xK Tryz.prog 84 [.one (.sl 40 2 (d.b.map aA))] (.own 0) [(0,.arr 40 2 true (d.b.map aA))]/\(xK Tryz.prog 84 [.one (.sl 40 2 (d.s.map aA))] (.own 0) [(0,.arr 40 2 true (d.s.map aA))]/\(0<=j/\Em intD d.r ((j).toNat) fun e56=>0<=i/\Em intD d.c ((i).toNat) fun e61=>0<=i/\Lm intD d.c/\i<(d.c.length:Int)/\(d.c.map intD=d.c.map intD/\(i).toNat<d.c.length/\ ∀s6_17,d.c[(i).toNat]? =some s6_17->iU (intD s6_17)=true/\0+1<=(intD s6_17).length/\(intD s6_17).take 0++[.int .i64 e56]++(intD s6_17).drop (0+1)=intD e56/\(0<=j/\Lm intD d.r/\j<(d.r.length:Int)/\(d.r.map intD=d.r.map intD/\(j).toNat<d.r.length/\ ∀s6_19,d.r[(j).toNat]? =some s6_19->iU (intD s6_19)=true/\0+1<=(intD s6_19).length/\(intD s6_19).take 0++[.int .i64 e61]++(intD s6_19).drop (0+1)=intD e61/\(0<=i/\Em aG d.u ((i).toNat) fun e69=>Lm aA e69/\((∃(k:Nat) (pr:List aB) (g:Bool),0=(k:Int)/\[]=pr.map aA/\(false)=g/\k<=d.r.length/\pr=fI d i.toNat j.toNat k/\g= !fE d i.toNat j.toNat k/\pr.length=k)/\ ∀(k:Nat) (pr:List aB) (g:Bool),(k<=d.r.length/\pr=fI d i.toNat j.toNat k/\g= !fE d i.toNat j.toNat k/\pr.length=k)->Br ((k:Int)<(e69.length:Int)) (0<=(k:Int)/\Em aA e69 k fun e75=>Br ((k:Int)=j) (sA (1:Int)/\LJ g (aN (1:Int)) e26/\((aN (1:Int)).num)=((aN (1:Int)).num)/\((aN (1:Int)).den)=((aN (1:Int)).den)/\e26.num=e26.num/\e26.den=e26.den/\(g)=g/\Ap aA pr ([((aZ (aN (1:Int)) e26).1)]:List aB) 16 (bO ((k:Int)+1)/\ ∃(k' :Nat) (pr' :List aB) (g' :Bool),((k:Int)+1)=(k' :Int)/\(pr++[((aZ (aN (1:Int)) e26).1)]).map aA=pr'.map aA/\(g || !(aZ (aN (1:Int)) e26).2)=g' /\(k' <=d.r.length/\pr' =fI d i.toNat j.toNat k' /\g' = !fE d i.toNat j.toNat k' /\pr'.length=k')/\d.r.length - k' <d.r.length - k)) (LJ g e75 e26/\e75.num=e75.num/\e75.den=e75.den/\e26.num=e26.num/\e26.den=e26.den/\(g)=g/\Ap aA pr ([((aZ e75 e26).1)]:List aB) 16 (bO ((k:Int)+1)/\ ∃(k' :Nat) (pr' :List aB) (g' :Bool),((k:Int)+1)=(k' :Int)/\(pr++[((aZ e75 e26).1)]).map aA=pr'.map aA/\(g || !(aZ e75 e26).2)=g' /\(k' <=d.r.length/\pr' =fI d i.toNat j.toNat k' /\g' = !fE d i.toNat j.toNat k' /\pr'.length=k')/\d.r.length - k' <d.r.length - k))) (0<=i/\Em aA d.b ((i).toNat) fun e93=>LJ g e93 e26/\e93.num=e93.num/\e93.den=e93.den/\e26.num=e26.num/\e26.den=e26.den/\(g)=g/\(Lm aG d.u/\((∃(r:Nat) (tb:List (List aB)) (ls:List aB) (f1:Bool),0=(r:Int)/\d.value.num=d.value.num/\d.value.den=d.value.den/\d.b.map aA=ls.map aA/\(g || !(aZ e93 e26).2)=f1/\[]=tb.map aG/\(r<=d.c.length/\(r:Int)<=i)/\tb=iQ d i.toNat j.toNat r/\tb.length=r/\ls=jB d i.toNat j.toNat r++d.b.drop r/\ls.length=d.b.length/\f1= !((fE d i.toNat j.toNat d.r.length&&(eH d i.toNat j.toNat).2)&&iR d i.toNat j.toNat r))/\(∀(r:Nat) (tb:List (List aB)) (ls:List aB) (f1:Bool),((r<=d.c.length/\(r:Int)<=i)/\tb=iQ d i.toNat j.toNat r/\tb.length=r/\ls=jB d i.toNat j.toNat r++d.b.drop r/\ls.length=d.b.length/\f1= !((fE d i.toNat j.toNat d.r.length&&(eH d i.toNat j.toNat).2)&&iR d i.toNat j.toNat r))->(decide ((r:Int)<(d.u.length:Int)))=true/\(0<=(r:Int)/\Em aG d.u r fun e104=>Br ((r:Int)=i) (tb.map aG=tb.map aG/\([.sl 40 2 (pr.map aA)]:List bX)= [.sl 40 2 (pr.map aA)]/\(tb.length+1)*24<=140737488355328/\(0<=(r:Int)/\Lm aA ls/\(r:Int)<(ls.length:Int)/\(ls.map aA=ls.map aA/\r<ls.length/\ ∀s22_5,ls[r]? =some s22_5->iU (aA s22_5)=true/\0+2<=(aA s22_5).length/\(aA s22_5).take 0++[.int .i64 ((aZ e93 e26).1.num),.int .i64 ((aZ e93 e26).1.den)]++(aA s22_5).drop (0+2)=aA ((aZ e93 e26).1)/\bO ((r:Int)+1)/\ ∃(r' :Nat) (tb' :List (List aB)) (ls' :List aB) (f1' :Bool),((r:Int)+1)=(r' :Int)/\d.value.num=d.value.num/\d.value.den=d.value.den/\(ls.set r ((aZ e93 e26).1)).map aA=ls'.map aA/\(f1)=f1' /\(tb++[pr]).map aG=tb'.map aG/\tb.length=i.toNat/\((r' <=d.c.length/\i<(r' :Int))/\tb' =iQ d i.toNat j.toNat r' /\tb'.length=r' /\ls' =jB d i.toNat j.toNat r' ++d.b.drop r' /\ls'.length=d.b.length/\f1' = !((fE d i.toNat j.toNat d.r.length&&(eH d i.toNat j.toNat).2)&&iR d i.toNat j.toNat r'))/\d.c.length - r' <d.c.length - r))) (AF e104 pr e26 j f1/\e104.map aA=e104.map aA/\j=j/\e26.num=e26.num/\e26.den=e26.den/\pr.map aA=pr.map aA/\(f1)=f1/\(tb.map aG=tb.map aG/\(fG e104 pr j.toNat e104.length).map aA=(fG e104 pr j.toNat e104.length).map aA/\(tb.length+1)*24<=140737488355328/\(0<=(r:Int)/\Em aA d.b r fun e135=>0<=j/\Em aA e104 ((j).toNat) fun e139=>sC e139/\(FU (f1 || !gS e104 pr j.toNat e104.length) e135 (eK e139) ((aZ e93 e26).1)/\e135.num=e135.num/\e135.den=e135.den/\((eK e139).num)=((eK e139).num)/\((eK e139).den)=((eK e139).den)/\((aZ e93 e26).1.num)=((aZ e93 e26).1.num)/\((aZ e93 e26).1.den)=((aZ e93 e26).1.den)/\(f1 || !gS e104 pr j.toNat e104.length)=(f1 || !gS e104 pr j.toNat e104.length)/\(0<=(r:Int)/\Lm aA ls/\(r:Int)<(ls.length:Int)/\(ls.map aA=ls.map aA/\r<ls.length/\ ∀s24_17,ls[r]? =some s24_17->iU (aA s24_17)=true/\0+2<=(aA s24_17).length/\(aA s24_17).take 0++[.int .i64 (((eG e135 (eK e139) ((aZ e93 e26).1)).1).num),.int .i64 (((eG e135 (eK e139) ((aZ e93 e26).1)).1).den)]++(aA s24_17).drop (0+2)=aA ((eG e135 (eK e139) ((aZ e93 e26).1)).1)/\bO ((r:Int)+1)/\ ∃(r' :Nat) (tb' :List (List aB)) (ls' :List aB) (f1' :Bool),((r:Int)+1)=(r' :Int)/\d.value.num=d.value.num/\d.value.den=d.value.den/\(ls.set r ((eG e135 (eK e139) ((aZ e93 e26).1)).1)).map aA=ls'.map aA/\((f1 || !gS e104 pr j.toNat e104.length) || !(eG e135 (eK e139) ((aZ e93 e26).1)).2)=f1' /\(tb++[fG e104 pr j.toNat e104.length]).map aG=tb'.map aG/\((r' <=d.c.length/\(r' :Int)<=i)/\tb' =iQ d i.toNat j.toNat r' /\tb'.length=r' /\ls' =jB d i.toNat j.toNat r' ++d.b.drop r' /\ls'.length=d.b.length/\f1' = !((fE d i.toNat j.toNat d.r.length&&(eH d i.toNat j.toNat).2)&&iR d i.toNat j.toNat r'))/\d.c.length - r' <d.c.length - r))))))))/\(∀(r:Nat) (tb:List (List aB)) (ls:List aB) (f1:Bool),((r<=d.c.length/\i<(r:Int))/\tb=iQ d i.toNat j.toNat r/\tb.length=r/\ls=jB d i.toNat j.toNat r++d.b.drop r/\ls.length=d.b.length/\f1= !((fE d i.toNat j.toNat d.r.length&&(eH d i.toNat j.toNat).2)&&iR d i.toNat j.toNat r))->Br ((r:Int)<(d.u.length:Int)) (0<=(r:Int)/\Em aG d.u r fun e104=>(decide ((r:Int)=i))=false/\(AF e104 pr e26 j f1/\e104.map aA=e104.map aA/\j=j/\e26.num=e26.num/\e26.den=e26.den/\pr.map aA=pr.map aA/\(f1)=f1/\(tb.map aG=tb.map aG/\(fG e104 pr j.toNat e104.length).map aA=(fG e104 pr j.toNat e104.length).map aA/\(tb.length+1)*24<=140737488355328/\(0<=(r:Int)/\Em aA d.b r fun e135=>0<=j/\Em aA e104 ((j).toNat) fun e139=>sC e139/\(FU (f1 || !gS e104 pr j.toNat e104.length) e135 (eK e139) ((aZ e93 e26).1)/\e135.num=e135.num/\e135.den=e135.den/\((eK e139).num)=((eK e139).num)/\((eK e139).den)=((eK e139).den)/\((aZ e93 e26).1.num)=((aZ e93 e26).1.num)/\((aZ e93 e26).1.den)=((aZ e93 e26).1.den)/\(f1 || !gS e104 pr j.toNat e104.length)=(f1 || !gS e104 pr j.toNat e104.length)/\(0<=(r:Int)/\Lm aA ls/\(r:Int)<(ls.length:Int)/\(ls.map aA=ls.map aA/\r<ls.length/\ ∀s24_17,ls[r]? =some s24_17->iU (aA s24_17)=true/\0+2<=(aA s24_17).length/\(aA s24_17).take 0++[.int .i64 (((eG e135 (eK e139) ((aZ e93 e26).1)).1).num),.int .i64 (((eG e135 (eK e139) ((aZ e93 e26).1)).1).den)]++(aA s24_17).drop (0+2)=aA ((eG e135 (eK e139) ((aZ e93 e26).1)).1)/\bO ((r:Int)+1)/\ ∃(r' :Nat) (tb' :List (List aB)) (ls' :List aB) (f1' :Bool),((r:Int)+1)=(r' :Int)/\d.value.num=d.value.num/\d.value.den=d.value.den/\(ls.set r ((eG e135 (eK e139) ((aZ e93 e26).1)).1)).map aA=ls'.map aA/\((f1 || !gS e104 pr j.toNat e104.length) || !(eG e135 (eK e139) ((aZ e93 e26).1)).2)=f1' /\(tb++[fG e104 pr j.toNat e104.length]).map aG=tb'.map aG/\i.toNat=i.toNat/\((r' <=d.c.length/\i<(r' :Int))/\tb' =iQ d i.toNat j.toNat r' /\tb'.length=r' /\ls' =jB d i.toNat j.toNat r' ++d.b.drop r' /\ls'.length=d.b.length/\f1' = !((fE d i.toNat j.toNat d.r.length&&(eH d i.toNat j.toNat).2)&&iR d i.toNat j.toNat r'))/\d.c.length - r' <d.c.length - r))))))) (AF d.s pr e26 j f1/\d.s.map aA=d.s.map aA/\j=j/\e26.num=e26.num/\e26.den=e26.den/\pr.map aA=pr.map aA/\(f1)=f1/\(tb.map aG=tb.map aG/\i.toNat<tb.length/\ ∀a6500,tb[i.toNat]? =some a6500->((aG a6500).take 0++ .sl 40 2 (pr.map aA)::(aG a6500).drop (0+1)=aG pr)/\0<=j/\Em aA d.s ((j).toNat) fun e157=>FU (f1 || !gS d.s pr j.toNat d.s.length) d.value e157 ((aZ e93 e26).1)/\d.value.num=d.value.num/\d.value.den=d.value.den/\e157.num=e157.num/\e157.den=e157.den/\((aZ e93 e26).1.num)=((aZ e93 e26).1.num)/\((aZ e93 e26).1.den)=((aZ e93 e26).1.den)/\(f1 || !gS d.s pr j.toNat d.s.length)=(f1 || !gS d.s pr j.toNat d.s.length)/\Bb ((f1 || !gS d.s pr j.toNat d.s.length) || !(eG d.value e157 ((aZ e93 e26).1)).2) (0=((fT d i.toNat j.toNat).1.value.num)/\0=((fT d i.toNat j.toNat).1.value.den)/\(false)=((fT d i.toNat j.toNat).2)/\[]=(fT d i.toNat j.toNat).1.c.map intD/\[]=(fT d i.toNat j.toNat).1.r.map intD/\[]=(fT d i.toNat j.toNat).1.u.map aG/\[]=(fT d i.toNat j.toNat).1.b.map aA/\[]=(fT d i.toNat j.toNat).1.s.map aA/\True) ((((eG d.value e157 ((aZ e93 e26).1)).1).num)=((fT d i.toNat j.toNat).1.value.num)/\(((eG d.value e157 ((aZ e93 e26).1)).1).den)=((fT d i.toNat j.toNat).1.value.den)/\(true)=((fT d i.toNat j.toNat).2)/\(d.c.set ((i).toNat) e56).map intD=(fT d i.toNat j.toNat).1.c.map intD/\(d.r.set ((j).toNat) e61).map intD=(fT d i.toNat j.toNat).1.r.map intD/\(tb.set i.toNat pr).map aG=(fT d i.toNat j.toNat).1.u.map aG/\ls.map aA=(fT d i.toNat j.toNat).1.b.map aA/\(fG d.s pr j.toNat d.s.length).map aA=(fT d i.toNat j.toNat).1.s.map aA/\True)))))))))))))))))) ?_;refine lx fun n0=>lx fun n1=>lx fun n2=>lx fun n3=>lx fun n4=>?_;obtain⟨b1,b2,b3,b4,b5,b6,b7,b8⟩:=fP hd;refine⟨aGR,rfl,aGR,fun e23 h23=>?_⟩;obtain⟨hr23,hv23⟩:=b5 _ (aBD h23);refine⟨aGR,rfl,aGR,fun e26 h26=>?_⟩;have ha:fQ d i.toNat j.toNat=e26:=jJ h23 h26;have hva:aR e26=true:=hv23 _ (aBD h26);apply dd<;>intro c0
 ·apply et8<;>((rw[aEp (by rw[ha];exact c0)]<;>rfl))
 ·have hnz: ¬e26.num=0:=c0;refine⟨cpI _ aGR,cpI _ aGR,EC d.b aGR aGR,EC d.s aGR aGR,aGR,rfl,aGR,fun e56 h56=>?_⟩;have w56:d.r.getD j.toNat 0=e56:=bD h56;refine⟨aGR,rfl,aGR,fun e61 h61=>?_⟩;have w61:d.c.getD i.toNat 0=e61:=bD h61;refine⟨aGR,aAb _,aGR,rfl,aGR,fun s6_17 hs6_17=>⟨rfl,aBF rfl,rfl,?_⟩⟩;refine⟨aGR,aAb _,aGR,rfl,aGR,fun s6_19 hs6_19=>⟨rfl,aBF rfl,rfl,?_⟩⟩;refine⟨aGR,rfl,aGR,fun e69 h69=>?_⟩;obtain rfl:=bE h23 h69;refine⟨aAb _,⟨0,([]:List aB),false,rfl,rfl,rfl,aBC _,rfl,rfl,rfl⟩,fun k pr g ⟨hk,hpr,hf,hL⟩=>?_⟩;apply dd<;>intro c1
  ·refine⟨aGR,rfl,aGR,fun e75 h75=>?_⟩;apply dd<;>intro c2
   ·refine⟨Co (1:Int),aCd g (aN (1:Int)) e26,rfl,rfl,rfl,rfl,rfl,?_⟩;refine ap ?_ (fun _=>rfl) (by (simp;omega));refine⟨aGS,?_⟩;exact⟨k+1,_,g || !(aZ (aN (1:Int)) e26).2,rfl,rfl,rfl,⟨aGR,by (rw[hpr,pY,Ge ha aGR]<;>rfl),by (rw[pZ,hf,nt2,Ge ha aGR]<;>rfl),by simp;omega⟩,aGR⟩
   ·refine⟨aCd g e75 e26,rfl,rfl,rfl,rfl,rfl,?_⟩;refine ap ?_ (fun _=>rfl) (by (simp;omega));refine⟨aGS,?_⟩;exact⟨k+1,_,g || !(aZ e75 e26).2,rfl,rfl,rfl,⟨aGR,by (rw[hpr,pY,Gd ha (jJ h23 h75) aGR]<;>rfl),by (rw[pZ,hf,nt2,Gd ha (jJ h23 h75) aGR]<;>rfl),by simp;omega⟩,aGR⟩
  ·have hk' :k=d.r.length:=aGR
   rw[hk'] at hpr hf;have hpj:pr.getD j.toNat zR=(aZ C6 e26).1:=by rw[hpr];exact aAU aGR ha
   refine⟨aGR,rfl,aGR,fun e93 h93=>?_⟩;have hl:eH d i.toNat j.toNat=aZ e93 e26:=by rw[eH,bD h93,ha]
   refine⟨aCd g e93 e26,rfl,rfl,rfl,rfl,rfl,aAb _,⟨0,([]:List (List aB)),d.b,g || !(aZ e93 e26).2,by rfl,by rfl,by rfl,by rfl,by rfl,by rfl,⟨aBC _,aGR⟩,rfl,rfl,rfl,rfl,by rw[show iR d i.toNat j.toNat 0=true from rfl,Bool.and_true,hl,hf,nt2]⟩,?_,?_⟩
   ·intro r tb ls f1 ⟨hr,ht,htL,hls,hlL,hf1⟩;refine⟨by rw[aFI];omega,aGR,rfl,aGR,fun e104 h104=>?_⟩;obtain⟨hr104,hv104⟩:=b5 _ (aBD h104);apply dd<;>intro c4
    ·refine⟨rfl,rfl,aGR,aGR,aAb _,aGR,rfl,aGR,fun s22_5 hs22_5=>⟨rfl,aBF rfl,rfl,?_⟩⟩;refine⟨aGS,?_⟩;exact⟨r+1,_,_,f1,by rfl,by rfl,by rfl,by rfl,by rfl,by rfl,aGR,⟨aGS,by rw[ht,mK,(Nk (show r=i.toNat by omega)).1,<-hpr],by simp;omega,by rw[hls,FV (ED _ _ _ _) aGR,mL,(Nk (show r=i.toNat by omega)).2.1,hl]<;>rfl,by rw[aDF];exact hlL,by rw[mM,(Nk (show r=i.toNat by omega)).2.2,Bool.and_true];exact hf1⟩,aGR⟩
    ·refine⟨LK e104 pr e26 j f1 aGR aGR aGR (by assumption) (by assumption) (by assumption) (by assumption),rfl,rfl,rfl,rfl,rfl,rfl,rfl,rfl,aGR,aGR,rfl,aGR,fun e135 h135=>?_⟩;refine⟨aGR,rfl,aGR,fun e139 h139=>?_⟩;have z:=aAX (d:=d) (i:=i.toNat) (j:=j.toNat) (r:=r) aGR hpr h104 hr104 h139 h135 (show (eH d i.toNat j.toNat).1=_ by rw[hl]);have hcb:=bT (hv104 _ (aBD h139));refine⟨B0 e139 aGR,VV (f1 || !gS e104 pr j.toNat e104.length) e135 (eK e139) ((aZ e93 e26).1),rfl,rfl,rfl,rfl,rfl,rfl,rfl,aGR,aAb _,aGR,rfl,aGR,fun s24_17 hs24_17=>⟨rfl,aBF rfl,rfl,?_⟩⟩;refine⟨aGS,?_⟩;exact⟨r+1,_,_,(f1 || !gS e104 pr j.toNat e104.length) || !(eG e135 (eK e139) ((aZ e93 e26).1)).2,by rfl,by rfl,by rfl,by rfl,by rfl,by rfl,⟨aGS,by rw[ht,mK,z.1],by simp;omega,by rw[hls,FV (ED _ _ _ _) aGR,mL,z.2.1]<;>rfl,by rw[aDF];exact hlL,by rw[mM,z.2.2,hf1,SC]⟩,aGR⟩
   ·intro r tb ls f1 ⟨hr,ht,htL,hls,hlL,hf1⟩;apply dd<;>intro c3
    ·refine⟨aGR,rfl,aGR,fun e104 h104=>?_⟩;obtain⟨hr104,hv104⟩:=b5 _ (aBD h104);refine⟨by rw[decide_eq_false_iff_not];omega,LK e104 pr e26 j f1 aGR aGR aGR (by assumption) (by assumption) (by assumption) (by assumption),rfl,rfl,rfl,rfl,rfl,rfl,rfl,rfl,aGR,aGR,rfl,aGR,fun e135 h135=>?_⟩;refine⟨aGR,rfl,aGR,fun e139 h139=>?_⟩;have z:=aAX (d:=d) (i:=i.toNat) (j:=j.toNat) (r:=r) aGR hpr h104 hr104 h139 h135 (show (eH d i.toNat j.toNat).1=_ by rw[hl]);have hcb:=bT (hv104 _ (aBD h139));refine⟨B0 e139 aGR,VV (f1 || !gS e104 pr j.toNat e104.length) e135 (eK e139) ((aZ e93 e26).1),rfl,rfl,rfl,rfl,rfl,rfl,rfl,aGR,aAb _,aGR,rfl,aGR,fun s24_17 hs24_17=>⟨rfl,aBF rfl,rfl,?_⟩⟩;refine⟨aGS,?_⟩;exact⟨r+1,_,_,(f1 || !gS e104 pr j.toNat e104.length) || !(eG e135 (eK e139) ((aZ e93 e26).1)).2,by rfl,by rfl,by rfl,by rfl,by rfl,by rfl,by rfl,⟨aGS,by rw[ht,mK,z.1],by simp;omega,by rw[hls,FV (ED _ _ _ _) aGR,mL,z.2.1]<;>rfl,by rw[aDF];exact hlL,by rw[mM,z.2.2,hf1,SC]⟩,aGR⟩
    ·refine⟨LK d.s pr e26 j f1 aGR aGR aGR (by exact b7.2) (by assumption) (by assumption) (by assumption),rfl,rfl,rfl,rfl,rfl,rfl,rfl,aGR,fun a6500 ha6500=>⟨rfl,?_⟩⟩;refine⟨aGR,rfl,aGR,fun e157 h157=>?_⟩;have hV:vN d i.toNat j.toNat=eG d.value e157 (aZ e93 e26).1:=by rw[vN,bD h157,hl]
     refine⟨VV (f1 || !gS d.s pr j.toNat d.s.length) d.value e157 ((aZ e93 e26).1),rfl,rfl,rfl,rfl,rfl,rfl,rfl,?_⟩;have hfl:(!((nV d i.toNat j.toNat)&&(vN d i.toNat j.toNat).2))=((f1 || !gS d.s pr j.toNat d.s.length) || !(eG d.value e157 (aZ e93 e26).1).2):=by rw[hf1,hV,nV,VQ,<-hpr,aAW,show d.s.length=d.r.length from b7.1,show r=d.c.length by omega]
     apply db<;>intro c5
     ·have hP:=aCe (hfl.trans c5);apply et8<;>((rw[hP]<;>rfl))
     ·have hP:=aAV (by rw[ha];exact hnz) (hfl.trans c5);apply et8<;>((rw[hP]<;>first|(rw[fR,w56]<;>rfl)|(rw[fR,w61]<;>rfl)|(rw[ht,show r=d.c.length by omega,hpr,EB aGR]<;>rfl)|(rw[hls,show r=d.c.length by omega,VW aGR]<;>rfl)|(rw[fR,PN,<-hpr,show d.s.length=d.r.length from b7.1]<;>rfl)|(rw[fR,hV];done)))
def getD_some {α:Type}{l:List α}{i:Nat}{x:α}(h:i<l.length):l[i]? =some (l.getD i x):=by rw[aCz,aBP h];rfl
def Nn (k:Nat):upto (k+1)=upto k++[(k:Int)]:=by simp[upto,List.range_succ]
def LL (n i:Nat):Z:=(List.range i).map fun (j:Nat)=>((n+j:Nat):Int)
def Np (n i:Nat):LL n (i+1)=LL n i++[((n+i:Nat):Int)]:=by simp[LL,List.range_succ]
def aCf {p:bC}(h:bY p=true){i:Nat}(hi:i<p.rows.length):(p.rows.getD i []).length=p.q.length:=by
 obtain⟨_,_,_,b4,_⟩:=gE h;have:=aBD (getD_some (x:=([]:Z)) hi);exact(b4 _ (aDG _ this)).1
abbrev pO (l:Z):AV × aGJ:=(.own 0,[(0,.arr 40 2 true ((l.map aN).map aA))])
abbrev sD (l:Z):Prop:=Cn 42 [.one (.sl 3 1 (l.map intD))] (pO l).1 (pO l).2
def B1 (l:Z)(hl:l.length<=1048576):sD l:=by
 refine cq Tryz.func42 (.len l.length<| .loop (Nat × (List aB)) (Q2 Nat (List aB)) ([3,5,6]++rg 9 10) [600,1600,1700] (fun yy0=>[(9,vI (yy0.1:Int)),(3,.own 600)]) (fun yy0=>[(600,some (.arr 40 2 true (yy0.2.map aA)))]) (fun yy0=>yy0.1<=l.length/\yy0.2=(l.take yy0.1).map aN/\yy0.2.length=yy0.1) (fun yy0=>l.length - yy0.1) (fun yy0=> .br (.elem _ intD l (fun e11=> .call (.agg [vI ((aN e11).num),vI ((aN e11).den)]) []<| .app aB aA yy0.2 ([(aN e11)]:List aB)<| .back [(600,1700)])) (.fin [(0,600)]))) (p:=Lx (l.map intD)<| Lm intD l/\((∃(k:Nat) (o:List aB),0=(k:Int)/\[]=o.map aA/\k<=l.length/\o=(l.take k).map aN/\o.length=k)/\ ∀(k:Nat) (o:List aB),(k<=l.length/\o=(l.take k).map aN/\o.length=k)->Br ((k:Int)<(l.length:Int)) (0<=(k:Int)/\Em intD l k fun e11=>sA e11/\Ap aA o ([(aN e11)]:List aB) 16 (bO ((k:Int)+1)/\ ∃(k' :Nat) (o' :List aB),((k:Int)+1)=(k' :Int)/\(o++[(aN e11)]).map aA=o'.map aA/\(k' <=l.length/\o' =(l.take k').map aN/\o'.length=k')/\l.length - k' <l.length - k)) (o.map aA=(l.map aN).map aA/\True))) ?_;refine lx fun n0=>?_;refine⟨aAb _,⟨0,([]:List aB),rfl,rfl,aBC _,rfl,rfl⟩,fun k o ⟨hk,ho,hL⟩=>?_⟩;apply dd<;>intro c0
 ·refine⟨aGR,rfl,aGR,fun e11 h11=>?_⟩;refine⟨Co e11,?_⟩;refine ap ?_ (fun _=>rfl) (by (simp;omega));refine⟨aGS,?_⟩;exact⟨k+1,_,rfl,rfl,⟨aGR,by rw[ho,bW h11,aDM];rfl,by simp;omega⟩,aGR⟩
 ·apply et1
  ·rw[ho,aCR aGR]
abbrev aHH(x:bC):AV:=.agg [.own 0,.own 1,.own 2,.own 3,.own 4,vI ((fU x).1.value.num),vI ((fU x).1.value.den)]
abbrev EE (p:bC):AV × aGJ:=(.tup [aHH p,vB ((fU p).2)],[(0,.arr 3 1 true ((fU p).1.c.map intD)),(1,.arr 3 1 true ((fU p).1.r.map intD)),(2,.arr 41 1 true ((fU p).1.u.map aG)),(3,.arr 40 2 true ((fU p).1.b.map aA)),(4,.arr 40 2 true ((fU p).1.s.map aA))])
abbrev LM (p:bC):Prop:=Cn 38 [aHA p] (EE p).1 (EE p).2
def aAZ (p:bC)(hrs: ∀r∈p.rows,r.length<=1048576):LM p:=by
 refine cq Tryz.func38 (.call (vB (bY p)) []<| .br (.fin []) (bN (pO p.b)<| bN (pO p.q)<| .call (.agg [vI ((aN (0:Int)).num),vI ((aN (0:Int)).den)]) []<| .len p.q.length<| .loop (Nat × Z) (Q2 Nat Z) ([6]++rg 24 11) [400,3200,3300,9001] (fun yy0=>[(6,vI (yy0.1:Int))]) (fun yy0=>[(400,some (.box 83 [.nil,.own 9001,.nil,.own 1500,.own 1800,vI ((aN 0).num),vI ((aN 0).den)])),(9001,some (.arr 3 1 true (yy0.2.map intD)))]) (fun yy0=>yy0.1<=p.q.length/\yy0.2=upto yy0.1/\yy0.2.length=yy0.1) (fun yy0=>p.q.length - yy0.1) (fun yy0=> .br (.app Int intD yy0.2 ([(yy0.1:Int)]:Z)<| .back [(400,400),(9001,3300)]) (.len p.rows.length<| .loop (Nat × Z × (List (List aB))) (Q3 Nat Z (List (List aB))) ([7,8]++rg 38 21) [400,4800,4900,5400,5500,5600,9002,9003] (fun yy1=>[(38,vI (yy1.1:Int))]) (fun yy1=>[(400,some (.box 83 [.own 9002,.own 9001,.own 9003,.own 1500,.own 1800,vI ((aN 0).num),vI ((aN 0).den)])),(9002,some (.arr 3 1 true (yy1.2.1.map intD))),(9003,some (.arr 41 1 true (yy1.2.2.map aG)))]) (fun yy1=>yy1.1<=p.rows.length/\yy1.2.1=LL p.q.length yy1.1/\yy1.2.1.length=yy1.1/\yy1.2.2=(p.rows.take yy1.1).map (List.map aN)/\yy1.2.2.length=yy1.1) (fun yy1=>p.rows.length - yy1.1) (fun yy1=> .br (.elem _ aD p.rows (fun e41=> .app Int intD yy1.2.1 ([(p.q.length:Int)+(yy1.1:Int)]:Z)<| bN (pO e41)<| .appx (List aB) aG yy1.2.2 (e41.map aN)<| .back [(400,400),(9002,4900),(9003,5600)])) (.fin [(0,9002),(1,9001),(2,9003),(3,1500),(4,1800)])))))) (p:=aHC p<| tD p/\Nr (bY p) (0=((fU p).1.value.num)/\0=((fU p).1.value.den)/\(false)=((fU p).2)/\[]=(fU p).1.c.map intD/\[]=(fU p).1.r.map intD/\[]=(fU p).1.u.map aG/\[]=(fU p).1.b.map aA/\[]=(fU p).1.s.map aA/\True) (sD p.b/\(sD p.q/\(sA (0:Int)/\(Lm intD p.q/\((∃(k:Nat) (o:Z),0=(k:Int)/\((aN (0:Int)).num)=((aN 0).num)/\((aN (0:Int)).den)=((aN 0).den)/\[]=o.map intD/\k<=p.q.length/\o=upto k/\o.length=k)/\ ∀(k:Nat) (o:Z),(k<=p.q.length/\o=upto k/\o.length=k)->Br ((k:Int)<(p.q.length:Int)) (Ap intD o ([(k:Int)]:Z) 8 (bO ((k:Int)+1)/\ ∃(k' :Nat) (o' :Z),((k:Int)+1)=(k' :Int)/\((aN 0).num)=((aN 0).num)/\((aN 0).den)=((aN 0).den)/\(o++[(k:Int)]).map intD=o'.map intD/\(k' <=p.q.length/\o' =upto k' /\o'.length=k')/\p.q.length - k' <p.q.length - k)) (Lm aD p.rows/\((∃(i:Nat) (bs:Z) (tb:List (List aB)),0=(i:Int)/\((aN 0).num)=((aN 0).num)/\((aN 0).den)=((aN 0).den)/\[]=bs.map intD/\[]=tb.map aG/\i<=p.rows.length/\bs=LL p.q.length i/\bs.length=i/\tb=(p.rows.take i).map (List.map aN)/\tb.length=i)/\ ∀(i:Nat) (bs:Z) (tb:List (List aB)),(i<=p.rows.length/\bs=LL p.q.length i/\bs.length=i/\tb=(p.rows.take i).map (List.map aN)/\tb.length=i)->Br ((i:Int)<(p.rows.length:Int)) (0<=(i:Int)/\Em aD p.rows i fun e41=>bO ((p.q.length:Int)+(i:Int))/\Ap intD bs ([(p.q.length:Int)+(i:Int)]:Z) 8 (sD e41/\tb.map aG=tb.map aG/\(e41.map aN).map aA=(e41.map aN).map aA/\(tb.length+1)*24<=140737488355328/\bO ((i:Int)+1)/\ ∃(i' :Nat) (bs' :Z) (tb' :List (List aB)),((i:Int)+1)=(i' :Int)/\((aN 0).num)=((aN 0).num)/\((aN 0).den)=((aN 0).den)/\(bs++[(p.q.length:Int)+(i:Int)]).map intD=bs'.map intD/\(tb++[e41.map aN]).map aG=tb'.map aG/\(i' <=p.rows.length/\bs' =LL p.q.length i' /\bs'.length=i' /\tb' =(p.rows.take i').map (List.map aN)/\tb'.length=i')/\p.rows.length - i' <p.rows.length - i)) (((aN 0).num)=((fU p).1.value.num)/\((aN 0).den)=((fU p).1.value.den)/\(true)=((fU p).2)/\bs.map intD=(fU p).1.c.map intD/\o.map intD=(fU p).1.r.map intD/\tb.map aG=(fU p).1.u.map aG/\(p.b.map aN).map aA=(fU p).1.b.map aA/\(p.q.map aN).map aA=(fU p).1.s.map aA/\True))))))))) ?_;refine lx fun n0=>lx fun n1=>lx fun n2=>?_;refine⟨Cl p (by assumption),dm (fun c0=>?_) fun c0=>?_⟩
 ·apply et8<;>((rw[PQ c0]<;>rfl))
 ·obtain⟨b1,b2,b3,b4,b5⟩:=gE (p:=p) c0;refine⟨B1 p.b aGR,B1 p.q aGR,Co (0:Int),aAb _,⟨0,([]:Z),rfl,rfl,rfl,rfl,aBC _,rfl,rfl⟩,fun k o ⟨hk,ho,hL⟩=>?_⟩;apply dd<;>intro c1
  ·refine ap ?_ (fun _=>rfl) (by (simp;omega));refine⟨aGS,?_⟩;exact⟨k+1,_,rfl,rfl,rfl,rfl,⟨aGR,by rw[ho,Nn],by simp;omega⟩,aGR⟩
  ·refine⟨aAb _,⟨0,([]:Z),([]:List (List aB)),rfl,rfl,rfl,rfl,rfl,aBC _,rfl,rfl,rfl,rfl⟩,fun i bs tb ⟨hi,hb,hbL,ht,htL⟩=>?_⟩;apply dd<;>intro c2
   ·refine⟨aGR,rfl,aGR,fun e41 h41=>?_⟩;have hr41:=(b4 e41 (aDG _ (aBD h41))).1;refine⟨aGS,?_⟩;refine ap ?_ (fun _=>rfl) (by (simp;omega));refine⟨B1 e41 aGR,rfl,rfl,aGR,aGS,?_⟩;exact⟨i+1,_,_,rfl,rfl,rfl,rfl,rfl,⟨aGR,by (rw[hb,Np];simp),by simp;omega,by rw[ht,bW h41,aDM];rfl,by simp;omega⟩,aGR⟩
   ·apply et8<;>((rw[Bx c0]<;>first|rfl|(rw[ho,show k=p.q.length by omega];rfl)|(rw[hb,show i=p.rows.length by omega];rfl)|(rw[ht,aCR aGR];rfl)))
def aEq {d:aE}{i j:Int}(h:dE d=true)(hi:0<=i/\i<d.c.length)(hj:0<=j/\j<d.r.length):bU d i j=fT d i.toNat j.toNat:=by rw[bU,if_pos ⟨h,hi,hj⟩]
abbrev EF (d:aE)(i:Int)(j:Int):AV × aGJ:=(.tup [.agg [.own 0,.own 1,.own 2,.own 3,.own 4,vI ((bU d i j).1.value.num),vI ((bU d i j).1.value.den)],vB ((bU d i j).2)],[(0,.arr 3 1 true ((bU d i j).1.c.map intD)),(1,.arr 3 1 true ((bU d i j).1.r.map intD)),(2,.arr 41 1 true ((bU d i j).1.u.map aG)),(3,.arr 40 2 true ((bU d i j).1.b.map aA)),(4,.arr 40 2 true ((bU d i j).1.s.map aA))])
abbrev LN (d:aE)(i:Int)(j:Int):Prop:=Cn 51 [aG0 d,.one (.int .i64 i),.one (.int .i64 j)] (EF d i j).1 (EF d i j).2
def aA0 (d:aE)(i j:Int)(h0:d.c.length<=1048576)(h1:d.r.length<=1048576):LN d i j:=by
 refine cq Tryz.func51 (.call (vB (dE d)) []<| .br (.fin []) (.len d.c.length<| .call (vB (decide (0<=i/\i<=((d.c.length:Int) - 1)))) []<| aGQ<| .br (.fin []) (.len d.r.length<| .call (vB (decide (0<=j/\j<=((d.r.length:Int) - 1)))) []<| aGQ<| .br (.fin []) (.elem _ aG d.u (fun e58=> .elem _ aA e58 (fun e61=> aGO<| .br (.fin []) (.elem _ aG d.u (fun e70=> .elem _ aA e70 (fun e73=> .loop (Nat × (List aB) × Bool) (Q3 Nat (List aB) Bool) ([8,10,11,12,13]++rg 75 38) [1200,7500,11100,11200] (fun yy0=>[(11,vI (yy0.1:Int)),(10,.own 7500),(8,vB yy0.2.2)]) (fun yy0=>[(7500,some (.arr 40 2 true (yy0.2.1.map aA)))]) (fun yy0=>yy0.1<=d.r.length/\yy0.2.1=fI d i.toNat j.toNat yy0.1/\yy0.2.2=fE d i.toNat j.toNat yy0.1/\yy0.2.1.length=yy0.1) (fun yy0=>d.r.length - yy0.1) (fun yy0=> .len d.r.length<| .br (.elem _ aG d.u (fun e87=> .elem _ aA e87 (fun e90=>bN (rX e90 e73)<| .br (.call (.agg [vI ((aN (1:Int)).num),vI ((aN (1:Int)).den)]) []<| bN (rX (aN (1:Int)) e73)<| .br (.app aB aA yy0.2.1 ([((aZ (aN (1:Int)) e73).1)]:List aB)<| .back [(7500,11200)]) (.app aB aA yy0.2.1 ([((aZ (aN (1:Int)) e73).1)]:List aB)<| .back [(7500,11200)])) (.br (.app aB aA yy0.2.1 ([((aZ e90 e73).1)]:List aB)<| .back [(7500,11200)]) (.app aB aA yy0.2.1 ([((aZ e90 e73).1)]:List aB)<| .back [(7500,11200)]))))) (.elem _ aA d.b (fun e117=>bN (rX e117 e73)<| .br (.app Int intD ([]:Z) d.c<| .app Int intD ([]:Z) d.r<| .elem _ intD d.r (fun e142=> .len ((([]:Z)++d.c).length)<| .set Int intD (([]:Z)++d.c) (fun s17_9=>e142) (fun s17_9=> .elem _ intD d.c (fun e151=> .len ((([]:Z)++d.r).length)<| .set Int intD (([]:Z)++d.r) (fun s18_9=>e151) (fun s18_9=> .loop ((Nat × (List (List aB)) × (List aB) × Bool) ⊕ (Nat × (List (List aB)) × (List aB) × Bool)) (Qs (Q4 Nat (List (List aB)) (List aB) Bool) (Q4 Nat (List (List aB)) (List aB) Bool)) ([8]++rg 17 8++rg 154 104) [1600,2000,2100,2300,9003,9005,17000,17100,17600,17700,17900,22200,22300,24900,25000,25500,25600] (Sum.elim (fun yy1=>([(17,vI (yy1.1:Int)),(8,vB yy1.2.2.2)]:Sl)) (fun yy1=>([(17,vI (yy1.1:Int)),(8,vB yy1.2.2.2)]:Sl))) (Sum.elim (fun yy1=>([(1600,some (.box 83 [.own 13000,.own 13400,.own 9003,.own 9005,.nil,vI 0,vI 0])),(9005,some (.arr 40 2 true (yy1.2.2.1.map aA))),(9003,some (.arr 41 1 true (yy1.2.1.map aG)))]:Rl)) (fun yy1=>([(1600,some (.box 83 [.own 13000,.own 13400,.own 9003,.own 9005,.nil,vI 0,vI 0])),(9005,some (.arr 40 2 true (yy1.2.2.1.map aA))),(9003,some (.hole 41 1 (yy1.2.1.map aG) i.toNat 0 7500))]:Rl))) (Sum.elim (fun yy1=>(yy1.1<=d.c.length/\(yy1.1:Int)<=i)/\yy1.2.1=iQ d i.toNat j.toNat yy1.1/\yy1.2.1.length=yy1.1/\yy1.2.2.1=jB d i.toNat j.toNat yy1.1/\yy1.2.2.1.length=yy1.1/\yy1.2.2.2=((fE d i.toNat j.toNat d.r.length&&(eH d i.toNat j.toNat).2)&&iR d i.toNat j.toNat yy1.1)) (fun yy1=>(yy1.1<=d.c.length/\i<(yy1.1:Int))/\yy1.2.1=iQ d i.toNat j.toNat yy1.1/\yy1.2.1.length=yy1.1/\yy1.2.2.1=jB d i.toNat j.toNat yy1.1/\yy1.2.2.1.length=yy1.1/\yy1.2.2.2=((fE d i.toNat j.toNat d.r.length&&(eH d i.toNat j.toNat).2)&&iR d i.toNat j.toNat yy1.1))) (Sum.elim (fun yy1=>d.c.length - yy1.1) (fun yy1=>d.c.length - yy1.1)) (Sum.elim (fun yy1=>(.len d.c.length<| .yes<| .lit<| .br (.br (.apph (List aB) aG yy1.2.1 yy0.2.1<| .app aB aA yy1.2.2.1 ([((aZ e117 e73).1)]:List aB)<| .back [(1600,1600),(9003,17100),(9005,17700)] 1) (.loop (Nat × (List aB) × Bool) (Q3 Nat (List aB) Bool) ([8,18,19,20,21,22]++rg 179 45) [2000,2100,17900,22200,22300] (fun yy2=>[(19,vI (yy2.1:Int)),(18,.own 17900),(8,vB yy2.2.2)]) (fun yy2=>[(17900,some (.arr 40 2 true (yy2.2.1.map aA)))]) (fun yy2=>yy2.1<=d.r.length/\yy2.2.1=fG (d.u.getD yy1.1 []) yy0.2.1 j.toNat yy2.1/\yy2.2.2=(yy1.2.2.2&&gS (d.u.getD yy1.1 []) yy0.2.1 j.toNat yy2.1)/\yy2.2.1.length=yy2.1) (fun yy2=>d.r.length - yy2.1) (fun yy2=> .len d.r.length<| .br (.elem _ aG d.u (fun e190=> .elem _ aA e190 (fun e193=> .br (.call (.agg [vI ((aN (0:Int)).num),vI ((aN (0:Int)).den)]) []<| .elem _ aG d.u (fun e204=> .elem _ aA e204 (fun e207=> .len yy0.2.1.length<| .elem _ aA yy0.2.1 (fun e212=>bN (kE (aN (0:Int)) e207 e212)<| .br (.app aB aA yy2.2.1 ([((cB (aN (0:Int)) e207 e212).1)]:List aB)<| .back [(17900,22300)]) (.app aB aA yy2.2.1 ([((cB (aN (0:Int)) e207 e212).1)]:List aB)<| .back [(17900,22300)]))))) (.elem _ aG d.u (fun e204=> .elem _ aA e204 (fun e207=> .len yy0.2.1.length<| .elem _ aA yy0.2.1 (fun e212=>bN (kE e193 e207 e212)<| .br (.app aB aA yy2.2.1 ([((cB e193 e207 e212).1)]:List aB)<| .back [(17900,22300)]) (.app aB aA yy2.2.1 ([((cB e193 e207 e212).1)]:List aB)<| .back [(17900,22300)])))))))) (.elem _ aA d.b (fun e228=> .elem _ aG d.u (fun e233=> .elem _ aA e233 (fun e236=>bN (kE e228 e236 ((aZ e117 e73).1))<| .br (.appx (List aB) aG yy1.2.1 yy2.2.1<| .app aB aA yy1.2.2.1 ([((cB e228 e236 ((aZ e117 e73).1)).1)]:List aB)<| .back [(1600,1600),(9003,25000),(9005,25600)] 0) (.appx (List aB) aG yy1.2.1 yy2.2.1<| .app aB aA yy1.2.2.1 ([((cB e228 e236 ((aZ e117 e73).1)).1)]:List aB)<| .back [(1600,1600),(9003,25000),(9005,25600)] 0)))))))) (.loop Nat (Q1 Nat) [8,25] [] (fun k3=>[(25,vI (k3:Int)),(8,vB false)]) (fun k3=>[]) (fun k3=>True) (fun k3=>0) (fun k3=> .len d.r.length<| .br (.fin []) (.fin []))):T)) (fun yy1=>(.len d.c.length<| .br (.lit<| .br (.no<| .loop (Nat × (List aB) × Bool) (Q3 Nat (List aB) Bool) ([8,18,19,20,21,22]++rg 179 45) [2000,2100,17900,22200,22300] (fun yy2=>[(19,vI (yy2.1:Int)),(18,.own 17900),(8,vB yy2.2.2)]) (fun yy2=>[(17900,some (.arr 40 2 true (yy2.2.1.map aA)))]) (fun yy2=>yy2.1<=d.r.length/\yy2.2.1=fG (d.u.getD yy1.1 []) yy0.2.1 j.toNat yy2.1/\yy2.2.2=(yy1.2.2.2&&gS (d.u.getD yy1.1 []) yy0.2.1 j.toNat yy2.1)/\yy2.2.1.length=yy2.1) (fun yy2=>d.r.length - yy2.1) (fun yy2=> .len d.r.length<| .br (.elem _ aG d.u (fun e190=> .elem _ aA e190 (fun e193=> .br (.call (.agg [vI ((aN (0:Int)).num),vI ((aN (0:Int)).den)]) []<| .elem _ aG d.u (fun e204=> .elem _ aA e204 (fun e207=> .len yy0.2.1.length<| .elem _ aA yy0.2.1 (fun e212=>bN (kE (aN (0:Int)) e207 e212)<| .br (.app aB aA yy2.2.1 ([((cB (aN (0:Int)) e207 e212).1)]:List aB)<| .back [(17900,22300)]) (.app aB aA yy2.2.1 ([((cB (aN (0:Int)) e207 e212).1)]:List aB)<| .back [(17900,22300)]))))) (.elem _ aG d.u (fun e204=> .elem _ aA e204 (fun e207=> .len yy0.2.1.length<| .elem _ aA yy0.2.1 (fun e212=>bN (kE e193 e207 e212)<| .br (.app aB aA yy2.2.1 ([((cB e193 e207 e212).1)]:List aB)<| .back [(17900,22300)]) (.app aB aA yy2.2.1 ([((cB e193 e207 e212).1)]:List aB)<| .back [(17900,22300)])))))))) (.elem _ aA d.b (fun e228=> .elem _ aG d.u (fun e233=> .elem _ aA e233 (fun e236=>bN (kE e228 e236 ((aZ e117 e73).1))<| .br (.appy (List aB) aG yy1.2.1 yy2.2.1<| .app aB aA yy1.2.2.1 ([((cB e228 e236 ((aZ e117 e73).1)).1)]:List aB)<| .back [(1600,1600),(9003,25000),(9005,25600)] 1) (.appy (List aB) aG yy1.2.1 yy2.2.1<| .app aB aA yy1.2.2.1 ([((cB e228 e236 ((aZ e117 e73).1)).1)]:List aB)<| .back [(1600,1600),(9003,25000),(9005,25600)] 1))))))) (.loop Nat (Q1 Nat) [8,25] [] (fun k3=>[(25,vI (k3:Int)),(8,vB false)]) (fun k3=>[]) (fun k3=>True) (fun k3=>0) (fun k3=> .len d.r.length<| .br (.fin []) (.fin [])))) (.loop (Nat × (List aB) × Bool) (Q3 Nat (List aB) Bool) ([8,25,26,27,28]++rg 258 43) [1600,2600,2700,9004,29800,29900] (fun yy3=>[(25,vI (yy3.1:Int)),(8,vB yy3.2.2)]) (fun yy3=>[(1600,some (.box 83 [.own 13000,.own 13400,.own 9003,.own 9005,.own 9004,vI 0,vI 0])),(9004,some (.arr 40 2 true (yy3.2.1.map aA)))]) (fun yy3=>yy3.1<=d.r.length/\yy3.2.1=fG d.s yy0.2.1 j.toNat yy3.1/\yy3.2.2=(yy1.2.2.2&&gS d.s yy0.2.1 j.toNat yy3.1)/\yy3.2.1.length=yy3.1) (fun yy3=>d.r.length - yy3.1) (fun yy3=> .len d.r.length<| .br (.lit<| .br (.elem _ aA d.s (fun e271=> .br (.call (.agg [vI ((aN (0:Int)).num),vI ((aN (0:Int)).den)]) []<| .elem _ aA d.s (fun e282=> .len yy0.2.1.length<| .elem _ aA yy0.2.1 (fun e287=>bN (kE (aN (0:Int)) e282 e287)<| .br (.app aB aA yy3.2.1 ([((cB (aN (0:Int)) e282 e287).1)]:List aB)<| .back [(1600,1600),(9004,29900)]) (.app aB aA yy3.2.1 ([((cB (aN (0:Int)) e282 e287).1)]:List aB)<| .back [(1600,1600),(9004,29900)])))) (.elem _ aA d.s (fun e282=> .len yy0.2.1.length<| .elem _ aA yy0.2.1 (fun e287=>bN (kE e271 e282 e287)<| .br (.app aB aA yy3.2.1 ([((cB e271 e282 e287).1)]:List aB)<| .back [(1600,1600),(9004,29900)]) (.app aB aA yy3.2.1 ([((cB e271 e282 e287).1)]:List aB)<| .back [(1600,1600),(9004,29900)])))))) (.br (.fin []) (.join 50 9003 7500 (List aB) aG yy1.2.1 (fun a7500=>yy0.2.1) (fun a7500=> .elem _ aA d.s (fun e308=>bN (vK e308 ((aZ e117 e73).1))<| bN (zY d.value ((dC e308 ((aZ e117 e73).1)).1))<| .br (.fin []) (aGQ<| .br (.fin []) (.fin [(0,13000),(1,13400),(2,9003),(3,9005),(4,9004)]))))))) (aGQ<| .br (.fin []) (.join 50 9003 7500 (List aB) aG yy1.2.1 (fun a7500=>yy0.2.1) (fun a7500=> .elem _ aA d.s (fun e308=>bN (vK e308 ((aZ e117 e73).1))<| bN (zY d.value ((dC e308 ((aZ e117 e73).1)).1))<| .br (.fin []) (aGQ<| .br (.fin []) (.fin [(0,13000),(1,13400),(2,9003),(3,9005),(4,9004)])))))))):T)))))))) (.app Int intD ([]:Z) d.c<| .app Int intD ([]:Z) d.r<| .elem _ intD d.r (fun e142=> .len ((([]:Z)++d.c).length)<| .set Int intD (([]:Z)++d.c) (fun s17_9=>e142) (fun s17_9=> .elem _ intD d.c (fun e151=> .len ((([]:Z)++d.r).length)<| .set Int intD (([]:Z)++d.r) (fun s18_9=>e151) (fun s18_9=> .loop Nat (Q1 Nat) [8,17] [] (fun r=>[(17,vI (r:Int)),(8,vB false)]) (fun r=>[]) (fun r=>True) (fun r=>0) (fun r=> .len d.c.length<| .br (.loop Nat (Q1 Nat) [8,25] [] (fun k3=>[(25,vI (k3:Int)),(8,vB false)]) (fun k3=>[]) (fun k3=>True) (fun k3=>0) (fun k3=> .len d.r.length<| .br (.fin []) (.fin []))) (.loop Nat (Q1 Nat) [8,25] [] (fun k3=>[(25,vI (k3:Int)),(8,vB false)]) (fun k3=>[]) (fun k3=>True) (fun k3=>0) (fun k3=> .len d.r.length<| .br (.fin []) (.fin []))))))))))))))))))))) (p:=aGy d<| AE d/\Nr (dE d) (0=((bU d i j).1.value.num)/\0=((bU d i j).1.value.den)/\(false)=((bU d i j).2)/\[]=(bU d i j).1.c.map intD/\[]=(bU d i j).1.r.map intD/\[]=(bU d i j).1.u.map aG/\[]=(bU d i j).1.b.map aA/\[]=(bU d i j).1.s.map aA/\True) (Lm intD d.c/\(bO ((d.c.length:Int) - 1)/\(gC i (0:Int) ((d.c.length:Int) - 1)/\Nb (0<=i/\i<=((d.c.length:Int) - 1)) (0=((bU d i j).1.value.num)/\0=((bU d i j).1.value.den)/\(false)=((bU d i j).2)/\[]=(bU d i j).1.c.map intD/\[]=(bU d i j).1.r.map intD/\[]=(bU d i j).1.u.map aG/\[]=(bU d i j).1.b.map aA/\[]=(bU d i j).1.s.map aA/\True) (Lm intD d.r/\(bO ((d.r.length:Int) - 1)/\(gC j (0:Int) ((d.r.length:Int) - 1)/\Nb (0<=j/\j<=((d.r.length:Int) - 1)) (0=((bU d i j).1.value.num)/\0=((bU d i j).1.value.den)/\(false)=((bU d i j).2)/\[]=(bU d i j).1.c.map intD/\[]=(bU d i j).1.r.map intD/\[]=(bU d i j).1.u.map aG/\[]=(bU d i j).1.b.map aA/\[]=(bU d i j).1.s.map aA/\True) (0<=i/\Em aG d.u ((i).toNat) fun e58=>0<=j/\Em aA e58 ((j).toNat) fun e61=>Br (e61.num=0) (0=((bU d i j).1.value.num)/\0=((bU d i j).1.value.den)/\(false)=((bU d i j).2)/\[]=(bU d i j).1.c.map intD/\[]=(bU d i j).1.r.map intD/\[]=(bU d i j).1.u.map aG/\[]=(bU d i j).1.b.map aA/\[]=(bU d i j).1.s.map aA/\True) (0<=i/\Em aG d.u ((i).toNat) fun e70=>0<=j/\Em aA e70 ((j).toNat) fun e73=>(∃(k:Nat) (pr:List aB) (f:Bool),0=(k:Int)/\(true)=f/\[]=pr.map aA/\k<=d.r.length/\pr=fI d i.toNat j.toNat k/\f=fE d i.toNat j.toNat k/\pr.length=k)/\ ∀(k:Nat) (pr:List aB) (f:Bool),(k<=d.r.length/\pr=fI d i.toNat j.toNat k/\f=fE d i.toNat j.toNat k/\pr.length=k)->Lm intD d.r/\Br ((k:Int)<(d.r.length:Int)) (0<=i/\Em aG d.u ((i).toNat) fun e87=>0<=(k:Int)/\Em aA e87 k fun e90=>vL e90 e73/\Br ((k:Int)=j) (mE (1:Int)/\vL (aN (1:Int)) e73/\Bb (f) (Ap aA pr ([((aZ (aN (1:Int)) e73).1)]:List aB) 16 (bO ((k:Int)+1)/\ ∃(k' :Nat) (pr' :List aB) (f' :Bool),((k:Int)+1)=(k' :Int)/\((aZ (aN (1:Int)) e73).2)=f' /\(pr++[((aZ (aN (1:Int)) e73).1)]).map aA=pr'.map aA/\(k' <=d.r.length/\pr' =fI d i.toNat j.toNat k' /\f' =fE d i.toNat j.toNat k' /\pr'.length=k')/\d.r.length - k' <d.r.length - k)) (Ap aA pr ([((aZ (aN (1:Int)) e73).1)]:List aB) 16 (bO ((k:Int)+1)/\ ∃(k' :Nat) (pr' :List aB) (f' :Bool),((k:Int)+1)=(k' :Int)/\(false)=f' /\(pr++[((aZ (aN (1:Int)) e73).1)]).map aA=pr'.map aA/\(k' <=d.r.length/\pr' =fI d i.toNat j.toNat k' /\f' =fE d i.toNat j.toNat k' /\pr'.length=k')/\d.r.length - k' <d.r.length - k))) (Bb (f) (Ap aA pr ([((aZ e90 e73).1)]:List aB) 16 (bO ((k:Int)+1)/\ ∃(k' :Nat) (pr' :List aB) (f' :Bool),((k:Int)+1)=(k' :Int)/\((aZ e90 e73).2)=f' /\(pr++[((aZ e90 e73).1)]).map aA=pr'.map aA/\(k' <=d.r.length/\pr' =fI d i.toNat j.toNat k' /\f' =fE d i.toNat j.toNat k' /\pr'.length=k')/\d.r.length - k' <d.r.length - k)) (Ap aA pr ([((aZ e90 e73).1)]:List aB) 16 (bO ((k:Int)+1)/\ ∃(k' :Nat) (pr' :List aB) (f' :Bool),((k:Int)+1)=(k' :Int)/\(false)=f' /\(pr++[((aZ e90 e73).1)]).map aA=pr'.map aA/\(k' <=d.r.length/\pr' =fI d i.toNat j.toNat k' /\f' =fE d i.toNat j.toNat k' /\pr'.length=k')/\d.r.length - k' <d.r.length - k)))) (0<=i/\Em aA d.b ((i).toNat) fun e117=>vL e117 e73/\Bb (f) (Ap intD ([]:Z) d.c 8 (Ap intD ([]:Z) d.r 8 (0<=j/\Em intD d.r ((j).toNat) fun e142=>0<=i/\Lm intD (([]:Z)++d.c)/\i<(((([]:Z)++d.c).length:Nat):Int)/\((([]:Z)++d.c).map intD=(([]:Z)++d.c).map intD/\(i).toNat<(([]:Z)++d.c).length/\ ∀s17_9,(([]:Z)++d.c)[(i).toNat]? =some s17_9->iU (intD s17_9)=true/\0+1<=(intD s17_9).length/\(intD s17_9).take 0++[.int .i64 e142]++(intD s17_9).drop (0+1)=intD e142/\(0<=i/\Em intD d.c ((i).toNat) fun e151=>0<=j/\Lm intD (([]:Z)++d.r)/\j<(((([]:Z)++d.r).length:Nat):Int)/\((([]:Z)++d.r).map intD=(([]:Z)++d.r).map intD/\(j).toNat<(([]:Z)++d.r).length/\ ∀s18_9,(([]:Z)++d.r)[(j).toNat]? =some s18_9->iU (intD s18_9)=true/\0+1<=(intD s18_9).length/\(intD s18_9).take 0++[.int .i64 e151]++(intD s18_9).drop (0+1)=intD e151/\((∃(r:Nat) (tb:List (List aB)) (ls:List aB) (f1:Bool),0=(r:Int)/\((aZ e117 e73).2)=f1/\(0:Int)=0/\(0:Int)=0/\[]=ls.map aA/\[]=tb.map aG/\(r<=d.c.length/\(r:Int)<=i)/\tb=iQ d i.toNat j.toNat r/\tb.length=r/\ls=jB d i.toNat j.toNat r/\ls.length=r/\f1=((fE d i.toNat j.toNat d.r.length&&(eH d i.toNat j.toNat).2)&&iR d i.toNat j.toNat r))/\(∀(r:Nat) (tb:List (List aB)) (ls:List aB) (f1:Bool),((r<=d.c.length/\(r:Int)<=i)/\tb=iQ d i.toNat j.toNat r/\tb.length=r/\ls=jB d i.toNat j.toNat r/\ls.length=r/\f1=((fE d i.toNat j.toNat d.r.length&&(eH d i.toNat j.toNat).2)&&iR d i.toNat j.toNat r))->Lm intD d.c/\((decide ((r:Int)<(d.c.length:Int)))=true/\Bb (f1) (Br ((r:Int)=i) (tb.map aG=tb.map aG/\([.sl 40 2 (pr.map aA)]:List bX)= [.sl 40 2 (pr.map aA)]/\(tb.length+1)*24<=140737488355328/\Ap aA ls ([((aZ e117 e73).1)]:List aB) 16 (bO ((r:Int)+1)/\ ∃(r' :Nat) (tb' :List (List aB)) (ls' :List aB) (f1' :Bool),((r:Int)+1)=(r' :Int)/\(f1)=f1' /\(0:Int)=0/\(0:Int)=0/\(ls++[((aZ e117 e73).1)]).map aA=ls'.map aA/\(tb++[pr]).map aG=tb'.map aG/\tb.length=i.toNat/\((r' <=d.c.length/\i<(r' :Int))/\tb' =iQ d i.toNat j.toNat r' /\tb'.length=r' /\ls' =jB d i.toNat j.toNat r' /\ls'.length=r' /\f1' =((fE d i.toNat j.toNat d.r.length&&(eH d i.toNat j.toNat).2)&&iR d i.toNat j.toNat r'))/\d.c.length - r' <d.c.length - r)) ((∃(k2:Nat) (rw2:List aB) (f2:Bool),0=(k2:Int)/\(f1)=f2/\[]=rw2.map aA/\k2<=d.r.length/\rw2=fG (d.u.getD r []) pr j.toNat k2/\f2=(f1&&gS (d.u.getD r []) pr j.toNat k2)/\rw2.length=k2)/\ ∀(k2:Nat) (rw2:List aB) (f2:Bool),(k2<=d.r.length/\rw2=fG (d.u.getD r []) pr j.toNat k2/\f2=(f1&&gS (d.u.getD r []) pr j.toNat k2)/\rw2.length=k2)->Lm intD d.r/\Br ((k2:Int)<(d.r.length:Int)) (0<=(r:Int)/\Em aG d.u r fun e190=>0<=(k2:Int)/\Em aA e190 k2 fun e193=>Br ((k2:Int)=j) (mE (0:Int)/\0<=(r:Int)/\Em aG d.u r fun e204=>0<=j/\Em aA e204 ((j).toNat) fun e207=>0<=(k2:Int)/\Lm aA pr/\(k2:Int)<(pr.length:Int)/\Em aA pr k2 fun e212=>lJ (aN (0:Int)) e207 e212/\Bb (f2) (Ap aA rw2 ([((cB (aN (0:Int)) e207 e212).1)]:List aB) 16 (bO ((k2:Int)+1)/\ ∃(k2' :Nat) (rw2' :List aB) (f2' :Bool),((k2:Int)+1)=(k2' :Int)/\((cB (aN (0:Int)) e207 e212).2)=f2' /\(rw2++[((cB (aN (0:Int)) e207 e212).1)]).map aA=rw2'.map aA/\(k2' <=d.r.length/\rw2' =fG (d.u.getD r []) pr j.toNat k2' /\f2' =(f1&&gS (d.u.getD r []) pr j.toNat k2')/\rw2'.length=k2')/\d.r.length - k2' <d.r.length - k2)) (Ap aA rw2 ([((cB (aN (0:Int)) e207 e212).1)]:List aB) 16 (bO ((k2:Int)+1)/\ ∃(k2' :Nat) (rw2' :List aB) (f2' :Bool),((k2:Int)+1)=(k2' :Int)/\(false)=f2' /\(rw2++[((cB (aN (0:Int)) e207 e212).1)]).map aA=rw2'.map aA/\(k2' <=d.r.length/\rw2' =fG (d.u.getD r []) pr j.toNat k2' /\f2' =(f1&&gS (d.u.getD r []) pr j.toNat k2')/\rw2'.length=k2')/\d.r.length - k2' <d.r.length - k2))) (0<=(r:Int)/\Em aG d.u r fun e204=>0<=j/\Em aA e204 ((j).toNat) fun e207=>0<=(k2:Int)/\Lm aA pr/\(k2:Int)<(pr.length:Int)/\Em aA pr k2 fun e212=>lJ e193 e207 e212/\Bb (f2) (Ap aA rw2 ([((cB e193 e207 e212).1)]:List aB) 16 (bO ((k2:Int)+1)/\ ∃(k2' :Nat) (rw2' :List aB) (f2' :Bool),((k2:Int)+1)=(k2' :Int)/\((cB e193 e207 e212).2)=f2' /\(rw2++[((cB e193 e207 e212).1)]).map aA=rw2'.map aA/\(k2' <=d.r.length/\rw2' =fG (d.u.getD r []) pr j.toNat k2' /\f2' =(f1&&gS (d.u.getD r []) pr j.toNat k2')/\rw2'.length=k2')/\d.r.length - k2' <d.r.length - k2)) (Ap aA rw2 ([((cB e193 e207 e212).1)]:List aB) 16 (bO ((k2:Int)+1)/\ ∃(k2' :Nat) (rw2' :List aB) (f2' :Bool),((k2:Int)+1)=(k2' :Int)/\(false)=f2' /\(rw2++[((cB e193 e207 e212).1)]).map aA=rw2'.map aA/\(k2' <=d.r.length/\rw2' =fG (d.u.getD r []) pr j.toNat k2' /\f2' =(f1&&gS (d.u.getD r []) pr j.toNat k2')/\rw2'.length=k2')/\d.r.length - k2' <d.r.length - k2)))) (0<=(r:Int)/\Em aA d.b r fun e228=>0<=(r:Int)/\Em aG d.u r fun e233=>0<=j/\Em aA e233 ((j).toNat) fun e236=>lJ e228 e236 ((aZ e117 e73).1)/\Bb (f2) (tb.map aG=tb.map aG/\rw2.map aA=rw2.map aA/\(tb.length+1)*24<=140737488355328/\Ap aA ls ([((cB e228 e236 ((aZ e117 e73).1)).1)]:List aB) 16 (bO ((r:Int)+1)/\ ∃(r' :Nat) (tb' :List (List aB)) (ls' :List aB) (f1' :Bool),((r:Int)+1)=(r' :Int)/\((cB e228 e236 ((aZ e117 e73).1)).2)=f1' /\(0:Int)=0/\(0:Int)=0/\(ls++[((cB e228 e236 ((aZ e117 e73).1)).1)]).map aA=ls'.map aA/\(tb++[rw2]).map aG=tb'.map aG/\((r' <=d.c.length/\(r' :Int)<=i)/\tb' =iQ d i.toNat j.toNat r' /\tb'.length=r' /\ls' =jB d i.toNat j.toNat r' /\ls'.length=r' /\f1' =((fE d i.toNat j.toNat d.r.length&&(eH d i.toNat j.toNat).2)&&iR d i.toNat j.toNat r'))/\d.c.length - r' <d.c.length - r)) (tb.map aG=tb.map aG/\rw2.map aA=rw2.map aA/\(tb.length+1)*24<=140737488355328/\Ap aA ls ([((cB e228 e236 ((aZ e117 e73).1)).1)]:List aB) 16 (bO ((r:Int)+1)/\ ∃(r' :Nat) (tb' :List (List aB)) (ls' :List aB) (f1' :Bool),((r:Int)+1)=(r' :Int)/\(false)=f1' /\(0:Int)=0/\(0:Int)=0/\(ls++[((cB e228 e236 ((aZ e117 e73).1)).1)]).map aA=ls'.map aA/\(tb++[rw2]).map aG=tb'.map aG/\((r' <=d.c.length/\(r' :Int)<=i)/\tb' =iQ d i.toNat j.toNat r' /\tb'.length=r' /\ls' =jB d i.toNat j.toNat r' /\ls'.length=r' /\f1' =((fE d i.toNat j.toNat d.r.length&&(eH d i.toNat j.toNat).2)&&iR d i.toNat j.toNat r'))/\d.c.length - r' <d.c.length - r))))) ((∃(k3:Nat),0=(k3:Int)/\(f1)=false/\True)/\ ∀(k3:Nat),True->Lm intD d.r/\Br ((k3:Int)<(d.r.length:Int)) (0=((bU d i j).1.value.num)/\0=((bU d i j).1.value.den)/\(false)=((bU d i j).2)/\[]=(bU d i j).1.c.map intD/\[]=(bU d i j).1.r.map intD/\[]=(bU d i j).1.u.map aG/\[]=(bU d i j).1.b.map aA/\[]=(bU d i j).1.s.map aA/\True) (0=((bU d i j).1.value.num)/\0=((bU d i j).1.value.den)/\(false)=((bU d i j).2)/\[]=(bU d i j).1.c.map intD/\[]=(bU d i j).1.r.map intD/\[]=(bU d i j).1.u.map aG/\[]=(bU d i j).1.b.map aA/\[]=(bU d i j).1.s.map aA/\True))))/\(∀(r:Nat) (tb:List (List aB)) (ls:List aB) (f1:Bool),((r<=d.c.length/\i<(r:Int))/\tb=iQ d i.toNat j.toNat r/\tb.length=r/\ls=jB d i.toNat j.toNat r/\ls.length=r/\f1=((fE d i.toNat j.toNat d.r.length&&(eH d i.toNat j.toNat).2)&&iR d i.toNat j.toNat r))->Lm intD d.c/\Br ((r:Int)<(d.c.length:Int)) (Bb (f1) ((decide ((r:Int)=i))=false/\((∃(k2:Nat) (rw2:List aB) (f2:Bool),0=(k2:Int)/\(f1)=f2/\[]=rw2.map aA/\k2<=d.r.length/\rw2=fG (d.u.getD r []) pr j.toNat k2/\f2=(f1&&gS (d.u.getD r []) pr j.toNat k2)/\rw2.length=k2)/\ ∀(k2:Nat) (rw2:List aB) (f2:Bool),(k2<=d.r.length/\rw2=fG (d.u.getD r []) pr j.toNat k2/\f2=(f1&&gS (d.u.getD r []) pr j.toNat k2)/\rw2.length=k2)->Lm intD d.r/\Br ((k2:Int)<(d.r.length:Int)) (0<=(r:Int)/\Em aG d.u r fun e190=>0<=(k2:Int)/\Em aA e190 k2 fun e193=>Br ((k2:Int)=j) (mE (0:Int)/\0<=(r:Int)/\Em aG d.u r fun e204=>0<=j/\Em aA e204 ((j).toNat) fun e207=>0<=(k2:Int)/\Lm aA pr/\(k2:Int)<(pr.length:Int)/\Em aA pr k2 fun e212=>lJ (aN (0:Int)) e207 e212/\Bb (f2) (Ap aA rw2 ([((cB (aN (0:Int)) e207 e212).1)]:List aB) 16 (bO ((k2:Int)+1)/\ ∃(k2' :Nat) (rw2' :List aB) (f2' :Bool),((k2:Int)+1)=(k2' :Int)/\((cB (aN (0:Int)) e207 e212).2)=f2' /\(rw2++[((cB (aN (0:Int)) e207 e212).1)]).map aA=rw2'.map aA/\(k2' <=d.r.length/\rw2' =fG (d.u.getD r []) pr j.toNat k2' /\f2' =(f1&&gS (d.u.getD r []) pr j.toNat k2')/\rw2'.length=k2')/\d.r.length - k2' <d.r.length - k2)) (Ap aA rw2 ([((cB (aN (0:Int)) e207 e212).1)]:List aB) 16 (bO ((k2:Int)+1)/\ ∃(k2' :Nat) (rw2' :List aB) (f2' :Bool),((k2:Int)+1)=(k2' :Int)/\(false)=f2' /\(rw2++[((cB (aN (0:Int)) e207 e212).1)]).map aA=rw2'.map aA/\(k2' <=d.r.length/\rw2' =fG (d.u.getD r []) pr j.toNat k2' /\f2' =(f1&&gS (d.u.getD r []) pr j.toNat k2')/\rw2'.length=k2')/\d.r.length - k2' <d.r.length - k2))) (0<=(r:Int)/\Em aG d.u r fun e204=>0<=j/\Em aA e204 ((j).toNat) fun e207=>0<=(k2:Int)/\Lm aA pr/\(k2:Int)<(pr.length:Int)/\Em aA pr k2 fun e212=>lJ e193 e207 e212/\Bb (f2) (Ap aA rw2 ([((cB e193 e207 e212).1)]:List aB) 16 (bO ((k2:Int)+1)/\ ∃(k2' :Nat) (rw2' :List aB) (f2' :Bool),((k2:Int)+1)=(k2' :Int)/\((cB e193 e207 e212).2)=f2' /\(rw2++[((cB e193 e207 e212).1)]).map aA=rw2'.map aA/\(k2' <=d.r.length/\rw2' =fG (d.u.getD r []) pr j.toNat k2' /\f2' =(f1&&gS (d.u.getD r []) pr j.toNat k2')/\rw2'.length=k2')/\d.r.length - k2' <d.r.length - k2)) (Ap aA rw2 ([((cB e193 e207 e212).1)]:List aB) 16 (bO ((k2:Int)+1)/\ ∃(k2' :Nat) (rw2' :List aB) (f2' :Bool),((k2:Int)+1)=(k2' :Int)/\(false)=f2' /\(rw2++[((cB e193 e207 e212).1)]).map aA=rw2'.map aA/\(k2' <=d.r.length/\rw2' =fG (d.u.getD r []) pr j.toNat k2' /\f2' =(f1&&gS (d.u.getD r []) pr j.toNat k2')/\rw2'.length=k2')/\d.r.length - k2' <d.r.length - k2)))) (0<=(r:Int)/\Em aA d.b r fun e228=>0<=(r:Int)/\Em aG d.u r fun e233=>0<=j/\Em aA e233 ((j).toNat) fun e236=>lJ e228 e236 ((aZ e117 e73).1)/\Bb (f2) (tb.map aG=tb.map aG/\rw2.map aA=rw2.map aA/\(tb.length+1)*24<=140737488355328/\Ap aA ls ([((cB e228 e236 ((aZ e117 e73).1)).1)]:List aB) 16 (bO ((r:Int)+1)/\ ∃(r' :Nat) (tb' :List (List aB)) (ls' :List aB) (f1' :Bool),((r:Int)+1)=(r' :Int)/\((cB e228 e236 ((aZ e117 e73).1)).2)=f1' /\(0:Int)=0/\(0:Int)=0/\(ls++[((cB e228 e236 ((aZ e117 e73).1)).1)]).map aA=ls'.map aA/\(tb++[rw2]).map aG=tb'.map aG/\i.toNat=i.toNat/\((r' <=d.c.length/\i<(r' :Int))/\tb' =iQ d i.toNat j.toNat r' /\tb'.length=r' /\ls' =jB d i.toNat j.toNat r' /\ls'.length=r' /\f1' =((fE d i.toNat j.toNat d.r.length&&(eH d i.toNat j.toNat).2)&&iR d i.toNat j.toNat r'))/\d.c.length - r' <d.c.length - r)) (tb.map aG=tb.map aG/\rw2.map aA=rw2.map aA/\(tb.length+1)*24<=140737488355328/\Ap aA ls ([((cB e228 e236 ((aZ e117 e73).1)).1)]:List aB) 16 (bO ((r:Int)+1)/\ ∃(r' :Nat) (tb' :List (List aB)) (ls' :List aB) (f1' :Bool),((r:Int)+1)=(r' :Int)/\(false)=f1' /\(0:Int)=0/\(0:Int)=0/\(ls++[((cB e228 e236 ((aZ e117 e73).1)).1)]).map aA=ls'.map aA/\(tb++[rw2]).map aG=tb'.map aG/\i.toNat=i.toNat/\((r' <=d.c.length/\i<(r' :Int))/\tb' =iQ d i.toNat j.toNat r' /\tb'.length=r' /\ls' =jB d i.toNat j.toNat r' /\ls'.length=r' /\f1' =((fE d i.toNat j.toNat d.r.length&&(eH d i.toNat j.toNat).2)&&iR d i.toNat j.toNat r'))/\d.c.length - r' <d.c.length - r))))) ((∃(k3:Nat),0=(k3:Int)/\(f1)=false/\True)/\ ∀(k3:Nat),True->Lm intD d.r/\Br ((k3:Int)<(d.r.length:Int)) (0=((bU d i j).1.value.num)/\0=((bU d i j).1.value.den)/\(false)=((bU d i j).2)/\[]=(bU d i j).1.c.map intD/\[]=(bU d i j).1.r.map intD/\[]=(bU d i j).1.u.map aG/\[]=(bU d i j).1.b.map aA/\[]=(bU d i j).1.s.map aA/\True) (0=((bU d i j).1.value.num)/\0=((bU d i j).1.value.den)/\(false)=((bU d i j).2)/\[]=(bU d i j).1.c.map intD/\[]=(bU d i j).1.r.map intD/\[]=(bU d i j).1.u.map aG/\[]=(bU d i j).1.b.map aA/\[]=(bU d i j).1.s.map aA/\True))) ((∃(k3:Nat) (cs:List aB) (f3:Bool),0=(k3:Int)/\(f1)=f3/\(0:Int)=0/\(0:Int)=0/\[]=cs.map aA/\k3<=d.r.length/\cs=fG d.s pr j.toNat k3/\f3=(f1&&gS d.s pr j.toNat k3)/\cs.length=k3)/\ ∀(k3:Nat) (cs:List aB) (f3:Bool),(k3<=d.r.length/\cs=fG d.s pr j.toNat k3/\f3=(f1&&gS d.s pr j.toNat k3)/\cs.length=k3)->Lm intD d.r/\Br ((k3:Int)<(d.r.length:Int)) (Bb (f3) (0<=(k3:Int)/\Em aA d.s k3 fun e271=>Br ((k3:Int)=j) (mE (0:Int)/\0<=j/\Em aA d.s ((j).toNat) fun e282=>0<=(k3:Int)/\Lm aA pr/\(k3:Int)<(pr.length:Int)/\Em aA pr k3 fun e287=>lJ (aN (0:Int)) e282 e287/\Bb (f3) (Ap aA cs ([((cB (aN (0:Int)) e282 e287).1)]:List aB) 16 (bO ((k3:Int)+1)/\ ∃(k3' :Nat) (cs' :List aB) (f3' :Bool),((k3:Int)+1)=(k3' :Int)/\((cB (aN (0:Int)) e282 e287).2)=f3' /\(0:Int)=0/\(0:Int)=0/\(cs++[((cB (aN (0:Int)) e282 e287).1)]).map aA=cs'.map aA/\(k3' <=d.r.length/\cs' =fG d.s pr j.toNat k3' /\f3' =(f1&&gS d.s pr j.toNat k3')/\cs'.length=k3')/\d.r.length - k3' <d.r.length - k3)) (Ap aA cs ([((cB (aN (0:Int)) e282 e287).1)]:List aB) 16 (bO ((k3:Int)+1)/\ ∃(k3' :Nat) (cs' :List aB) (f3' :Bool),((k3:Int)+1)=(k3' :Int)/\(false)=f3' /\(0:Int)=0/\(0:Int)=0/\(cs++[((cB (aN (0:Int)) e282 e287).1)]).map aA=cs'.map aA/\(k3' <=d.r.length/\cs' =fG d.s pr j.toNat k3' /\f3' =(f1&&gS d.s pr j.toNat k3')/\cs'.length=k3')/\d.r.length - k3' <d.r.length - k3))) (0<=j/\Em aA d.s ((j).toNat) fun e282=>0<=(k3:Int)/\Lm aA pr/\(k3:Int)<(pr.length:Int)/\Em aA pr k3 fun e287=>lJ e271 e282 e287/\Bb (f3) (Ap aA cs ([((cB e271 e282 e287).1)]:List aB) 16 (bO ((k3:Int)+1)/\ ∃(k3' :Nat) (cs' :List aB) (f3' :Bool),((k3:Int)+1)=(k3' :Int)/\((cB e271 e282 e287).2)=f3' /\(0:Int)=0/\(0:Int)=0/\(cs++[((cB e271 e282 e287).1)]).map aA=cs'.map aA/\(k3' <=d.r.length/\cs' =fG d.s pr j.toNat k3' /\f3' =(f1&&gS d.s pr j.toNat k3')/\cs'.length=k3')/\d.r.length - k3' <d.r.length - k3)) (Ap aA cs ([((cB e271 e282 e287).1)]:List aB) 16 (bO ((k3:Int)+1)/\ ∃(k3' :Nat) (cs' :List aB) (f3' :Bool),((k3:Int)+1)=(k3' :Int)/\(false)=f3' /\(0:Int)=0/\(0:Int)=0/\(cs++[((cB e271 e282 e287).1)]).map aA=cs'.map aA/\(k3' <=d.r.length/\cs' =fG d.s pr j.toNat k3' /\f3' =(f1&&gS d.s pr j.toNat k3')/\cs'.length=k3')/\d.r.length - k3' <d.r.length - k3)))) (Nr (f3) (0=((bU d i j).1.value.num)/\0=((bU d i j).1.value.den)/\(false)=((bU d i j).2)/\[]=(bU d i j).1.c.map intD/\[]=(bU d i j).1.r.map intD/\[]=(bU d i j).1.u.map aG/\[]=(bU d i j).1.b.map aA/\[]=(bU d i j).1.s.map aA/\True) (tb.map aG=tb.map aG/\i.toNat<tb.length/\ ∀a7500,tb[i.toNat]? =some a7500->((aG a7500).take 0++ .sl 40 2 (pr.map aA)::(aG a7500).drop (0+1)=aG pr)/\0<=j/\Em aA d.s ((j).toNat) fun e308=>zZ e308 ((aZ e117 e73).1)/\D6 d.value ((dC e308 ((aZ e117 e73).1)).1)/\Nr ((dC e308 ((aZ e117 e73).1)).2) (0=((bU d i j).1.value.num)/\0=((bU d i j).1.value.den)/\(false)=((bU d i j).2)/\[]=(bU d i j).1.c.map intD/\[]=(bU d i j).1.r.map intD/\[]=(bU d i j).1.u.map aG/\[]=(bU d i j).1.b.map aA/\[]=(bU d i j).1.s.map aA/\True) (Nr ((fH d.value ((dC e308 ((aZ e117 e73).1)).1)).2) (0=((bU d i j).1.value.num)/\0=((bU d i j).1.value.den)/\(false)=((bU d i j).2)/\[]=(bU d i j).1.c.map intD/\[]=(bU d i j).1.r.map intD/\[]=(bU d i j).1.u.map aG/\[]=(bU d i j).1.b.map aA/\[]=(bU d i j).1.s.map aA/\True) ((((fH d.value ((dC e308 ((aZ e117 e73).1)).1)).1).num)=((bU d i j).1.value.num)/\(((fH d.value ((dC e308 ((aZ e117 e73).1)).1)).1).den)=((bU d i j).1.value.den)/\(true)=((bU d i j).2)/\((([]:Z)++d.c).set ((i).toNat) e142).map intD=(bU d i j).1.c.map intD/\((([]:Z)++d.r).set ((j).toNat) e151).map intD=(bU d i j).1.r.map intD/\(tb.set i.toNat pr).map aG=(bU d i j).1.u.map aG/\ls.map aA=(bU d i j).1.b.map aA/\cs.map aA=(bU d i j).1.s.map aA/\True))))) (Nr (f3) (0=((bU d i j).1.value.num)/\0=((bU d i j).1.value.den)/\(false)=((bU d i j).2)/\[]=(bU d i j).1.c.map intD/\[]=(bU d i j).1.r.map intD/\[]=(bU d i j).1.u.map aG/\[]=(bU d i j).1.b.map aA/\[]=(bU d i j).1.s.map aA/\True) (tb.map aG=tb.map aG/\i.toNat<tb.length/\ ∀a7500,tb[i.toNat]? =some a7500->((aG a7500).take 0++ .sl 40 2 (pr.map aA)::(aG a7500).drop (0+1)=aG pr)/\0<=j/\Em aA d.s ((j).toNat) fun e308=>zZ e308 ((aZ e117 e73).1)/\D6 d.value ((dC e308 ((aZ e117 e73).1)).1)/\Nr ((dC e308 ((aZ e117 e73).1)).2) (0=((bU d i j).1.value.num)/\0=((bU d i j).1.value.den)/\(false)=((bU d i j).2)/\[]=(bU d i j).1.c.map intD/\[]=(bU d i j).1.r.map intD/\[]=(bU d i j).1.u.map aG/\[]=(bU d i j).1.b.map aA/\[]=(bU d i j).1.s.map aA/\True) (Nr ((fH d.value ((dC e308 ((aZ e117 e73).1)).1)).2) (0=((bU d i j).1.value.num)/\0=((bU d i j).1.value.den)/\(false)=((bU d i j).2)/\[]=(bU d i j).1.c.map intD/\[]=(bU d i j).1.r.map intD/\[]=(bU d i j).1.u.map aG/\[]=(bU d i j).1.b.map aA/\[]=(bU d i j).1.s.map aA/\True) ((((fH d.value ((dC e308 ((aZ e117 e73).1)).1)).1).num)=((bU d i j).1.value.num)/\(((fH d.value ((dC e308 ((aZ e117 e73).1)).1)).1).den)=((bU d i j).1.value.den)/\(true)=((bU d i j).2)/\((([]:Z)++d.c).set ((i).toNat) e142).map intD=(bU d i j).1.c.map intD/\((([]:Z)++d.r).set ((j).toNat) e151).map intD=(bU d i j).1.r.map intD/\(tb.set i.toNat pr).map aG=(bU d i j).1.u.map aG/\ls.map aA=(bU d i j).1.b.map aA/\cs.map aA=(bU d i j).1.s.map aA/\True))))))))))))) (Ap intD ([]:Z) d.c 8 (Ap intD ([]:Z) d.r 8 (0<=j/\Em intD d.r ((j).toNat) fun e142=>0<=i/\Lm intD (([]:Z)++d.c)/\i<(((([]:Z)++d.c).length:Nat):Int)/\((([]:Z)++d.c).map intD=(([]:Z)++d.c).map intD/\(i).toNat<(([]:Z)++d.c).length/\ ∀s17_9,(([]:Z)++d.c)[(i).toNat]? =some s17_9->iU (intD s17_9)=true/\0+1<=(intD s17_9).length/\(intD s17_9).take 0++[.int .i64 e142]++(intD s17_9).drop (0+1)=intD e142/\(0<=i/\Em intD d.c ((i).toNat) fun e151=>0<=j/\Lm intD (([]:Z)++d.r)/\j<(((([]:Z)++d.r).length:Nat):Int)/\((([]:Z)++d.r).map intD=(([]:Z)++d.r).map intD/\(j).toNat<(([]:Z)++d.r).length/\ ∀s18_9,(([]:Z)++d.r)[(j).toNat]? =some s18_9->iU (intD s18_9)=true/\0+1<=(intD s18_9).length/\(intD s18_9).take 0++[.int .i64 e151]++(intD s18_9).drop (0+1)=intD e151/\((∃(r:Nat),0=(r:Int)/\(false)=false/\True)/\ ∀(r:Nat),True->Lm intD d.c/\Br ((r:Int)<(d.c.length:Int)) ((∃(k3:Nat),0=(k3:Int)/\(false)=false/\True)/\ ∀(k3:Nat),True->Lm intD d.r/\Br ((k3:Int)<(d.r.length:Int)) (0=((bU d i j).1.value.num)/\0=((bU d i j).1.value.den)/\(false)=((bU d i j).2)/\[]=(bU d i j).1.c.map intD/\[]=(bU d i j).1.r.map intD/\[]=(bU d i j).1.u.map aG/\[]=(bU d i j).1.b.map aA/\[]=(bU d i j).1.s.map aA/\True) (0=((bU d i j).1.value.num)/\0=((bU d i j).1.value.den)/\(false)=((bU d i j).2)/\[]=(bU d i j).1.c.map intD/\[]=(bU d i j).1.r.map intD/\[]=(bU d i j).1.u.map aG/\[]=(bU d i j).1.b.map aA/\[]=(bU d i j).1.s.map aA/\True)) ((∃(k3:Nat),0=(k3:Int)/\(false)=false/\True)/\ ∀(k3:Nat),True->Lm intD d.r/\Br ((k3:Int)<(d.r.length:Int)) (0=((bU d i j).1.value.num)/\0=((bU d i j).1.value.den)/\(false)=((bU d i j).2)/\[]=(bU d i j).1.c.map intD/\[]=(bU d i j).1.r.map intD/\[]=(bU d i j).1.u.map aG/\[]=(bU d i j).1.b.map aA/\[]=(bU d i j).1.s.map aA/\True) (0=((bU d i j).1.value.num)/\0=((bU d i j).1.value.den)/\(false)=((bU d i j).2)/\[]=(bU d i j).1.c.map intD/\[]=(bU d i j).1.r.map intD/\[]=(bU d i j).1.u.map aG/\[]=(bU d i j).1.b.map aA/\[]=(bU d i j).1.s.map aA/\True))))))))))))))))))) ?_;refine lx fun n0=>lx fun n1=>lx fun n2=>lx fun n3=>lx fun n4=>?_;refine⟨LB d aGR aGR,dm (fun g36=>?_) fun g36=>?_⟩
 ·apply et8<;>((rw[aCb g36]<;>rfl))
 ·refine⟨aAb _,aGS,kM _ _ _,dn (fun g45=>?_) fun g45=>?_⟩
  ·apply et8<;>((rw[FT aGR]<;>rfl))
  ·refine⟨aAb _,aGS,kM _ _ _,dn (fun g54=>?_) fun g54=>?_⟩
   ·apply et8<;>((rw[FT aGR]<;>rfl))
   ·have hd:dE d=true:=g36;obtain⟨b1,b2,b3,b4,b5,b6,b7,b8⟩:=fP hd;refine⟨aGR,rfl,aGR,fun e58 h58=>?_⟩;have hr58:=(b5 _ (aBD h58)).1;refine⟨aGR,rfl,aGR,fun e61 h61=>?_⟩;apply dd<;>intro c0
    ·apply et8<;>((rw[mG (fun q=>q.1 (by rw[jJ h58 h61];exact c0))]<;>rfl))
    ·have hi:0<=i/\i<d.c.length:=aGR
     have hj:0<=j/\j<d.r.length:=aGR
     refine⟨aGR,rfl,aGR,fun e70 h70=>?_⟩;obtain rfl:=bE h58 h70;refine⟨aGR,rfl,aGR,fun e73 h73=>?_⟩;obtain rfl:=bE h61 h73;have ha:fQ d i.toNat j.toNat=e73:=jJ h70 h73;refine⟨⟨0,([]:List aB),true,rfl,rfl,rfl,aBC _,rfl,rfl,rfl⟩,fun k pr f ⟨hk,hpr,hf,hL⟩=>?_⟩;refine⟨aAb _,dd (fun c1=>?_) fun c1=>?_⟩
     ·refine⟨aGR,rfl,aGR,fun e87 h87=>?_⟩;have hr87:=(b5 _ (aBD h87)).1;refine⟨aGR,rfl,aGR,fun e90 h90=>?_⟩;refine⟨FQ e90 e73,dd (fun c2=>?_) fun c2=>?_⟩
      ·refine⟨sK (1:Int),FQ (aN (1:Int)) e73,db (fun g106=>?_) fun g106=>?_⟩
       ·refine ap ?_ (fun _=>rfl) (by (simp;omega));refine⟨aGS,?_⟩;exact⟨k+1,_,(aZ (aN (1:Int)) e73).2,rfl,rfl,rfl,⟨aGR,by (rw[hpr,pY,Ge ha aGR]<;>rfl),by (rw[pZ,<-hf,g106,Ge ha aGR]<;>rfl),by simp;omega⟩,aGR⟩
       ·refine ap ?_ (fun _=>rfl) (by (simp;omega));refine⟨aGS,?_⟩;exact⟨k+1,_,false,rfl,rfl,rfl,⟨aGR,by (rw[hpr,pY,Ge ha aGR]<;>rfl),by (rw[pZ,<-hf,g106,Ge ha aGR]<;>rfl),by simp;omega⟩,aGR⟩
      ·apply db<;>intro g106
       ·refine ap ?_ (fun _=>rfl) (by (simp;omega));refine⟨aGS,?_⟩;exact⟨k+1,_,(aZ e90 e73).2,rfl,rfl,rfl,⟨aGR,by (rw[hpr,pY,Gd ha (jJ h87 h90) aGR]<;>rfl),by (rw[pZ,<-hf,g106,Gd ha (jJ h87 h90) aGR]<;>rfl),by simp;omega⟩,aGR⟩
       ·refine ap ?_ (fun _=>rfl) (by (simp;omega));refine⟨aGS,?_⟩;exact⟨k+1,_,false,rfl,rfl,rfl,⟨aGR,by (rw[hpr,pY,Gd ha (jJ h87 h90) aGR]<;>rfl),by (rw[pZ,<-hf,g106,Gd ha (jJ h87 h90) aGR]<;>rfl),by simp;omega⟩,aGR⟩
     ·have hk' :k=d.r.length:=aGR
      rw[hk'] at hpr hf;refine⟨aGR,rfl,aGR,fun e117 h117=>?_⟩;have hl:eH d i.toNat j.toNat=aZ e117 e73:=by rw[eH,bD h117,ha]
      refine⟨FQ e117 e73,db (fun g124=>?_) fun g124=>?_⟩
      ·refine ap ?_ (fun _=>rfl) (by (simp;omega));refine ap ?_ (fun _=>rfl) (by (simp;omega));refine⟨aGR,rfl,aGR,fun e142 h142=>?_⟩;have w142:d.r.getD j.toNat 0=e142:=bD h142;refine⟨aGR,aAb _,by (simp;omega),rfl,by (simp;omega),fun s17_9 hs17_9=>⟨rfl,aBF rfl,rfl,?_⟩⟩;refine⟨aGR,rfl,aGR,fun e151 h151=>?_⟩;have w151:d.c.getD i.toNat 0=e151:=bD h151;refine⟨aGR,aAb _,by (simp;omega),rfl,by (simp;omega),fun s18_9 hs18_9=>⟨rfl,aBF rfl,rfl,?_⟩⟩;refine⟨⟨0,([]:List (List aB)),([]:List aB),(aZ e117 e73).2,by rfl,by rfl,by rfl,by rfl,by rfl,by rfl,⟨aBC _,aGR⟩,rfl,rfl,rfl,rfl,by (rw[show iR d i.toNat j.toNat 0=true from rfl,Bool.and_true,hl,<-hf,g124]<;>rfl)⟩,?_,?_⟩
       ·intro r tb ls f1 ⟨hr,ht,htL,hls,hlL,hf1⟩;refine⟨aAb _,by rw[aFI];omega,db (fun c3=>?_) fun c3=>?_⟩
        ·apply dd<;>intro c4
         ·refine⟨rfl,rfl,aGR,?_⟩;refine ap ?_ (fun _=>rfl) (by (simp;omega));refine⟨aGS,?_⟩;exact⟨r+1,_,_,f1,by rfl,by rfl,by rfl,by rfl,by rfl,by rfl,aGR,⟨aGS,by rw[ht,mK,(Nk (show r=i.toNat by omega)).1,<-hpr],by simp;omega,by rw[hls,mL,(Nk (show r=i.toNat by omega)).2.1,hl]<;>rfl,by simp;omega,by rw[mM,(Nk (show r=i.toNat by omega)).2.2,Bool.and_true];exact hf1⟩,aGR⟩
         ·refine⟨⟨0,([]:List aB),f1,rfl,rfl,rfl,aBC _,rfl,by (rw[show gS (d.u.getD r []) pr j.toNat 0=true from rfl,Bool.and_true];done),rfl⟩,fun k2 rw2 f2 ⟨hk2,hrw,hf2,hrL⟩=>?_⟩;refine⟨aAb _,dd (fun c5=>?_) fun c5=>?_⟩
          ·refine⟨aGR,rfl,aGR,fun e190 h190=>?_⟩;have hr190:=(b5 _ (aBD h190)).1;refine⟨aGR,rfl,aGR,fun e193 h193=>?_⟩;apply dd<;>intro c6
           ·refine⟨sK (0:Int),aGR,rfl,aGR,fun e204 h204=>?_⟩;have w204:=bE h190 h204;have hr204:=(b5 _ (aBD h204)).1;refine⟨aGR,rfl,aGR,fun e207 h207=>?_⟩;refine⟨aGR,aAb _,aGR,rfl,aGR,fun e212 h212=>?_⟩;refine⟨qA (aN (0:Int)) e207 e212,db (fun g217=>?_) fun g217=>?_⟩
            ·refine ap ?_ (fun _=>rfl) (by (simp;omega));refine⟨aGS,?_⟩;exact⟨k2+1,_,(cB (aN (0:Int)) e207 e212).2,rfl,rfl,rfl,⟨aGR,by subst w204;(rw[hrw,iC,bD h190,AY aGR h207 h212]<;>rfl),by subst w204;(rw[jK,<-Bool.and_assoc,<-hf2,g217,bD h190,AY aGR h207 h212]<;>rfl),by simp;omega⟩,aGR⟩
            ·refine ap ?_ (fun _=>rfl) (by (simp;omega));refine⟨aGS,?_⟩;exact⟨k2+1,_,false,rfl,rfl,rfl,⟨aGR,by subst w204;(rw[hrw,iC,bD h190,AY aGR h207 h212]<;>rfl),by subst w204;(rw[jK,<-Bool.and_assoc,<-hf2,g217,bD h190,AY aGR h207 h212]<;>rfl),by simp;omega⟩,aGR⟩
           ·refine⟨aGR,rfl,aGR,fun e204 h204=>?_⟩;have w204:=bE h190 h204;have hr204:=(b5 _ (aBD h204)).1;refine⟨aGR,rfl,aGR,fun e207 h207=>?_⟩;refine⟨aGR,aAb _,aGR,rfl,aGR,fun e212 h212=>?_⟩;refine⟨qA e193 e207 e212,db (fun g217=>?_) fun g217=>?_⟩
            ·refine ap ?_ (fun _=>rfl) (by (simp;omega));refine⟨aGS,?_⟩;exact⟨k2+1,_,(cB e193 e207 e212).2,rfl,rfl,rfl,⟨aGR,by subst w204;(rw[hrw,iC,bD h190,AX aGR h193 h207 h212]<;>rfl),by subst w204;(rw[jK,<-Bool.and_assoc,<-hf2,g217,bD h190,AX aGR h193 h207 h212]<;>rfl),by simp;omega⟩,aGR⟩
            ·refine ap ?_ (fun _=>rfl) (by (simp;omega));refine⟨aGS,?_⟩;exact⟨k2+1,_,false,rfl,rfl,rfl,⟨aGR,by subst w204;(rw[hrw,iC,bD h190,AX aGR h193 h207 h212]<;>rfl),by subst w204;(rw[jK,<-Bool.and_assoc,<-hf2,g217,bD h190,AX aGR h193 h207 h212]<;>rfl),by simp;omega⟩,aGR⟩
          ·have hk2' :k2=d.r.length:=aGR
           rw[hk2'] at hrw hf2;refine⟨aGR,rfl,aGR,fun e228 h228=>?_⟩;refine⟨aGR,rfl,aGR,fun e233 h233=>?_⟩;have hr233:=(b5 _ (aBD h233)).1;have e233' :d.u.getD r []=e233:=bD h233;refine⟨aGR,rfl,aGR,fun e236 h236=>?_⟩;refine⟨qA e228 e236 ((aZ e117 e73).1),?_⟩;have z:=aAR (d:=d) (i:=i.toNat) (j:=j.toNat) (r:=r) aGR hpr h233 h236 h228 (show (eH d i.toNat j.toNat).1=_ by rw[hl]);apply db<;>intro g243
           ·refine⟨rfl,rfl,aGR,?_⟩;refine ap ?_ (fun _=>rfl) (by (simp;omega));refine⟨aGS,?_⟩;exact⟨r+1,_,_,(cB e228 e236 ((aZ e117 e73).1)).2,by rfl,by rfl,by rfl,by rfl,by rfl,by rfl,⟨aGS,by rw[ht,mK,z.1,hrw,e233'],by simp;omega,by rw[hls,mL,z.2.1]<;>rfl,by simp;omega,by rw[mM,z.2.2];have y:=Ct (L:=(cB e228 e236 (aZ e117 e73).1).2) hf1 hf2;rw[e233'] at y;rw[g243] at y;exact y⟩,aGR⟩
           ·refine⟨rfl,rfl,aGR,?_⟩;refine ap ?_ (fun _=>rfl) (by (simp;omega));refine⟨aGS,?_⟩;exact⟨r+1,_,_,false,by rfl,by rfl,by rfl,by rfl,by rfl,by rfl,⟨aGS,by rw[ht,mK,z.1,hrw,e233'],by simp;omega,by rw[hls,mL,z.2.1]<;>rfl,by simp;omega,by rw[mM,z.2.2];have y:=Ct (L:=(cB e228 e236 (aZ e117 e73).1).2) hf1 hf2;rw[e233'] at y;rw[g243] at y;exact y⟩,aGR⟩
        ·refine⟨⟨0,by rfl,by assumption,trivial⟩,fun k3 _=>?_⟩;refine⟨aAb _,dd (fun g263=>?_) fun g263=>?_⟩
         ·apply et8<;>((rw[mG (fun q=>absurd q.2.1 (by rw[IU hf1 aGR c3];decide))]<;>rfl))
         ·apply et8<;>((rw[mG (fun q=>absurd q.2.1 (by rw[IU hf1 aGR c3];decide))]<;>rfl))
       ·intro r tb ls f1 ⟨hr,ht,htL,hls,hlL,hf1⟩;refine⟨aAb _,dd (fun g159=>?_) fun g159=>?_⟩
        ·apply db<;>intro c3
         ·refine⟨by rw[decide_eq_false_iff_not];omega,⟨0,([]:List aB),f1,rfl,rfl,rfl,aBC _,rfl,by (rw[show gS (d.u.getD r []) pr j.toNat 0=true from rfl,Bool.and_true];done),rfl⟩,fun k2 rw2 f2 ⟨hk2,hrw,hf2,hrL⟩=>?_⟩;refine⟨aAb _,dd (fun c5=>?_) fun c5=>?_⟩
          ·refine⟨aGR,rfl,aGR,fun e190 h190=>?_⟩;have hr190:=(b5 _ (aBD h190)).1;refine⟨aGR,rfl,aGR,fun e193 h193=>?_⟩;apply dd<;>intro c6
           ·refine⟨sK (0:Int),aGR,rfl,aGR,fun e204 h204=>?_⟩;have w204:=bE h190 h204;have hr204:=(b5 _ (aBD h204)).1;refine⟨aGR,rfl,aGR,fun e207 h207=>?_⟩;refine⟨aGR,aAb _,aGR,rfl,aGR,fun e212 h212=>?_⟩;refine⟨qA (aN (0:Int)) e207 e212,db (fun g217=>?_) fun g217=>?_⟩
            ·refine ap ?_ (fun _=>rfl) (by (simp;omega));refine⟨aGS,?_⟩;exact⟨k2+1,_,(cB (aN (0:Int)) e207 e212).2,rfl,rfl,rfl,⟨aGR,by subst w204;(rw[hrw,iC,bD h190,AY aGR h207 h212]<;>rfl),by subst w204;(rw[jK,<-Bool.and_assoc,<-hf2,g217,bD h190,AY aGR h207 h212]<;>rfl),by simp;omega⟩,aGR⟩
            ·refine ap ?_ (fun _=>rfl) (by (simp;omega));refine⟨aGS,?_⟩;exact⟨k2+1,_,false,rfl,rfl,rfl,⟨aGR,by subst w204;(rw[hrw,iC,bD h190,AY aGR h207 h212]<;>rfl),by subst w204;(rw[jK,<-Bool.and_assoc,<-hf2,g217,bD h190,AY aGR h207 h212]<;>rfl),by simp;omega⟩,aGR⟩
           ·refine⟨aGR,rfl,aGR,fun e204 h204=>?_⟩;have w204:=bE h190 h204;have hr204:=(b5 _ (aBD h204)).1;refine⟨aGR,rfl,aGR,fun e207 h207=>?_⟩;refine⟨aGR,aAb _,aGR,rfl,aGR,fun e212 h212=>?_⟩;refine⟨qA e193 e207 e212,db (fun g217=>?_) fun g217=>?_⟩
            ·refine ap ?_ (fun _=>rfl) (by (simp;omega));refine⟨aGS,?_⟩;exact⟨k2+1,_,(cB e193 e207 e212).2,rfl,rfl,rfl,⟨aGR,by subst w204;(rw[hrw,iC,bD h190,AX aGR h193 h207 h212]<;>rfl),by subst w204;(rw[jK,<-Bool.and_assoc,<-hf2,g217,bD h190,AX aGR h193 h207 h212]<;>rfl),by simp;omega⟩,aGR⟩
            ·refine ap ?_ (fun _=>rfl) (by (simp;omega));refine⟨aGS,?_⟩;exact⟨k2+1,_,false,rfl,rfl,rfl,⟨aGR,by subst w204;(rw[hrw,iC,bD h190,AX aGR h193 h207 h212]<;>rfl),by subst w204;(rw[jK,<-Bool.and_assoc,<-hf2,g217,bD h190,AX aGR h193 h207 h212]<;>rfl),by simp;omega⟩,aGR⟩
          ·have hk2' :k2=d.r.length:=aGR
           rw[hk2'] at hrw hf2;refine⟨aGR,rfl,aGR,fun e228 h228=>?_⟩;refine⟨aGR,rfl,aGR,fun e233 h233=>?_⟩;have hr233:=(b5 _ (aBD h233)).1;have e233' :d.u.getD r []=e233:=bD h233;refine⟨aGR,rfl,aGR,fun e236 h236=>?_⟩;refine⟨qA e228 e236 ((aZ e117 e73).1),?_⟩;have z:=aAR (d:=d) (i:=i.toNat) (j:=j.toNat) (r:=r) aGR hpr h233 h236 h228 (show (eH d i.toNat j.toNat).1=_ by rw[hl]);apply db<;>intro g243
           ·refine⟨rfl,rfl,aGR,?_⟩;refine ap ?_ (fun _=>rfl) (by (simp;omega));refine⟨aGS,?_⟩;exact⟨r+1,_,_,(cB e228 e236 ((aZ e117 e73).1)).2,by rfl,by rfl,by rfl,by rfl,by rfl,by rfl,by rfl,⟨aGS,by rw[ht,mK,z.1,hrw,e233'],by simp;omega,by rw[hls,mL,z.2.1]<;>rfl,by simp;omega,by rw[mM,z.2.2];have y:=Ct (L:=(cB e228 e236 (aZ e117 e73).1).2) hf1 hf2;rw[e233'] at y;rw[g243] at y;exact y⟩,aGR⟩
           ·refine⟨rfl,rfl,aGR,?_⟩;refine ap ?_ (fun _=>rfl) (by (simp;omega));refine⟨aGS,?_⟩;exact⟨r+1,_,_,false,by rfl,by rfl,by rfl,by rfl,by rfl,by rfl,by rfl,⟨aGS,by rw[ht,mK,z.1,hrw,e233'],by simp;omega,by rw[hls,mL,z.2.1]<;>rfl,by simp;omega,by rw[mM,z.2.2];have y:=Ct (L:=(cB e228 e236 (aZ e117 e73).1).2) hf1 hf2;rw[e233'] at y;rw[g243] at y;exact y⟩,aGR⟩
         ·refine⟨⟨0,by rfl,by assumption,trivial⟩,fun k3 _=>?_⟩;refine⟨aAb _,dd (fun g263=>?_) fun g263=>?_⟩
          ·apply et8<;>((rw[mG (fun q=>absurd q.2.1 (by rw[IU hf1 aGR c3];decide))]<;>rfl))
          ·apply et8<;>((rw[mG (fun q=>absurd q.2.1 (by rw[IU hf1 aGR c3];decide))]<;>rfl))
        ·refine⟨⟨0,([]:List aB),f1,rfl,rfl,rfl,rfl,rfl,aBC _,rfl,by (rw[show gS d.s pr j.toNat 0=true from rfl,Bool.and_true];done),rfl⟩,fun k3 cs f3 ⟨hk3,hcs,hf3,hcL⟩=>?_⟩;refine⟨aAb _,dd (fun g263=>?_) fun g263=>?_⟩
         ·apply db<;>intro c7
          ·refine⟨aGR,rfl,aGR,fun e271 h271=>?_⟩;apply dd<;>intro c8
           ·refine⟨sK (0:Int),aGR,rfl,aGR,fun e282 h282=>?_⟩;refine⟨aGR,aAb _,aGR,rfl,aGR,fun e287 h287=>?_⟩;refine⟨qA (aN (0:Int)) e282 e287,db (fun g292=>?_) fun g292=>?_⟩
            ·refine ap ?_ (fun _=>rfl) (by (simp;omega));refine⟨aGS,?_⟩;exact⟨k3+1,_,(cB (aN (0:Int)) e282 e287).2,rfl,rfl,rfl,rfl,rfl,⟨aGR,by (rw[hcs,iC,AY aGR h282 h287]<;>rfl),by (rw[jK,<-Bool.and_assoc,<-hf3,g292,AY aGR h282 h287]<;>rfl),by simp;omega⟩,aGR⟩
            ·refine ap ?_ (fun _=>rfl) (by (simp;omega));refine⟨aGS,?_⟩;exact⟨k3+1,_,false,rfl,rfl,rfl,rfl,rfl,⟨aGR,by (rw[hcs,iC,AY aGR h282 h287]<;>rfl),by (rw[jK,<-Bool.and_assoc,<-hf3,g292,AY aGR h282 h287]<;>rfl),by simp;omega⟩,aGR⟩
           ·refine⟨aGR,rfl,aGR,fun e282 h282=>?_⟩;refine⟨aGR,aAb _,aGR,rfl,aGR,fun e287 h287=>?_⟩;refine⟨qA e271 e282 e287,db (fun g292=>?_) fun g292=>?_⟩
            ·refine ap ?_ (fun _=>rfl) (by (simp;omega));refine⟨aGS,?_⟩;exact⟨k3+1,_,(cB e271 e282 e287).2,rfl,rfl,rfl,rfl,rfl,⟨aGR,by (rw[hcs,iC,AX aGR h271 h282 h287]<;>rfl),by (rw[jK,<-Bool.and_assoc,<-hf3,g292,AX aGR h271 h282 h287]<;>rfl),by simp;omega⟩,aGR⟩
            ·refine ap ?_ (fun _=>rfl) (by (simp;omega));refine⟨aGS,?_⟩;exact⟨k3+1,_,false,rfl,rfl,rfl,rfl,rfl,⟨aGR,by (rw[hcs,iC,AX aGR h271 h282 h287]<;>rfl),by (rw[jK,<-Bool.and_assoc,<-hf3,g292,AX aGR h271 h282 h287]<;>rfl),by simp;omega⟩,aGR⟩
          ·apply dm<;>intro c9
           ·apply et8<;>((rw[mG (fun q=>absurd q.2.1 (by rw[SA hf1 aGR hpr hf3 aGR c9];decide))]<;>rfl))
           ·have hall:nV d i.toNat j.toNat=true/\r=d.c.length/\k3=d.r.length:=by (exfalso;rw[c7] at c9;cases c9)
            have hLok:=Nl hall.1;have hV:=LH hd (j:=j.toNat) aGR hLok;refine⟨rfl,aGR,fun a7500 ha7500=>⟨rfl,?_⟩⟩;refine⟨aGR,rfl,aGR,fun e308 h308=>?_⟩;rw[bD h308,hl] at hV;refine⟨Ks e308 ((aZ e117 e73).1),Ro d.value ((dC e308 ((aZ e117 e73).1)).1),dm (fun g325=>?_) fun g325=>?_⟩
            ·apply et8<;>((rw[FT aGR]<;>rfl))
            ·apply dm<;>intro c10
             ·apply et8<;>((rw[FT aGR]<;>rfl))
             ·have hP:bU d i j=(fR d i.toNat j.toNat,true):=R9 hd hi hj (by rw[ha];exact c0) hall.1 (by rw[hV,g325,c10];rfl);apply et8<;>((rw[hP]<;>first|(rw[fR,w142];rfl)|(rw[fR,w151];rfl)|(rw[ht,hall.2.1,hpr,EB aGR];rfl)|(rw[hls,hall.2.1];rfl)|(rw[hcs,hall.2.2,hpr];rfl)|(rw[fR,hV];done)))
         ·apply dm<;>intro c9
          ·apply et8<;>((rw[mG (fun q=>absurd q.2.1 (by rw[SA hf1 aGR hpr hf3 aGR c9];decide))]<;>rfl))
          ·have hall:nV d i.toNat j.toNat=true/\r=d.c.length/\k3=d.r.length:=by exact⟨XS hf1 aGR hpr hf3 aGR c9,aGR,aGR⟩
           have hLok:=Nl hall.1;have hV:=LH hd (j:=j.toNat) aGR hLok;refine⟨rfl,aGR,fun a7500 ha7500=>⟨rfl,?_⟩⟩;refine⟨aGR,rfl,aGR,fun e308 h308=>?_⟩;rw[bD h308,hl] at hV;refine⟨Ks e308 ((aZ e117 e73).1),Ro d.value ((dC e308 ((aZ e117 e73).1)).1),dm (fun g325=>?_) fun g325=>?_⟩
           ·apply et8<;>((rw[mG (by rintro⟨_,_,q⟩;rw[hV] at q;(rw[g325] at q;cases q))]<;>rfl))
           ·apply dm<;>intro c10
            ·apply et8<;>((rw[mG (by rintro⟨_,_,q⟩;rw[hV] at q;(rw[c10,Bool.and_false] at q;cases q))]<;>rfl))
            ·have hP:bU d i j=(fR d i.toNat j.toNat,true):=R9 hd hi hj (by rw[ha];exact c0) hall.1 (by rw[hV,g325,c10];rfl);apply et8<;>((rw[hP]<;>first|(rw[fR,w142];rfl)|(rw[fR,w151];rfl)|(rw[ht,hall.2.1,hpr,EB aGR];rfl)|(rw[hls,hall.2.1];rfl)|(rw[hcs,hall.2.2,hpr];rfl)|(rw[fR,hV];done)))
      ·refine ap ?_ (fun _=>rfl) (by (simp;omega));refine ap ?_ (fun _=>rfl) (by (simp;omega));refine⟨aGR,rfl,aGR,fun e142 h142=>?_⟩;have w142:d.r.getD j.toNat 0=e142:=bD h142;refine⟨aGR,aAb _,by (simp;omega),rfl,by (simp;omega),fun s17_9 hs17_9=>⟨rfl,aBF rfl,rfl,?_⟩⟩;refine⟨aGR,rfl,aGR,fun e151 h151=>?_⟩;have w151:d.c.getD i.toNat 0=e151:=bD h151;refine⟨aGR,aAb _,by (simp;omega),rfl,by (simp;omega),fun s18_9 hs18_9=>⟨rfl,aBF rfl,rfl,?_⟩⟩;refine⟨⟨0,by rfl,by rfl,trivial⟩,fun r _=>?_⟩;refine⟨aAb _,dd (fun g159=>?_) fun g159=>?_⟩
       ·refine⟨⟨0,by rfl,by rfl,trivial⟩,fun k3 _=>?_⟩;refine⟨aAb _,dd (fun g263=>?_) fun g263=>?_⟩
        ·apply et8<;>((rw[mG (fun q=>absurd q.2.1 (by rw[IV (hf.symm.trans g124)];decide))]<;>rfl))
        ·apply et8<;>((rw[mG (fun q=>absurd q.2.1 (by rw[IV (hf.symm.trans g124)];decide))]<;>rfl))
       ·refine⟨⟨0,by rfl,by rfl,trivial⟩,fun k3 _=>?_⟩;refine⟨aAb _,dd (fun g263=>?_) fun g263=>?_⟩
        ·apply et8<;>((rw[mG (fun q=>absurd q.2.1 (by rw[IV (hf.symm.trans g124)];decide))]<;>rfl))
        ·apply et8<;>((rw[mG (fun q=>absurd q.2.1 (by rw[IV (hf.symm.trans g124)];decide))]<;>rfl))
def cV (r:aB):Rat:=(r.num:Rat)/(r.den:Rat)
def iD {d:Int}(h:d≠0):(d:Rat)≠0:=by
 intro e;exact h (by exact_mod_cast e)
def FW {n d:Int}:n.tdiv (Int.gcd n d)*(Int.gcd n d:Int)=n/\d.tdiv (Int.gcd n d)*(Int.gcd n d:Int)=d:=
 ⟨Int.tdiv_mul_cancel (Int.gcd_dvd_left ..),Int.tdiv_mul_cancel (Int.gcd_dvd_right ..)⟩
def LO {n d:Int}(h:d≠0):((n.tdiv (Int.gcd n d):Int):Rat)/((d.tdiv (Int.gcd n d):Int):Rat)=(n:Rat)/(d:Rat):=by
 obtain⟨e1,e2⟩:=FW (n:=n) (d:=d);have g0:(Int.gcd n d:Int)≠0:=by have:=lX (n:=n) h;omega
 have d0:d.tdiv (Int.gcd n d)≠0:=by intro e;rw[e,Int.zero_mul] at e2;exact h e2.symm
 generalize n.tdiv (Int.gcd n d)=p at*;generalize d.tdiv (Int.gcd n d)=q at*;generalize (Int.gcd n d:Int)=g at*;have h1:(p:Rat)*(g:Rat)=(n:Rat):=by exact_mod_cast e1
 have h2:(q:Rat)*(g:Rat)=(d:Rat):=by exact_mod_cast e2
 have g1:=iD g0;have q1:=iD d0;have n1:=iD h
 grind
def Cv {n d:Int}(h:(jI (bS n d)).2=true):d≠0/\aR (jI (bS n d)).1=true/\cV (jI (bS n d)).1=(n:Rat)/(d:Rat):=by
 by_cases h0:d=0
 ·subst h0;rw[mQ] at h;cases h
 refine⟨h0,?_⟩;by_cases hp:0<d
 ·rw[Ci hp rfl] at h ⊢;split at h
  ·rename_i hv;rw[if_pos hv];exact⟨hv,LO h0⟩
  cases h
 rw[Cj aGR rfl] at h ⊢;split at h
 ·rename_i hv;rw[if_pos hv];refine⟨hv,(LO aGR).trans ?_⟩;have:=iD h0;simp only[Rat.intCast_neg]
  grind
 cases h
def IW {k n m:Int}(h:Int.gcd k n=1)(hd:k ∣ n*m):k ∣ m:=by
 have:=Int.dvd_gcd_mul_iff_dvd_mul.2 hd
 rwa [h,Int.natCast_one,Int.one_mul] at this
def LP {p q n d:Int}(h1:Int.gcd p q=1)(h2:Int.gcd n d=1)(hq:0<q)(hd:0<d)(e:p*d=n*q):p=n/\q=d:=by
 have d1:q ∣ d:=IW (n:=p) (by rw[Int.gcd_comm];exact h1) ⟨n,by rw[e,Int.mul_comm]⟩;have d2:d ∣ q:=IW (n:=n) (by rw[Int.gcd_comm];exact h2) ⟨p,by rw[<-e,Int.mul_comm]⟩;have hqd:q=d:=Int.dvd_antisymm aGR aGR d1 d2;subst hqd;exact⟨Int.eq_of_mul_eq_mul_right aGR e,rfl⟩
def PS {n d:Int}(h:d≠0):Int.gcd (n.tdiv (Int.gcd n d)) (d.tdiv (Int.gcd n d))=1:=by
 have g0:0<Int.gcd n d:=Int.gcd_pos_of_ne_zero_right n h;rw[Int.tdiv_eq_ediv_of_dvd (Int.gcd_dvd_left ..),Int.tdiv_eq_ediv_of_dvd (Int.gcd_dvd_right ..)];exact Int.gcd_ediv_gcd_ediv_gcd g0
def XU {n d p q:Int}(h0:d≠0)(hv:cY p q=true)(e:p*d=n*q):jI (bS n d)=(⟨p,q⟩,true):=by
 obtain⟨b1,b2,b3,b4,b5⟩:=D2 hv;by_cases hp:0<d
 ·obtain⟨e1,e2⟩:=FW (n:=n) (d:=d);have c:=PS (n:=n) h0;have g0:(0:Int)<Int.gcd n d:=by have:=lX (n:=n) h0;omega
  rw[Ci hp rfl];generalize n.tdiv (Int.gcd n d)=x at*;generalize d.tdiv (Int.gcd n d)=y at*;generalize (Int.gcd n d:Int)=g at*
  have hy:0<y:=by
   rcases Int.lt_trichotomy 0 y with h | h | h
   ·exact h
   ·rw[<-h,Int.zero_mul] at e2;omega
   have:=Int.mul_neg_of_neg_of_pos h g0;omega
  obtain⟨rfl,rfl⟩:=LP b5 c aGR hy (by
   rw[<-e1,<-e2] at e;exact Int.eq_of_mul_eq_mul_right (a:=g) aGR (by rw[Int.mul_assoc,e,Int.mul_assoc,Int.mul_assoc,Int.mul_comm g]))
  rw[if_pos hv];rfl
 have h0' : -d≠0:=aGR
 obtain⟨e1,e2⟩:=FW (n:= -n) (d:= -d);have c:=PS (n:= -n) h0';have g0:(0:Int)<Int.gcd (-n) (-d):=by have:=lX (n:= -n) h0';omega
 rw[Cj aGR rfl];generalize (-n).tdiv (Int.gcd (-n) (-d))=x at*;generalize (-d).tdiv (Int.gcd (-n) (-d))=y at*;generalize (Int.gcd (-n) (-d):Int)=g at*
 have hy:0<y:=by
  rcases Int.lt_trichotomy 0 y with h | h | h
  ·exact h
  ·rw[<-h,Int.zero_mul] at e2;omega
  have:=Int.mul_neg_of_neg_of_pos h g0;omega
 obtain⟨rfl,rfl⟩:=LP b5 c aGR hy (by
  have e' :p* -d= -n*q:=by rw[Int.mul_neg,e,Int.neg_mul]
  rw[<-e1,<-e2] at e';exact Int.eq_of_mul_eq_mul_right (a:=g) aGR (by rw[Int.mul_assoc,e',Int.mul_assoc,Int.mul_assoc,Int.mul_comm g]))
 rw[if_pos hv];rfl
def aA1 {a b:aB}(ha:aR a=true)(hb:aR b=true)(h:cV a=cV b):a=b:=by
 obtain⟨a1,a2,a3,a4,a5⟩:=bT ha;obtain⟨b1,b2,b3,b4,b5⟩:=bT hb;have h1:=iD (d:=a.den) aGR;have h2:=iD (d:=b.den) aGR;have e:(a.num:Rat)*b.den=b.num*a.den:=by unfold cV at h;grind
 have e:a.num*b.den=b.num*a.den:=by exact_mod_cast e
 have d1:a.den ∣ b.den:=by
  exact IW (n:=a.num) (by rw[Int.gcd_comm];exact a5) ⟨b.num,by rw[e,Int.mul_comm]⟩
 have d2:b.den ∣ a.den:=by
  exact IW (n:=b.num) (by rw[Int.gcd_comm];exact b5) ⟨a.num,by rw[<-e,Int.mul_comm]⟩
 have hd:a.den=b.den:=Int.dvd_antisymm aGR aGR d1 d2
 have hn:a.num=b.num:=by
  rw[hd] at e;exact Int.eq_of_mul_eq_mul_right aGR e
 cases a;cases b;simp_all
def aCg {a b:aB}(ha:aR a=true)(hb:aR b=true)(h:(dC a b).2=true):aR (dC a b).1=true/\cV (dC a b).1=cV a*cV b:=by
 rw[dC,vH ha hb] at h ⊢;obtain⟨h0,h1,h2⟩:=Cv h;refine⟨h1,h2.trans ?_⟩;simp only[cV,Rat.intCast_mul];have:=iD (d:=a.den) (by have:=bT ha;omega);have:=iD (d:=b.den) (by have:=bT hb;omega)
 grind
def aEr {a b:aB}(ha:aR a=true)(hb:aR b=true)(h:(fH a b).2=true):aR (fH a b).1=true/\cV (fH a b).1=cV a+cV b:=by
 rw[fH,Bl ha hb] at h ⊢;obtain⟨h0,h1,h2⟩:=Cv h;refine⟨h1,h2.trans ?_⟩;simp only[cV,Rat.intCast_mul,Rat.intCast_add];have:=iD (d:=a.den) (by have:=bT ha;omega);have:=iD (d:=b.den) (by have:=bT hb;omega)
 grind
def aFq {a b:aB}(ha:aR a=true)(hb:aR b=true)(h:(kF a b).2=true):aR (kF a b).1=true/\cV (kF a b).1=cV a - cV b:=by
 rw[kF,FP ha hb] at h ⊢;obtain⟨h0,h1,h2⟩:=Cv h;refine⟨h1,h2.trans ?_⟩;simp only[cV,Rat.intCast_mul,Rat.intCast_sub];have:=iD (d:=a.den) (by have:=bT ha;omega);have:=iD (d:=b.den) (by have:=bT hb;omega)
 grind
def aEs {a b:aB}(ha:aR a=true)(hb:aR b=true)(h:(aZ a b).2=true):aR (aZ a b).1=true/\cV b≠0/\cV (aZ a b).1=cV a/cV b:=by
 rw[aZ,yE ha hb] at h ⊢;obtain⟨h0,h1,h2⟩:=Cv h;have n0:b.num≠0:=fun e=>h0 (by rw[e,Int.mul_zero]);have:=iD n0;have:=iD (d:=a.den) (by have:=bT ha;omega);have:=iD (d:=b.den) (by have:=bT hb;omega);refine⟨h1,?_,h2.trans ?_⟩
 ·unfold cV;grind
 simp only[cV,Rat.intCast_mul]
 grind
def aD1 {a b c:aB}(ha:aR a=true)(hb:aR b=true)(hc:aR c=true)(h:(cB a b c).2=true):aR (cB a b c).1=true/\cV (cB a b c).1=cV a - cV b*cV c:=by
 refine⟨K3 ha h,?_⟩;unfold cB at*;split at h
 ·rename_i hz;rw[if_pos hz];rcases hz with e | e
  ·simp only[cV,e,Rat.intCast_zero];grind
  simp only[cV,e,Rat.intCast_zero];grind
 rename_i hz;rw[if_neg hz];simp only[aBB] at h;have m:=aCg hb hc h.1;have s:=aFq ha m.1 h.2;rw[s.2,m.2]
def aFr {a b c:aB}(ha:aR a=true)(hb:aR b=true)(hc:aR c=true)(h:(eG a b c).2=true):aR (eG a b c).1=true/\cV (eG a b c).1=cV a+cV b*cV c:=by
 refine⟨R0 ha h,?_⟩;rw[K6 ha hb hc] at h ⊢;simp only[aBB] at h;have m:=aCg hb hc h.1;have s:=aEr ha m.1 h.2;rw[s.2,m.2]
def aFs:cV C6=1:=by
 have:C6=⟨1,1⟩:=rfl;simp only[cV,this,Rat.intCast_one];grind
def aFt:cV GY=0:=by simp only[cV,GY,Rat.intCast_zero];grind
def LQ {d:aE}{i j:Nat}(h:(fT d i j).2=true):fT d i j=(fR d i j,true)/\(fQ d i j).num≠0/\nV d i j=true/\(vN d i j).2=true:=by
 unfold fT at*;split at h
 ·rename_i hp;rw[if_pos hp];exact⟨rfl,hp⟩
 cases h
def nX {α:Type}(f:Nat->α){n k:Nat}(h:k<n)(z:α):((List.range n).map f).getD k z=f k:=by
 rw[aCz,aGB,List.getElem?_range h];rfl
def LR {α:Type}{l:List α}{i:Nat}{y z:α}(h:i<l.length):(l.set i y).getD i z=y:=by
 rw[aCz,List.getElem?_set_self h];rfl
def Rep (q:Rat):Prop:= ∃r:aB,aR r=true/\cV r=q
def PT {r:aB}(hr:aR r=true){n d:Int}(hd:d≠0)(h:cV r=(n:Rat)/(d:Rat)):r.num*d=n*r.den:=by
 have b:=bT hr;have h1:=iD (d:=r.den) aGR;have h2:=iD hd;have e:(r.num:Rat)*(d:Rat)=(n:Rat)*(r.den:Rat):=by unfold cV at h;grind
 exact_mod_cast e
def Nq {n d:Int}(hd:d≠0)(h:Rep ((n:Rat)/(d:Rat))):(jI (bS n d)).2=true:=by
 obtain⟨r,hr,e⟩:=h;rw[XU hd (show cY r.num r.den=true from hr) (PT hr hd e)]
def aA2 {a b:aB}(ha:aR a=true)(hb:aR b=true)(h:Rep (cV a*cV b)):(dC a b).2=true:=by
 have h1:=bT ha;have h2:=bT hb;have c1:=iD (d:=a.den) aGR;have c2:=iD (d:=b.den) aGR;rw[dC,vH ha hb];refine Nq (Int.mul_ne_zero aGR aGR) ?_
 have e:((a.num*b.num:Int):Rat)/((a.den*b.den:Int):Rat)=cV a*cV b:=by
  simp only[cV,Rat.intCast_mul];grind
 rw[e];exact h
def aA3 {a b:aB}(ha:aR a=true)(hb:aR b=true)(h:Rep (cV a+cV b)):(fH a b).2=true:=by
 have h1:=bT ha;have h2:=bT hb;have c1:=iD (d:=a.den) aGR;have c2:=iD (d:=b.den) aGR;rw[fH,Bl ha hb];refine Nq (Int.mul_ne_zero aGR aGR) ?_
 have e:((a.num*b.den+b.num*a.den:Int):Rat)/((a.den*b.den:Int):Rat)=cV a+cV b:=by
  simp only[cV,Rat.intCast_mul,Rat.intCast_add];grind
 rw[e];exact h
def SD {n d:Int}(hd:1<=d/\d<=2147483647)(hn: -2147483647<=n/\n<=2147483647):Rep ((n:Rat)/(d:Rat)):=by
 have g1:=lX (n:=n) (d:=d) aGR;have g2:=aEl (n:=n) (d:=d) aGR;obtain⟨e1,e2⟩:=FW (n:=n) (d:=d);have c:=PS (n:=n) (d:=d) aGR;refine⟨⟨n.tdiv (Int.gcd n d),d.tdiv (Int.gcd n d)⟩,?_,LO aGR⟩
 have hq:1<=d.tdiv (Int.gcd n d):=by
  rcases Int.lt_trichotomy 0 (d.tdiv (Int.gcd n d)) with h | h | h
  ·omega
  ·rw[<-h,Int.zero_mul] at e2;omega
  have:=Int.mul_neg_of_neg_of_pos h (show (0:Int)<Int.gcd n d by omega);omega
 have h1:(n.tdiv (Int.gcd n d)).natAbs<=n.natAbs:=by rw[Int.natAbs_tdiv];exact Nat.div_le_self _ _
 have h2:(d.tdiv (Int.gcd n d)).natAbs<=d.natAbs:=by rw[Int.natAbs_tdiv];exact Nat.div_le_self _ _
 simp only[aR,cY,aBB,aFI];exact⟨⟨qF aGR aGR,qF aGR aGR⟩,c⟩
def dH:Nat->(Nat->Rat)->Rat
 | 0,_=>0
 | n+1,f=>dH n f+f n
theorem dL {f g:Nat->Rat}: ∀{n:Nat},(∀k,k<n->f k=g k)->dH n f=dH n g
 | 0,_=>rfl
 | n+1,h=>by rw[dH,dH,dL (fun k hk=>h k aGR),h n aGR]
theorem vO (f g:Nat->Rat): ∀n,dH n (fun k=>f k+g k)=dH n f+dH n g
 | 0=>by simp only[dH];grind
 | n+1=>by simp only[dH];rw[vO f g n];grind
theorem nY (c:Rat)(f:Nat->Rat): ∀n,dH n (fun k=>c*f k)=c*dH n f
 | 0=>by simp only[dH];grind
 | n+1=>by simp only[dH];rw[nY c f n];grind
theorem qB: ∀n,dH n (fun _=>0)=0
 | 0=>rfl
 | n+1=>by rw[dH,qB n];grind
theorem mU {f:Nat->Rat}{j:Nat}: ∀{n:Nat},j<n->dH n f=f j+dH n (fun k=>if k=j then 0 else f k)
 | n+1,h=>by
   simp only[dH];by_cases e:j=n
   ·have h1:dH n (fun k=>if k=j then 0 else f k)=dH n f:=dL (n:=n) (f:=fun k=>if k=j then 0 else f k) (g:=f) fun k hk=>if_neg aGR;rw[h1,if_pos e.symm,e]
    grind
   rw[mU (f:=f) (j:=j) (n:=n) aGR,if_neg (fun q=>e q.symm)]
   grind
theorem PU {f g:Nat->Rat}: ∀{n:Nat},(∀k,k<n->f k<=g k)->dH n f<=dH n g
 | 0,_=>by simp only[dH];grind
 | n+1,h=>by
   simp only[dH];have h1:=PU (n:=n) (fun k hk=>h k aGR);have h2:=h n aGR
   grind
def gR (xs:List aB)(k:Nat):Rat:=cV (xs.getD k zR)
def gI (l:Z)(k:Nat):Rat:=((l.getD k 0:Int):Rat)
def oZ (n:Int):cV (aN n)=(n:Rat):=by
 have:aN n=⟨n,1⟩:=rfl;simp only[cV,this,Rat.intCast_one];grind
theorem Ns {n:Int}{l:Z}{x:aB}{xs:List aB}{s:aB}:rZ (n::l) (x::xs) s=if (C5 n x s).2=true then rZ l xs (C5 n x s).1 else (zR,false):=rfl
theorem Gg (f:Nat->Rat): ∀n,dH (n+1) f=f 0+dH n (fun k=>f (k+1))
 | 0=>by simp only[dH];grind
 | n+1=>by
   rw[dH,Gg f n];simp only[dH];grind
theorem aA4: ∀{l:Z} {xs:List aB} {s:aB},l.length=xs.length->(∀n∈l,aR (aN n)=true)->(∀x∈xs,aR x=true)->aR s=true->(rZ l xs s).2=true->
 aR (rZ l xs s).1=true/\cV (rZ l xs s).1=cV s+dH l.length (fun k=>gI l k*gR xs k)
 | [],[],s,_,_,_,hs,_=>⟨hs,by simp only[rZ,List.length_nil,dH];grind⟩
 | [],_::_,_,h,_,_,_,_=>by simp at h
 | _::_,[],_,h,_,_,_,_=>by simp at h
 | n::l,x::xs,s,h,hl,hx,hs,hd=>by
   rw[Ns] at hd ⊢;split at hd
   ·rename_i hf;rw[if_pos hf];simp only[C5,aBB] at hf;have m:=aCg (hl n (by simp)) (hx x (by simp)) hf.1;have a:=aEr hs m.1 hf.2;have ih:=aA4 (s:=(C5 n x s).1) (by simpa using h) (fun y hy=>hl y (by simp[hy])) (fun y hy=>hx y (by simp[hy])) a.1 hd;refine⟨ih.1,ih.2.trans ?_⟩;rw[aEb,Gg];have e0:gI (n::l) 0=(n:Rat):=rfl;have e1:gR (x::xs) 0=cV x:=rfl;have e2:cV (C5 n x s).1=cV s+cV (aN n)*cV x:=by rw[show (C5 n x s).1=(fH s (dC (aN n) x).1).1 from rfl,a.2,m.2]
    rw[e2,e0,e1,oZ];have e3:(fun k=>gI (n::l) (k+1)*gR (x::xs) (k+1))=fun k=>gI l k*gR xs k:=rfl;rw[e3];grind
   cases hd
theorem Nt: ∀{l:Z} {xs:List aB} {s:aB},l.length=xs.length->(∀n∈l,aR (aN n)=true)->(∀x∈xs,aR x=true)->aR s=true->
 (∀k,k<l.length->Rep (gI l k*gR xs k)/\Rep (cV s+dH (k+1) (fun k=>gI l k*gR xs k)))->(rZ l xs s).2=true
 | [],[],s,_,_,_,hs,_=>rfl
 | [],_::_,_,h,_,_,_,_=>by simp at h
 | _::_,[],_,h,_,_,_,_=>by simp at h
 | n::l,x::xs,s,h,hl,hx,hs,hr=>by
   have e0:gI (n::l) 0=(n:Rat):=rfl;have e1:gR (x::xs) 0=cV x:=rfl;have r0:=hr 0 (by simp);rw[e0,e1] at r0;have f1:(dC (aN n) x).2=true:=aA2 (hl n (by simp)) (hx x (by simp)) (by rw[oZ];exact r0.1);have m:=aCg (hl n (by simp)) (hx x (by simp)) f1
   have f2:(fH s (dC (aN n) x).1).2=true:=aA3 hs m.1 (by
    rw[m.2,oZ];have:=r0.2;simp only[dH,e0,e1] at this;have e:cV s+(0+(n:Rat)*cV x)=cV s+(n:Rat)*cV x:=by grind
    rw[e] at this;exact this)
   have a:=aEr hs m.1 f2;rw[Ns,if_pos (by rw[C5,f1,f2];rfl)];have e2:cV (C5 n x s).1=cV s+(n:Rat)*cV x:=by rw[show (C5 n x s).1=(fH s (dC (aN n) x).1).1 from rfl,a.2,m.2,oZ]
   refine Nt (by simpa using h) (fun y hy=>hl y (by simp[hy])) (fun y hy=>hx y (by simp[hy])) a.1 fun k hk=>?_;have hk' :=hr (k+1) (by simp;omega);refine⟨hk'.1,?_⟩;have:=hk'.2;rw[Gg,e0,e1] at this;rw[e2];have e3:(fun k=>gI (n::l) (k+1)*gR (x::xs) (k+1))=fun k=>gI l k*gR xs k:=rfl;rw[e3] at this;have e4:cV s+((n:Rat)*cV x+dH (k+1) (fun k=>gI l k*gR xs k))=cV s+(n:Rat)*cV x+dH (k+1) (fun k=>gI l k*gR xs k):=by grind
   rw[e4] at this;exact this
def gW (l:Z)(k:Nat):Int:=l.getD k 0
def dQ (d:aE)(r k:Nat):Rat:=cV (fQ d r k)
def sE (d:aE)(r:Nat):Rat:=cV (d.b.getD r zR)
def nZ (d:aE)(k:Nat):Rat:=cV (d.s.getD k zR)
def B2 (d:aE)(x:Int->Rat)(r:Nat):Prop:=x (gW d.c r)=sE d r - dH d.r.length (fun k=>dQ d r k*x (gW d.r k))
def MK (d:aE)(x:Int->Rat):Prop:= ∀r,r<d.c.length->B2 d x r
def ML (d:aE)(x:Int->Rat):Rat:=cV d.value+dH d.r.length (fun k=>nZ d k*x (gW d.r k))
structure aGt (d:aE) (i j:Nat):Prop where
 nz:dQ d i j≠0
 lim: ∀r,r<d.c.length->sE (fR d i j) r=if r=i then sE d i/dQ d i j else sE d r - dQ d r j*(sE d i/dQ d i j)
 cell: ∀r k,r<d.c.length->k<d.r.length->dQ (fR d i j) r k=if r=i then (if k=j then 1 else dQ d i k)/dQ d i j else (if k=j then 0 else dQ d r k) - dQ d r j*((if k=j then 1 else dQ d i k)/dQ d i j)
 cost: ∀k,k<d.r.length->nZ (fR d i j) k=(if k=j then 0 else nZ d k) - nZ d j*((if k=j then 1 else dQ d i k)/dQ d i j)
 val:cV (fR d i j).value=cV d.value+nZ d j*(sE d i/dQ d i j)
def aFu {d:aE}{i j:Nat}(hd:dE d=true)(hi:i<d.c.length)(hj:j<d.r.length)(h1:(fT d i j).2=true):aGt d i j:=by
 obtain⟨_,n1,a1,v1⟩:=LQ h1;obtain⟨_,_,b3,_,b5,b6,b7,b8⟩:=fP hd;simp only[nV,aBB] at a1;obtain⟨⟨⟨p1,p2⟩,p3⟩,p4⟩:=a1;have vcell:=AD hd hi hj;have vlim:aR (d.b.getD i zR)=true:=jN b6 hi;have vcost:aR (d.s.getD j zR)=true:=jN b7 hj
 have hp: ∀k,k<d.r.length->aR (FSq d i j k).1=true/\dQ d i j≠0/\cV (FSq d i j k).1=(if k=j then 1 else dQ d i k)/dQ d i j:=fun k hk=>by
  have f:=aCS.1 p1 k (aEt.2 hk);unfold FSq at f ⊢;have vx:aR (if k=j then C6 else fQ d i k)=true:=by split;exact XK;exact AD hd hi hk
  have q:=aEs vx vcell f;refine⟨q.1,q.2.1,q.2.2.trans ?_⟩;split
  ·rw[aFs];rfl
  rfl
 have hl:aR (eH d i j).1=true/\cV (fQ d i j)≠0/\cV (eH d i j).1=cV (d.b.getD i zR)/cV (fQ d i j):=aEs vlim vcell p2;have el:cV (eH d i j).1=sE d i/dQ d i j:=hl.2.2
 have ch: ∀(l:List aB) (k:Nat),(l.length=d.r.length/\ ∀x∈l,aR x=true)->k<d.r.length->(Sd l (l.getD j zR) (fI d i j d.r.length) j k).2=true->cV (Sd l (l.getD j zR) (fI d i j d.r.length) j k).1=(if k=j then 0 else cV (l.getD k zR)) - cV (l.getD j zR)*((if k=j then 1 else dQ d i k)/dQ d i j):=fun l k hv hk f=>by
  have e:(fI d i j d.r.length).getD k zR=(FSq d i j k).1:=by rw[fI,nX _ hk]
  unfold Sd at f ⊢;rw[e] at f ⊢;have vx:aR (if k=j then GY else l.getD k zR)=true:=by split;exact Nc;exact jN hv hk
  have q:=aD1 vx (jN hv hj) (hp k hk).1 f;rw[q.2,(hp k hk).2.2];split
  ·rw[aFt]
  rfl
 refine⟨hl.2.1,fun r hr=>?_,fun r k hr hk=>?_,fun k hk=>?_,?_⟩
 ·have e:(fR d i j).b.getD r zR=DG d i j r:=by simp only[fR,jB];rw[nX _ hr]
  rw[sE,e,DG];split
  ·exact el
  rename_i hne;have ok:=aCS.1 p3 r (aEt.2 hr);rw[K5,if_neg hne,aBB] at ok;have q:=aD1 (jN b6 hr) (AD hd hr hj) hl.1 ok.2;rw[show VP d i j r=cB (d.b.getD r zR) (fQ d r j) (eH d i j).1 from rfl,q.2,el];rfl
 ·have e:(fR d i j).u.getD r []=Bv d i j r:=by simp only[fR,iQ];rw[nX _ hr]
  rw[dQ,fQ,e,Bv];split
  ·rw[fI,nX _ hk];exact(hp k hk).2.2
  rename_i hne;have ok:=aCS.1 p3 r (aEt.2 hr);rw[K5,if_neg hne,aBB] at ok;have hr' :r<d.u.length:=aGR
  have hc:d.u.getD r []=d.u[r]:=by rw[aCz,aBP hr'];rfl
  have hv:=b5 _ (aGF hr');rw[<-hc] at hv;rw[fG,nX _ hk,ch _ k hv hk (aCS.1 ok.1 k (aEt.2 hk))];rfl
 ·have e:(fR d i j).s.getD k zR=(Sd d.s (d.s.getD j zR) (fI d i j d.r.length) j k).1:=by
   simp only[fR,PN];rw[fG,nX _ hk]
  rw[nZ,e,ch d.s k b7 hk (aCS.1 p4 k (aEt.2 hk))];rfl
 rw[show (fR d i j).value=(vN d i j).1 from rfl,vN];rw[vN] at v1;rw[(aFr b8 vcost hl.1 v1).2,el];rfl
def IX {d:aE}{i j:Nat}(hd:dE d=true)(hi:i<d.c.length)(hj:j<d.r.length)(h1:(fT d i j).2=true)(x:Int->Rat):(MK (fR d i j) x↔MK d x)/\(MK d x->ML (fR d i j) x=ML d x):=by
 obtain⟨nz,lim,cell,cost,val⟩:=aFu hd hi hj h1;have hb:(fR d i j).c.length=d.c.length:=by simp[fR]
 have ho:(fR d i j).r.length=d.r.length:=by simp[fR]
 have bi:gW (fR d i j).c i=gW d.r j:=by simp only[gW,fR];exact LR hi
 have br: ∀r,¬r=i->gW (fR d i j).c r=gW d.c r:=fun r hr=>by
  simp only[gW,fR,aCz];rw[List.getElem?_set_ne (fun e=>hr e.symm)]
 have oj:gW (fR d i j).r j=gW d.c i:=by simp only[gW,fR];exact LR hj
 have ok: ∀k,¬k=j->gW (fR d i j).r k=gW d.r k:=fun k hk=>by
  simp only[gW,fR,aCz];rw[List.getElem?_set_ne (fun e=>hk e.symm)]
 generalize hn:d.r.length=n at*;generalize ha:dQ d i j=a at*;generalize hL:sE d i=L at*;generalize hxb:x (gW d.c i)=xb at*;generalize hxj:x (gW d.r j)=xj at*
 have sp: ∀(f g:Nat->Rat),f j=g j->(∀k,k<n-> ¬k=j->f k=g k)->dH n f=dH n g:=fun f g h0 h=>dL fun k hk=>by
  by_cases e:k=j
  ·rw[e,h0]
  exact h k hk e
 let R:=dH n (fun k=>if k=j then 0 else dQ d i k*x (gW d.r k))
 have oldRow: ∀r,dH n (fun k=>dQ d r k*x (gW d.r k))=dQ d r j*xj+dH n (fun k=>if k=j then 0 else dQ d r k*x (gW d.r k)):=fun r=>by
  rw[mU (j:=j) hj,hxj]
 have newRowI:dH n (fun k=>dQ (fR d i j) i k*x (gW (fR d i j).r k))=1/a*xb+1/a*R:=by
  rw[mU (j:=j) hj,oj,hxb,cell i j hi aGR,if_pos rfl,if_pos rfl,<-nY]
  congr 1
  refine dL fun k hk=>?_;by_cases e:k=j
  ·rw[if_pos e,if_pos e];grind
  rw[if_neg e,if_neg e,ok k e,cell i k hi aGR,if_pos rfl,if_neg e];grind
 have newRowR: ∀r,r<d.c.length-> ¬r=i->dH n (fun k=>dQ (fR d i j) r k*x (gW (fR d i j).r k))=(0 - dQ d r j*(1/a))*xb+(dH n (fun k=>if k=j then 0 else dQ d r k*x (gW d.r k))+(0 - dQ d r j/a)*R):=fun r hr hne=>by
  rw[mU (j:=j) hj,oj,hxb,cell r j hr aGR,if_neg hne,if_pos rfl,if_pos rfl,<-nY,<-vO]
  congr 1
  refine dL fun k hk=>?_;by_cases e:k=j
  ·rw[if_pos e,if_pos e,if_pos e];grind
  rw[if_neg e,if_neg e,if_neg e,ok k e,cell r k hr aGR,if_neg hne,if_neg e,if_neg e];grind
 have eI:B2 (fR d i j) x i↔B2 d x i:=by
  unfold B2;rw[ho,bi,hxj,hxb,hL,newRowI,lim i hi,if_pos rfl,hn,oldRow i,ha];constructor<;>intro h<;>grind
 have eR:B2 d x i-> ∀r,r<d.c.length-> ¬r=i->(B2 (fR d i j) x r↔B2 d x r):=fun h0 r hr hne=>by
  unfold B2 at h0 ⊢;rw[ho,br r hne,newRowR r hr hne,lim r hr,if_neg hne,hn,oldRow r];rw[hxb,hL,hn,oldRow i,ha] at h0;constructor<;>intro h<;>grind
 refine⟨⟨fun h r hr=>?_,fun h r hr=>?_⟩,fun h=>?_⟩
 ·have h0:=eI.1 (h i aGR);by_cases e:r=i
  ·rw[e];exact h0
  exact(eR h0 r hr e).1 (h r aGR)
 ·rw[hb] at hr;by_cases e:r=i
  ·rw[e];exact eI.2 (h i hi)
  exact(eR (h i hi) r hr e).2 (h r hr)
 have h0:=h i hi;unfold B2 at h0;rw[hxb,hL,hn,oldRow i,ha] at h0
 have newC:dH n (fun k=>nZ (fR d i j) k*x (gW (fR d i j).r k))=(0 - nZ d j*(1/a))*xb+(dH n (fun k=>if k=j then 0 else nZ d k*x (gW d.r k))+(0 - nZ d j/a)*R):=by
  rw[mU (j:=j) hj,oj,hxb,cost j aGR,if_pos rfl,if_pos rfl,<-nY,<-vO]
  congr 1
  refine dL fun k hk=>?_;by_cases e:k=j
  ·rw[if_pos e,if_pos e,if_pos e];grind
  rw[if_neg e,if_neg e,if_neg e,ok k e,cost k aGR,if_neg e,if_neg e];grind
 have oldC:dH n (fun k=>nZ d k*x (gW d.r k))=nZ d j*xj+dH n (fun k=>if k=j then 0 else nZ d k*x (gW d.r k)):=by
  rw[mU (j:=j) hj,hxj]
 unfold ML;rw[ho,newC,val,hn,oldC]
 grind
def LS {d:Int}(h:1<=d):(0:Rat)<(d:Rat):=by
 have:((0:Int):Rat)<(d:Rat):=Rat.intCast_lt_intCast.2 aGR;simpa using this
def VX {a b:aB}(ha:aR a=true)(hb:aR b=true):cV a<cV b↔a.num*b.den<b.num*a.den:=by
 have h1:=bT ha;have h2:=bT hb;have p1:=LS (d:=a.den) h1.1;have p2:=LS (d:=b.den) h2.1;unfold cV;rw[Rat.div_lt_iff p1]
 have e:(b.num:Rat)/(b.den:Rat)*(a.den:Rat)=((b.num*a.den:Int):Rat)/(b.den:Rat):=by
  simp only[Rat.intCast_mul];have:=iD (d:=b.den) aGR
  grind
 rw[e,Rat.lt_div_iff p2,<-Rat.intCast_mul,Rat.intCast_lt_intCast]
def SE {a b:aB}(ha:aR a=true)(hb:aR b=true):(eB a b<0↔cV a<cV b)/\(0<eB a b↔cV b<cV a):=by
 rw[eB,vJ ha hb,VX ha hb,VX hb ha];split
 ·exact aGS
 split
 ·exact aGS
 exact aGS
def Cw {a:aB}(ha:aR a=true):(0<a.num↔0<cV a)/\(a.num<0↔cV a<0):=by
 have h1:=bT ha;have p1:=LS (d:=a.den) h1.1;unfold cV;rw[Rat.lt_div_iff p1,Rat.div_lt_iff p1];have e:(0:Rat)*(a.den:Rat)=((0:Int):Rat):=by rw[Rat.zero_mul];rfl
 rw[e,Rat.intCast_lt_intCast,Rat.intCast_lt_intCast];exact⟨Iff.rfl,Iff.rfl⟩
def aCh {d:aE}(h:dE d=true){r:Nat}(hr:r<d.c.length):aR (d.b.getD r zR)=true:=by
 obtain⟨_,_,_,_,_,b6,_,_⟩:=fP h;exact jN b6 hr
def aGu (d:aE)(j k:Nat)(b:Int)(l:aB):Prop:=
 (b<0-> ∀r,r<k->dQ d r j<=0)/\(0<=b->b<k/\0<dQ d b.toNat j/\aR l=true/\cV l=sE d b.toNat/dQ d b.toNat j/\ ∀r,r<k->0<dQ d r j->cV l<=sE d r/dQ d r j)
theorem Cx {d:aE}(hd:dE d=true){j:Nat}(hj:j<d.r.length): ∀(f k:Nat) (b:Int) (l:aB),k+f=d.c.length->aGu d j k b l->
 fA d j f k b l<0\/(fA d j f k b l<d.c.length/\0<dQ d (fA d j f k b l).toNat j/\ ∀r,r<d.c.length->0<dQ d r j->sE d (fA d j f k b l).toNat/dQ d (fA d j f k b l).toNat j<=sE d r/dQ d r j)
 | 0,k,b,l,hk,hI=>by
   rw[fA];by_cases hb:b<0
   ·exact .inl hb
   obtain⟨h1,h2,h3,h4,h5⟩:=hI.2 aGR;refine .inr ⟨aGR,h2,fun r hr hp=>?_⟩;rw[<-h4];exact h5 r aGR hp
 | f+1,k,b,l,hk,hI=>by
   have hkm:k<d.c.length:=aGR
   have vc:=AD hd hkm hj;have vl:=aCh hd hkm;rw[fA];split
   ·rename_i h0;refine Cx hd hj f (k+1) b l aGR ⟨fun hb r hr=>?_,fun hb=>?_⟩
    ·by_cases e:r=k
     ·rw[e];have:=(Cw vc).1;have: ¬0<cV (fQ d k j):=fun q=>by have:=(Cw vc).1.2 q;omega
      show cV (fQ d k j)<=0
      grind
     exact hI.1 hb r aGR
    obtain⟨h1,h2,h3,h4,h5⟩:=hI.2 hb;refine⟨aGR,h2,h3,h4,fun r hr hp=>?_⟩;by_cases e:r=k
    ·rw[e] at hp;have:=(Cw vc).1.2 hp;omega
    exact h5 r aGR hp
   rename_i h0;have pc:0<dQ d k j:=(Cw vc).1.1 aGR;split
   ·exact .inl (by decide)
   rename_i h1;have h1:(aZ (d.b.getD k zR) (fQ d k j)).2=true:=by simpa using h1
   have q:=aEs vl vc h1;have eq:cV (aZ (d.b.getD k zR) (fQ d k j)).1=sE d k/dQ d k j:=q.2.2;split
   ·rename_i h2;refine Cx hd hj f (k+1) k _ aGR ⟨fun hb=>aGR,fun _=>⟨aGR,by simpa using pc,q.1,by simpa using eq,fun r hr hp=>?_⟩⟩;rw[eq];by_cases e:r=k
    ·rw[e];grind
    simp only[nU,Bool.or_eq_true,aBB,aFI] at h2;rcases h2 with h2 | h2
    ·have:=hI.1 h2 r aGR
     grind
    by_cases hb:b<0
    ·have:=hI.1 hb r aGR
     grind
    obtain⟨g1,g2,g3,g4,g5⟩:=hI.2 aGR;have:=g5 r aGR hp;have cv:=SE q.1 g3
    have: ¬cV l<cV (aZ (d.b.getD k zR) (fQ d k j)).1:=fun z=>by
     have:=cv.2.2 z;rcases h2 with h2 | h2<;>omega
    rw[eq] at this
    grind
   rename_i h2;simp only[nU,Bool.or_eq_true,aBB,aFI,not_or] at h2;obtain⟨hb,hc,_⟩:=h2;refine Cx hd hj f (k+1) b l aGR ⟨fun hb' =>aGR,fun _=>?_⟩;obtain⟨g1,g2,g3,g4,g5⟩:=hI.2 aGR;refine⟨aGR,g2,g3,g4,fun r hr hp=>?_⟩;by_cases e:r=k
   ·have cv:=SE q.1 g3;have: ¬cV (aZ (d.b.getD k zR) (fQ d k j)).1<cV l:=fun z=>hc (cv.1.2 z);rw[e,<-eq];grind
   exact g5 r aGR hp
def SF {d:aE}(hd:dE d=true){j:Nat}(hj:j<d.r.length)(h: ¬gG d j<0):gG d j<d.c.length/\0<dQ d (gG d j).toNat j/\ ∀r,r<d.c.length->0<dQ d r j->sE d (gG d j).toNat/dQ d (gG d j).toNat j<=sE d r/dQ d r j:=by
 rcases Cx hd hj d.c.length 0 (-1) zR aGR ⟨fun _ r hr=>aGR,fun h=>aGR⟩ with q | q
 ·exact absurd q h
 exact q
theorem SG {d:aE}{i j:Nat}(hd:dE d=true)(hi:i<d.c.length)(hj:j<d.r.length)(h1:(fT d i j).2=true)(hc:0<dQ d i j)(hm: ∀r,r<d.c.length->0<dQ d r j->sE d i/dQ d i j<=sE d r/dQ d r j)
 (h0: ∀r,r<d.c.length->0<=sE d r): ∀r,r<d.c.length->0<=sE (fR d i j) r:=by
 intro r hr;rw[(aFu hd hi hj h1).lim r hr]
 have q0:0<=sE d i/dQ d i j:=by
  have:=h0 i hi;rw[Rat.div_def];exact Rat.mul_nonneg this (by have:=Rat.inv_pos.2 hc;grind)
 split
 ·exact q0
 by_cases hp:0<dQ d r j
 ·have h2:=hm r hr hp;have h3:=Rat.mul_le_mul_of_nonneg_left (c:=dQ d r j) h2 (by grind);have h4:dQ d r j*(sE d r/dQ d r j)=sE d r:=by grind
  grind
 have h3:0<=(- dQ d r j)*(sE d i/dQ d i j):=Rat.mul_nonneg (by grind) q0;have:=h0 r hr
 grind
structure wP (d0 d:aE):Prop where
 ok:dE d=true
 m:d.c.length=d0.c.length
 n:d.r.length=d0.r.length
 sat: ∀x,MK d x↔MK d0 x
 obj: ∀x,MK d x->ML d x=ML d0 x
 lim: ∀r,r<d.c.length->0<=sE d r
def SH {d:aE}(h: ¬eX d<0):(eX d).toNat<d.r.length:=by
 have:=yH d d.r.length;have e:eX d=mF d d.r.length:=rfl;omega
theorem SI {d0:aE}: ∀(f:Nat) (d e:aE),wP d0 d->fV f d=(e,true)->wP d0 e/\eX e<0
 | 0,d,e,h,hs=>by rw[fV] at hs;cases hs
 | f+1,d,e,h,hs=>by
   rw[fV] at hs;split at hs
   ·rename_i he;injection hs with h1 h2
    subst h1;exact⟨h,he⟩
   rename_i he;split at hs
   ·cases hs
   rename_i hl;split at hs
   ·rename_i hp;have hj:=SH he;obtain⟨l1,l2,l3⟩:=SF h.ok hj hl;have hi:(gG d (eX d).toNat).toNat<d.c.length:=aGR
    obtain⟨g1,g2,g3,g4⟩:=LQ hp;have nd:(fT d (gG d (eX d).toNat).toNat (eX d).toNat).1=fR d (gG d (eX d).toNat).toNat (eX d).toNat:=by rw[g1]
    rw[nd] at hs;refine SI f _ e ⟨PO h.ok hi hj g3 g4,by simp only[fR,aDF];exact h.m,by simp only[fR,aDF];exact h.n,fun x=>(IX h.ok hi hj hp x).1.trans (h.sat x),fun x hx=>?_,fun r hr=>?_⟩ hs
    ·have q:=IX h.ok hi hj hp x;have hx' :=q.1.1 hx;rw[q.2 hx',h.obj x hx']
    simp only[fR,aDF] at hr;exact SG h.ok hi hj hp l2 l3 h.lim r hr
   cases hs
theorem Nu {d:aE}(hd:dE d=true): ∀{n:Nat},n<=d.r.length->mF d n<0-> ∀k,k<n->nZ d k<=0
 | 0,_,_,k,hk=>aGR
 | n+1,hn,h,k,hk=>by
   rw[mF] at h;split at h
   ·omega
   rename_i hb;by_cases e:k=n
   ·rw[e];simp only[Bu,aBB,Bool.or_eq_true,aFI,not_and,not_or] at hb;obtain⟨_,_,_,_,_,_,b7,_⟩:=fP hd;have vc:aR (d.s.getD n zR)=true:=jN b7 aGR;have: ¬0<cV (d.s.getD n zR):=fun q=>(hb ((Cw vc).1.2 q)).1 h;show cV (d.s.getD n zR)<=0
    grind
   exact Nu hd aGR h k aGR
def pA (p:bC)(r k:Nat):Int:=(p.rows.getD r []).getD k 0
def pB (p:bC)(r:Nat):Int:=p.b.getD r 0
def pC (p:bC)(k:Nat):Int:=p.q.getD k 0
def B3 {α β:Type}(f:α->β){l:List α}{k:Nat}(h:k<l.length)(z:β)(z' :α):(l.map f).getD k z=f (l.getD k z'):=by
 simp only[aCz,aGB,aBP h];rfl
theorem kO (p:bC)(hp:bY p=true):(dP p).c.length=p.rows.length/\(dP p).r.length=p.q.length/\
 (∀r,r<p.rows.length->gW (dP p).c r=((p.q.length+r:Nat):Int))/\(∀k,k<p.q.length->gW (dP p).r k=(k:Int))/\
 (∀r k,r<p.rows.length->k<p.q.length->dQ (dP p) r k=((pA p r k:Int):Rat))/\(∀r,r<p.rows.length->sE (dP p) r=((pB p r:Int):Rat))/\
 (∀k,k<p.q.length->nZ (dP p) k=((pC p k:Int):Rat))/\cV (dP p).value=0:=by
 obtain⟨q1,q2,q3,q4,q5⟩:=gE hp;refine⟨by simp[dP],by simp[dP],fun r hr=>?_,fun k hk=>?_,fun r k hr hk=>?_,fun r hr=>?_,fun k hk=>?_,?_⟩
 ·simp only[gW,dP];rw[nX _ hr]
 ·simp only[gW,dP,upto];rw[nX _ hk]
 ·have hrow:k<(p.rows.getD r []).length:=by
   have:p.rows.getD r []=p.rows[r]:=by rw[aCz,aBP hr];rfl
   rw[this,(q4 _ (aDG _ (aGF hr))).1];exact hk
  simp only[dQ,fQ,dP];rw[B3 (List.map aN) hr [] [],B3 aN hrow zR 0,oZ];rfl
 ·simp only[sE,dP];rw[B3 aN aGR zR 0,oZ];rfl
 ·simp only[nZ,dP];rw[B3 aN hk zR 0,oZ];rfl
 show cV (aN 0)=0;rw[oZ];rfl
theorem SJ {p:bC}(hp:bY p=true)(x:Int->Rat):(MK (dP p) x↔ ∀r,r<p.rows.length->x ((p.q.length+r:Nat):Int)=((pB p r:Int):Rat) - dH p.q.length (fun k=>((pA p r k:Int):Rat)*x (k:Int)))/\
 ML (dP p) x=dH p.q.length (fun k=>((pC p k:Int):Rat)*x (k:Int)):=by
 obtain⟨h1,h2,h3,h4,h5,h6,h7,h8⟩:=kO p hp;refine⟨?_,?_⟩
 ·unfold MK B2;rw[h1,h2];have key: ∀r,r<p.rows.length->dH p.q.length (fun k=>dQ (dP p) r k*x (gW (dP p).r k))=dH p.q.length (fun k=>((pA p r k:Int):Rat)*x (k:Int)):=fun r hr=>dL fun k hk=>by rw[h5 r k hr hk,h4 k hk]
  constructor
  ·intro h r hr;have:=h r hr
   rwa [h3 r hr,h6 r hr,key r hr] at this
  intro h r hr;rw[h3 r hr,h6 r hr,key r hr];exact h r hr
 unfold ML;rw[h2,h8,dL (g:=fun k=>((pC p k:Int):Rat)*x (k:Int)) fun k hk=>by rw[h7 k hk,h4 k hk]]
 grind
def VY {p:bC}(hp:bY p=true):wP (dP p) (dP p):=by
 obtain⟨h1,h2,h3,h4,h5,h6,h7,h8⟩:=kO p hp;obtain⟨q1,q2,q3,q4,q5⟩:=gE hp;refine⟨K7 hp,rfl,rfl,fun _=>Iff.rfl,fun _ _=>rfl,fun r hr=>?_⟩;rw[h1] at hr;rw[h6 r hr]
 have hb:pB p r∈p.b:=by
  rw[pB,aCz,aBP aGR];exact aGF _
 have:=(q5 _ hb).1;have z:((0:Int):Rat)<=((pB p r:Int):Rat):=Rat.intCast_le_intCast.2 this;simpa using z
def B4 {f:Nat->Rat}{n j:Nat}(hj:j<n)(h: ∀k,k<n-> ¬k=j->f k=0):dH n f=f j:=by
 rw[mU (j:=j) hj,dL (g:=fun _=>0) fun k hk=>?_,qB]
 ·grind
 by_cases e:k=j
 ·rw[if_pos e]
 rw[if_neg e];exact h k hk e
def Tv (n:Nat):(upto n).Nodup:=by
 rw[upto,List.nodup_iff_pairwise_ne,List.pairwise_map];exact List.Pairwise.imp (fun h e=>h (by exact_mod_cast e)) (List.nodup_iff_pairwise_ne.1 List.nodup_range)
def Nv {l:Z}(h:l.Nodup){i j:Nat}(hi:i<l.length)(hj:j<l.length)(e:l[i]=l[j]):i=j:=by
 rw[List.nodup_iff_pairwise_ne,List.pairwise_iff_getElem] at h;rcases Nat.lt_trichotomy i j with q | q | q
 ·exact absurd e (h i j hi hj q)
 ·exact q
 exact absurd e.symm (h j i hj hi q)
structure aCi (d:aE):Prop where
 bb: ∀r s,r<d.c.length->s<d.c.length->gW d.c r=gW d.c s->r=s
 oo: ∀k j,k<d.r.length->j<d.r.length->gW d.r k=gW d.r j->k=j
 bo: ∀r k,r<d.c.length->k<d.r.length->gW d.c r≠gW d.r k
 b0: ∀r,r<d.c.length->0<=gW d.c r/\gW d.c r<d.c.length+d.r.length
 o0: ∀k,k<d.r.length->0<=gW d.r k/\gW d.r k<d.c.length+d.r.length
def wQ {l:Z}{k:Nat}(h:k<l.length):gW l k=l[k]:=by rw[gW,aCz,aBP h];rfl
def AG {d:aE}(h:dE d=true):aCi d:=by
 obtain⟨_,_,_,hp,_⟩:=fP h;have hn:(d.c++d.r).Nodup:=(Bt hp).nodup_iff.2 (Tv _);obtain⟨n1,n2,n3⟩:=aFH.1 hn;obtain⟨f1,f2⟩:=Ga h;refine⟨fun r s hr hs e=>?_,fun k j hk hj e=>?_,fun r k hr hk e=>?_,fun r hr=>?_,fun k hk=>?_⟩
 ·rw[wQ hr,wQ hs] at e;exact Nv n1 hr hs e
 ·rw[wQ hk,wQ hj] at e;exact Nv n2 hk hj e
 ·rw[wQ hr,wQ hk] at e;exact n3 _ (aGF hr) _ (aGF hk) e
 ·rw[wQ hr];exact f1 _ (aGF hr)
 rw[wQ hk];exact f2 _ (aGF hk)
section
variable {p:bC} {d:aE}
def mT (p:bC)(d:aE)(t k:Nat):Int:=if gW d.r t<p.q.length then (if gW d.r t=(k:Int) then 1 else 0) else pA p (gW d.r t - p.q.length).toNat k
def rT (p:bC)(d:aE)(t:Nat):Int:=if gW d.r t<p.q.length then 0 else pB p (gW d.r t - p.q.length).toNat
def tS (p:bC)(d:aE)(t:Nat):Rat:=if gW d.r t<p.q.length then nZ d t else - nZ d t
def MM (p:bC)(y:Nat->Rat)(v:Int):Rat:=if v<p.q.length then y v.toNat else ((pB p (v - p.q.length).toNat:Int):Rat) - dH p.q.length (fun k=>((pA p (v - p.q.length).toNat k:Int):Rat)*y k)
theorem IY (hp:bY p=true)(hD:wP (dP p) d)(y:Nat->Rat):MK d (MM p y)/\ML d (MM p y)=dH p.q.length (fun k=>((pC p k:Int):Rat)*y k):=by
 have hs:MK (dP p) (MM p y):=(SJ hp _).1.2 fun r hr=>by
  rw[MM,if_neg aGR,show (((p.q.length+r:Nat):Int) - p.q.length).toNat=r by omega]
  congr 1
  exact dL fun k hk=>by rw[MM,if_pos aGR];rfl
 have hd:=(hD.sat _).2 hs;refine⟨hd,?_⟩;rw[hD.obj _ hd,(SJ hp _).2];exact dL fun k hk=>by rw[MM,if_pos aGR];rfl
theorem eqV (hp:bY p=true)(hD:wP (dP p) d):cV d.value=dH p.q.length (fun t=>tS p d t*((rT p d t:Int):Rat)):=by
 obtain⟨h1,h2,_⟩:=kO p hp;have hn:d.r.length=p.q.length:=hD.n.trans h2;have h:=(IY hp hD (fun _=>0)).2;rw[dL (g:=fun _=>0) (fun k hk=>by grind),qB,ML,hn] at h
 have e:dH p.q.length (fun k=>nZ d k*MM p (fun _=>0) (gW d.r k))=(-1)*dH p.q.length (fun t=>tS p d t*((rT p d t:Int):Rat)):=by
  rw[<-nY];refine dL fun k hk=>?_;by_cases hv:gW d.r k<p.q.length
  ·rw[MM,if_pos hv,rT,if_pos hv];simp only[Rat.intCast_zero];grind
  rw[MM,if_neg hv,rT,if_neg hv,tS,if_neg hv,dL (g:=fun _=>0) (fun k hk=>by grind),qB];grind
 rw[e] at h
 grind
theorem eqL (hp:bY p=true)(hD:wP (dP p) d){j:Nat}(hj:j<p.q.length):dH p.q.length (fun t=>tS p d t*((mT p d t j:Int):Rat))=((pC p j:Int):Rat):=by
 obtain⟨h1,h2,_⟩:=kO p hp;have hn:d.r.length=p.q.length:=hD.n.trans h2;have h:=(IY hp hD (fun k=>if k=j then 1 else 0)).2;rw[B4 hj (fun k hk hne=>by rw[if_neg hne];grind),if_pos rfl,ML,hn,eqV hp hD] at h
 have e:dH p.q.length (fun k=>nZ d k*MM p (fun k=>if k=j then 1 else 0) (gW d.r k))=dH p.q.length (fun t=>tS p d t*((mT p d t j:Int):Rat))+(-1)*dH p.q.length (fun t=>tS p d t*((rT p d t:Int):Rat)):=by
  rw[<-nY,<-vO];refine dL fun k hk=>?_;have v0:=(AG hD.ok).o0 k aGR;by_cases hv:gW d.r k<p.q.length
  ·rw[MM,if_pos hv,rT,if_pos hv,tS,if_pos hv,mT,if_pos hv];by_cases ek:gW d.r k=(j:Int)
   ·rw[if_pos ek,if_pos aGR];simp only[Rat.intCast_zero,Rat.intCast_one];grind
   rw[if_neg ek,if_neg aGR];simp only[Rat.intCast_zero];grind
  rw[MM,if_neg hv,rT,if_neg hv,tS,if_neg hv,mT,if_neg hv,B4 hj (fun k hk hne=>by rw[if_neg hne];grind),if_pos rfl];grind
 rw[e] at h
 grind
end
abbrev Hm (p:bC)(ys:List aB):Prop:=Cn 22 [aHA p,.one (.sl 40 2 (ys.map aA))] (vB (oU p ys)) []
def XV (p:bC)(ys:List aB)(hrs: ∀r∈p.rows,r.length<=1048576):Hm p ys:=by
 refine cq Tryz.func22 (.call (vB (bY p)) []<| .br (.fin []) (.len p.rows.length<| .call (vB (gN ys (p.rows.length:Int))) []<| aGQ<| .br (.fin []) (.len p.q.length<| .loop Nat (Q1 Nat) ([5,6,7,9,10,11]++rg 26 37) [1000,3100,4400,4500] (fun k=>[(26,vI (k:Int))]) (fun k=>[]) (fun k=>k<=p.q.length/\(List.range k).all (pM p ys)=true) (fun k=>p.q.length - k) (fun k=> .br (.elem _ intD p.q (fun e29=> .len p.rows.length<| .loop (Nat × Z) (Q2 Nat Z) ([7,9,31]++rg 35 12) [3100,4400,4500] (fun yy1=>[(35,vI (yy1.1:Int)),(7,.own 3100)]) (fun yy1=>[(3100,some (.arr 3 1 true (yy1.2.map intD)))]) (fun yy1=>yy1.1<=p.rows.length/\yy1.2=tJ (p.rows.take yy1.1) k) (fun yy1=>p.rows.length - yy1.1) (fun yy1=> .br (.elem _ aD p.rows (fun e37=> .elem _ intD e37 (fun e42=> .app Int intD yy1.2 ([e42]:Z)<| .back [(3100,4500)]))) (bN (wM yy1.2 ys)<| .br (.fin []) (.call (.agg [vI ((aN e29).num),vI ((aN e29).den)]) []<| .call (vI (eB ((gB yy1.2 ys).1) (aN e29))) []<| aGQ<| .br (.fin []) (.back [])))))) (.fin []))))) (p:=Lx (p.q.map intD)<| Lx (p.rows.map aD)<| Lx (p.b.map intD)<| Lx (ys.map aA)<| tD p/\Nr (bY p) ((false)=(oU p ys)/\True) (Lm aD p.rows/\(GX ys (p.rows.length:Int)/\Nr (gN ys (p.rows.length:Int)) ((false)=(oU p ys)/\True) (Lm intD p.q/\((∃(k:Nat),0=(k:Int)/\k<=p.q.length/\(List.range k).all (pM p ys)=true)/\ ∀(k:Nat),(k<=p.q.length/\(List.range k).all (pM p ys)=true)->Br ((k:Int)<(p.q.length:Int)) (0<=(k:Int)/\Em intD p.q k fun e29=>Lm aD p.rows/\((∃(i:Nat) (cl:Z),0=(i:Int)/\[]=cl.map intD/\i<=p.rows.length/\cl=tJ (p.rows.take i) k)/\ ∀(i:Nat) (cl:Z),(i<=p.rows.length/\cl=tJ (p.rows.take i) k)->Br ((i:Int)<(p.rows.length:Int)) (0<=(i:Int)/\Em aD p.rows i fun e37=>0<=(k:Int)/\Em intD e37 k fun e42=>Ap intD cl ([e42]:Z) 8 (bO ((i:Int)+1)/\ ∃(i' :Nat) (cl' :Z),((i:Int)+1)=(i' :Int)/\(cl++[e42]).map intD=cl'.map intD/\(i' <=p.rows.length/\cl' =tJ (p.rows.take i') k)/\p.rows.length - i' <p.rows.length - i)) (Bs cl ys/\Nr ((gB cl ys).2) ((false)=(oU p ys)/\True) (sA e29/\AB ((gB cl ys).1) (aN e29)/\Br ((eB ((gB cl ys).1) (aN e29))<0) ((false)=(oU p ys)/\True) (bO ((k:Int)+1)/\ ∃(k' :Nat),((k:Int)+1)=(k' :Int)/\(k' <=p.q.length/\(List.range k').all (pM p ys)=true)/\p.q.length - k' <p.q.length - k))))) ((true)=(oU p ys)/\True)))))) ?_;refine lx fun n0=>lx fun n1=>lx fun n2=>lx fun n3=>?_;refine⟨Cl p (by assumption),dm (fun g15=>?_) fun g15=>?_⟩
 ·have hbad:oU p ys=false:=by (rw[oU,g15];rfl)
  apply et1
  ·(rw[hbad];done)
 ·refine⟨aAb _,VN ys (p.rows.length:Int),dm (fun c0=>?_) fun c0=>?_⟩
  ·have hbad:oU p ys=false:=by (rw[oU,g15,c0];rfl)
   apply et1
   ·(rw[hbad];done)
  ·have hp:bY p=true:=g15;have hN:gN ys p.rows.length=true:=c0;obtain⟨b1,b2,b3,b4,b5⟩:=gE hp;have hyl:ys.length=p.rows.length:=by have z:=hN;rw[gN,aBB,aFI] at z;omega
   refine⟨aAb _,⟨0,rfl,aBC _,rfl⟩,fun k ⟨hk,ha⟩=>?_⟩;apply dd<;>intro c1
   ·refine⟨aGR,rfl,aGR,fun e29 h29=>?_⟩;refine⟨aAb _,⟨0,([]:Z),rfl,rfl,aBC _,rfl⟩,fun i cl ⟨hi,hcl⟩=>?_⟩;apply dd<;>intro c2
    ·refine⟨aGR,rfl,aGR,fun e37 h37=>?_⟩;have hrl:=(b4 e37 (by simp[aBD h37])).1;refine⟨aGR,rfl,aGR,fun e42 h42=>?_⟩;refine ap ?_ (fun _=>rfl) (by (rw[hcl];simp[tJ];omega));refine⟨aGS,?_⟩;exact⟨i+1,_,rfl,rfl,⟨aGR,by rw[hcl,XF h37 h42]⟩,aGR⟩
    ·have hcol:cl=tJ p.rows k:=by rw[hcl,aCR aGR]
     have hP:gB (tJ p.rows k) ys=gB cl ys:=by rw[<-hcol]
     refine⟨NW cl ys,dm (fun g55=>?_) fun g55=>?_⟩
     ·have hD:pM p ys k=false:=by (rw[pM,hP,g55];rfl)
      have hX:oU p ys=false:=by rw[oU,Hj (p:=pM p ys) (n:=p.q.length) (k:=k) aGR hD,Bool.and_false,Bool.and_false]
      apply et1
      ·(rw[hX];done)
     ·refine⟨Co e29,Ku ((gB cl ys).1) (aN e29),dd (fun c3=>?_) fun c3=>?_⟩
      ·have hD:pM p ys k=false:=by (rw[pM,hP,g55,bD h29,decide_eq_false aGR];rfl)
       have hX:oU p ys=false:=by rw[oU,Hj (p:=pM p ys) (n:=p.q.length) (k:=k) aGR hD,Bool.and_false,Bool.and_false]
       apply et1
       ·(rw[hX];done)
      ·have hG:pM p ys k=true:=by rw[pM,hP,g55,bD h29,decide_eq_true aGR];rfl
       refine⟨aGS,?_⟩;exact⟨k+1,rfl,⟨aGR,Rq ha hG⟩,aGR⟩
   ·apply et1
    ·(rw[oU,hp,hN,show p.q.length=k by omega,ha];rfl)
def Nx (D:Int)(B:Nat)(q:Rat):Prop:= ∃N:Int,N.natAbs<=B/\((D:Int):Rat)*q=((N:Int):Rat)
def LU (D:Int):Nx D 0 0:=⟨0,aFC _,by simp only[Rat.intCast_zero];grind⟩
def aCj {D:Int}{B C:Nat}{p q:Rat}(hp:Nx D B p)(hq:Nx D C q):Nx D (B+C) (p+q):=by
 obtain⟨N,n1,n2⟩:=hp;obtain⟨K,k1,k2⟩:=hq;exact⟨N+K,aGR,by rw[Rat.intCast_add,<-n2,<-k2];grind⟩
def VZ {D:Int}{B:Nat}{q:Rat}{a:Int}{A:Nat}(ha:a.natAbs<=A)(hq:Nx D B q):Nx D (A*B) (((a:Int):Rat)*q):=by
 obtain⟨N,n1,n2⟩:=hq;exact⟨a*N,by rw[Int.natAbs_mul];exact Nat.mul_le_mul ha n1,by rw[Rat.intCast_mul,<-n2];grind⟩
def yJ {D:Int}{B C:Nat}{q:Rat}(h:B<=C)(hq:Nx D B q):Nx D C q:=by
 obtain⟨N,n1,n2⟩:=hq;exact⟨N,aGR,n2⟩
theorem PV {D:Int}{B:Nat}{f:Nat->Rat}: ∀{n:Nat},(∀k,k<n->Nx D B (f k))->Nx D (n*B) (dH n f)
 | 0,_=>by rw[Nat.zero_mul];exact LU D
 | n+1,h=>by
   rw[dH,Nat.add_mul,Nat.one_mul];exact aCj (PV fun k hk=>h k aGR) (h n aGR)
def Va {D:Int}{B:Nat}{q:Rat}(h0:D≠0)(hD:D.natAbs<=2147483647)(hB:B<=2147483647)(hq:Nx D B q):Rep q:=by
 obtain⟨N,n1,n2⟩:=hq;have d0:=iD h0;by_cases hp:0<D
 ·have e:q=((N:Int):Rat)/((D:Int):Rat):=by grind
  rw[e];exact SD aGR aGR
 have e:q=((-N:Int):Rat)/((-D:Int):Rat):=by rw[Rat.intCast_neg,Rat.intCast_neg];grind
 rw[e];exact SD aGR aGR
def XW {α:Type}{l:List α}{k:Nat}{x z:α}(h:k<l.length):(l.set k x).getD k z=x:=by
 rw[aCz,List.getElem?_set_self h];rfl
def XX {α:Type}{l:List α}{j k:Nat}{x z:α}(h: ¬j=k):(l.set j x).getD k z=l.getD k z:=by
 rw[aCz,List.getElem?_set_ne h,<-aCz]
def aCk {α:Type}{P:α->Prop}{l:List α}{k:Nat}{y:α}(h: ∀x∈l,P x)(hy:P y): ∀x∈l.set k y,P x:=fun x hx=>by
 rcases List.mem_or_eq_of_mem_set hx with q | q
 ·exact h x q
 rw[q];exact hy
def aFv {n k:Nat}(h:k<n):cV ((List.replicate n (aN 0)).getD k zR)=0:=by
 rw[aCz,List.getElem?_replicate,if_pos h];exact oZ 0
def LV {f:Nat->Rat}{n:Nat}(h: ∀k,k<n->f k=0):dH n f=0:=(dL h).trans (qB n)
def aFw (r:aB):cV (eK r)= - cV r:=by simp only[cV,eK,Rat.intCast_neg];grind
def aEu {r:aB}(h:aR r=true):aR (eK r)=true:=by rw[aR,eK];dsimp only;rw[rY];exact h
theorem Vb {d:aE}(hd:dE d=true)(n m:Nat){i:Nat}(hi:i<m): ∀t,t<=d.r.length->cV ((lI d n m t).getD i zR)=dH t (fun k=>if gW d.r k=((n+i:Nat):Int) then - nZ d k else 0)
 | 0,_=>aFv hi
 | t+1,ht=>by
   have v:=AG hd;have ih:=Vb hd n m hi t aGR;have b0:=v.o0 t aGR;rw[lI,dH];by_cases hb:(n:Int)<=gW d.r t
   ·rw[if_pos (show (n:Int)<=d.r.getD t 0 from hb)];by_cases e:gW d.r t=((n+i:Nat):Int)
    ·have e' :(d.r.getD t 0 - n).toNat=i:=by have:d.r.getD t 0=gW d.r t:=rfl;omega
     rw[e',XW (by rw[Cr];exact hi),if_pos e,LV fun r hr=>if_neg (fun q=>by have:=v.oo r t aGR aGR (q.trans e.symm);omega),aFw];show - nZ d t=_
     grind
    have e' : ¬(d.r.getD t 0 - n).toNat=i:=by have:d.r.getD t 0=gW d.r t:=rfl;omega
    rw[XX e',ih,if_neg e];grind
   rw[if_neg (show ¬(n:Int)<=d.r.getD t 0 from hb),ih,if_neg aGR];grind
theorem SK {d:aE}(hd:dE d=true)(n m:Nat): ∀t,t<=d.r.length-> ∀x∈lI d n m t,aR x=true
 | 0,_,x,hx=>by rw[lI] at hx;rw[(List.mem_replicate.1 hx).2];exact kD aGR
 | t+1,ht,x,hx=>by
   have ih:=SK hd n m t aGR;obtain⟨_,_,_,_,_,_,b7,_⟩:=fP hd;rw[lI] at hx;split at hx
   ·exact aCk ih (aEu (jN b7 aGR)) x hx
   exact ih x hx
def XY {l:List aB}{n:Nat}(hl:l.length=n)(hv: ∀x∈l,aR x=true)(h0: ∀k,k<n->0<=cV (l.getD k zR)):gN l n=true:=by
 simp only[gN,aBB,aFI,aCS];refine⟨aGR,fun x hx=>?_⟩;obtain⟨k,hk,rfl⟩:=List.getElem_of_mem hx;have vx:=hv _ hx;have e:l.getD k zR=l[k]:=by rw[aCz,aBP hk];rfl
 have h:=h0 k aGR;rw[e] at h;have: ¬l[k].num<0:=fun q=>by have:=(Cw vx).2.1 q;grind
 rw[Bq,vx,decide_eq_false this];rfl
def aA5 {l:Z}{xs:List aB}(hl: ∀n∈l,-99<=n/\n<=99)(hx: ∀x∈xs,aR x=true)(h:(gB l xs).2=true):l.length=xs.length/\aR (gB l xs).1=true/\cV (gB l xs).1=dH l.length (fun k=>gI l k*gR xs k):=by
 unfold gB at*;split at h
 ·rename_i he;rw[if_pos he];have q:=aA4 he (fun n hn=>kD (hl n hn)) hx (kD (n:=0) aGR) h;refine⟨he,q.1,q.2.trans ?_⟩;rw[oZ,Rat.intCast_zero];grind
 cases h
theorem Ny {l:Z}{xs:List aB}{D:Int}{B:Nat}(he:l.length=xs.length)(hl: ∀n∈l,-99<=n/\n<=99)(hx: ∀x∈xs,aR x=true)(h0:D≠0)(hD:D.natAbs<=2147483647)(hB:B<=2147483647)
 (hp: ∀k,k<l.length->Nx D B (gI l k*gR xs k)/\Nx D B (dH (k+1) (fun k=>gI l k*gR xs k))):(gB l xs).2=true:=by
 rw[gB,if_pos he];refine Nt he (fun n hn=>kD (hl n hn)) hx (kD (n:=0) aGR) fun k hk=>⟨Va h0 hD hB (hp k hk).1,?_⟩;rw[oZ,Rat.intCast_zero,show (0:Rat)+dH (k+1) (fun k=>gI l k*gR xs k)=dH (k+1) (fun k=>gI l k*gR xs k) by grind];exact Va h0 hD hB (hp k hk).2
theorem Nz (d:aE)(n:Nat)(g z:Nat->Rat)(N:Nat): ∀s,dH s (fun i=>g i*dH N (fun t=>if gW d.r t=((n+i:Nat):Int) then z t else 0))=dH N (fun t=>if (n:Int)<=gW d.r t/\gW d.r t<((n+s:Nat):Int) then g (gW d.r t - n).toNat*z t else 0)
 | 0=>by
   rw[dH,LV fun t _=>if_neg aGR]
 | s+1=>by
   rw[dH,Nz d n g z N s,<-nY,<-vO];refine dL fun t _=>?_;by_cases e:gW d.r t=((n+s:Nat):Int)
   ·rw[if_neg aGR,if_pos e,if_pos aGR,show (gW d.r t - n).toNat=s by omega];grind
   rw[if_neg e];by_cases q:(n:Int)<=gW d.r t/\gW d.r t<((n+s:Nat):Int)
   ·rw[if_pos q,if_pos aGR];grind
   rw[if_neg q,if_neg aGR];grind
section
variable {p:bC} {d:aE}
theorem aA6 (hp:bY p=true){r k:Nat}(hr:r<p.rows.length):(pA p r k).natAbs<=9:=by
 obtain⟨q1,q2,q3,q4,q5⟩:=gE hp;have e:p.rows.getD r []=p.rows[r]:=by rw[aCz,aBP hr];rfl
 have h:=(q4 _ (aDG _ (aGF hr))).2;rw[pA,e];by_cases hk:k<p.rows[r].length
 ·rw[aCz,aBP hk];have:=h _ (aGF hk);show (p.rows[r][k]).natAbs<=9;omega
 rw[aCz,List.getElem?_eq_none aGR];decide
theorem aEv (hp:bY p=true)(r:Nat):(pB p r).natAbs<=99:=by
 obtain⟨q1,q2,q3,q4,q5⟩:=gE hp;rw[pB];by_cases hk:r<p.b.length
 ·rw[aCz,aBP hk];have:=q5 _ (aGF hk);show (p.b[r]).natAbs<=99;omega
 rw[aCz,List.getElem?_eq_none aGR];decide
theorem aEw (hp:bY p=true)(k:Nat):(pC p k).natAbs<=9:=by
 obtain⟨q1,q2,q3,q4,q5⟩:=gE hp;rw[pC];by_cases hk:k<p.q.length
 ·rw[aCz,aBP hk];have:=(q4 p.q (by simp)).2 _ (aGF hk);show (p.q[k]).natAbs<=9;omega
 rw[aCz,List.getElem?_eq_none aGR];decide
end
section
variable {p:bC} {d:aE}
theorem aA7 (hp:bY p=true):p.b.length=p.rows.length/\ ∀n∈p.b,-99<=n/\n<=99:=by
 obtain⟨q1,q2,q3,q4,q5⟩:=gE hp;exact⟨q3,fun n hn=>by have:=q5 n hn;omega⟩
theorem Tw (p:bC)(k:Nat){i:Nat}(hi:i<p.rows.length):(tJ p.rows k).getD i 0=pA p i k:=by
 rw[tJ,B3 _ hi 0 []];rfl
theorem aEx (hp:bY p=true)(k:Nat):(tJ p.rows k).length=p.rows.length/\ ∀n∈tJ p.rows k,-99<=n/\n<=99:=by
 refine⟨by simp[tJ],fun n hn=>?_⟩;obtain⟨i,hi,rfl⟩:=List.getElem_of_mem hn;have hi' :i<p.rows.length:=by simpa [tJ] using hi
 have e:(tJ p.rows k)[i]=(tJ p.rows k).getD i 0:=by rw[aCz,aBP hi];rfl
 rw[e,Tw p k hi'];have:=aA6 hp (k:=k) hi';omega
def rB (p:bC)(d:aE):List aB:=lI d p.q.length p.rows.length d.r.length
theorem PW (hp:bY p=true)(hD:wP (dP p) d){i:Nat}(hi:i<p.rows.length):gR (rB p d) i=dH p.q.length (fun t=>if gW d.r t=((p.q.length+i:Nat):Int) then tS p d t else 0):=by
 obtain⟨h1,h2,_⟩:=kO p hp;have hn:d.r.length=p.q.length:=hD.n.trans h2;rw[gR,rB,Vb hD.ok _ _ hi _ (aFC _),hn];refine dL fun t _=>?_;by_cases e:gW d.r t=((p.q.length+i:Nat):Int)
 ·rw[if_pos e,if_pos e,tS,if_neg aGR]
 rw[if_neg e,if_neg e]
theorem aEy {n:Nat}{f:Nat->Rat}(h: ∀k,k<n->0<=f k):0<=dH n f:=by
 have:=PU (f:=fun _=>0) (g:=f) h
 rwa [qB] at this
theorem LW (hp:bY p=true)(hD:wP (dP p) d)(g:Nat->Rat){s:Nat}(hs:s<=p.rows.length):dH s (fun i=>g i*gR (rB p d) i)=dH p.q.length (fun t=>if (p.q.length:Int)<=gW d.r t/\gW d.r t<((p.q.length+s:Nat):Int) then g (gW d.r t - p.q.length).toNat*tS p d t else 0):=by
 rw[<-Nz d p.q.length g (tS p d) p.q.length s];exact dL fun i hi=>by rw[PW hp hD aGR]
end
def LX {f:Nat->Rat}{n:Nat}(h: ∀k,k<n->f k=0):dH n f=0:=(dL h).trans (qB n)
def Gh {f:Nat->Rat}{n j:Nat}(hj:j<n)(h: ∀k,k<n-> ¬k=j->f k=0):dH n f=f j:=by
 rw[mU (j:=j) hj,LX fun k hk=>?_]
 ·grind
 by_cases e:k=j
 ·rw[if_pos e]
 rw[if_neg e];exact h k hk e
def XZ {f:Nat->Rat}{n i j:Nat}(hi:i<n)(hj:j<n)(hij: ¬j=i)(h: ∀k,k<n-> ¬k=i-> ¬k=j->f k=0):dH n f=f i+f j:=by
 rw[mU (j:=i) hi,Gh (f:=fun k=>if k=i then 0 else f k) hj fun k hk hne=>?_,if_neg hij];by_cases e:k=i
 ·exact if_pos e
 exact(if_neg e).trans (h k hk e hne)
def EG (i k:Nat):Nat:=if k<i then k else k+1
def sgD (i:Nat):Rat:=if i%2=0 then 1 else -1
def dt:Nat->(Nat->Nat->Rat)->Rat
 | 0,_=>1
 | n+1,R=>dH (n+1) (fun i=>sgD i*(R i n*dt n (fun t=>R (EG i t))))
def vP (R:Nat->Nat->Rat)(i:Nat)(w:Nat->Rat):Nat->Nat->Rat:=fun t=>if t=i then w else R t
def N0 {i t:Nat}(h:t<i):EG i t=t:=if_pos h
def SL {i t:Nat}(h: ¬t<i):EG i t=t+1:=if_neg h
def Vc {i t n:Nat}(ht:t<n):EG i t<n+1:=by unfold EG;split<;>omega
def aD3 (i t:Nat): ¬EG i t=i:=by unfold EG;split<;>omega
def jW (R:Nat->Nat->Rat)(i:Nat)(w:Nat->Rat):vP R i w i=w:=if_pos rfl
def gF {R:Nat->Nat->Rat}{i t:Nat}{w:Nat->Rat}(h: ¬t=i):vP R i w t=R t:=if_neg h
def FX (R:Nat->Nat->Rat)(i:Nat):vP R i (R i)=R:=by
 funext t;by_cases h:t=i
 ·rw[h,jW]
 rw[gF h]
def LY {R:Nat->Nat->Rat}{i j:Nat}{u v:Nat->Rat}(h: ¬i=j):vP (vP R i u) j v=vP (vP R j v) i u:=by
 funext t;by_cases h1:t=i
 ·rw[h1,gF h,jW,jW]
 by_cases h2:t=j
 ·rw[h2,jW,gF (fun q=>h q.symm),jW]
 rw[gF h2,gF h1,gF h1,gF h2]
def PX (R:Nat->Nat->Rat)(i:Nat)(w:Nat->Rat):(fun t=>vP R i w (EG i t))=fun t=>R (EG i t):=by
 funext t;exact gF (aD3 i t)
def Tx {R:Nat->Nat->Rat}{i j:Nat}{w:Nat->Rat}(h: ¬i=j):(fun t=>vP R i w (EG j t))=vP (fun t=>R (EG j t)) (if i<j then i else i - 1) w:=by
 funext t;by_cases e:EG j t=i
 ·have q:t=if i<j then i else i - 1:=by unfold EG at e;split at e<;>split<;>omega
  rw[<-q,e,jW,jW]
 have q: ¬t=if i<j then i else i - 1:=fun q=>e (by unfold EG;split at q<;>split<;>omega);rw[gF e,gF q]
theorem qV: ∀{n:Nat} {R S:Nat->Nat->Rat},(∀t,t<n-> ∀k,k<n->R t k=S t k)->dt n R=dt n S
 | 0,_,_,_=>rfl
 | n+1,R,S,h=>by
   rw[dt,dt];refine dL fun i hi=>?_;rw[h i hi n aGR,qV (n:=n) (R:=fun t=>R (EG i t)) (S:=fun t=>S (EG i t)) fun t ht k hk=>h _ (Vc ht) k aGR]
theorem LZ (a b:Rat)(u v:Nat->Rat): ∀{n:Nat} (R:Nat->Nat->Rat) {i:Nat},i<n->dt n (vP R i (fun k=>a*u k+b*v k))=a*dt n (vP R i u)+b*dt n (vP R i v)
 | 0,_,_,h=>aGR
 | n+1,R,i,h=>by
   rw[dt,dt,dt,<-nY,<-nY,<-vO];refine dL fun j hj=>?_;by_cases e:i=j
   ·subst e;rw[PX,PX,PX,jW,jW,jW]
    grind
   have x: ∀w,vP R i w j=R j:=fun w=>gF (fun q=>e q.symm);rw[Tx e,Tx e,Tx e,LZ a b u v _ (show (if i<j then i else i - 1)<n by split<;>omega),x,x,x]
   grind
def Ty {n:Nat}(R:Nat->Nat->Rat){i:Nat}(h:i<n)(u v:Nat->Rat):dt n (vP R i (fun k=>u k+v k))=dt n (vP R i u)+dt n (vP R i v):=by
 have e:=LZ 1 1 u v R h;rw[show (fun k=>1*u k+1*v k)=fun k=>u k+v k by funext k;grind] at e;rw[e];grind
def aCl (i:Nat):sgD (i+1)= - sgD i:=by
 unfold sgD;by_cases h:i%2=0
 ·rw[if_pos h,if_neg aGR]
 rw[if_neg h,if_pos aGR];rfl
theorem PY: ∀{n:Nat} {R:Nat->Nat->Rat} {i:Nat},i+1<n->R i=R (i+1)->dt n R=0
 | 0,_,_,h,_=>aGR
 | n+1,R,i,h,e=>by
   have z: ∀k,k<n+1-> ¬k=i-> ¬k=i+1->dt n (fun t=>R (EG k t))=0:=fun k hk h1 h2=>by
    by_cases q:i<k
    ·refine PY (i:=i) aGR ?_;show R (EG k i)=R (EG k (i+1));rw[N0 q,N0 aGR,e]
    refine PY (i:=i - 1) aGR ?_;show R (EG k (i - 1))=R (EG k (i - 1+1));rw[SL aGR,SL aGR,show i - 1+1=i by omega,e]
   have m:(fun t=>R (EG i t))=fun t=>R (EG (i+1) t):=by
    funext t;by_cases q:t=i
    ·rw[q,SL (aGD i),N0 (Nat.lt_succ_self i),e]
    by_cases q2:t<i
    ·rw[N0 q2,N0 aGR]
    rw[SL q2,SL aGR]
   rw[dt,XZ (i:=i) (j:=i+1) aGR h aGR fun k hk h1 h2=>by rw[z k hk h1 h2];grind];rw[aCl,m,e]
   grind
def aCm {n:Nat}(R:Nat->Nat->Rat){i:Nat}(h:i+1<n):dt n (vP (vP R i (R (i+1))) (i+1) (R i))= - dt n R:=by
 have hn: ¬i=i+1:=aGR
 have z: ∀w,dt n (vP (vP R i w) (i+1) w)=0:=fun w=>PY h (by rw[jW,gF hn,jW]);have a1: ∀a x y,dt n (vP (vP R i a) (i+1) (fun k=>x k+y k))=dt n (vP (vP R i a) (i+1) x)+dt n (vP (vP R i a) (i+1) y):=fun a x y=>Ty _ h x y
 have a2: ∀b x y,dt n (vP (vP R i (fun k=>x k+y k)) (i+1) b)=dt n (vP (vP R i x) (i+1) b)+dt n (vP (vP R i y) (i+1) b):=fun b x y=>by
  rw[LY hn,LY hn,LY hn];exact Ty _ aGR x y
 have s:vP (vP R i (R i)) (i+1) (R (i+1))=R:=by rw[FX,FX]
 have k:=z (fun k=>R i k+R (i+1) k);rw[a1,a2,a2,z,z,s] at k
 grind
theorem PZ: ∀(g:Nat) {n:Nat} {R:Nat->Nat->Rat} {i:Nat},i+1+g<n->R i=R (i+1+g)->dt n R=0
 | 0,_,_,_,h,e=>PY h e
 | g+1,n,R,i,h,e=>by
   have k:=aCm R (i:=i+1+g) h
   rw[PZ g (i:=i) aGR (by
    rw[gF aGR,gF aGR,gF aGR,jW,e];rfl)] at k
   grind
def aA8 {n:Nat}{R:Nat->Nat->Rat}{i j:Nat}(hi:i<n)(hj:j<n)(h: ¬i=j)(e:R i=R j):dt n R=0:=by
 by_cases q:i<j
 ·exact PZ (j - (i+1)) (i:=i) aGR (by rw[show i+1+(j - (i+1))=j by omega];exact e)
 exact PZ (i - (j+1)) (i:=j) aGR (by rw[show j+1+(i - (j+1))=i by omega];exact e.symm)
theorem Vd {n:Nat}(R:Nat->Nat->Rat){i:Nat}(hi:i<n)(c:Nat->Rat): ∀m,m<=n->dt n (vP R i (fun k=>dH m (fun t=>c t*R t k)))=if i<m then c i*dt n R else 0
 | 0,_=>by
   have e:=LZ 0 0 (R i) (R i) R hi;rw[show (fun k=>0*R i k+0*R i k)=fun k=>dH 0 (fun t=>c t*R t k) by funext k;rw[dH];grind] at e;rw[e,if_neg aGR];grind
 | m+1,hm=>by
   have ih:=Vd R hi c m aGR;have e:=LZ 1 (c m) (fun k=>dH m (fun t=>c t*R t k)) (R m) R hi;rw[show (fun k=>1*(fun k=>dH m (fun t=>c t*R t k)) k+c m*R m k)=fun k=>dH (m+1) (fun t=>c t*R t k) by funext k;rw[dH];grind] at e;rw[e,ih];by_cases q:m=i
   ·rw[if_neg aGR,if_pos aGR,q,FX];grind
   have z:dt n (vP R i (R m))=0:=aA8 hi aGR (fun x=>q x.symm) (by rw[jW,gF q]);rw[z];by_cases q2:i<m
   ·rw[if_pos q2,if_pos aGR];grind
   rw[if_neg q2,if_neg aGR];grind
def N1 {n:Nat}{R:Nat->Nat->Rat}{y c:Nat->Rat}(h: ∀k,k<n->dH n (fun t=>y t*R t k)=c k){i:Nat}(hi:i<n):dt n (vP R i c)=y i*dt n R:=by
 have e:=Vd R hi y n (aFC _);rw[if_pos hi] at e;rw[<-e];refine qV fun t ht k hk=>?_;by_cases q:t=i
 ·rw[q,jW,jW,h k hk]
 rw[gF q,gF q]
def aFx {n:Nat}(R:Nat->Nat->Rat){i p:Nat}(hi:i<n)(hp:p<n)(h: ¬i=p)(c:Rat):dt n (vP R i (fun k=>R i k+c*R p k))=dt n R:=by
 have e:=LZ 1 c (R i) (R p) R hi;rw[show (fun k=>1*R i k+c*R p k)=fun k=>R i k+c*R p k by funext k;grind,FX,aA8 (R:=vP R i (R p)) hi hp h (by rw[jW,gF (fun q=>h q.symm)])] at e;rw[e];grind
theorem Ve {n:Nat}(R:Nat->Nat->Rat){p:Nat}(hp:p<n)(c:Nat->Rat): ∀m,m<=n->dt n (fun t=>if t<m/\ ¬t=p then (fun k=>R t k+c t*R p k) else R t)=dt n R
 | 0,_=>qV fun t ht k hk=>by rw[if_neg aGR]
 | m+1,hm=>by
   have ih:=Ve R hp c m aGR;by_cases q:m=p
   ·rw[<-ih];refine qV fun t ht k hk=>?_;by_cases z:t<m/\ ¬t=p
    ·rw[if_pos z,if_pos aGR]
    rw[if_neg z,if_neg aGR]
   rw[<-ih,<-aFx (fun t=>if t<m/\ ¬t=p then (fun k=>R t k+c t*R p k) else R t) (i:=m) (p:=p) aGR hp q (c m)];refine qV fun t ht k hk=>?_;by_cases z:t=m
   ·rw[z,if_pos aGR,jW,if_neg aGR,if_neg aGR]
   rw[gF z];by_cases z2:t<m/\ ¬t=p
   ·rw[if_pos z2,if_pos aGR]
   rw[if_neg z2,if_neg aGR]
def Ac (a b k:Nat):Rat:=(if k=a then 1 else 0) - (if k=b then 1 else 0)
def Tz (n:Nat)(r:Nat->Rat):Prop:= ∃a b,∀k,k<n->r k=Ac a b k
def aA9 {n:Nat}{r q:Nat->Rat}(hr:Tz (n+1) r)(hq:Tz (n+1) q)(h: ¬q n=0):(q n=1\/q n= -1)/\r n+ -(q n*r n)*q n=0/\Tz n (fun k=>r k+ -(q n*r n)*q k):=by
 obtain⟨a,b,hr⟩:=hr;obtain⟨a',b',hq⟩:=hq;have hr' : ∀k,k<n->r k=Ac a b k:=fun k hk=>hr k aGR;have hq' : ∀k,k<n->q k=Ac a' b' k:=fun k hk=>hq k aGR;have q0:=hq n aGR;have r0:=hr n aGR;unfold Ac at*;by_cases x1:n=a'
 ·by_cases x2:n=b'
  ·rw[if_pos x1,if_pos x2] at q0;exact absurd (by rw[q0];grind) h
  rw[if_pos x1,if_neg x2] at q0;have q1:q n=1:=by rw[q0];grind
  rw[q1];refine⟨.inl rfl,by grind,?_⟩;by_cases y1:n=a
  ·by_cases y2:n=b
   ·rw[if_pos y1,if_pos y2] at r0;exact⟨a,b,fun k hk=>by show r k+ -(1*r n)*q k=_;rw[r0,hr' k hk];unfold Ac;grind⟩
   rw[if_pos y1,if_neg y2] at r0;exact⟨b',b,fun k hk=>by show r k+ -(1*r n)*q k=_;rw[r0,hr' k hk,hq' k hk,if_neg (show ¬k=a by omega),if_neg (show ¬k=a' by omega)];unfold Ac;grind⟩
  by_cases y2:n=b
  ·rw[if_neg y1,if_pos y2] at r0;exact⟨a,b',fun k hk=>by show r k+ -(1*r n)*q k=_;rw[r0,hr' k hk,hq' k hk,if_neg (show ¬k=b by omega),if_neg (show ¬k=a' by omega)];unfold Ac;grind⟩
  rw[if_neg y1,if_neg y2] at r0;exact⟨a,b,fun k hk=>by show r k+ -(1*r n)*q k=_;rw[r0,hr' k hk];unfold Ac;grind⟩
 by_cases x2:n=b'
 ·rw[if_neg x1,if_pos x2] at q0;have q1:q n= -1:=by rw[q0];grind
  rw[q1];refine⟨.inr rfl,by grind,?_⟩;by_cases y1:n=a
  ·by_cases y2:n=b
   ·rw[if_pos y1,if_pos y2] at r0;exact⟨a,b,fun k hk=>by show r k+ -(-1*r n)*q k=_;rw[r0,hr' k hk];unfold Ac;grind⟩
   rw[if_pos y1,if_neg y2] at r0;exact⟨a',b,fun k hk=>by show r k+ -(-1*r n)*q k=_;rw[r0,hr' k hk,hq' k hk,if_neg (show ¬k=a by omega),if_neg (show ¬k=b' by omega)];unfold Ac;grind⟩
  by_cases y2:n=b
  ·rw[if_neg y1,if_pos y2] at r0;exact⟨a,a',fun k hk=>by show r k+ -(-1*r n)*q k=_;rw[r0,hr' k hk,hq' k hk,if_neg (show ¬k=b by omega),if_neg (show ¬k=b' by omega)];unfold Ac;grind⟩
  rw[if_neg y1,if_neg y2] at r0;exact⟨a,b,fun k hk=>by show r k+ -(-1*r n)*q k=_;rw[r0,hr' k hk];unfold Ac;grind⟩
 rw[if_neg x1,if_neg x2] at q0;exact absurd (by rw[q0];grind) h
def T0 (i:Nat):sgD i=1\/sgD i= -1:=by unfold sgD;split<;>simp
theorem aAa: ∀(n:Nat) (R:Nat->Nat->Rat),(∀t,t<n->Tz n (R t))->dt n R=0\/dt n R=1\/dt n R= -1
 | 0,_,_=> .inr (.inl rfl)
 | n+1,R,h=>by
   by_cases e: ∃p,p<n+1/\ ¬R p n=0
   ·obtain⟨p,hp,q⟩:=e;rw[<-Ve R hp (fun t=> -(R p n*R t n)) (n+1) (aFC _)];have s:=fun t (ht:t<n+1)=>aA9 (h t ht) (h p hp) q;rw[dt,Gh hp fun k hk hne=>by rw[if_pos ⟨hk,hne⟩,(s k hk).2.1];grind];rw[if_neg aGR]
    have ih:=aAa n (fun t=>if EG p t<n+1/\ ¬EG p t=p then (fun k=>R (EG p t) k+ -(R p n*R (EG p t) n)*R p k) else R (EG p t)) fun t ht=>by
     rw[if_pos ⟨Vc ht,aD3 p t⟩];exact(s _ (Vc ht)).2.2
    rcases T0 p with g | g<;>rcases(s p hp).1 with g2 | g2<;>rcases ih with g3 | g3 | g3<;>rw[g,g3,g2]<;>grind
   left;rw[dt];refine LX fun i hi=>?_;have:R i n=0:=Classical.byContradiction fun q=>e ⟨i,hi,q⟩;rw[this];grind
def Two (n:Nat)(r:Nat->Rat):Prop:= ∃u v,Tz n u/\Tz n v/\ ∀k,k<n->r k=u k+v k
def IZ {n:Nat}{r:Nat->Rat}(h:Tz n r):Two n r:=⟨r,fun _=>0,h,⟨0,0,fun k _=>by unfold Ac;grind⟩,fun k _=>by grind⟩
theorem T1: ∀(m n:Nat) (R:Nat->Nat->Rat),(∀t,t<n->Two n (R t))->(∀t,t<n->m<=t->Tz n (R t))-> -(((2:Nat)^m:Nat):Rat)<=dt n R/\dt n R<=(((2:Nat)^m:Nat):Rat)
 | 0,n,R,_,h=>by
   have e:=aAa n R fun t ht=>h t ht (aBC _);rw[Nat.pow_zero];rcases e with e | e | e<;>rw[e]<;>decide
 | m+1,n,R,h2,h=>by
   by_cases hm:m<n
   ·obtain⟨u,v,hu,hv,e⟩:=h2 m hm
    have s:dt n R=dt n (vP R m u)+dt n (vP R m v):=by
     rw[<-Ty R hm];refine qV fun t ht k hk=>?_;by_cases q:t=m
     ·rw[q,jW,e k hk]
     rw[gF q]
    have key: ∀w,Tz n w-> -(((2:Nat)^m:Nat):Rat)<=dt n (vP R m w)/\dt n (vP R m w)<=(((2:Nat)^m:Nat):Rat):=fun w hw=>T1 m n (vP R m w) (fun t ht=>by
     by_cases q:t=m
     ·rw[q,jW];exact IZ hw
     ·rw[gF q];exact h2 t ht) (fun t ht hmt=>by
     by_cases q:t=m
     ·rw[q,jW];exact hw
     rw[gF q];exact h t ht aGR)
    have k1:=key u hu;have k2:=key v hv;have e2:(((2:Nat)^(m+1):Nat):Rat)=(((2:Nat)^m:Nat):Rat)+(((2:Nat)^m:Nat):Rat):=by rw[Nat.pow_succ,Rat.natCast_mul];grind
    rw[s,e2];exact⟨by grind,by grind⟩
   have k:=T1 m n R h2 fun t ht hmt=>aGR
   have e2:(((2:Nat)^(m+1):Nat):Rat)=(((2:Nat)^m:Nat):Rat)+(((2:Nat)^m:Nat):Rat):=by rw[Nat.pow_succ,Rat.natCast_mul];grind
   have p:(0:Rat)<=(((2:Nat)^m:Nat):Rat):=by exact_mod_cast aBC _
   rw[e2];exact⟨by grind,by grind⟩
theorem aAc: ∀(n:Nat) (R:Nat->Nat->Rat),(∀t,t<n-> ∀k,k<n-> ∃z:Int,R t k=(z:Rat))-> ∃z:Int,dt n R=(z:Rat)
 | 0,_,_=>⟨1,rfl⟩
 | n+1,R,h=>by
   rw[dt]
   have si: ∀m,m<=n+1-> ∃z:Int,dH m (fun i=>sgD i*(R i n*dt n (fun t=>R (EG i t))))=(z:Rat):=by
    intro m
    induction m with
    | zero=>intro _;exact⟨0,rfl⟩
    | succ m ih=>
      intro hm;obtain⟨z,hz⟩:=ih aGR;obtain⟨x,hx⟩:=h m aGR n aGR;obtain⟨y,hy⟩:=aAc n (fun t=>R (EG m t)) fun t ht k hk=>h _ (Vc ht) k aGR;rw[dH,hz,hx,hy];rcases T0 m with g | g<;>rw[g]
      ·exact⟨z+x*y,by rw[Rat.intCast_add,Rat.intCast_mul];grind⟩
      exact⟨z - x*y,by rw[Rat.intCast_sub,Rat.intCast_mul];grind⟩
   exact si (n+1) (aFC _)
section
variable {p:bC} {d:aE}
def T2 (p:bC)(v:Int)(k:Nat):Int:=if v<p.q.length then (if v=(k:Int) then 1 else 0) else pA p (v - p.q.length).toNat k
def N2 (p:bC)(v:Int):Rat:=if v<p.q.length then 1 else -1
def mR (p:bC)(d:aE)(t k:Nat):Rat:=((mT p d t k:Int):Rat)
theorem Vf (p:bC){v:Int}(h0:0<=v){m:Nat}(hm:m<p.q.length):MM p (fun k=>if k=m then 1 else 0) v - MM p (fun _=>0) v=N2 p v*((T2 p v m:Int):Rat):=by
 unfold MM T2 N2
 dsimp only
 by_cases hv:v<p.q.length
 ·rw[if_pos hv,if_pos hv,if_pos hv,if_pos hv];by_cases e:v=(m:Int)
  ·rw[if_pos e,if_pos aGR];simp only[Rat.intCast_one];grind
  rw[if_neg e,if_neg aGR];simp only[Rat.intCast_zero];grind
 rw[if_neg hv,if_neg hv,if_neg hv,if_neg hv,B4 hm (fun k hk hne=>by rw[if_neg hne];grind),if_pos rfl,dL (g:=fun _=>0) (fun k hk=>by grind),qB]
 grind
theorem aCn (hp:bY p=true)(hD:wP (dP p) d){i:Nat}(hi:i<d.c.length){m:Nat}(hm:m<p.q.length):((T2 p (gW d.c i) m:Int):Rat)=dH p.q.length (fun t=>(-(N2 p (gW d.c i)*dQ d i t*N2 p (gW d.r t)))*mR p d t m):=by
 obtain⟨h1,h2,_⟩:=kO p hp;have hn:d.r.length=p.q.length:=hD.n.trans h2;have a1:=(IY hp hD (fun k=>if k=m then 1 else 0)).1 i hi;have a0:=(IY hp hD (fun _=>0)).1 i hi;rw[B2,hn] at a1 a0;have vb:=(AG hD.ok).b0 i hi;have e:=Vf p vb.1 hm;rw[a1,a0] at e
 have e2:dH p.q.length (fun t=>(-(N2 p (gW d.c i)*dQ d i t*N2 p (gW d.r t)))*mR p d t m)=(-N2 p (gW d.c i))*(dH p.q.length (fun t=>dQ d i t*MM p (fun k=>if k=m then 1 else 0) (gW d.r t))+(-1)*dH p.q.length (fun t=>dQ d i t*MM p (fun _=>0) (gW d.r t))):=by
  rw[<-nY (-1),<-vO,<-nY];refine dL fun t ht=>?_;have vo:=(AG hD.ok).o0 t aGR;have q:=Vf p vo.1 hm;have q2:mR p d t m=((T2 p (gW d.r t) m:Int):Rat):=rfl;rw[q2];have q3:MM p (fun k=>if k=m then 1 else 0) (gW d.r t)=MM p (fun _=>0) (gW d.r t)+N2 p (gW d.r t)*((T2 p (gW d.r t) m:Int):Rat):=by grind
  rw[q3];grind
 rw[e2];have sq:N2 p (gW d.c i)*N2 p (gW d.c i)=1:=by unfold N2;split<;>grind
 generalize dH p.q.length (fun t=>dQ d i t*MM p (fun k=>if k=m then 1 else 0) (gW d.r t))=A at*;generalize dH p.q.length (fun t=>dQ d i t*MM p (fun _=>0) (gW d.r t))=B at*;generalize N2 p (gW d.c i)=s at*;generalize ((T2 p (gW d.c i) m:Int):Rat)=f at*;have e3:(-s)*(A+ -1*B)=s*(s*f):=by rw[<-e];grind
 rw[e3];have e4:s*(s*f)=(s*s)*f:=by grind
 rw[e4,sq];grind
theorem aCo (hp:bY p=true)(hD:wP (dP p) d){i j:Nat}(hi:i<d.c.length)(hj:j<d.r.length)(hc: ¬dQ d i j=0)(h: ¬dt p.q.length (mR p d)=0): ¬dt p.q.length (mR p (fR d i j))=0:=by
 obtain⟨h1,h2,_⟩:=kO p hp;have hn:d.r.length=p.q.length:=hD.n.trans h2
 have e:dt p.q.length (mR p (fR d i j))=dt p.q.length (vP (mR p d) j (fun m=>((T2 p (gW d.c i) m:Int):Rat))):=by
  refine qV fun t ht k hk=>?_;by_cases q:t=j
  ·have oj:gW (fR d i j).r j=gW d.c i:=by simp only[gW,fR];exact LR hj
   rw[q,jW,mR,mT,oj];rfl
  have ok:gW (fR d i j).r t=gW d.r t:=by
   simp only[gW,fR,aCz];rw[List.getElem?_set_ne (fun e=>q e.symm)]
  rw[gF q,mR,mR,mT,mT,ok]
 rw[e,N1 (R:=mR p d) (y:=fun t=> -(N2 p (gW d.c i)*dQ d i t*N2 p (gW d.r t))) (fun m hm=>(aCn hp hD hi hm).symm) aGR];have s1:N2 p (gW d.c i)=1\/N2 p (gW d.c i)= -1:=by unfold N2;split<;>simp
 have s2:N2 p (gW d.r j)=1\/N2 p (gW d.r j)= -1:=by unfold N2;split<;>simp
 intro z;rcases Rat.mul_eq_zero.1 z with z | z
 ·rcases s1 with s1 | s1<;>rcases s2 with s2 | s2<;>rw[s1,s2] at z<;>exact hc (by grind)
 exact h z
theorem Vg: ∀n,dt n (fun t k=>if (t:Int)=(k:Int) then 1 else 0)=1\/dt n (fun t k=>if (t:Int)=(k:Int) then 1 else 0)= -1
 | 0=> .inl rfl
 | n+1=>by
   rw[dt,Gh (Nat.lt_succ_self n) fun k hk hne=>by rw[if_neg aGR];grind];rw[if_pos rfl];have e:dt n (fun t k=>if ((EG n t:Nat):Int)=(k:Int) then (1:Rat) else 0)=dt n (fun t k=>if (t:Int)=(k:Int) then 1 else 0):=qV fun t ht k hk=>by rw[N0 ht]
   rw[e];rcases T0 n with g|g<;>rcases Vg n with g2|g2<;>rw[g,g2]<;>first|(left;grind)|(right;grind)
theorem aAd (hp:bY p=true): ¬dt p.q.length (mR p (dP p))=0:=by
 obtain⟨h1,h2,h3,h4,_⟩:=kO p hp
 have e:dt p.q.length (mR p (dP p))=dt p.q.length (fun t k=>if (t:Int)=(k:Int) then 1 else 0):=qV fun t ht k hk=>by
  rw[mR,mT,h4 t ht,if_pos aGR];split<;>rfl
 rw[e];rcases Vg p.q.length with g | g<;>rw[g]<;>decide
theorem N3 (hp:bY p=true): ∀(f:Nat) (d e:aE),wP (dP p) d-> ¬dt p.q.length (mR p d)=0->fV f d=(e,true)-> ¬dt p.q.length (mR p e)=0
 | 0,d,e,h,hd,hs=>by rw[fV] at hs;cases hs
 | f+1,d,e,h,hd,hs=>by
   rw[fV] at hs;split at hs
   ·rename_i he;injection hs with h1 h2
    subst h1;exact hd
   rename_i he;split at hs
   ·cases hs
   rename_i hl;split at hs
   ·rename_i hq;have hj:=SH he;obtain⟨l1,l2,l3⟩:=SF h.ok hj hl;have hi:(gG d (eX d).toNat).toNat<d.c.length:=aGR
    obtain⟨g1,g2,g3,g4⟩:=LQ hq;have nd:(fT d (gG d (eX d).toNat).toNat (eX d).toNat).1=fR d (gG d (eX d).toNat).toNat (eX d).toNat:=by rw[g1]
    rw[nd] at hs;refine N3 hp f _ e ⟨PO h.ok hi hj g3 g4,by simp only[fR,aDF];exact h.m,by simp only[fR,aDF];exact h.n,fun x=>(IX h.ok hi hj hq x).1.trans (h.sat x),fun x hx=>?_,fun r hr=>?_⟩ (aCo hp h hi hj (fun q=>by rw[q] at l2;exact absurd l2 (by decide)) hd) hs
    ·have q:=IX h.ok hi hj hq x;have hx' :=q.1.1 hx;rw[q.2 hx',h.obj x hx']
    simp only[fR,aDF] at hr;exact SG h.ok hi hj hq l2 l3 h.lim r hr
   cases hs
theorem aEz (hp:bY p=true)(hD:wP (dP p) d)(hd: ¬dt p.q.length (mR p d)=0)(h2: ∀r,r<p.rows.length->Two p.q.length (fun k=>((pA p r k:Int):Rat)))(hc:Tz p.q.length (fun k=>((pC p k:Int):Rat))):
 ∃D:Int,D≠0/\D.natAbs<=2^p.q.length/\ ∀t,t<p.q.length->Nx D (2^p.q.length) (tS p d t):=by
 obtain⟨h1,h2',_⟩:=kO p hp;have hn:d.r.length=p.q.length:=hD.n.trans h2';have hm:d.c.length=p.rows.length:=hD.m.trans h1
 have two: ∀t,t<p.q.length->Two p.q.length (mR p d t):=fun t ht=>by
  have v:=(AG hD.ok).o0 t aGR;by_cases hv:gW d.r t<p.q.length
  ·refine IZ ⟨(gW d.r t).toNat,p.q.length,fun k hk=>?_⟩;rw[mR,mT,if_pos hv,Ac,if_neg (show ¬k=p.q.length by omega)];by_cases e:gW d.r t=(k:Int)
   ·rw[if_pos e,if_pos aGR];simp only[Rat.intCast_one];grind
   rw[if_neg e,if_neg aGR];simp only[Rat.intCast_zero];grind
  obtain⟨a,b,ha,hb,q⟩:=h2 (gW d.r t - p.q.length).toNat aGR;exact⟨a,b,ha,hb,fun k hk=>by rw[mR,mT,if_neg hv];exact q k hk⟩
 have int: ∀t,t<p.q.length-> ∀k,k<p.q.length-> ∃z:Int,mR p d t k=(z:Rat):=fun t _ k _=>⟨mT p d t k,rfl⟩
 have abs: ∀{R:Nat->Nat->Rat},(∀t,t<p.q.length->Two p.q.length (R t))->(∀t,t<p.q.length-> ∀k,k<p.q.length-> ∃z:Int,R t k=(z:Rat))-> ∃z:Int,dt p.q.length R=(z:Rat)/\z.natAbs<=2^p.q.length:=fun {R} hT hI=>by
  obtain⟨z,hz⟩:=aAc p.q.length R hI;obtain⟨b1,b2⟩:=T1 p.q.length p.q.length R hT fun t ht hmt=>aGR
  rw[hz] at b1 b2;have c1: -((2^p.q.length:Nat):Int)<=z:=Rat.intCast_le_intCast.1 (by rw[Rat.intCast_neg,Rat.intCast_natCast];exact b1);have c2:z<=((2^p.q.length:Nat):Int):=Rat.intCast_le_intCast.1 (by rw[Rat.intCast_natCast];exact b2);exact⟨z,hz,aGR⟩
 obtain⟨D,e,hD2⟩:=abs two int;refine⟨D,fun q=>hd (by rw[e,q];rfl),hD2,fun t ht=>?_⟩
 obtain⟨N,e2,hN⟩:=abs (R:=vP (mR p d) t (fun k=>((pC p k:Int):Rat))) (fun s hs=>by
  by_cases q:s=t
  ·rw[q,jW];exact IZ hc
  ·rw[gF q];exact two s hs) (fun s hs k hk=>by
  by_cases q:s=t
  ·rw[q,jW];exact⟨_,rfl⟩
  rw[gF q];exact int s hs k hk)
 refine⟨N,hN,?_⟩;rw[<-e,<-e2,N1 (R:=mR p d) (y:=tS p d) (fun k hk=>eqL hp hD hk) ht]
 grind
end
section
variable {p:bC} {d:aE}
theorem N4 (hp:bY p=true)(hn15:p.q.length<=15)(hD:wP (dP p) d){D:Int}(hl: ∀t,t<p.q.length->Nx D 32768 (tS p d t)){G:Nat->Int}(hG: ∀i,i<p.rows.length->(G i).natAbs<=99){i:Nat}(hi:i<p.rows.length):
 Nx D 48660480 (((G i:Int):Rat)*gR (rB p d) i)/\Nx D 48660480 (dH (i+1) (fun i=>((G i:Int):Rat)*gR (rB p d) i)):=by
 obtain⟨h1,h2,_⟩:=kO p hp;have hn:d.r.length=p.q.length:=hD.n.trans h2;have hm:d.c.length=p.rows.length:=hD.m.trans h1;constructor
 ·rw[PW hp hD hi]
  have f:Nx D (p.q.length*32768) (dH p.q.length (fun t=>if gW d.r t=((p.q.length+i:Nat):Int) then tS p d t else 0)):=PV fun t ht=>by
   split
   ·exact hl t ht
   exact yJ (aBC _) (LU D)
  have f2:=VZ (hG i hi) f;refine yJ ?_ f2;have:p.q.length*32768<=15*32768:=Nat.mul_le_mul_right _ hn15;omega
 rw[LW hp hD (fun i=>((G i:Int):Rat)) (s:=i+1) aGR]
 have f:Nx D (p.q.length*3244032) (dH p.q.length (fun t=>if (p.q.length:Int)<=gW d.r t/\gW d.r t<((p.q.length+(i+1):Nat):Int) then ((G (gW d.r t - p.q.length).toNat:Int):Rat)*tS p d t else 0)):=PV fun t ht=>by
  split
  ·rename_i hv;have:=VZ (hG (gW d.r t - p.q.length).toNat aGR) (hl t ht);exact yJ aGR this
  exact yJ (aBC _) (LU D)
 refine yJ ?_ f;have:p.q.length*3244032<=15*3244032:=Nat.mul_le_mul_right _ hn15;omega
theorem aAe (hp:bY p=true)(hn15:p.q.length<=15)(hD:wP (dP p) d)(he:eX d<0)(hd: ¬dt p.q.length (mR p d)=0)(h2: ∀r,r<p.rows.length->Two p.q.length (fun k=>((pA p r k:Int):Rat)))(hc:Tz p.q.length (fun k=>((pC p k:Int):Rat))):
 oU p (rB p d)=true/\tR p (rB p d)=(d.value,true)/\aR d.value=true:=by
 obtain⟨h1,h2',_⟩:=kO p hp;obtain⟨q1,q2,q3,q4,q5⟩:=gE hp;have hn:d.r.length=p.q.length:=hD.n.trans h2';have hm:d.c.length=p.rows.length:=hD.m.trans h1;obtain⟨D,d0,d1,d3⟩:=aEz hp hD hd h2 hc;have pw:2^p.q.length<=32768:=Nat.pow_le_pow_right (n:=2) (by decide) hn15;have d3: ∀t,t<p.q.length->Nx D 32768 (tS p d t):=fun t ht=>yJ pw (d3 t ht);have hcost: ∀t,t<p.q.length->nZ d t<=0:=fun t ht=>Nu hD.ok (aFC _) he t aGR;have vv:aR d.value=true:=(fP hD.ok).2.2.2.2.2.2.2;have dl:(rB p d).length=p.rows.length:=Cr _ _ _ _;have dv: ∀x∈rB p d,aR x=true:=SK hD.ok _ _ _ (aFC _);have hDs:D.natAbs<=2147483647:=aGR
 have lamn: ∀t,t<p.q.length->(p.q.length:Int)<=gW d.r t->0<=tS p d t:=fun t ht hv=>by
  have:=hcost t ht;rw[tS,if_neg aGR];grind
 have fl:(gB p.b (rB p d)).2=true:=Ny (D:=D) (B:=48660480) aGR (aA7 hp).2 dv d0 hDs (by decide) fun i hi=>N4 hp hn15 hD d3 (G:=pB p) (fun i _=>aEv hp i) aGR;have vl:=aA5 (aA7 hp).2 dv fl
 have el:cV (gB p.b (rB p d)).1=cV d.value:=by
  rw[vl.2.2,eqV hp hD,q3];refine(LW hp hD (fun i=>((pB p i:Int):Rat)) (aFC _)).trans (dL fun t ht=>?_);have v:=(AG hD.ok).o0 t aGR;by_cases hv:gW d.r t<p.q.length
  ·rw[if_neg aGR,rT,if_pos hv];simp only[Rat.intCast_zero];grind
  rw[if_pos aGR,rT,if_neg hv];grind
 have e2:(gB p.b (rB p d)).1=d.value:=aA1 vl.2.1 vv el
 have fc: ∀k,k<p.q.length->pM p (rB p d) k=true:=fun k hk=>by
  have ci:=aEx hp k
  have f:(gB (tJ p.rows k) (rB p d)).2=true:=Ny (D:=D) (B:=48660480) (by rw[ci.1,dl]) ci.2 dv d0 hDs (by decide) fun i hi=>by
   rw[ci.1] at hi;have q:=N4 hp hn15 hD d3 (G:=fun i=>(tJ p.rows k).getD i 0) (fun j hj=>by rw[Tw p k hj];have:=aA6 hp (k:=k) hj;omega) hi;exact q
  have v:=aA5 ci.2 dv f;rw[pM,f,Bool.true_and,aFI];have vw:aR (aN (p.q.getD k 0))=true:=kD (by have:=aEw hp k;rw[pC] at this;omega)
  have hle: ¬cV (gB (tJ p.rows k) (rB p d)).1<cV (aN (p.q.getD k 0)):=by
   rw[oZ,v.2.2,ci.1]
   have e3:dH p.rows.length (fun i=>gI (tJ p.rows k) i*gR (rB p d) i)=dH p.q.length (fun t=>if (p.q.length:Int)<=gW d.r t/\gW d.r t<((p.q.length+p.rows.length:Nat):Int) then ((pA p (gW d.r t - p.q.length).toNat k:Int):Rat)*tS p d t else 0):=by
    rw[<-LW hp hD (fun i=>((pA p i k:Int):Rat)) (aFC _)];exact dL fun i hi=>by rw[gI,Tw p k hi]
   have e4:dH p.q.length (fun t=>tS p d t*((mT p d t k:Int):Rat))<=dH p.q.length (fun t=>if (p.q.length:Int)<=gW d.r t/\gW d.r t<((p.q.length+p.rows.length:Nat):Int) then ((pA p (gW d.r t - p.q.length).toNat k:Int):Rat)*tS p d t else 0):=PU fun t ht=>by
    have v:=(AG hD.ok).o0 t aGR;by_cases hv:gW d.r t<p.q.length
    ·have:=hcost t ht;rw[if_neg aGR,mT,if_pos hv,tS,if_pos hv];split
     ·rw[Rat.intCast_one];grind
     rw[Rat.intCast_zero];grind
    rw[if_pos aGR,mT,if_neg hv];grind
   rw[eqL hp hD hk] at e4;rw[e3];have:((pC p k:Int):Rat)=(((p.q.getD k 0:Int)):Rat):=rfl
   grind
  have cv:=(SE v.2.1 vw).1;by_cases z:eB (gB (tJ p.rows k) (rB p d)).1 (aN (p.q.getD k 0))<0
  ·exact absurd (cv.1 z) hle
  omega
 have nd:gN (rB p d) p.rows.length=true:=XY dl dv fun i hi=>by
  have:=PW hp hD hi;rw[gR] at this;rw[this];refine aEy fun t ht=>?_;split
  ·rename_i hv;exact lamn t ht aGR
  grind
 refine⟨?_,?_,vv⟩
 ·rw[oU,hp,nd,aCS.2 fun k hk=>fc k (aEt.1 hk)];simp
 rw[Rr hp];exact Prod.ext e2 fl
theorem Xa (hn15:p.q.length<=15)(h2: ∀r,r<p.rows.length->Two p.q.length (fun k=>((pA p r k:Int):Rat)))(hc:Tz p.q.length (fun k=>((pC p k:Int):Rat)))(h:(dV p).2=true):
 oU p (dV p).1.G=true/\tR p (dV p).1.G=((dV p).1.value,true)/\aR (dV p).1.value=true:=by
 unfold dV at*;split at h
 ·rename_i hs;rw[if_pos hs];cases e:fV 300 (dP p) with
  | mk d b=>
    rw[e] at hs;obtain⟨hp,hb⟩:=hs
    dsimp only at hb
    subst hb;obtain⟨hD,he⟩:=SI 300 (dP p) d (VY hp) e;exact aAe hp hn15 hD he (N3 hp 300 (dP p) d (VY hp) (aAd hp) e) h2 hc
 cases h
end
abbrev aHL(x:cT):Ar:=.agg [.str x.name,.sl 3 1 (x.vars.map intD)]
abbrev La (a:cT)(m:Int):Prop:=Cn 131 [aHL a,.one (.int .i64 m)] (vI (Dr m a.vars (min a.vars.length 3))) []
def aAf (a:cT)(m:Int):La a m:=by
 refine cq Tryz.func131 (.loop (Nat × Int) (Q2 Nat Int) (rg 5 34) [] (fun yy0=>[(6,vI (yy0.1:Int)),(5,vI yy0.2)]) (fun yy0=>[]) (fun yy0=>(yy0.1<=a.vars.length/\yy0.1<=3)/\yy0.2=Dr m a.vars yy0.1) (fun yy0=>a.vars.length - yy0.1) (fun yy0=> .len a.vars.length<| .br (aGQ<| .br (.br (.elem _ intD a.vars (fun e27=> .call (vB (eZ e27 (0:Int) (3:Int))) []<| .lit<| .br (.elem _ intD a.vars (fun e35=> .back [])) (.back []))) (.back [])) (.fin [])) (.fin []))) (p:=Lx (a.vars.map intD)<| (∃(k:Nat) (o:Int),0=(k:Int)/\0=o/\(k<=a.vars.length/\k<=3)/\o=Dr m a.vars k)/\ ∀(k:Nat) (o:Int),((k<=a.vars.length/\k<=3)/\o=Dr m a.vars k)->Lm intD a.vars/\Br ((k:Int)<(a.vars.length:Int)) (Br ((k:Int)<3) ((0<=(k:Int)/\(k:Int)<=64)/\Br ((cH .and .i64 (m/2^k) (1:Int))=1) (0<=(k:Int)/\Em intD a.vars k fun e27=>fO e27 (0:Int) (3:Int)/\Bb (eZ e27 (0:Int) (3:Int)) (0<=(k:Int)/\Em intD a.vars k fun e35=>(0<=e35/\e35<=64)/\bO ((1:Int)*2^(Int.toNat e35))/\bO ((k:Int)+1)/\ ∃(k' :Nat) (o' :Int),((k:Int)+1)=(k' :Int)/\(cH .or .i64 o ((1:Int)*2^(Int.toNat e35)))=o' /\((k' <=a.vars.length/\k' <=3)/\o' =Dr m a.vars k')/\a.vars.length - k' <a.vars.length - k) (bO ((k:Int)+1)/\ ∃(k' :Nat) (o' :Int),((k:Int)+1)=(k' :Int)/\o=o' /\((k' <=a.vars.length/\k' <=3)/\o' =Dr m a.vars k')/\a.vars.length - k' <a.vars.length - k)) (bO ((k:Int)+1)/\ ∃(k' :Nat) (o' :Int),((k:Int)+1)=(k' :Int)/\o=o' /\((k' <=a.vars.length/\k' <=3)/\o' =Dr m a.vars k')/\a.vars.length - k' <a.vars.length - k)) (o=(Dr m a.vars (min a.vars.length 3))/\True)) (o=(Dr m a.vars (min a.vars.length 3))/\True)) ?_;refine lx fun n0=>?_;refine⟨⟨0,0,rfl,rfl,⟨aBC _,aGR⟩,rfl⟩,fun k o ⟨hk,hv⟩=>?_⟩;refine⟨aAb _,dd (fun g12=>?_) fun g12=>?_⟩
 ·apply dd<;>intro c0
  ·refine⟨aGS,dd (fun g23=>?_) fun g23=>?_⟩
   ·refine⟨aGR,rfl,aGR,fun e27 h27=>?_⟩
    try (obtain rfl:=(bE h27 h27).symm)
    refine⟨jV _ _ _,db (fun c1=>?_) fun c1=>?_⟩
    ·obtain⟨w1,w2,w3⟩:=GQ c1;refine⟨aGR,rfl,aGR,fun e35 h35=>?_⟩
     try (obtain rfl:=(bE h27 h35).symm)
     refine⟨aGS,by exact w1,by exact aGS,?_⟩;exact⟨k+1,_,rfl,rfl,⟨aGR,by (rw[aCW h27 g23 c1,hv];done)⟩,aGR⟩
    ·refine⟨by exact aGS,?_⟩;exact⟨k+1,_,rfl,rfl,⟨aGR,by (rw[Zk h27 (by simp[g23,c1]),hv];done)⟩,aGR⟩
   ·refine⟨by exact aGS,?_⟩;exact⟨k+1,_,rfl,rfl,⟨aGR,by (obtain⟨y,hy⟩:=fK (l:=a.vars) (k:=k) aGR;rw[Zk hy (by simp[g23]),hv])⟩,aGR⟩
  ·apply et1
   ·(rw[hv];congr 1;omega)
 ·apply et1
  ·(rw[hv];congr 1;omega)
abbrev B5 (x:aQ)(a:cT):AV × aGJ:=(.own 0,[(0,.arr 119 3 true ((pL x a).map aF))])
abbrev Hn (x:aQ)(a:cT):Prop:=Cn 77 [aGZ x,aHL a] (B5 x a).1 (B5 x a).2
def Xb (x:aQ)(a:cT)(hc:cP x<=1048576)(ha:pS a<=1048576):Hn x a:=by
 refine cq Tryz.func77 (.call (vB (cS x)) []<| .br (.fin []) (aGP<| .br (.fin []) (.len a.vars.length<| aGO<| .br (.fin []) (.loop (Nat × (List aI)) (Q2 Nat (List aI)) ([5,6,7,8,9]++rg 26 31) [2600,3600,4100,5500,5600] (fun yy0=>[(6,vI (yy0.1:Int)),(5,.own 2600)]) (fun yy0=>[(2600,some (.arr 119 3 true (yy0.2.map aF)))]) (fun yy0=>yy0.1<=((2:Int)^x.l.toNat - 1).toNat/\yy0.2=(List.range yy0.1).map (Xj x a)) (fun yy0=>((2:Int)^x.l.toNat - 1).toNat - yy0.1) (fun yy0=> .br (bN (wF (yy0.1:Int))<| bN (rP a.vars (fZ (yy0.1:Int)))<| .call (vI (kB ((gT a.vars (fZ (yy0.1:Int))).1))) []<| .call (vI (kB a.vars)) []<| .call (vI ((kL x (fZ (yy0.1:Int))).getD 0 0)) []<| .call (vI (vR ((kL x (fZ (yy0.1:Int))).getD 0 0))) []<| .app aI aF yy0.2 ([(⟨kB ((gT a.vars (fZ (yy0.1:Int))).1),kB a.vars,vR ((kL x (fZ (yy0.1:Int))).getD 0 0)⟩:aI)]:List aI)<| .back [(2600,5600)]) (.fin [(0,2600)])))))) (p:=Lx (x.t.map aL)<| Lx (a.vars.map intD)<| Di x/\Nr (cS x) ([]=(pL x a).map aF/\True) (Br (x.A=0) ([]=(pL x a).map aF/\True) (Lm intD a.vars/\Nb ((a.vars.length:Int)=x.l) ([]=(pL x a).map aF/\True) ((∃(m:Nat) (out:List aI),0=(m:Int)/\[]=out.map aF/\m<=((2:Int)^x.l.toNat - 1).toNat/\out=(List.range m).map (Xj x a))/\ ∀(m:Nat) (out:List aI),(m<=((2:Int)^x.l.toNat - 1).toNat/\out=(List.range m).map (Xj x a))->(0<=x.l/\x.l<=64)/\bO ((1:Int)*2^(Int.toNat x.l))/\bO (((1:Int)*2^(Int.toNat x.l)) - 1)/\Br ((m:Int)<(((1:Int)*2^(Int.toNat x.l)) - 1)) (BJ (m:Int)/\uR a.vars (fZ (m:Int))/\BV ((gT a.vars (fZ (m:Int))).1)/\BV a.vars/\HN x (fZ (m:Int))/\HP ((kL x (fZ (m:Int))).getD 0 0)/\Ap aF out ([(⟨kB ((gT a.vars (fZ (m:Int))).1),kB a.vars,vR ((kL x (fZ (m:Int))).getD 0 0)⟩:aI)]:List aI) 24 (bO ((m:Int)+1)/\ ∃(m' :Nat) (out' :List aI),((m:Int)+1)=(m' :Int)/\(out++[(⟨kB ((gT a.vars (fZ (m:Int))).1),kB a.vars,vR ((kL x (fZ (m:Int))).getD 0 0)⟩:aI)]).map aF=out'.map aF/\(m' <=((2:Int)^x.l.toNat - 1).toNat/\out' =(List.range m').map (Xj x a))/\((2:Int)^x.l.toNat - 1).toNat - m' <((2:Int)^x.l.toNat - 1).toNat - m)) (out.map aF=(pL x a).map aF/\True))))) ?_;refine lx fun n0=>lx fun n1=>?_;have q3:pS a=a.name.size+eL a.vars:=rfl;have q4:eL a.vars=a.vars.length:=rfl;refine⟨Qo _ aGR,dm (fun g13=>?_) fun g13=>?_⟩
 ·have hbad:vS x a=false:=by (simp[vS, *];done)
  apply et1
  ·(rw[zM hbad]<;>rfl)
 ·apply dd<;>intro g18
  ·have hbad:vS x a=false:=by (simp[vS, *];done)
   apply et1
   ·(rw[zM hbad]<;>rfl)
  ·refine⟨aAb _,dn (fun c0=>?_) fun c0=>?_⟩
   ·have hbad:vS x a=false:=by (simp[vS, *];done)
    apply et1
    ·(rw[zM hbad]<;>rfl)
   ·have hok:vS x a=true:=by (simp[vS, *];done)
    obtain⟨hS,hA⟩:=Ds hok;have hn:=CZ hS;have hp:=uA hn;refine⟨⟨0,([]:List aI),rfl,rfl,aBC _,rfl⟩,fun m out ⟨hm,ho⟩=>?_⟩;refine⟨aGS,aGS,aGS,dd (fun c1=>?_) fun c1=>?_⟩
    ·have hbl:(fZ (m:Int)).length<=3:=xS _ 3;have hE:=RV (m:=(m:Int)) hn hA aGR aGR;have hE2:=NM (m:=(m:Int)) hn hA aGR aGR;refine⟨M8 (m:Int) aGR,Ey _ _ aGR,NN _,NN _,Ws _ (fZ (m:Int)) aGR aGR,Wu _,?_⟩;refine ap ?_ (fun _=>rfl) (by (simp[ho];omega));refine⟨aGS,?_⟩;exact⟨m+1,_,rfl,rfl,⟨aGR,by rw[ho,List.range_succ,aDM,aDH,List.map_nil,Xj];(rw[hE];done)⟩,aGR⟩
    ·apply et1
     ·(rw[KS hok,ho,show ((2:Int)^x.l.toNat - 1).toNat=m by omega])
abbrev B6 (x:aQ)(a:cT):AV × aGJ:=(.own 0,[(0,.arr 119 3 true ((pL x a).map aF))])
abbrev Ho (x:aQ)(a:cT):Prop:=Cn 89 [aGZ x,aHL a] (B6 x a).1 (B6 x a).2
def Xc (x:aQ)(a:cT)(hc:cP x<=1048576)(ha:pS a<=1048576):Ho x a:=by
 refine cq Tryz.func89 (.call (vB (cS x)) []<| .br (.fin [(0,700)]) (aGP<| .br (.fin [(0,700)]) (.len a.vars.length<| aGO<| .br (.fin [(0,700)]) (.loop (Nat × (List aI)) (Q2 Nat (List aI)) ([5,6,7]++rg 25 23) [700,4200,4600,4700] (fun yy0=>[(6,vI (yy0.1:Int)),(5,.own 700)]) (fun yy0=>[(700,some (.arr 119 3 true (yy0.2.map aF)))]) (fun yy0=>yy0.1<=((2:Int)^x.l.toNat - 1).toNat/\yy0.2=(List.range yy0.1).map (Xj x a)) (fun yy0=>((2:Int)^x.l.toNat - 1).toNat - yy0.1) (fun yy0=> .br (.call (vI (Dr (yy0.1:Int) a.vars (min a.vars.length 3))) []<| .call (vI (kB a.vars)) []<| bN (wG (yy0.1:Int))<| .call (vI ((kL x (fZ (yy0.1:Int))).getD 0 0)) []<| .call (vI (vR ((kL x (fZ (yy0.1:Int))).getD 0 0))) []<| .app aI aF yy0.2 ([(⟨Dr (yy0.1:Int) a.vars (min a.vars.length 3),kB a.vars,vR ((kL x (fZ (yy0.1:Int))).getD 0 0)⟩:aI)]:List aI)<| .back [(700,4700)]) (.fin [(0,700)])))))) (p:=Lx (x.t.map aL)<| Lx (a.vars.map intD)<| zL x/\Nr (cS x) ([]=(pL x a).map aF/\True) (Br (x.A=0) ([]=(pL x a).map aF/\True) (Lm intD a.vars/\Nb ((a.vars.length:Int)=x.l) ([]=(pL x a).map aF/\True) ((∃(m:Nat) (out:List aI),0=(m:Int)/\[]=out.map aF/\m<=((2:Int)^x.l.toNat - 1).toNat/\out=(List.range m).map (Xj x a))/\ ∀(m:Nat) (out:List aI),(m<=((2:Int)^x.l.toNat - 1).toNat/\out=(List.range m).map (Xj x a))->(0<=x.l/\x.l<=64)/\bO ((1:Int)*2^(Int.toNat x.l))/\bO (((1:Int)*2^(Int.toNat x.l)) - 1)/\Br ((m:Int)<(((1:Int)*2^(Int.toNat x.l)) - 1)) (La a (m:Int)/\HO a.vars/\BK (m:Int)/\HM x (fZ (m:Int))/\HQ ((kL x (fZ (m:Int))).getD 0 0)/\Ap aF out ([(⟨Dr (m:Int) a.vars (min a.vars.length 3),kB a.vars,vR ((kL x (fZ (m:Int))).getD 0 0)⟩:aI)]:List aI) 24 (bO ((m:Int)+1)/\ ∃(m' :Nat) (out' :List aI),((m:Int)+1)=(m' :Int)/\(out++[(⟨Dr (m:Int) a.vars (min a.vars.length 3),kB a.vars,vR ((kL x (fZ (m:Int))).getD 0 0)⟩:aI)]).map aF=out'.map aF/\(m' <=((2:Int)^x.l.toNat - 1).toNat/\out' =(List.range m').map (Xj x a))/\((2:Int)^x.l.toNat - 1).toNat - m' <((2:Int)^x.l.toNat - 1).toNat - m)) (out.map aF=(pL x a).map aF/\True))))) ?_;refine lx fun n0=>lx fun n1=>?_;have q3:pS a=a.name.size+eL a.vars:=rfl;have q4:eL a.vars=a.vars.length:=rfl;refine⟨KL _ aGR,dm (fun g11=>?_) fun g11=>?_⟩
 ·have hbad:vS x a=false:=by (simp[vS, *];done)
  apply et1
  ·(rw[zM hbad]<;>rfl)
 ·apply dd<;>intro g16
  ·have hbad:vS x a=false:=by (simp[vS, *];done)
   apply et1
   ·(rw[zM hbad]<;>rfl)
  ·refine⟨aAb _,dn (fun c0=>?_) fun c0=>?_⟩
   ·have hbad:vS x a=false:=by (simp[vS, *];done)
    apply et1
    ·(rw[zM hbad]<;>rfl)
   ·have hok:vS x a=true:=by (simp[vS, *];done)
    obtain⟨hS,hA⟩:=Ds hok;have hn:=CZ hS;have hp:=uA hn;refine⟨⟨0,([]:List aI),rfl,rfl,aBC _,rfl⟩,fun m out ⟨hm,ho⟩=>?_⟩;refine⟨aGS,aGS,aGS,dd (fun c1=>?_) fun c1=>?_⟩
    ·have hbl:(fZ (m:Int)).length<=3:=xS _ 3;have hE:=RV (m:=(m:Int)) hn hA aGR aGR;have hE2:=NM (m:=(m:Int)) hn hA aGR aGR;refine⟨aAf _ _,Wt _,M9 (m:Int) aGR,Wr _ (fZ (m:Int)) aGR aGR,Wv _,?_⟩;refine ap ?_ (fun _=>rfl) (by (simp[ho];omega));refine⟨aGS,?_⟩;exact⟨m+1,_,rfl,rfl,⟨aGR,by rw[ho,List.range_succ,aDM,aDH,List.map_nil,Xj];(rw[hE2];done)⟩,aGR⟩
    ·apply et1
     ·(rw[KS hok,ho,show ((2:Int)^x.l.toNat - 1).toNat=m by omega])
def Pa {s:cA}{q:aV}{m:Int}(h:He s q m=true):gM m=gK (gX m) q.k.length:=by
 obtain⟨_,_,_,h1,h2,_,_,h3⟩:=GV h;exact Zd ⟨aGR,h2⟩ h3.2
def N5 (m:Int):(gM m).length<=4:=by
 cases h:eZ m 0 15 with
 | false=>rw[RM h];exact aBC _
 | true=>rw[GO h];exact vA _ _
def aAg {s:cA}{q:aV}{m x:Int}(h:He s q m=true)(hx:x∈gM m):0<=x/\x.toNat<q.k.length/\gX m x.toNat=true:=by
 rw[Pa h] at hx;exact Q9.1 hx
def Xk (s:cA)(q:aV)(x:Int):List aI:=pL (jA s q x.toNat) (q.k.getD x.toNat oG)
def N6 (s:cA)(q:aV)(l:Z):List aI:=l.flatMap (Xk s q)
def FY (s:cA)(q:aV)(l:Z):Bool:=l.all fun x=> !decide ((Xk s q x).length=0)
def cK (s:cA)(q:aV)(m:Int):List aI:=if (He s q m&&FY s q (gM m))=true then N6 s q (gM m) else []
def N7 {s:cA}{q:aV}{m:Int}(h:He s q m=true)(h2:FY s q (gM m)=true):cK s q m=N6 s q (gM m):=by rw[cK,if_pos (by rw[h,h2];rfl)]
def FZ {s:cA}{q:aV}{m:Int}(h:He s q m=false):cK s q m= []:=by rw[cK,if_neg (by rw[h];simp)]
def N8 {s:cA}{q:aV}{m x:Int}(hx:x∈gM m)(h:(Xk s q x).length=0):cK s q m= []:=by
 rw[cK,if_neg];intro h2;rw[aBB] at h2;have:=aCS.1 h2.2 x hx;simp[h] at this
def SM (s:cA)(q:aV)(l:Z)(x:Int):N6 s q (l++[x])=N6 s q l++Xk s q x:=by
 rw[N6,List.flatMap_append];simp[N6]
def N9 {s:cA}{q:aV}{l:Z}{x:Int}(h:FY s q l=true)(hx: ¬((Xk s q x).length:Int)=0):FY s q (l++[x])=true:=by
 rw[FY,List.all_append,aBB];refine⟨h,?_⟩;simp only[List.all_cons,List.all_nil,Bool.and_true,Bool.not_eq_true',decide_eq_false_iff_not];omega
theorem Ia (s:cA)(q:aV): ∀l:Z,(N6 s q l).length<=7*l.length
 | []=>aBC _
 | x::l=>by
   have h1:=KT (jA s q x.toNat) (q.k.getD x.toNat oG);have h2:=Ia s q l;have h3:N6 s q (x::l)=Xk s q x++N6 s q l:=by simp[N6]
   rw[h3,aEh,aEb];unfold Xk;omega
def Cy (s:cA)(q:aV)(m:Int):(cK s q m).length<=28:=by
 unfold cK;split
 ·have h1:=Ia s q (gM m);have h2:=N5 m;omega
 exact aBC _
abbrev Lb (s:cA)(q:aV)(m:Int):Prop:=Cn 88 [aGY s,aGr q,.one (.int .i64 m)] (vB (He s q m)) []
def aAh (s:cA)(q:aV)(m:Int)(hc:fD s<=1048576):Lb s q m:=by
 refine cq Tryz.func88 (.call (vB (jH s)) []<| .br (.call (vB (iZ s.z q)) []<| .lit<| .br (.call (vI (nR q)) []<| .call (vB (eZ m (1:Int) (nR q))) []<| .fin []) (.fin [])) (.fin [])) (p:=Lx (s.z.a.map aP)<| Lx (s.j.a.map aJ)<| Lx (s.y.map aO)<| Lx (s.x.map aT)<| Lx (q.k.map bA)<| Hb s/\Bb (jH s) (Kg s.z q/\Bb (iZ s.z q) (Bf q/\fO m (1:Int) (nR q)/\(eZ m (1:Int) (nR q))=(He s q m)/\True) ((false)=(He s q m)/\True)) ((false)=(He s q m)/\True)) ?_;refine lx fun n0=>lx fun n1=>lx fun n2=>lx fun n3=>lx fun n4=>?_;have hS:=aHB s;have hI:=dZ s.x;refine⟨W4 _ aGR,db (fun g9=>?_) fun g9=>?_⟩
 ·refine⟨Z2 s.z _ aGR,db (fun g15=>?_) fun g15=>?_⟩
  ·refine⟨NQ _,jV _ _ _,?_,trivial⟩
   ·(rw[He,g9,g15];rfl)
  ·apply et1
   ·(rw[He,g9,g15];rfl)
 ·apply et1
  ·(rw[He,g9];rfl)
abbrev AH (s:cA)(q:aV)(i:Int):AV × aGJ:=(.agg [.p none (.str ((jA s q i.toNat).name)),vI ((jA s q i.toNat).l),vI ((jA s q i.toNat).A),.p none (.sl 187 3 ((jA s q i.toNat).t.map aL))],[])
abbrev Fa (s:cA)(q:aV)(i:Int):Prop:=Cn 90 [aGY s,aGr q,.one (.int .i64 i)] (AH s q i).1 (AH s q i).2
def T3 (s:cA)(q:aV)(i:Int)(hc:fD s<=1048576)(hi:0<=i/\i.toNat<q.k.length):Fa s q i:=by
 refine cq Tryz.func90 (.elem _ bA q.k (fun e15=> .call (.tup [.agg [.p none (.str ((dJ s.j e15.name).1.name)),vI ((dJ s.j e15.name).1.l),vI ((dJ s.j e15.name).1.A),.p none (.sl 187 3 ((dJ s.j e15.name).1.t.map aL))],vB ((dJ s.j e15.name).2)]) []<| .fin [])) (p:=Lx (s.z.a.map aP)<| Lx (s.j.a.map aJ)<| Lx (s.y.map aO)<| Lx (s.x.map aT)<| Lx (q.k.map bA)<| 0<=i/\Em bA q.k ((i).toNat) fun e15=>xK Tryz.prog 136 [.agg [.int .i64 s.j.D,.sl 112 4 (s.j.a.map aJ)],.one (.str e15.name)] (.tup [.agg [.p none (.str ((dJ s.j e15.name).1.name)),vI ((dJ s.j e15.name).1.l),vI ((dJ s.j e15.name).1.A),.p none (.sl 187 3 ((dJ s.j e15.name).1.t.map aL))],vB ((dJ s.j e15.name).2)]) []/\((dJ s.j e15.name).1.name)=((jA s q i.toNat).name)/\((dJ s.j e15.name).1.l)=((jA s q i.toNat).l)/\((dJ s.j e15.name).1.A)=((jA s q i.toNat).A)/\(dJ s.j e15.name).1.t.map aL=(jA s q i.toNat).t.map aL/\True) ?_;refine lx fun n0=>lx fun n1=>lx fun n2=>lx fun n3=>lx fun n4=>?_;have hS:=aHB s;have hI:=dZ s.x;refine⟨aGR,rfl,aGR,fun e15 h15=>?_⟩;refine⟨lV (W7 s.j e15.name aGR) rfl,?_,?_,?_,?_,trivial⟩<;>((rw[jA,bK h15]<;>rfl))
def Fb {s:cA}(q:aV)(i:Nat)(hc:fD s<=1048576):cP (jA s q i)<=1048576:=by
 have h1:=Rb s.j (q.k.getD i oG).name;have hS:fD s=cC s.z+dA s.j+cE s.y+cQ s.x:=rfl;unfold jA;omega
abbrev AJ (s:cA)(q:aV)(m:Int):AV × aGJ:=(.own 0,[(0,.arr 119 3 true ((cK s q m).map aF))])
abbrev Fc (s:cA)(q:aV)(m:Int):Prop:=Cn 34 [aGY s,aGr q,.one (.int .i64 m)] (AJ s q m).1 (AJ s q m).2
def T4 (s:cA)(q:aV)(m:Int)(hc:fD s<=1048576)(hcq:iN q<=1048576):Fc s q m:=by
 refine cq Tryz.func34 (.call (vB (jH s)) []<| .br (.fin []) (.call (vB (iZ s.z q)) []<| aGQ<| .br (.fin []) (.call (vI (nR q)) []<| .call (vB (eZ m (1:Int) (nR q))) []<| aGQ<| .br (.fin []) (bN (D1 m)<| .len ((gM m).length)<| .loop (Nat × (List aI)) (Q2 Nat (List aI)) ([7,9,10,11,12,30]++rg 34 30) [1000,3000,5600,6200] (fun yy0=>[(34,vI (yy0.1:Int)),(7,.own 3000)]) (fun yy0=>[(3000,some (.arr 119 3 true (yy0.2.map aF)))]) (fun yy0=>yy0.1<=(gM m).length/\yy0.2=N6 s q ((gM m).take yy0.1)/\FY s q ((gM m).take yy0.1)=true) (fun yy0=>(gM m).length - yy0.1) (fun yy0=> .br (.len ((gM m).length)<| .elem _ intD (gM m) (fun e37=> .elem _ bA q.k (fun e44=> .call (.tup [.agg [.p none (.str ((dJ s.j e44.name).1.name)),vI ((dJ s.j e44.name).1.l),vI ((dJ s.j e44.name).1.A),.p none (.sl 187 3 ((dJ s.j e44.name).1.t.map aL))],vB ((dJ s.j e44.name).2)]) []<| .elem _ bA q.k (fun e54=>bN (B5 ((dJ s.j e44.name).1) e54)<| .len ((pL ((dJ s.j e44.name).1) e54).length)<| .br (.fin []) (.app aI aF yy0.2 (pL ((dJ s.j e44.name).1) e54)<| .back [(3000,6200)]))))) (.fin [(0,3000)])))))) (p:=Lx (s.z.a.map aP)<| Lx (s.j.a.map aJ)<| Lx (s.y.map aO)<| Lx (s.x.map aT)<| Lx (q.k.map bA)<| Ha s/\Nr (jH s) ([]=(cK s q m).map aF/\True) (Kf s.z q/\Nr (iZ s.z q) ([]=(cK s q m).map aF/\True) (Hf q/\(fX m (1:Int) (nR q)/\Nr (eZ m (1:Int) (nR q)) ([]=(cK s q m).map aF/\True) (Kh m/\(Lm intD (gM m)/\((∃(k:Nat) (out:List aI),0=(k:Int)/\[]=out.map aF/\k<=(gM m).length/\out=N6 s q ((gM m).take k)/\FY s q ((gM m).take k)=true)/\ ∀(k:Nat) (out:List aI),(k<=(gM m).length/\out=N6 s q ((gM m).take k)/\FY s q ((gM m).take k)=true)->Br ((k:Int)<(((gM m).length:Nat):Int)) (0<=(k:Int)/\Lm intD (gM m)/\(k:Int)<(((gM m).length:Nat):Int)/\Em intD (gM m) k fun e37=>0<=e37/\Em bA q.k ((e37).toNat) fun e44=>xK Tryz.prog 76 [.agg [.int .i64 s.j.D,.sl 112 4 (s.j.a.map aJ)],.one (.str e44.name)] (.tup [.agg [.p none (.str ((dJ s.j e44.name).1.name)),vI ((dJ s.j e44.name).1.l),vI ((dJ s.j e44.name).1.A),.p none (.sl 187 3 ((dJ s.j e44.name).1.t.map aL))],vB ((dJ s.j e44.name).2)]) []/\0<=e37/\Em bA q.k ((e37).toNat) fun e54=>Hn ((dJ s.j e44.name).1) e54/\Lm aF (pL ((dJ s.j e44.name).1) e54)/\Br ((((pL ((dJ s.j e44.name).1) e54).length:Nat):Int)=0) ([]=(cK s q m).map aF/\True) (Ap aF out (pL ((dJ s.j e44.name).1) e54) 24 (bO ((k:Int)+1)/\ ∃(k' :Nat) (out' :List aI),((k:Int)+1)=(k' :Int)/\(out++(pL ((dJ s.j e44.name).1) e54)).map aF=out'.map aF/\(k' <=(gM m).length/\out' =N6 s q ((gM m).take k')/\FY s q ((gM m).take k')=true)/\(gM m).length - k' <(gM m).length - k))) (out.map aF=(cK s q m).map aF/\True)))))))) ?_;refine lx fun n0=>lx fun n1=>lx fun n2=>lx fun n3=>lx fun n4=>?_;have hS:=aHB s;have hI:=dZ s.x;have hQ:iN q=jT q.k:=rfl;refine⟨W3 _ aGR,dm (fun g16=>?_) fun g16=>?_⟩
 ·have hbad:He s q m=false:=by (simp[He,g16];done)
  apply et1
  ·(rw[FZ hbad]<;>rfl)
 ·refine⟨Z1 s.z _ aGR,dm (fun g23=>?_) fun g23=>?_⟩
  ·have hbad:He s q m=false:=by (simp[He,g23];done)
   apply et1
   ·(rw[FZ hbad]<;>rfl)
  ·refine⟨W9 _,kP _ _ _,dm (fun c0=>?_) fun c0=>?_⟩
   ·have hbad:He s q m=false:=by (simp[He,c0];done)
    apply et1
    ·(rw[FZ hbad]<;>rfl)
   ·have hq:He s q m=true:=by (rw[He,g16,g23,c0];rfl)
    obtain⟨hq1,hq2,hq3,hm1,hm2,hm3,hm4,hm5⟩:=GV hq;have hml:=N5 m;refine⟨Z3 m,aAb _,⟨0,([]:List aI),rfl,rfl,aBC _,rfl,rfl⟩,fun k out ⟨hk,ho,ha⟩=>?_⟩;have hlen:out.length<=28:=by rw[ho];have z1:=Ia s q ((gM m).take k);have z2:=List.length_take_le k (gM m);omega
    apply dd<;>intro c1
    ·refine⟨aGR,aAb _,aGR,rfl,aGR,fun e37 h37=>?_⟩;have he:=aAg hq (aBD h37);have hem:=aBD h37;refine⟨aGR,rfl,aGR,fun e44 h44=>?_⟩;have hst:(dJ s.j e44.name).1=jA s q e37.toNat:=by rw[jA,bK h44]
     have hcs:=Fb q e37.toNat hc;rw[<-hst] at hcs;have hcA:=F6 h44;refine⟨lV (W6 s.j e44.name aGR) rfl,aGR,rfl,aGR,fun e54 h54=>?_⟩;obtain rfl:=(bE h44 h54).symm;have hE:pL (dJ s.j e44.name).1 e44=Xk s q e37:=by rw[Xk,hst,bK h44]
     have hzl:=KT (dJ s.j e44.name).1 e44;refine⟨Xb ((dJ s.j e44.name).1) _ aGR aGR,aAb _,dd (fun c2=>?_) fun c2=>?_⟩
     ·apply et1
      ·(rw[N8 hem (by rw[<-hE];omega)]<;>rfl)
     ·refine ap ?_ (fun _=>rfl) aGR;refine⟨aGS,?_⟩;exact⟨k+1,_,rfl,rfl,⟨aGR,by rw[ho,bW h37,SM,hE],by rw[bW h37];exact N9 ha (by rw[<-hE];exact c2)⟩,aGR⟩
    ·apply et1
     ·(rw[N7 hq (by rw[aCR aGR] at ha;exact ha),ho,aCR aGR])
abbrev AK (s:cA)(q:aV)(m:Int):AV × aGJ:=(.own 0,[(0,.arr 119 3 true ((cK s q m).map aF))])
abbrev Fe (s:cA)(q:aV)(m:Int):Prop:=Cn 44 [aGY s,aGr q,.one (.int .i64 m)] (AK s q m).1 (AK s q m).2
def T5 (s:cA)(q:aV)(m:Int)(hc:fD s<=1048576)(hcq:iN q<=1048576):Fe s q m:=by
 refine cq Tryz.func44 (.call (vB (He s q m)) []<| .br (.fin [(0,1000)]) (.loop (Nat × (List aI)) (Q2 Nat (List aI)) ([7,8,9,10]++rg 17 25++[43,44,45]) [1000,3800,4500] (fun yy0=>[(8,vI (yy0.1:Int)),(7,.own 1000)]) (fun yy0=>[(1000,some (.arr 119 3 true (yy0.2.map aF)))]) (fun yy0=>yy0.1<=q.k.length/\yy0.2=N6 s q (gK (gX m) yy0.1)/\FY s q (gK (gX m) yy0.1)=true) (fun yy0=>q.k.length - yy0.1) (fun yy0=> .len q.k.length<| .br (.br (.back [(1000,1000)]) (bN (AH s q (yy0.1:Int))<| .elem _ bA q.k (fun e36=>bN (B6 (jA s q (yy0.1:Int).toNat) e36)<| .len ((pL (jA s q (yy0.1:Int).toNat) e36).length)<| .br (.fin [(0,4200)]) (.app aI aF yy0.2 (pL (jA s q (yy0.1:Int).toNat) e36)<| .back [(1000,4500)])))) (.fin [(0,1000)])))) (p:=Lx (s.z.a.map aP)<| Lx (s.j.a.map aJ)<| Lx (s.y.map aO)<| Lx (s.x.map aT)<| Lx (q.k.map bA)<| Lb s q m/\Nr (He s q m) ([]=(cK s q m).map aF/\True) ((∃(k:Nat) (out:List aI),0=(k:Int)/\[]=out.map aF/\k<=q.k.length/\out=N6 s q (gK (gX m) k)/\FY s q (gK (gX m) k)=true)/\ ∀(k:Nat) (out:List aI),(k<=q.k.length/\out=N6 s q (gK (gX m) k)/\FY s q (gK (gX m) k)=true)->Lm bA q.k/\Br ((k:Int)<(q.k.length:Int)) ((0<=(k:Int)/\(k:Int)<=64)/\Br ((cH .and .i64 (m/2^k) (1:Int))=0) (bO ((k:Int)+1)/\ ∃(k' :Nat) (out' :List aI),((k:Int)+1)=(k' :Int)/\out.map aF=out'.map aF/\(k' <=q.k.length/\out' =N6 s q (gK (gX m) k')/\FY s q (gK (gX m) k')=true)/\q.k.length - k' <q.k.length - k) (Fa s q (k:Int)/\0<=(k:Int)/\Em bA q.k k fun e36=>Ho (jA s q (k:Int).toNat) e36/\Lm aF (pL (jA s q (k:Int).toNat) e36)/\Br ((((pL (jA s q (k:Int).toNat) e36).length:Nat):Int)=0) ([]=(cK s q m).map aF/\True) (Ap aF out (pL (jA s q (k:Int).toNat) e36) 24 (bO ((k:Int)+1)/\ ∃(k' :Nat) (out' :List aI),((k:Int)+1)=(k' :Int)/\(out++(pL (jA s q (k:Int).toNat) e36)).map aF=out'.map aF/\(k' <=q.k.length/\out' =N6 s q (gK (gX m) k')/\FY s q (gK (gX m) k')=true)/\q.k.length - k' <q.k.length - k)))) (out.map aF=(cK s q m).map aF/\True))) ?_;refine lx fun n0=>lx fun n1=>lx fun n2=>lx fun n3=>lx fun n4=>?_;have hS:=aHB s;have hI:=dZ s.x;have hQ:iN q=jT q.k:=rfl;refine⟨aAh s q m aGR,dm (fun c0=>?_) fun c0=>?_⟩
 ·have hbad:He s q m=false:=by simpa using c0
  apply et1
  ·(rw[FZ hbad]<;>rfl)
 ·have hq:He s q m=true:=by simpa using c0
  obtain⟨hq1,hq2,hq3,hm1,hm2,hm3,hm4,hm5⟩:=GV hq;refine⟨⟨0,([]:List aI),rfl,rfl,aBC _,rfl,rfl⟩,fun k out ⟨hk,ho,ha⟩=>?_⟩;have hlen:out.length<=28:=by rw[ho];have z1:=Ia s q (gK (gX m) k);have z2:=vA (gX m) k;omega
  refine⟨aAb _,dd (fun c1=>?_) fun c1=>?_⟩
  ·refine⟨aGS,dd (fun c2=>?_) fun c2=>?_⟩
   ·refine⟨aGS,?_⟩;exact⟨k+1,_,rfl,rfl,⟨aGR,by (rw[ho,wI (GK aGR)];done),by (rw[wI (GK aGR)];exact ha)⟩,aGR⟩
   ·have hb:gX m k=true:=by have z:=ZK (m:=m) (v:=k) aGS aGR;rw[decide_eq_false c2] at z;simpa using z
    have hcs:=Fb q (k:Int).toNat hc;refine⟨T3 s q (k:Int) aGR (by exact aGS),aGR,rfl,aGR,fun e36 h36=>?_⟩;have hE:pL (jA s q (k:Int).toNat) e36=Xk s q (k:Int):=by rw[Xk,Int.toNat_natCast,bK h36]
    have hzl:=KT (jA s q (k:Int).toNat) e36;have hcA:=F6 h36;refine⟨Xc (jA s q (k:Int).toNat) _ aGR aGR,aAb _,dd (fun c3=>?_) fun c3=>?_⟩
    ·have hem:(k:Int)∈gM m:=by rw[Pa hq];exact Q9.2 ⟨aGR,aGR,by simpa using hb⟩
     apply et1
     ·(rw[N8 hem (by rw[<-hE];omega)]<;>rfl)
    ·refine ap ?_ (fun _=>rfl) aGR;refine⟨aGS,?_⟩;exact⟨k+1,_,rfl,rfl,⟨aGR,by (rw[ho,uZ hb,SM,hE]),by (rw[uZ hb];exact N9 ha (by rw[<-hE];exact c3))⟩,aGR⟩
  ·have hkl:q.k.length=k:=aGR
   rw[<-hkl,<-Pa hq] at ho ha;apply et1
   ·(rw[N7 hq ha,ho])
def lU (m:Int)(l:Z):Nat->Int
 | 0=>0
 | k+1=>if (k<4/\0<=l.getD k 0/\l.getD k 0<=3)/\cH .and .i64 (m/2^(l.getD k 0).toNat) 1=1 then cH .or .i64 (lU m l k) (1*2^k) else lU m l k
def lK (m:Int)(l:Z):Int:=lU m l l.length
def OA {m:Int}{l:Z}{k:Nat}{x:Int}(hx:l[k]? =some x)(h:(k<4/\0<=x/\x<=3)/\cH .and .i64 (m/2^x.toNat) 1=1):lU m l (k+1)=cH .or .i64 (lU m l k) (1*2^k):=by
 have e:l.getD k 0=x:=by simp[aCz,hx]
 rw[lU,e,if_pos h]
def B7 {m:Int}{l:Z}{k:Nat}{x:Int}(hx:l[k]? =some x)(h: ¬((k<4/\0<=x/\x<=3)/\cH .and .i64 (m/2^x.toNat) 1=1)):lU m l (k+1)=lU m l k:=by
 have e:l.getD k 0=x:=by simp[aCz,hx]
 rw[lU,e,if_neg h]
def T6 {m:Int}{l:Z}{k:Nat}(h:4<=k):lU m l k=lU m l 4:=by
 induction k with
 | zero=>omega
 | succ k ih=>
   by_cases h4:k+1=4
   ·rw[h4]
   rw[lU,if_neg aGR,ih aGR]
def oV (l:Z)(c:aI):aI:=⟨lK c.src l,lK c.dst l,c.bits⟩
abbrev Gi (m:Int)(l:Z):Prop:=Cn 81 [.one (.int .i64 m),.ref [.sl 3 1 (l.map intD)]] (vI (lK m l)) []
def Vh (m:Int)(l:Z):Gi m l:=by
 refine cq Tryz.func81 (.len l.length<| .loop (Nat × Int) (Q2 Nat Int) ([4,5,6]++rg 9 23) [] (fun yy0=>[(4,vI yy0.2),(9,vI (yy0.1:Int))]) (fun yy0=>[]) (fun yy0=>yy0.1<=l.length/\yy0.2=lU m l yy0.1) (fun yy0=>l.length - yy0.1) (fun yy0=> .br (.elem _ intD l (fun e12=> .br (.call (vB (decide (0<=e12/\e12<=3))) []<| .lit<| .br (aGN<| .br (.back []) (.back [])) (.back [])) (.back []))) (.fin []))) (p:=Lx (l.map intD)<| Lm intD l/\((∃(k:Nat) (o:Int),0=o/\0=(k:Int)/\k<=l.length/\o=lU m l k)/\ ∀(k:Nat) (o:Int),(k<=l.length/\o=lU m l k)->Br ((k:Int)<(l.length:Int)) (0<=(k:Int)/\Em intD l k fun e12=>Br ((k:Int)<4) (lR e12 (0:Int) (3:Int)/\Br (0<=e12/\e12<=3) ((0<=e12/\e12<=64)/\Br ((cH .and .i64 (m/2^(Int.toNat e12)) (1:Int))=1) ((0<=(k:Int)/\(k:Int)<=64)/\bO ((1:Int)*2^k)/\bO ((k:Int)+1)/\ ∃(k' :Nat) (o' :Int),(cH .or .i64 o ((1:Int)*2^k))=o' /\((k:Int)+1)=(k' :Int)/\(k' <=l.length/\o' =lU m l k')/\l.length - k' <l.length - k) (bO ((k:Int)+1)/\ ∃(k' :Nat) (o' :Int),o=o' /\((k:Int)+1)=(k' :Int)/\(k' <=l.length/\o' =lU m l k')/\l.length - k' <l.length - k)) (bO ((k:Int)+1)/\ ∃(k' :Nat) (o' :Int),o=o' /\((k:Int)+1)=(k' :Int)/\(k' <=l.length/\o' =lU m l k')/\l.length - k' <l.length - k)) (bO ((k:Int)+1)/\ ∃(k' :Nat) (o' :Int),o=o' /\((k:Int)+1)=(k' :Int)/\(k' <=l.length/\o' =lU m l k')/\l.length - k' <l.length - k)) (o=(lK m l)/\True))) ?_;refine lx fun n0=>?_;refine⟨aAb _,⟨0,(0:Int),rfl,rfl,aBC _,rfl⟩,fun k o ⟨hk,hv⟩=>?_⟩;apply dd<;>intro c0
 ·refine⟨aGR,rfl,aGR,fun e12 h12=>?_⟩;have hk2:=h12;apply dd<;>intro g16
  ·refine⟨qU _ _ _,dd (fun g20=>?_) fun g20=>?_⟩
   ·refine⟨aGS,dd (fun c1=>?_) fun c1=>?_⟩
    ·refine⟨aGS,by exact gU aGR,by exact aGS,?_⟩;exact⟨k+1,cH .or .i64 o ((1:Int)*2^k),rfl,rfl,⟨aGR,by (rw[OA hk2 (by refine⟨⟨aGR,aGR,aGR⟩,by assumption⟩),hv];done)⟩,aGR⟩
    ·refine⟨by exact aGS,?_⟩;exact⟨k+1,o,rfl,rfl,⟨aGR,by (rw[B7 hk2 (by rintro⟨⟨_,_,_⟩,_⟩;omega),hv];done)⟩,aGR⟩
   ·refine⟨by exact aGS,?_⟩;exact⟨k+1,o,rfl,rfl,⟨aGR,by (rw[B7 hk2 (by rintro⟨⟨_,_,_⟩,_⟩;omega),hv];done)⟩,aGR⟩
  ·refine⟨by exact aGS,?_⟩;exact⟨k+1,o,rfl,rfl,⟨aGR,by (rw[B7 hk2 (by rintro⟨⟨_,_,_⟩,_⟩;omega),hv];done)⟩,aGR⟩
 ·apply et1
  ·rw[hv,lK,show k=l.length by omega]
abbrev Gj (m:Int)(l:Z):Prop:=Cn 92 [.one (.int .i64 m),.one (.sl 3 1 (l.map intD))] (vI (lK m l)) []
def Vi (m:Int)(l:Z):Gj m l:=by
 refine cq Tryz.func92 (.loop (Nat × Int) (Q2 Nat Int) (rg 5 31) [] (fun yy0=>[(5,vI yy0.2),(6,vI (yy0.1:Int))]) (fun yy0=>[]) (fun yy0=>(yy0.1<=l.length/\yy0.1<=4)/\yy0.2=lU m l yy0.1) (fun yy0=>l.length - yy0.1) (fun yy0=> .len l.length<| .br (aGQ<| .br (.elem _ intD l (fun e19=> .call (vB (decide (0<=e19/\e19<=3))) []<| .br (.elem _ intD l (fun e26=> aGN<| .br (.back []) (.back []))) (.back []))) (.fin [])) (.fin []))) (p:=Lx (l.map intD)<| (∃(k:Nat) (o:Int),0=o/\0=(k:Int)/\(k<=l.length/\k<=4)/\o=lU m l k)/\ ∀(k:Nat) (o:Int),((k<=l.length/\k<=4)/\o=lU m l k)->Lm intD l/\Br ((k:Int)<(l.length:Int)) (Br ((k:Int)<4) (0<=(k:Int)/\Em intD l k fun e19=>gC e19 (0:Int) (3:Int)/\Br (0<=e19/\e19<=3) (0<=(k:Int)/\Em intD l k fun e26=>(0<=e26/\e26<=64)/\Br ((cH .and .i64 (m/2^(Int.toNat e26)) (1:Int))=1) ((0<=(k:Int)/\(k:Int)<=64)/\bO ((1:Int)*2^k)/\bO ((k:Int)+1)/\ ∃(k' :Nat) (o' :Int),(cH .or .i64 o ((1:Int)*2^k))=o' /\((k:Int)+1)=(k' :Int)/\((k' <=l.length/\k' <=4)/\o' =lU m l k')/\l.length - k' <l.length - k) (bO ((k:Int)+1)/\ ∃(k' :Nat) (o' :Int),o=o' /\((k:Int)+1)=(k' :Int)/\((k' <=l.length/\k' <=4)/\o' =lU m l k')/\l.length - k' <l.length - k)) (bO ((k:Int)+1)/\ ∃(k' :Nat) (o' :Int),o=o' /\((k:Int)+1)=(k' :Int)/\((k' <=l.length/\k' <=4)/\o' =lU m l k')/\l.length - k' <l.length - k)) (o=(lK m l)/\True)) (o=(lK m l)/\True)) ?_;refine lx fun n0=>?_;refine⟨⟨0,(0:Int),rfl,rfl,⟨aBC _,aGR⟩,rfl⟩,fun k o ⟨hk,hv⟩=>?_⟩;refine⟨aAb _,dd (fun g11=>?_) fun g11=>?_⟩
 ·apply dd<;>intro c0
  ·refine⟨aGR,rfl,aGR,fun e19 h19=>?_⟩;have hk2:=h19;refine⟨kM _ _ _,dd (fun g22=>?_) fun g22=>?_⟩
   ·refine⟨aGR,rfl,aGR,fun e26 h26=>?_⟩;obtain rfl:=(bE hk2 h26).symm;refine⟨aGS,dd (fun c1=>?_) fun c1=>?_⟩
    ·refine⟨aGS,by exact gU aGR,by exact aGS,?_⟩;exact⟨k+1,cH .or .i64 o ((1:Int)*2^k),rfl,rfl,⟨aGR,by (rw[OA hk2 (by refine⟨⟨aGR,aGR,aGR⟩,by assumption⟩),hv];done)⟩,aGR⟩
    ·refine⟨by exact aGS,?_⟩;exact⟨k+1,o,rfl,rfl,⟨aGR,by (rw[B7 hk2 (by rintro⟨⟨_,_,_⟩,_⟩;omega),hv];done)⟩,aGR⟩
   ·refine⟨by exact aGS,?_⟩;exact⟨k+1,o,rfl,rfl,⟨aGR,by (rw[B7 hk2 (by rintro⟨⟨_,_,_⟩,_⟩;omega),hv];done)⟩,aGR⟩
  ·apply et1
   ·(rw[hv,lK,T6 (k:=l.length) aGR,show k=4 by omega];done)
 ·apply et1
  ·(rw[hv,lK,show k=l.length by omega];done)
abbrev EH (l:List aI)(v:Z):AV × aGJ:=(.own 0,[(0,.arr 119 3 true ((l.map (oV v)).map aF))])
abbrev Lc (l:List aI)(v:Z):Prop:=Cn 37 [.one (.sl 119 3 (l.map aF)),.one (.sl 3 1 (v.map intD))] (EH l v).1 (EH l v).2
def aAi (l:List aI)(v:Z)(hl:l.length<=1048576):Lc l v:=by
 refine cq Tryz.func37 (.len l.length<| .loop (Nat × (List aI)) (Q2 Nat (List aI)) ([6,8,10]++rg 13 19) [800,1000,2900,3000] (fun yy0=>[(6,.own 1000),(13,vI (yy0.1:Int))]) (fun yy0=>[(1000,some (.arr 119 3 true (yy0.2.map aF)))]) (fun yy0=>yy0.1<=l.length/\yy0.2=(l.take yy0.1).map (oV v)) (fun yy0=>l.length - yy0.1) (fun yy0=> .br (.elem _ aF l (fun e15=> .call (vI (lK e15.src v)) []<| .call (vI (lK e15.dst v)) []<| .app aI aF yy0.2 ([(⟨lK e15.src v,lK e15.dst v,e15.bits⟩:aI)]:List aI)<| .back [(1000,3000)])) (.fin [(0,1000)]))) (p:=Lx (l.map aF)<| Lx (v.map intD)<| Lm aF l/\((∃(k:Nat) (out:List aI),0=(k:Int)/\[]=out.map aF/\k<=l.length/\out=(l.take k).map (oV v))/\ ∀(k:Nat) (out:List aI),(k<=l.length/\out=(l.take k).map (oV v))->Br ((k:Int)<(l.length:Int)) (0<=(k:Int)/\Em aF l k fun e15=>Gi e15.src v/\Gi e15.dst v/\Ap aF out ([(⟨lK e15.src v,lK e15.dst v,e15.bits⟩:aI)]:List aI) 24 (bO ((k:Int)+1)/\ ∃(k' :Nat) (out' :List aI),((k:Int)+1)=(k' :Int)/\(out++[(⟨lK e15.src v,lK e15.dst v,e15.bits⟩:aI)]).map aF=out'.map aF/\(k' <=l.length/\out' =(l.take k').map (oV v))/\l.length - k' <l.length - k)) (out.map aF=(l.map (oV v)).map aF/\True))) ?_;refine lx fun n0=>lx fun n1=>?_;refine⟨aAb _,⟨0,([]:List aI),rfl,rfl,aBC _,rfl⟩,fun k out ⟨hk,ho⟩=>?_⟩;apply dd<;>intro c0
 ·refine⟨aGR,rfl,aGR,fun e15 h15=>?_⟩;have hk2:=h15;refine⟨Vh _ _,Vh _ _,?_⟩;refine ap ?_ (fun _=>rfl) (by simp[ho];omega);refine⟨aGS,?_⟩;exact⟨k+1,_,rfl,rfl,⟨aGR,by rw[ho,bW hk2,aDM];rfl⟩,aGR⟩
 ·apply et1
  ·rw[ho,aCR aGR]
abbrev EI (l:List aI)(v:Z):AV × aGJ:=(.own 0,[(0,.arr 119 3 true ((l.map (oV v)).map aF))])
abbrev Ld (l:List aI)(v:Z):Prop:=Cn 46 [.one (.sl 119 3 (l.map aF)),.one (.sl 3 1 (v.map intD))] (EI l v).1 (EI l v).2
def aAj (l:List aI)(v:Z)(hl:l.length<=1048576):Ld l v:=by
 refine cq Tryz.func46 (.loop (Nat × (List aI)) (Q2 Nat (List aI)) (rg 5 32) [700,3500,3600] (fun yy0=>[(5,.own 700),(6,vI (yy0.1:Int))]) (fun yy0=>[(700,some (.arr 119 3 true (yy0.2.map aF)))]) (fun yy0=>yy0.1<=l.length/\yy0.2=(l.take yy0.1).map (oV v)) (fun yy0=>l.length - yy0.1) (fun yy0=> .len l.length<| .br (.elem _ aF l (fun e17=> .call (vI (lK e17.src v)) []<| .elem _ aF l (fun e24=> .call (vI (lK e24.dst v)) []<| .elem _ aF l (fun e31=> .app aI aF yy0.2 ([(⟨lK e17.src v,lK e24.dst v,e31.bits⟩:aI)]:List aI)<| .back [(700,3600)])))) (.fin [(0,700)]))) (p:=Lx (l.map aF)<| Lx (v.map intD)<| (∃(k:Nat) (out:List aI),0=(k:Int)/\[]=out.map aF/\k<=l.length/\out=(l.take k).map (oV v))/\ ∀(k:Nat) (out:List aI),(k<=l.length/\out=(l.take k).map (oV v))->Lm aF l/\Br ((k:Int)<(l.length:Int)) (0<=(k:Int)/\Em aF l k fun e17=>Gj e17.src v/\0<=(k:Int)/\Em aF l k fun e24=>Gj e24.dst v/\0<=(k:Int)/\Em aF l k fun e31=>Ap aF out ([(⟨lK e17.src v,lK e24.dst v,e31.bits⟩:aI)]:List aI) 24 (bO ((k:Int)+1)/\ ∃(k' :Nat) (out' :List aI),((k:Int)+1)=(k' :Int)/\(out++[(⟨lK e17.src v,lK e24.dst v,e31.bits⟩:aI)]).map aF=out'.map aF/\(k' <=l.length/\out' =(l.take k').map (oV v))/\l.length - k' <l.length - k)) (out.map aF=(l.map (oV v)).map aF/\True)) ?_;refine lx fun n0=>lx fun n1=>?_;refine⟨⟨0,([]:List aI),rfl,rfl,aBC _,rfl⟩,fun k out ⟨hk,ho⟩=>?_⟩;refine⟨aAb _,dd (fun c0=>?_) fun c0=>?_⟩
 ·refine⟨aGR,rfl,aGR,fun e17 h17=>?_⟩;have hk2:=h17;refine⟨Vi _ _,aGR,rfl,aGR,fun e24 h24=>?_⟩;obtain rfl:=(bE hk2 h24).symm;refine⟨Vi _ _,aGR,rfl,aGR,fun e31 h31=>?_⟩;obtain rfl:=(bE hk2 h31).symm;refine ap ?_ (fun _=>rfl) (by simp[ho];omega);refine⟨aGS,?_⟩;exact⟨k+1,_,rfl,rfl,⟨aGR,by rw[ho,bW hk2,aDM];rfl⟩,aGR⟩
 ·apply et1
  ·rw[ho,aCR aGR]
end Go.Proofs.YtgamjlgfnmpcjaaGreat
