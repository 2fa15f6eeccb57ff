/-
  Contracts and plain laws, joined: part 6.
-/
import Derived.Test.Ytepphdhnkaiamaapg4
import Derived.Test.Ytepphdhnkaiamaapg3
import Derived.Shelf.SlicesE.Clone
import Derived.Ground.SlgnProg
namespace Go.Proofs.Ytepphdhnkaiamaa
open Go.ChangeShapes Go.WideShapes Go.ChangeAt Go.RowKit
set_option linter.unusedVariables false
set_option linter.unusedSimpArgs false
set_option maxRecDepth 100000
set_option maxHeartbeats 4000000
theorem aBw: ∀(r s:List Int),r.Nodup->(∀x∈r,x∈s)->s.length<=r.length->s.Perm r
 | [],s,_,_,h=>by
   have:s= []:=List.length_eq_zero_iff.1 (by simpa using h);rw[this]
 | a::r,s,hn,hs,hl=>by
   have ha:a∈s:=hs a (by simp);have p1:s.Perm (a::s.erase a):=List.perm_cons_erase ha;have hn' :=List.nodup_cons.1 hn
   have:=aBw r (s.erase a) hn'.2 (fun x hx=>(List.mem_erase_of_ne (fun (e:x=a)=>hn'.1 (by rw[<-e];exact hx))).2 (hs x (by simp[hx]))) (by
    rw[List.length_erase_of_mem ha];simp only[List.length_cons] at hl;omega)
   exact p1.trans (this.cons a)
def isD (n x:Int):Bool:=decide (x=n)
def lX (l:List Int):Bool:=(List.range l.length).all fun (i:Nat)=>l.any (isD i)
abbrev upto (n:Nat):List Int:=(List.range n).map fun (i:Nat)=>(i:Int)
theorem rF {l:List Int}(h:lX l=true):l.Perm (upto l.length):=by
 refine aBw _ _ ?_ ?_ (by simp)
 ·rw[List.Nodup,List.pairwise_map];exact List.nodup_range.imp fun hne he=>hne (by omega)
 intro x hx;obtain⟨j,hj,rfl⟩:=List.mem_map.1 hx;have:=List.all_eq_true.1 h j hj;obtain⟨y,hy,e⟩:=List.any_eq_true.1 this;rw[isD,decide_eq_true_eq] at e
 rwa [<-e]
theorem aEG {l:List Int}(h:l.Perm (upto l.length)):lX l=true:=by
 refine List.all_eq_true.2 fun i hi=>?_;have:(i:Int)∈l:=h.mem_iff.2 (List.mem_map.2 ⟨i,hi,rfl⟩);exact List.any_eq_true.2 ⟨_,this,by simp[isD]⟩
theorem aFM {l:List Int}(h:lX l=true){x:Int}(hx:x∈l):0<=x/\x<l.length:=by
 have:=(rF h).mem_iff.1 hx;obtain⟨j,hj,rfl⟩:=List.mem_map.1 this;have:=List.mem_range.1 hj;omega
def eX (l:List aC)(n:Int):Bool:=decide ((l.length:Int)=n)&&l.all aJ
def bR (d:aD):Bool:=decide ((d.basic.length:Int)<=64)&&(decide (1<=(d.others.length:Int)/\(d.others.length:Int)<=15)&&(decide ((d.table.length:Int)=d.basic.length)&&(lX (d.basic++d.others)&&(d.table.all (fun r=>eX r d.others.length)&&(eX d.limits d.basic.length&&(eX d.costs d.others.length&&aJ d.value))))))
theorem aFN {d:aD}(h:lX (d.basic++d.others)=false):bR d=false:=by simp only[bR,h,Bool.false_and,Bool.and_false]
theorem aA6 {d:aD}{k:Nat}{r:List aC}(h:d.table[k]? =some r)(hr:eX r d.others.length=false):bR d=false:=by
 have:d.table.all (fun r=>eX r d.others.length)=false:=fE h hr;simp only[bR,this,Bool.false_and,Bool.and_false]
theorem aFO {d:aD}(h:eX d.limits d.basic.length=false):bR d=false:=by simp only[bR,h,Bool.false_and,Bool.and_false]
theorem aEH {d:aD}(h:eX d.costs d.others.length=false):bR d=false:=by simp only[bR,h,Bool.false_and,Bool.and_false]
theorem aEI {d:aD}(h:(d.basic.length:Int)<=64/\(1<=(d.others.length:Int)/\(d.others.length:Int)<=15)/\(d.table.length:Int)=d.basic.length)(h1:lX (d.basic++d.others)=true)(h2:d.table.all (fun r=>eX r d.others.length)=true)(h3:eX d.limits d.basic.length=true)(h4:eX d.costs d.others.length=true)(h5:aJ d.value=true):bR d=true:=by
 simp only[bR,h1,h2,h3,h4,h5,Bool.and_true,Bool.and_eq_true,decide_eq_true_eq];exact h
theorem aFP {l:List aC}{n:Int}(h: ¬(l.length:Int)=n):eX l n=false:=by simp only[eX,decide_eq_false h,Bool.false_and]
theorem tR {l:List aC}{n:Int}(h:l.all aJ=false):eX l n=false:=by simp only[eX,h,Bool.and_false]
theorem wP {l:List aC}{n:Int}(h:(l.length:Int)=n)(h1:l.all aJ=true):eX l n=true:=by simp only[eX,decide_eq_true h,h1,Bool.and_true]
theorem gW {l:List aC}{n:Nat}:eX l n=true↔l.length=n/\ ∀x∈l,aJ x=true:=by
 simp only[eX,Bool.and_eq_true,decide_eq_true_eq,List.all_eq_true];constructor
 ·exact fun h=>⟨by omega,h.2⟩
 exact fun h=>⟨by omega,h.2⟩
theorem dE {d:aD}(h:bR d=true):d.basic.length<=64/\(1<=d.others.length/\d.others.length<=15)/\d.table.length=d.basic.length/\lX (d.basic++d.others)=true/\(∀r∈d.table,r.length=d.others.length/\ ∀x∈r,aJ x=true)/\(d.limits.length=d.basic.length/\ ∀x∈d.limits,aJ x=true)/\(d.costs.length=d.others.length/\ ∀x∈d.costs,aJ x=true)/\aJ d.value=true:=by
 simp only[bR,Bool.and_eq_true,decide_eq_true_eq,List.all_eq_true (l:=d.table)] at h;obtain⟨h1,h2,h3,h4,h5,h6,h7,h8⟩:=h;exact⟨by omega,by omega,by omega,h4,fun r hr=>gW.1 (h5 r hr),gW.1 h6,gW.1 h7,h8⟩
theorem wQ {d:aD}(h:bR d=true):(∀x∈d.basic,0<=x/\x<d.basic.length+d.others.length)/\ ∀x∈d.others,0<=x/\x<d.basic.length+d.others.length:=by
 obtain⟨_,_,_,hp,_⟩:=dE h
 have key: ∀x∈d.basic++d.others,0<=x/\x<d.basic.length+d.others.length:=fun x hx=>by
  have:=aFM hp hx;rw[List.length_append] at this;omega
 exact⟨fun x hx=>key x (List.mem_append_left _ hx),fun x hx=>key x (List.mem_append_right _ hx)⟩
def rG (d:aD)(b:Int)(k:Nat):Bool:=decide (0<(d.costs.getD k zR).num)&&(decide (b<0) || decide (d.others.getD k 0<d.others.getD b.toNat 0))
def gH (d:aD):Nat->Int
 | 0=> -1
 | k+1=>if rG d (gH d k) k=true then (k:Int) else gH d k
def cZ (d:aD):Int:=gH d d.others.length
theorem oR (d:aD): ∀k:Nat,-1<=gH d k/\gH d k<k
 | 0=>by simp[gH]
 | k+1=>by
   have:=oR d k;rw[gH];split<;>omega
theorem aEJ {d:aD}{k:Nat}{b:Int}(hb:b=gH d k)(h:rG d b k=true):(k:Int)=gH d (k+1):=by rw[gH,<-hb,if_pos h]
theorem aFw {d:aD}{k:Nat}{b:Int}(hb:b=gH d k)(h:rG d b k=false):b=gH d (k+1):=by rw[gH,<-hb,if_neg (by rw[h];decide)]
def gN (d:aD):Int:=if bR d=true then cZ d else -1
def dF (d:aD)(i j:Nat):aC:=(d.table.getD i []).getD j zR
def iI (d:aD)(b:Int)(c:Int)(k:Nat):Bool:=decide (b<0) || (decide (c<0) || (decide (c=0)&&decide (d.basic.getD k 0<d.basic.getD b.toNat 0)))
def cU (d:aD)(j:Nat):Nat->Nat->Int->aC->Int
 | 0,_,b,_=>b
 | f+1,k,b,l=>if (dF d k j).num<=0 then cU d j f (k+1) b l else if (aR (d.limits.getD k zR) (dF d k j)).2=false then -1 else if iI d b (bK (aR (d.limits.getD k zR) (dF d k j)).1 l) k=true then cU d j f (k+1) (k:Int) (aR (d.limits.getD k zR) (dF d k j)).1 else cU d j f (k+1) b l
def dT (d:aD)(j:Nat):Int:=cU d j d.basic.length 0 (-1) zR
theorem aFQ {d:aD}{j n k:Nat}{b:Int}{l:aC}(hk:k<n)(h:(dF d k j).num<=0):cU d j (n - k) k b l=cU d j (n - (k+1)) (k+1) b l:=by
 rw[show n - k=(n - (k+1))+1 by omega,cU,if_pos h]
theorem aHA {d:aD}{j n k:Nat}{b:Int}{l:aC}(hk:k<n)(h: ¬(dF d k j).num<=0)(h2:(aR (d.limits.getD k zR) (dF d k j)).2=false):cU d j (n - k) k b l= -1:=by
 rw[show n - k=(n - (k+1))+1 by omega,cU,if_neg h,if_pos h2]
theorem aHB {d:aD}{j n k:Nat}{b:Int}{l:aC}(hk:k<n)(h: ¬(dF d k j).num<=0)(h2:(aR (d.limits.getD k zR) (dF d k j)).2=true)(h3:iI d b (bK (aR (d.limits.getD k zR) (dF d k j)).1 l) k=true):cU d j (n - k) k b l=cU d j (n - (k+1)) (k+1) (k:Int) (aR (d.limits.getD k zR) (dF d k j)).1:=by
 rw[show n - k=(n - (k+1))+1 by omega,cU,if_neg h,if_neg (by rw[h2];decide),if_pos h3]
theorem aIp {d:aD}{j n k:Nat}{b:Int}{l:aC}(hk:k<n)(h: ¬(dF d k j).num<=0)(h2:(aR (d.limits.getD k zR) (dF d k j)).2=true)(h3:iI d b (bK (aR (d.limits.getD k zR) (dF d k j)).1 l) k=false):cU d j (n - k) k b l=cU d j (n - (k+1)) (k+1) b l:=by
 rw[show n - k=(n - (k+1))+1 by omega,cU,if_neg h,if_neg (by rw[h2];decide),if_neg (by rw[h3];decide)]
theorem wR (d:aD)(j:Nat): ∀(f k:Nat) (b:Int) (l:aC),-1<=b/\b<k-> -1<=cU d j f k b l/\cU d j f k b l<(k+f:Nat)
 | 0,k,b,l,h=>by rw[cU];omega
 | f+1,k,b,l,h=>by
   have h1:=wR d j f (k+1) b l (by omega);have h2:=wR d j f (k+1) (k:Int) (aR (d.limits.getD k zR) (dF d k j)).1 (by omega);rw[cU];split
   ·omega
   split
   ·omega
   split<;>omega
theorem aEK (d:aD)(j:Nat): -1<=dT d j/\dT d j<d.basic.length:=by
 have:=wR d j d.basic.length 0 (-1) zR (by omega);rw[dT];omega
def kX (d:aD)(j:Int):Int:=if bR d=true/\0<=j/\j<d.others.length then dT d j.toNat else -1
def vL (d:aD)(i j k:Nat):aC × Bool:=aR (if k=j then sQ else dF d i k) (dF d i j)
def dB (d:aD)(i j n:Nat):List aC:=(List.range n).map fun k=>(vL d i j k).1
def cX (d:aD)(i j n:Nat):Bool:=(List.range n).all fun k=>(vL d i j k).2
def cL (d:aD)(i j:Nat):aC × Bool:=aR (d.limits.getD i zR) (dF d i j)
def chX (l:List aC)(c:aC)(p:List aC)(j k:Nat):aC × Bool:=bC (if k=j then wO else l.getD k zR) c (p.getD k zR)
def cY (l:List aC)(p:List aC)(j n:Nat):List aC:=(List.range n).map fun k=>(chX l (l.getD j zR) p j k).1
def dU (l:List aC)(p:List aC)(j n:Nat):Bool:=(List.range n).all fun k=>(chX l (l.getD j zR) p j k).2
def aFx (d:aD)(i j r:Nat):aC × Bool:=bC (d.limits.getD r zR) (dF d r j) (cL d i j).1
def rH (d:aD)(i j r:Nat):List aC:=if r=i then dB d i j d.others.length else cY (d.table.getD r []) (dB d i j d.others.length) j d.others.length
def sV (d:aD)(i j r:Nat):aC:=if r=i then (cL d i j).1 else (aFx d i j r).1
def aA7 (d:aD)(i j r:Nat):Bool:=if r=i then true else dU (d.table.getD r []) (dB d i j d.others.length) j d.others.length&&(aFx d i j r).2
def eN (d:aD)(i j n:Nat):List (List aC):=(List.range n).map (rH d i j)
def eU (d:aD)(i j n:Nat):List aC:=(List.range n).map (sV d i j)
def eO (d:aD)(i j n:Nat):Bool:=(List.range n).all (aA7 d i j)
def aCs (d:aD)(i j:Nat):List aC:=cY d.costs (dB d i j d.others.length) j d.others.length
def aFy (d:aD)(i j:Nat):Bool:=dU d.costs (dB d i j d.others.length) j d.others.length
def cK (a b c:aC):aC × Bool:=if b.num=0\/c.num=0 then (a,true) else ((cT a (bQ b c).1).1,(bQ b c).2&&(cT a (bQ b c).1).2)
def nE (d:aD)(i j:Nat):aC × Bool:=cK d.value (d.costs.getD j zR) (cL d i j).1
def iJ (d:aD)(i j:Nat):Bool:=((cX d i j d.others.length&&(cL d i j).2)&&eO d i j d.basic.length)&&aFy d i j
def rI:aD:=⟨[],[],[],[],[],⟨0,0⟩⟩
def dW (d:aD)(i j:Nat):aD:=⟨d.basic.set i (d.others.getD j 0),d.others.set j (d.basic.getD i 0),eN d i j d.basic.length,eU d i j d.basic.length,aCs d i j,(nE d i j).1⟩
def dJ (d:aD)(i j:Nat):aD × Bool:=if (dF d i j).num≠0/\iJ d i j=true/\(nE d i j).2=true then (dW d i j,true) else (rI,false)
def bB (d:aD)(i j:Int):aD × Bool:=if bR d=true/\(0<=i/\i<d.basic.length)/\0<=j/\j<d.others.length then dJ d i.toNat j.toNat else (rI,false)
theorem aBy (a b c:aC):cK a (cN b) c=bC a b c:=aGz a b c
theorem aEL {a b c:aC}(ha:aJ a=true)(h:(cK a b c).2=true):aJ (cK a b c).1=true:=by
 unfold cK at*;split at h
 ·rename_i hp;rw[if_pos hp];exact ha
 rename_i hp;rw[if_neg hp];simp only[Bool.and_eq_true] at h;exact aK6 h.2
theorem aK8 {a:aC}(h:aJ a=true):cT a wO=(a,true):=by
 have v:bW 0 1=true:=by decide
 rw[cT,show aCl a.num a.den wO.num wO.den=aX (a.num*1+0*a.den) (a.den*1) from rC h v];rw[Int.zero_mul,Int.mul_one,Int.mul_one,Int.add_zero,sF h];rfl
theorem aK9 {b c:aC}(hb:aJ b=true)(hc:aJ c=true)(h:b.num=0\/c.num=0):bQ b c=(wO,true):=by
 have h1:=bA hb;have h2:=bA hc;rw[bQ,mX hb hc,show b.num*c.num=0 from Int.mul_eq_zero.2 h,aBv (Int.mul_ne_zero (by omega) (by omega))];rfl
theorem aA8 {a b c:aC}(ha:aJ a=true)(hb:aJ b=true)(hc:aJ c=true):cK a b c=((cT a (bQ b c).1).1,(bQ b c).2&&(cT a (bQ b c).1).2):=by
 unfold cK;split
 ·rename_i h;rw[aK9 hb hc h,aK8 ha];rfl
 rfl
theorem aBz:aJ wO=true:=by decide
theorem aHC:aJ sQ=true:=by decide
theorem eY {l:List aC}{n k:Nat}(h:l.length=n/\ ∀x∈l,aJ x=true)(hk:k<n):aJ (l.getD k zR)=true:=by
 have hk' :k<l.length:=by omega
 rw[List.getD_eq_getElem?_getD,List.getElem?_eq_getElem hk'];exact h.2 _ (List.getElem_mem hk')
theorem pP {d:aD}(h:bR d=true){i j:Nat}(hi:i<d.basic.length)(hj:j<d.others.length):aJ (dF d i j)=true:=by
 obtain⟨_,_,b3,_,b5,_⟩:=dE h;have hi' :i<d.table.length:=by omega
 have hc:d.table.getD i []=d.table[i]:=by rw[List.getD_eq_getElem?_getD,List.getElem?_eq_getElem hi'];rfl
 rw[dF,hc];exact eY (b5 _ (List.getElem_mem hi')) hj
theorem aFR (d:aD)(i j n:Nat):(dB d i j n).length=n:=by simp[dB]
theorem aHD {d:aD}{i j n:Nat}(h:cX d i j n=true): ∀x∈dB d i j n,aJ x=true:=by
 intro x hx;obtain⟨k,hk,rfl⟩:=List.mem_map.1 hx;exact sG (List.all_eq_true.1 h k hk)
theorem aEM {l p:List aC}{j n:Nat}(hl:l.length=n/\ ∀x∈l,aJ x=true)(h:dU l p j n=true): ∀x∈cY l p j n,aJ x=true:=by
 intro x hx;obtain⟨k,hk,rfl⟩:=List.mem_map.1 hx;refine aA5 ?_ (List.all_eq_true.1 h k hk);split
 ·exact aBz
 exact eY hl (List.mem_range.1 hk)
theorem aIq {a b:List Int}{i j:Nat}{x y:Int}(hx:a[i]? =some x)(hy:b[j]? =some y):(a.set i y++b.set j x).Perm (a++b):=by
 obtain⟨hi,rfl⟩:=List.getElem?_eq_some_iff.1 hx;obtain⟨hj,rfl⟩:=List.getElem?_eq_some_iff.1 hy;have ea:a.set i b[j]=a.take i++b[j]::a.drop (i+1):=List.set_eq_take_append_cons_drop .. |>.trans (if_pos hi)
 have eb:b.set j a[i]=b.take j++a[i]::b.drop (j+1):=List.set_eq_take_append_cons_drop .. |>.trans (if_pos hj)
 have fa:a=a.take i++a[i]::a.drop (i+1):=by rw[<-List.drop_eq_getElem_cons hi,List.take_append_drop]
 have fb:b=b.take j++b[j]::b.drop (j+1):=by rw[<-List.drop_eq_getElem_cons hj,List.take_append_drop]
 rw[ea,eb]
 conv=>rhs;rw[fa,fb]
 rw[List.perm_iff_count];intro z;simp only[List.count_append,List.count_cons];omega
theorem aFz {d:aD}{i j:Nat}(h:bR d=true)(hi:i<d.basic.length)(hj:j<d.others.length)(h1:iJ d i j=true)(h2:(nE d i j).2=true):bR (dW d i j)=true:=by
 obtain⟨b1,b2,b3,b4,b5,b6,b7,b8⟩:=dE h;simp only[iJ,Bool.and_eq_true] at h1;obtain⟨⟨⟨q1,q2⟩,q3⟩,q4⟩:=h1;have hb:d.basic[i]? =some (d.basic.getD i 0):=by rw[List.getD_eq_getElem?_getD,List.getElem?_eq_getElem hi];rfl
 have hf:d.others[j]? =some (d.others.getD j 0):=by rw[List.getD_eq_getElem?_getD,List.getElem?_eq_getElem hj];rfl
 refine aEI ?_ ?_ ?_ ?_ ?_ ?_
 ·simp only[dW,List.length_set,eN,List.length_map,List.length_range];exact⟨by omega,by omega,trivial⟩
 ·refine aEG ?_;have:=aIq hb hf;exact(this.trans (rF b4)).trans (by simp only[dW,List.length_append,List.length_set];exact .refl _)
 ·refine List.all_eq_true.2 fun r hr=>?_;simp only[dW,List.length_set] at hr ⊢;obtain⟨k,hk,rfl⟩:=List.mem_map.1 hr;rw[List.mem_range] at hk;have ok:=List.all_eq_true.1 q3 k (List.mem_range.2 hk);refine gW.2 ?_;unfold rH;split
  ·exact⟨aFR _ _ _ _,aHD q1⟩
  rename_i hne;rw[aA7,if_neg hne,Bool.and_eq_true] at ok;have hk' :k<d.table.length:=by omega
  have hc:d.table.getD k []=d.table[k]:=by rw[List.getD_eq_getElem?_getD,List.getElem?_eq_getElem hk'];rfl
  exact⟨by simp[cY],aEM (by rw[hc];exact b5 _ (List.getElem_mem hk')) ok.1⟩
 ·refine gW.2 ⟨by simp[dW,eU],fun x hx=>?_⟩;obtain⟨k,hk,rfl⟩:=List.mem_map.1 hx;rw[List.mem_range] at hk;have ok:=List.all_eq_true.1 q3 k (List.mem_range.2 hk);unfold sV;split
  ·exact sG q2
  rename_i hne;rw[aA7,if_neg hne,Bool.and_eq_true] at ok;exact aA5 (eY b6 hk) ok.2
 ·refine gW.2 ⟨by simp[dW,aCs,cY],?_⟩;exact aEM b7 q4
 exact aEL b8 h2
theorem aGA {d:aD}{i j:Nat}(h:bR d=true)(hi:i<d.basic.length)(hj:j<d.others.length)(h1:(dJ d i j).2=true):bR (dJ d i j).1=true/\(dJ d i j).1.basic.length=d.basic.length/\(dJ d i j).1.others.length=d.others.length:=by
 unfold dJ at*;split at h1
 ·rename_i hp;rw[if_pos hp];exact⟨aFz h hi hj hp.2.1 hp.2.2,by simp[dW],by simp[dW]⟩
 cases h1
def cH (p:aQ):aD:=⟨(List.range p.rows.length).map (fun (i:Nat)=>((p.objective.length+i:Nat):Int)),upto p.objective.length,p.rows.map (List.map aF),p.limits.map aF,p.objective.map aF,aF 0⟩
theorem dP {n:Int}(h: -99<=n/\n<=99):aJ (aF n)=true:=by
 have e:Int.gcd n 1=1:=by simp
 simp only[aJ,aF,bW,e,Bool.and_eq_true,decide_eq_true_eq,and_true];exact⟨by decide,sW (by omega) (by omega)⟩
theorem aA9 {p:aQ}(h:aW p=true):bR (cH p)=true:=by
 obtain⟨b1,b2,b3,b4,b5⟩:=cP h;refine aEI ?_ ?_ ?_ ?_ ?_ ?_
 ·simp only[cH,List.length_map,List.length_range];exact⟨by omega,by omega,trivial⟩
 ·refine List.all_eq_true.2 fun i hi=>?_;rw[List.mem_range] at hi;simp only[cH,List.length_append,List.length_map,List.length_range] at hi;refine List.any_eq_true.2 ⟨(i:Int),?_,by simp[isD]⟩;simp only[cH,List.mem_append,List.mem_map,List.mem_range];by_cases hn:i<p.objective.length
  ·exact .inr ⟨i,hn,rfl⟩
  exact .inl ⟨i - p.objective.length,by omega,by omega⟩
 ·refine List.all_eq_true.2 fun r hr=>?_;obtain⟨l,hl,rfl⟩:=List.mem_map.1 hr;have hb:=b4 l (List.mem_append_left _ hl);refine gW.2 ⟨by simp[cH,hb.1],fun x hx=>?_⟩;obtain⟨n,hn,rfl⟩:=List.mem_map.1 hx;have:=hb.2 n hn;exact dP (by omega)
 ·refine gW.2 ⟨by simp[cH,b3],fun x hx=>?_⟩;obtain⟨n,hn,rfl⟩:=List.mem_map.1 hx;have:=b5 n hn;exact dP (by omega)
 ·refine gW.2 ⟨by simp[cH],fun x hx=>?_⟩;obtain⟨n,hn,rfl⟩:=List.mem_map.1 hx;have:=(b4 p.objective (by simp)).2 n hn;exact dP (by omega)
 exact dP (by omega)
theorem aCA (p:aQ):(cH p).basic.length=p.rows.length/\(cH p).others.length=p.objective.length:=by simp[cH]
def dH (p:aQ):aD × Bool:=if aW p=true then (cH p,true) else (rI,false)
theorem rJ {p:aQ}(h:aW p=true):dH p=(cH p,true):=by rw[dH,if_pos h]
theorem aCt {p:aQ}(h:aW p=false):dH p=(rI,false):=by rw[dH,if_neg (by rw[h];decide)]
def eG:Nat->aD->aD × Bool
 | 0,_=>(rI,false)
 | f+1,d=>if cZ d<0 then (d,true) else if dT d (cZ d).toNat<0 then (rI,false) else if (dJ d (dT d (cZ d).toNat).toNat (cZ d).toNat).2=true then eG f (dJ d (dT d (cZ d).toNat).toNat (cZ d).toNat).1 else (rI,false)
theorem aAa {d:aD}{n s:Nat}(hs:s<n)(h:cZ d<0):eG (n - s) d=(d,true):=by
 rw[show n - s=(n - (s+1))+1 by omega,eG,if_pos h]
theorem aCB {d:aD}{n s:Nat}(hs:s<n)(h: ¬cZ d<0)(h2:dT d (cZ d).toNat<0):eG (n - s) d=(rI,false):=by
 rw[show n - s=(n - (s+1))+1 by omega,eG,if_neg h,if_pos h2]
theorem aCC {d:aD}{n s:Nat}(hs:s<n)(h: ¬cZ d<0)(h2: ¬dT d (cZ d).toNat<0)(h3:(dJ d (dT d (cZ d).toNat).toNat (cZ d).toNat).2=false):eG (n - s) d=(rI,false):=by
 rw[show n - s=(n - (s+1))+1 by omega,eG,if_neg h,if_neg h2,if_neg (by rw[h3];decide)]
theorem aAb {d:aD}{n s:Nat}(hs:s<n)(h: ¬cZ d<0)(h2: ¬dT d (cZ d).toNat<0)(h3:(dJ d (dT d (cZ d).toNat).toNat (cZ d).toNat).2=true):eG (n - s) d=eG (n - (s+1)) (dJ d (dT d (cZ d).toNat).toNat (cZ d).toNat).1:=by
 rw[show n - s=(n - (s+1))+1 by omega,eG,if_neg h,if_neg h2,if_pos h3]
theorem aFS {d:aD}{n s:Nat}(hs:s+1=n)(h: ¬cZ d<0):eG (n - s) d=(rI,false):=by
 rw[show n - s=0+1 by omega,eG,if_neg h];split
 ·rfl
 split<;>rfl
def fZ (d:aD)(n:Nat):Nat->List aC
 | 0=>List.replicate n (aF 0)
 | i+1=>if d.basic.getD i 0<n then (fZ d n i).set (d.basic.getD i 0).toNat (d.limits.getD i zR) else fZ d n i
def gA (d:aD)(n m:Nat):Nat->List aC
 | 0=>List.replicate m (aF 0)
 | k+1=>if (n:Int)<=d.others.getD k 0 then (gA d n m k).set (d.others.getD k 0 - n).toNat (cN (d.costs.getD k zR)) else gA d n m k
theorem wS (d:aD)(n:Nat): ∀k,(fZ d n k).length=n
 | 0=>by simp[fZ]
 | k+1=>by rw[fZ];split<;>simp[wS d n k]
theorem wU (d:aD)(n m:Nat): ∀k,(gA d n m k).length=m
 | 0=>by simp[gA]
 | k+1=>by rw[gA];split<;>simp[wU d n m k]
def aCu:fN:=⟨⟨0,0⟩,[],[]⟩
def aKa (d:aD)(n m:Nat):fN:=⟨d.value,fZ d n d.basic.length,gA d n m d.others.length⟩
def bF (p:aQ):fN × Bool:=if aW p=true/\(eG 300 (cH p)).2=true then (aKa (eG 300 (cH p)).1 p.objective.length p.rows.length,true) else (aCu,false)
theorem aGB {p:aQ}(h:aW p=false):bF p=(aCu,false):=by rw[bF,if_neg (by rw[h];simp)]
theorem oS {p:aQ}(h:eG 300 (cH p)=(rI,false)):bF p=(aCu,false):=by rw[bF,h,if_neg (by simp)]
theorem aEN {p:aQ}{d:aD}(h:aW p=true)(h2:eG 300 (cH p)=(d,true)):bF p=(aKa d p.objective.length p.rows.length,true):=by rw[bF,h2,if_pos ⟨h,rfl⟩]
abbrev aGC (l:List Int):AV × List (Nat × Rs):=(.own 0,[(0,.arr 3 1 true (l.map aI))])
abbrev aIr (l:List Int):Prop:=Cn 75 [.one (.sl 3 1 (l.map aI))] (aGC l).1 (aGC l).2
theorem cpI (l:List Int)(hl:l.length<=1048576):aIr l:=by
 refine cq Try.func75 (.app Int aI ([]:List Int) l<| .fin [(0,500)]) (p:=Lx (l.map aI)<| Ap aI ([]:List Int) l 8 ((([]:List Int)++l).map aI=l.map aI/\True)) (by kernel_rfl) ?_;refine lx fun n0=>?_;refine ap ?_;apply et1
 ·simp
theorem aHE {α:Type}{p:α->Bool}{l:List α}{k:Nat}{x:α}(h:l[k]? =some x)(hp:p x=true):l.any p=true:=List.any_eq_true.2 ⟨x,List.mem_of_getElem? h,hp⟩
theorem aHF {α:Type}{p:α->Bool}{l:List α}{k:Nat}{x:α}(h:l[k]? =some x)(ha:(l.take k).any p=false)(hp:p x=false):(l.take (k+1)).any p=false:=by
 rw[List.take_add_one,h];simp[ha,hp]
theorem aHG {α:Type}{p:α->Bool}{l:List α}{k:Nat}(hge:l.length<=k)(ha:(l.take k).any p=false):l.any p=false:=by rwa [List.take_of_length_le hge] at ha
theorem upN {p:Nat->Prop}{k:Nat}(ha: ∀i,i<k->p i)(h:p k): ∀i,i<k+1->p i:=by
 intro i hi;rcases Nat.lt_or_eq_of_le (Nat.le_of_lt_succ hi) with h' | rfl
 ·exact ha i h'
 exact h
theorem aKb {l:List Int}{n:Nat}(hn:l.length<=n)(h: ∀i,i<n->l.any (isD (i:Nat))=true):lX l=true:=List.all_eq_true.2 fun i hi=>h i (by rw[List.mem_range] at hi;omega)
theorem aKc {l:List Int}{k:Nat}(hk:k<l.length)(h:l.any (isD (k:Nat))=false):lX l=false:=by
 cases e:lX l with
 | false=>rfl
 | true=>rw[List.all_eq_true.1 e k (List.mem_range.2 hk)] at h;cases h
abbrev xM (l:List Int)(n:Int):Prop:=Cn 78 [.one (.sl 3 1 (l.map aI)),.one (.int .i64 n)] (vB (l.any (isD n))) []
theorem aHH (l:List Int)(n:Int):xM l n:=by
 refine cq Try.func78 (.loop Nat (Q1 Nat) (rg 5 13) [] (fun k=>[(5,vI (k:Int))]) (fun k=>[]) (fun k=>k<=l.length/\(l.take k).any (isD n)=false) (fun k=>l.length - k) (fun k=> .len l.length<| .br (.elem _ aI l (fun e14=> .br (.fin []) (.back []))) (.fin []))) (p:=Lx (l.map aI)<| (∃(k:Nat),0=(k:Int)/\k<=l.length/\(l.take k).any (isD n)=false)/\ ∀(k:Nat),(k<=l.length/\(l.take k).any (isD n)=false)->Lm aI l/\Br ((k:Int)<(l.length:Int)) (0<=(k:Int)/\Em aI l k fun e14=>Br (e14=n) ((true)=(l.any (isD n))/\True) (cR ((k:Int)+1)/\ ∃(k' :Nat),((k:Int)+1)=(k' :Int)/\(k' <=l.length/\(l.take k').any (isD n)=false)/\l.length - k' <l.length - k)) ((false)=(l.any (isD n))/\True)) (by kernel_rfl) ?_;refine lx fun n0=>?_;refine⟨⟨0,rfl,Nat.zero_le _,rfl⟩,fun k ⟨hk,ha⟩=>?_⟩;refine⟨List.length_map _,dd (fun c0=>?_) fun c0=>?_⟩
 ·refine aBD fun e14 h14=>?_;refine dd (fun c1=>?_) fun c1=>?_
  ·apply et1
   ·(rw[aHE h14 (decide_eq_true c1)];done)
  ·refine aBV ?_;exact⟨k+1,rfl,⟨by omega,aHF h14 ha (decide_eq_false c1)⟩,by omega⟩
 ·apply et1
  ·(rw[aHG (by omega) ha];done)
abbrev nU (l:List aC):Prop:=Cn 79 [.one (.sl 30 2 (l.map aB))] (vB (l.all aJ)) []
theorem wV (l:List aC):nU l:=by
 refine cq Try.func79 (.loop Nat (Q1 Nat) (rg 3 13) [] (fun k=>[(3,vI (k:Int))]) (fun k=>[]) (fun k=>k<=l.length/\(l.take k).all aJ=true) (fun k=>l.length - k) (fun k=> .len l.length<| .br (.elem _ aB l (fun e12=> .call (vB (aJ e12)) []<| .br (.fin []) (.back []))) (.fin []))) (p:=Lx (l.map aB)<| (∃(k:Nat),0=(k:Int)/\k<=l.length/\(l.take k).all aJ=true)/\ ∀(k:Nat),(k<=l.length/\(l.take k).all aJ=true)->Lm aB l/\Br ((k:Int)<(l.length:Int)) (0<=(k:Int)/\Em aB l k fun e12=>dN e12/\Nr (aJ e12) ((false)=(l.all aJ)/\True) (cR ((k:Int)+1)/\ ∃(k' :Nat),((k:Int)+1)=(k' :Int)/\(k' <=l.length/\(l.take k').all aJ=true)/\l.length - k' <l.length - k)) ((true)=(l.all aJ)/\True)) (by kernel_rfl) ?_;refine lx fun n0=>?_;refine⟨⟨0,rfl,Nat.zero_le _,rfl⟩,fun k ⟨hk,ha⟩=>?_⟩;refine⟨List.length_map _,dd (fun c0=>?_) fun c0=>?_⟩
 ·refine aBD fun e12 h12=>?_;refine⟨fH e12,dm (fun c1=>?_) fun c1=>?_⟩
  ·apply et1
   ·(rw[fE h12 c1];done)
  ·refine aBV ?_;exact⟨k+1,rfl,⟨by omega,gY h12 ha c1⟩,by omega⟩
 ·apply et1
  ·(rw[eZ (by omega) ha];done)
theorem lS {d:aD}(h: ¬((d.basic.length:Int)<=64/\(1<=(d.others.length:Int)/\(d.others.length:Int)<=15)/\(d.table.length:Int)=d.basic.length/\(d.limits.length:Int)=d.basic.length/\(d.costs.length:Int)=d.others.length)):bR d=false:=by
 cases e:bR d with
 | false=>rfl
 | true=>
   obtain⟨b1,b2,b3,_,_,b6,b7,_⟩:=dE e;exact absurd ⟨by omega,by omega,by omega,by omega,by omega⟩ h
theorem aHI {d:aD}(h:(d.basic.length:Int)<=64/\(1<=(d.others.length:Int)/\(d.others.length:Int)<=15)/\(d.table.length:Int)=d.basic.length)(h1:lX (d.basic++d.others)=true)(h2:d.table.all (fun r=>eX r d.others.length)=true)(h3:eX d.limits d.basic.length=true)(h4:eX d.costs d.others.length=true):bR d=aJ d.value:=by
 simp only[bR,h1,h2,h3,h4,decide_eq_true h.1,decide_eq_true h.2.1,decide_eq_true h.2.2,Bool.true_and]
abbrev pQ (d:aD):Prop:=Cn 31 [.agg [.sl 3 1 (d.basic.map aI),.sl 3 1 (d.others.map aI),.sl 31 1 (d.table.map aE),.sl 30 2 (d.limits.map aB),.sl 30 2 (d.costs.map aB),.int .i64 d.value.num,.int .i64 d.value.den]] (vB (bR d)) []
theorem aAc (d:aD)(h0:d.basic.length<=1048576)(h1:d.others.length<=1048576):pQ d:=by
 refine cq Try.func31 (.len d.basic.length<| .len d.others.length<| .br (.fin []) (.call (vB (decide (1<=(d.others.length:Int)/\(d.others.length:Int)<=15))) []<| .lit<| .lit<| .br (.fin []) (.len d.table.length<| .lit<| .lit<| .lit<| .br (.fin []) (.len d.limits.length<| .lit<| .lit<| .lit<| .br (.fin []) (.len d.costs.length<| .lit<| .lit<| .lit<| .br (.fin []) (.app Int aI ([]:List Int) d.basic<| .app Int aI (([]:List Int)++d.basic) d.others<| .loop Nat (Q1 Nat) ([6]++rg 49 11) [] (fun k=>[(6,vI (k:Int))]) (fun k=>[]) (fun k=>k<=d.basic.length+d.others.length/\(∀i,i<k->((([]:List Int)++d.basic)++d.others).any (isD (i:Nat))=true)) (fun k=>d.basic.length+d.others.length - k) (fun k=> .br (.call (vB (((([]:List Int)++d.basic)++d.others).any (isD (k:Int)))) []<| .br (.fin []) (.back [])) (.loop Nat (Q1 Nat) ([7]++rg 60 22) [] (fun j=>[(7,vI (j:Int))]) (fun j=>[]) (fun j=>j<=d.basic.length/\(d.table.take j).all (fun r=>eX r d.others.length)=true) (fun j=>d.basic.length - j) (fun j=> .br (.elem _ aE d.table (fun e68=> .len e68.length<| .br (.fin []) (.elem _ aE d.table (fun e77=> .call (vB (e77.all aJ)) []<| .lit<| .lit<| .br (.fin []) (.back []))))) (.call (vB (d.limits.all aJ)) []<| .br (.call (vB (d.costs.all aJ)) []<| .lit<| .br (.call (vB (aJ d.value)) []<| .fin []) (.fin [])) (.fin []))))))))))) (p:=Lx (d.basic.map aI)<| Lx (d.others.map aI)<| Lx (d.table.map aE)<| Lx (d.limits.map aB)<| Lx (d.costs.map aB)<| Lm aI d.basic/\(Lm aI d.others/\Br (64<(d.basic.length:Int)) ((false)=(bR d)/\True) (gE (d.others.length:Int) (1:Int) (15:Int)/\Nb (1<=(d.others.length:Int)/\(d.others.length:Int)<=15) ((false)=(bR d)/\True) (Lm aE d.table/\Nb ((d.table.length:Int)=(d.basic.length:Int)) ((false)=(bR d)/\True) (Lm aB d.limits/\Nb ((d.limits.length:Int)=(d.basic.length:Int)) ((false)=(bR d)/\True) (Lm aB d.costs/\Nb ((d.costs.length:Int)=(d.others.length:Int)) ((false)=(bR d)/\True) (Ap aI ([]:List Int) d.basic 8 (Ap aI (([]:List Int)++d.basic) d.others 8 ((∃(k:Nat),0=(k:Int)/\k<=d.basic.length+d.others.length/\(∀i,i<k->((([]:List Int)++d.basic)++d.others).any (isD (i:Nat))=true))/\ ∀(k:Nat),(k<=d.basic.length+d.others.length/\(∀i,i<k->((([]:List Int)++d.basic)++d.others).any (isD (i:Nat))=true))->cR ((d.basic.length:Int)+(d.others.length:Int))/\Br ((k:Int)<((d.basic.length:Int)+(d.others.length:Int))) (xM ((([]:List Int)++d.basic)++d.others) (k:Int)/\Nr (((([]:List Int)++d.basic)++d.others).any (isD (k:Int))) ((false)=(bR d)/\True) (cR ((k:Int)+1)/\ ∃(k' :Nat),((k:Int)+1)=(k' :Int)/\(k' <=d.basic.length+d.others.length/\(∀i,i<k' ->((([]:List Int)++d.basic)++d.others).any (isD (i:Nat))=true))/\d.basic.length+d.others.length - k' <d.basic.length+d.others.length - k)) ((∃(j:Nat),0=(j:Int)/\j<=d.basic.length/\(d.table.take j).all (fun r=>eX r d.others.length)=true)/\ ∀(j:Nat),(j<=d.basic.length/\(d.table.take j).all (fun r=>eX r d.others.length)=true)->Br ((j:Int)<(d.basic.length:Int)) (0<=(j:Int)/\Em aE d.table j fun e68=>Lm aB e68/\Nb ((e68.length:Int)=(d.others.length:Int)) ((false)=(bR d)/\True) (0<=(j:Int)/\Em aE d.table j fun e77=>nU e77/\Nr (e77.all aJ) ((false)=(bR d)/\True) (cR ((j:Int)+1)/\ ∃(j' :Nat),((j:Int)+1)=(j' :Int)/\(j' <=d.basic.length/\(d.table.take j').all (fun r=>eX r d.others.length)=true)/\d.basic.length - j' <d.basic.length - j))) (nU d.limits/\Bb (d.limits.all aJ) (nU d.costs/\Bb (d.costs.all aJ) (dN d.value/\(aJ d.value)=(bR d)/\True) ((false)=(bR d)/\True)) ((false)=(bR d)/\True)))))))))))) (by kernel_rfl) ?_;refine lx fun n0=>lx fun n1=>lx fun n2=>lx fun n3=>lx fun n4=>?_;refine⟨List.length_map _,List.length_map _,dd (fun g16=>?_) fun g16=>?_⟩
 ·apply et1
  ·(exact(lS (by omega)).symm)
 ·refine⟨lB _ _ _,dn (fun g21=>?_) fun g21=>?_⟩
  ·apply et1
   ·(exact(lS (by omega)).symm)
  ·refine⟨List.length_map _,dn (fun g28=>?_) fun g28=>?_⟩
   ·apply et1
    ·(exact(lS (by omega)).symm)
   ·refine⟨List.length_map _,dn (fun g35=>?_) fun g35=>?_⟩
    ·apply et1
     ·(exact(lS (by omega)).symm)
    ·refine⟨List.length_map _,dn (fun c0=>?_) fun c0=>?_⟩
     ·apply et1
      ·(exact(lS (by omega)).symm)
     ·refine ap ?_;refine ap ?_;refine⟨⟨0,rfl,Nat.zero_le _,fun i h=>absurd h (Nat.not_lt_zero _)⟩,fun k ⟨hk,ha⟩=>?_⟩;refine⟨⟨by omega,by omega⟩,dd (fun c1=>?_) fun c1=>?_⟩
      ·refine⟨aHH ((([]:List Int)++d.basic)++d.others) (k:Int),dm (fun c2=>?_) fun c2=>?_⟩
       ·apply et1
        ·(exact(aFN (aKc (k:=k) (by simp;omega) c2)).symm)
       ·refine aBV ?_;exact⟨k+1,rfl,⟨by omega,upN (p:=fun i=>((([]:List Int)++d.basic)++d.others).any (isD (i:Nat))=true) ha c2⟩,by omega⟩
      ·have hp:lX (d.basic++d.others)=true:=aKb (n:=k) (by simp;omega) ha;refine⟨⟨0,rfl,Nat.zero_le _,rfl⟩,fun j ⟨hj,hb⟩=>?_⟩;refine dd (fun c3=>?_) fun c3=>?_
       ·refine aBD fun e68 h68=>?_;refine⟨List.length_map _,dn (fun g73=>?_) fun g73=>?_⟩
        ·apply et1
         ·(exact(aA6 h68 (aFP (by omega))).symm)
        ·refine aBD fun e77 h77=>?_;obtain rfl:=(fS h68 h77).symm;refine⟨wV _,dm (fun c4=>?_) fun c4=>?_⟩
         ·apply et1
          ·(exact(aA6 h68 (tR c4)).symm)
         ·refine aBV ?_;exact⟨j+1,rfl,⟨by omega,gY h68 hb (wP g73 c4)⟩,by omega⟩
       ·have hcl:=eZ (by omega) hb;refine⟨wV _,db (fun g85=>?_) fun g85=>?_⟩
        ·refine⟨wV _,db (fun g90=>?_) fun g90=>?_⟩
         ·refine⟨fH d.value,?_,trivial⟩
          ·(exact(aHI (by omega) hp hcl (wP (by omega) g85) (wP (by omega) g90)).symm)
         ·apply et1
          ·(exact(aEH (tR g90)).symm)
        ·apply et1
         ·(exact(aFO (tR g85)).symm)
theorem aEO {d:aD}{k:Nat}{b:Int}{x:aC}(hb:b=gH d k)(hx:d.costs[k]? =some x)(h: ¬0<x.num):b=gH d (k+1):=aFw hb (by rw[rG,aP hx,decide_eq_false h];rfl)
theorem aEP {d:aD}{k:Nat}{b:Int}{x:aC}(hb:b=gH d k)(hx:d.costs[k]? =some x)(h:0<x.num)(h2:b<0):(k:Int)=gH d (k+1):=aEJ hb (by rw[rG,aP hx,decide_eq_true h,decide_eq_true h2];rfl)
theorem aCD {d:aD}{k:Nat}{b y z:Int}{x:aC}(hb:b=gH d k)(hx:d.costs[k]? =some x)(h:0<x.num)(hy:d.others[k]? =some y)(hz:d.others[b.toNat]? =some z)(h2:y<z):(k:Int)=gH d (k+1):=aEJ hb (by rw[rG,aP hx,aP hy,aP hz,decide_eq_true h,decide_eq_true h2,Bool.or_true];rfl)
theorem aEQ {d:aD}{k:Nat}{b y z:Int}{x:aC}(hb:b=gH d k)(hx:d.costs[k]? =some x)(h1: ¬b<0)(hy:d.others[k]? =some y)(hz:d.others[b.toNat]? =some z)(h2: ¬y<z):b=gH d (k+1):=aFw hb (by rw[rG,aP hx,aP hy,aP hz,decide_eq_false h1,decide_eq_false h2,Bool.or_false,Bool.and_false])
theorem aKd {d:aD}(h:bR d=false):gN d= -1:=by rw[gN,if_neg (by rw[h];decide)]
theorem aER {d:aD}(h:bR d=true):gN d=cZ d:=by rw[gN,if_pos h]
theorem aGD {d:aD}{k:Nat}{b:Int}(hb:b=gH d k)(h:d.others.length=k):cZ d=b:=by rw[cZ,h,hb]
abbrev tS (d:aD):Prop:=Cn 40 [.agg [.sl 3 1 (d.basic.map aI),.sl 3 1 (d.others.map aI),.sl 31 1 (d.table.map aE),.sl 30 2 (d.limits.map aB),.sl 30 2 (d.costs.map aB),.int .i64 d.value.num,.int .i64 d.value.den]] (vI (cZ d)) []
theorem aES (d:aD)(hd:bR d=true):tS d:=by
 refine cq Try.func40 (.len d.costs.length<| .loop (Nat × Int) (Q2 Nat Int) ([3,4,5]++rg 9 27) [500] (fun yy0=>[(9,vI (yy0.1:Int)),(3,vI yy0.2)]) (fun yy0=>[]) (fun yy0=>yy0.1<=d.others.length/\yy0.2=gH d yy0.1) (fun yy0=>d.others.length - yy0.1) (fun yy0=> .br (.elem _ aB d.costs (fun e12=> .br (.lit<| .lit<| .br (.back []) (.elem _ aI d.others (fun e24=> .elem _ aI d.others (fun e29=> .lit<| .lit<| .lit<| .lit<| .lit<| .br (.back []) (.back []))))) (.back []))) (.fin []))) (p:=Lx (d.basic.map aI)<| Lx (d.others.map aI)<| Lx (d.table.map aE)<| Lx (d.limits.map aB)<| Lx (d.costs.map aB)<| Lm aB d.costs/\((∃(k:Nat) (b:Int),0=(k:Int)/\(-1:Int)=b/\k<=d.others.length/\b=gH d k)/\ ∀(k:Nat) (b:Int),(k<=d.others.length/\b=gH d k)->Br ((k:Int)<(d.costs.length:Int)) (0<=(k:Int)/\Em aB d.costs k fun e12=>Br (0<e12.num) (Br (b<0) (cR ((k:Int)+1)/\ ∃(k' :Nat) (b' :Int),((k:Int)+1)=(k' :Int)/\(k:Int)=b' /\(k' <=d.others.length/\b' =gH d k')/\d.others.length - k' <d.others.length - k) (0<=(k:Int)/\Em aI d.others k fun e24=>0<=b/\Em aI d.others ((b).toNat) fun e29=>Br (e24<e29) (cR ((k:Int)+1)/\ ∃(k' :Nat) (b' :Int),((k:Int)+1)=(k' :Int)/\(k:Int)=b' /\(k' <=d.others.length/\b' =gH d k')/\d.others.length - k' <d.others.length - k) (cR ((k:Int)+1)/\ ∃(k' :Nat) (b' :Int),((k:Int)+1)=(k' :Int)/\b=b' /\(k' <=d.others.length/\b' =gH d k')/\d.others.length - k' <d.others.length - k))) (cR ((k:Int)+1)/\ ∃(k' :Nat) (b' :Int),((k:Int)+1)=(k' :Int)/\b=b' /\(k' <=d.others.length/\b' =gH d k')/\d.others.length - k' <d.others.length - k)) (b=(cZ d)/\True))) (by kernel_rfl) ?_;refine lx fun n0=>lx fun n1=>lx fun n2=>lx fun n3=>lx fun n4=>?_;obtain⟨b1,b2,b3,b4,b5,b6,b7,b8⟩:=dE hd;refine⟨List.length_map _,⟨0,-1,rfl,rfl,Nat.zero_le _,rfl⟩,fun k b ⟨hk,hb⟩=>?_⟩;refine dd (fun c0=>?_) fun c0=>?_
 ·have eb:=oR d k;refine aBD fun e12 h12=>?_;refine dd (fun g17=>?_) fun g17=>?_
  ·refine dd (fun g20=>?_) fun g20=>?_
   ·refine aBV ?_;exact⟨k+1,(k:Int),rfl,rfl,⟨by omega,by exact aEP hb h12 g17 g20⟩,by omega⟩
   ·refine aBD fun e24 h24=>?_;refine aBD fun e29 h29=>?_;refine dd (fun c1=>?_) fun c1=>?_
    ·refine aBV ?_;exact⟨k+1,(k:Int),rfl,rfl,⟨by omega,by exact aCD hb h12 g17 h24 h29 c1⟩,by omega⟩
    ·refine aBV ?_;exact⟨k+1,b,rfl,rfl,⟨by omega,by exact aEQ hb h12 g20 h24 h29 c1⟩,by omega⟩
  ·refine aBV ?_;exact⟨k+1,b,rfl,rfl,⟨by omega,by exact aEO hb h12 g17⟩,by omega⟩
 ·apply et1
  ·(rw[aGD hb (by omega)];done)
abbrev aAd (d:aD):Prop:=Cn 33 [.agg [.sl 3 1 (d.basic.map aI),.sl 3 1 (d.others.map aI),.sl 31 1 (d.table.map aE),.sl 30 2 (d.limits.map aB),.sl 30 2 (d.costs.map aB),.int .i64 d.value.num,.int .i64 d.value.den]] (vI (gN d)) []
theorem aIs (d:aD)(h0:d.basic.length<=1048576)(h1:d.others.length<=1048576):aAd d:=by
 refine cq Try.func33 (.call (vB (bR d)) []<| .br (.fin []) (.loop (Nat × Int) (Q2 Nat Int) ([3,4]++rg 8 32) [] (fun yy0=>[(4,vI (yy0.1:Int)),(3,vI yy0.2)]) (fun yy0=>[]) (fun yy0=>yy0.1<=d.others.length/\yy0.2=gH d yy0.1) (fun yy0=>d.others.length - yy0.1) (fun yy0=> .len d.others.length<| .br (.elem _ aB d.costs (fun e18=> .br (.lit<| .lit<| .br (.back []) (.elem _ aI d.others (fun e29=> .elem _ aI d.others (fun e34=> .lit<| .lit<| .lit<| .lit<| .lit<| .br (.back []) (.back []))))) (.back []))) (.fin [])))) (p:=Lx (d.basic.map aI)<| Lx (d.others.map aI)<| Lx (d.table.map aE)<| Lx (d.limits.map aB)<| Lx (d.costs.map aB)<| pQ d/\Nr (bR d) ((-1:Int)=(gN d)/\True) ((∃(k:Nat) (b:Int),0=(k:Int)/\(-1:Int)=b/\k<=d.others.length/\b=gH d k)/\ ∀(k:Nat) (b:Int),(k<=d.others.length/\b=gH d k)->Lm aI d.others/\Br ((k:Int)<(d.others.length:Int)) (0<=(k:Int)/\Em aB d.costs k fun e18=>Br (0<e18.num) (Br (b<0) (cR ((k:Int)+1)/\ ∃(k' :Nat) (b' :Int),((k:Int)+1)=(k' :Int)/\(k:Int)=b' /\(k' <=d.others.length/\b' =gH d k')/\d.others.length - k' <d.others.length - k) (0<=(k:Int)/\Em aI d.others k fun e29=>0<=b/\Em aI d.others ((b).toNat) fun e34=>Br (e29<e34) (cR ((k:Int)+1)/\ ∃(k' :Nat) (b' :Int),((k:Int)+1)=(k' :Int)/\(k:Int)=b' /\(k' <=d.others.length/\b' =gH d k')/\d.others.length - k' <d.others.length - k) (cR ((k:Int)+1)/\ ∃(k' :Nat) (b' :Int),((k:Int)+1)=(k' :Int)/\b=b' /\(k' <=d.others.length/\b' =gH d k')/\d.others.length - k' <d.others.length - k))) (cR ((k:Int)+1)/\ ∃(k' :Nat) (b' :Int),((k:Int)+1)=(k' :Int)/\b=b' /\(k' <=d.others.length/\b' =gH d k')/\d.others.length - k' <d.others.length - k)) (b=(gN d)/\True))) (by kernel_rfl) ?_;refine lx fun n0=>lx fun n1=>lx fun n2=>lx fun n3=>lx fun n4=>?_;refine⟨aAc d (by omega) (by omega),dm (fun c0=>?_) fun c0=>?_⟩
 ·apply et1
  ·(rw[aKd c0];done)
 ·have hd:bR d=true:=c0;obtain⟨b1,b2,b3,b4,b5,b6,b7,b8⟩:=dE hd;refine⟨⟨0,-1,rfl,rfl,Nat.zero_le _,rfl⟩,fun k b ⟨hk,hb⟩=>?_⟩;refine⟨List.length_map _,dd (fun c1=>?_) fun c1=>?_⟩
  ·have eb:=oR d k;refine aBD fun e18 h18=>?_;refine dd (fun g22=>?_) fun g22=>?_
   ·refine dd (fun g25=>?_) fun g25=>?_
    ·refine aBV ?_;exact⟨k+1,(k:Int),rfl,rfl,⟨by omega,by exact aEP hb h18 g22 g25⟩,by omega⟩
    ·refine aBD fun e29 h29=>?_;refine aBD fun e34 h34=>?_;refine dd (fun c2=>?_) fun c2=>?_
     ·refine aBV ?_;exact⟨k+1,(k:Int),rfl,rfl,⟨by omega,by exact aCD hb h18 g22 h29 h34 c2⟩,by omega⟩
     ·refine aBV ?_;exact⟨k+1,b,rfl,rfl,⟨by omega,by exact aEQ hb h18 g25 h29 h34 c2⟩,by omega⟩
   ·refine aBV ?_;exact⟨k+1,b,rfl,rfl,⟨by omega,by exact aEO hb h18 g22⟩,by omega⟩
  ·apply et1
   ·(rw[aER c0,aGD hb (by omega)];done)
theorem eW {d:aD}{i j:Nat}{r:List aC}{x:aC}(hr:d.table[i]? =some r)(hx:r[j]? =some x):dF d i j=x:=by rw[dF,aP hr,aP hx]
theorem aET {d:aD}{j n k:Nat}{b:Int}{l x:aC}{r:List aC}(hk:k<n)(hr:d.table[k]? =some r)(hx:r[j]? =some x)(h:x.num<=0):cU d j (n - k) k b l=cU d j (n - (k+1)) (k+1) b l:=aFQ hk (by rw[eW hr hx];exact h)
theorem aGE {d:aD}{j n k:Nat}{b:Int}{l x m:aC}{r:List aC}(hk:k<n)(hr:d.table[k]? =some r)(hx:r[j]? =some x)(h: ¬x.num<=0)(hm:d.limits[k]? =some m)(h2:(aR m x).2=false):cU d j (n - k) k b l= -1:=aHA hk (by rw[eW hr hx];exact h) (by rw[eW hr hx,aP hm];exact h2)
theorem sH {d:aD}{j n k:Nat}{b:Int}{l x m:aC}{r:List aC}(hk:k<n)(hr:d.table[k]? =some r)(hx:r[j]? =some x)(h: ¬x.num<=0)(hm:d.limits[k]? =some m)(h2:(aR m x).2=true)(h3:iI d b (bK (aR m x).1 l) k=true):cU d j (n - k) k b l=cU d j (n - (k+1)) (k+1) (k:Int) (aR m x).1:=by
 have e:=aHB (d:=d) (j:=j) (b:=b) (l:=l) hk (by rw[eW hr hx];exact h) (by rw[eW hr hx,aP hm];exact h2) (by rw[eW hr hx,aP hm];exact h3);rw[e,eW hr hx,aP hm]
theorem aCv {d:aD}{j n k:Nat}{b:Int}{l x m:aC}{r:List aC}(hk:k<n)(hr:d.table[k]? =some r)(hx:r[j]? =some x)(h: ¬x.num<=0)(hm:d.limits[k]? =some m)(h2:(aR m x).2=true)(h3:iI d b (bK (aR m x).1 l) k=false):cU d j (n - k) k b l=cU d j (n - (k+1)) (k+1) b l:=aIp hk (by rw[eW hr hx];exact h) (by rw[eW hr hx,aP hm];exact h2) (by rw[eW hr hx,aP hm];exact h3)
theorem aLD {d:aD}{b c:Int}{k:Nat}(h:b<0):iI d b c k=true:=by rw[iI,decide_eq_true h];rfl
theorem aLE {d:aD}{b c:Int}{k:Nat}(h:c<0):iI d b c k=true:=by rw[iI,decide_eq_true h];simp
theorem aLF {d:aD}{b c y z:Int}{k:Nat}(h:c=0)(hy:d.basic[k]? =some y)(hz:d.basic[b.toNat]? =some z)(h2:y<z):iI d b c k=true:=by rw[iI,decide_eq_true h,aP hy,aP hz,decide_eq_true h2];simp
theorem aLG {d:aD}{b c:Int}{k:Nat}(h: ¬b<0)(h1: ¬c<0)(h2: ¬c=0):iI d b c k=false:=by rw[iI,decide_eq_false h,decide_eq_false h1,decide_eq_false h2];rfl
theorem aLH {d:aD}{b c y z:Int}{k:Nat}(h: ¬b<0)(h1: ¬c<0)(hy:d.basic[k]? =some y)(hz:d.basic[b.toNat]? =some z)(h2: ¬y<z):iI d b c k=false:=by rw[iI,decide_eq_false h,decide_eq_false h1,aP hy,aP hz,decide_eq_false h2];simp
theorem aCE {d:aD}{j k:Nat}{b:Int}{l:aC}(h:d.basic.length<=k)(hv:cU d j (d.basic.length - k) k b l=dT d j):dT d j=b:=by rw[<-hv,Nat.sub_eq_zero_of_le h,cU]
theorem aAe {d:aD}{j:Int}(h:bR d=true)(hj:0<=j/\j<d.others.length):kX d j=dT d j.toNat:=by rw[kX,if_pos ⟨h,hj⟩]
theorem aKe {d:aD}{j:Int}(h:bR d=false):kX d j= -1:=by rw[kX,if_neg (by rw[h];simp)]
theorem aIt {d:aD}{j:Int}(h: ¬(0<=j/\j<d.others.length)):kX d j= -1:=by rw[kX,if_neg (fun q=>h q.2)]
abbrev aAf (d:aD)(j:Int):Prop:=Cn 41 [.agg [.sl 3 1 (d.basic.map aI),.sl 3 1 (d.others.map aI),.sl 31 1 (d.table.map aE),.sl 30 2 (d.limits.map aB),.sl 30 2 (d.costs.map aB),.int .i64 d.value.num,.int .i64 d.value.den],.one (.int .i64 j)] (vI (dT d j.toNat)) []
theorem aIu (d:aD)(j:Int)(hd:bR d=true)(hj:0<=j/\j<d.others.length):aAf d j:=by
 refine cq Try.func41 (.len d.basic.length<| .loop (Nat × Int × Int × Int) (Q4 Nat Int Int Int) ([5,7,8,9,10]++rg 15 61) [600,800] (fun yy0=>[(15,vI (yy0.1:Int)),(5,vI yy0.2.1)]) (fun yy0=>[(600,some (.box 30 [vI yy0.2.2.1,vI yy0.2.2.2]))]) (fun yy0=>yy0.1<=d.basic.length/\(-1<=yy0.2.1/\yy0.2.1<yy0.1)/\cU d j.toNat (d.basic.length - yy0.1) yy0.1 yy0.2.1 ⟨yy0.2.2.1,yy0.2.2.2⟩=dT d j.toNat) (fun yy0=>d.basic.length - yy0.1) (fun yy0=> .br (.elem _ aE d.table (fun e21=> .elem _ aB e21 (fun e24=> .br (.back [(600,600)]) (.elem _ aB d.limits (fun e32=> .elem _ aE d.table (fun e37=> .elem _ aB e37 (fun e40=>bX (pL e32 e40)<| .br (.fin []) (.call (vI (bK ((aR e32 e40).1) (⟨yy0.2.2.1,yy0.2.2.2⟩:aC))) []<| .br (.back [(600,600)]) (.lit<| .lit<| .br (.back [(600,600)]) (.lit<| .lit<| .br (.elem _ aI d.basic (fun e63=> .elem _ aI d.basic (fun e68=> .lit<| .lit<| .lit<| .lit<| .lit<| .br (.back [(600,600)]) (.back [(600,600)])))) (.back [(600,600)]))))))))))) (.fin []))) (p:=Lx (d.basic.map aI)<| Lx (d.others.map aI)<| Lx (d.table.map aE)<| Lx (d.limits.map aB)<| Lx (d.costs.map aB)<| Lm aI d.basic/\((∃(k:Nat) (b:Int) (ln:Int) (ld:Int),0=(k:Int)/\(-1:Int)=b/\0=ln/\0=ld/\k<=d.basic.length/\(-1<=b/\b<k)/\cU d j.toNat (d.basic.length - k) k b ⟨ln,ld⟩=dT d j.toNat)/\ ∀(k:Nat) (b:Int) (ln:Int) (ld:Int),(k<=d.basic.length/\(-1<=b/\b<k)/\cU d j.toNat (d.basic.length - k) k b ⟨ln,ld⟩=dT d j.toNat)->Br ((k:Int)<(d.basic.length:Int)) (0<=(k:Int)/\Em aE d.table k fun e21=>0<=j/\Em aB e21 ((j).toNat) fun e24=>Br (e24.num<=0) (cR ((k:Int)+1)/\ ∃(k' :Nat) (b' :Int) (ln' :Int) (ld' :Int),((k:Int)+1)=(k' :Int)/\b=b' /\ln=ln' /\ld=ld' /\(k' <=d.basic.length/\(-1<=b' /\b' <k')/\cU d j.toNat (d.basic.length - k') k' b' ⟨ln',ld'⟩=dT d j.toNat)/\d.basic.length - k' <d.basic.length - k) (0<=(k:Int)/\Em aB d.limits k fun e32=>0<=(k:Int)/\Em aE d.table k fun e37=>0<=j/\Em aB e37 ((j).toNat) fun e40=>tM e32 e40/\Nr ((aR e32 e40).2) ((-1:Int)=(dT d j.toNat)/\True) (pN ((aR e32 e40).1) (⟨ln,ld⟩:aC)/\Br (b<0) (cR ((k:Int)+1)/\ ∃(k' :Nat) (b' :Int) (ln' :Int) (ld' :Int),((k:Int)+1)=(k' :Int)/\(k:Int)=b' /\((aR e32 e40).1.num)=ln' /\((aR e32 e40).1.den)=ld' /\(k' <=d.basic.length/\(-1<=b' /\b' <k')/\cU d j.toNat (d.basic.length - k') k' b' ⟨ln',ld'⟩=dT d j.toNat)/\d.basic.length - k' <d.basic.length - k) (Br ((bK ((aR e32 e40).1) (⟨ln,ld⟩:aC))<0) (cR ((k:Int)+1)/\ ∃(k' :Nat) (b' :Int) (ln' :Int) (ld' :Int),((k:Int)+1)=(k' :Int)/\(k:Int)=b' /\((aR e32 e40).1.num)=ln' /\((aR e32 e40).1.den)=ld' /\(k' <=d.basic.length/\(-1<=b' /\b' <k')/\cU d j.toNat (d.basic.length - k') k' b' ⟨ln',ld'⟩=dT d j.toNat)/\d.basic.length - k' <d.basic.length - k) (Br ((bK ((aR e32 e40).1) (⟨ln,ld⟩:aC))=0) (0<=(k:Int)/\Em aI d.basic k fun e63=>0<=b/\Em aI d.basic ((b).toNat) fun e68=>Br (e63<e68) (cR ((k:Int)+1)/\ ∃(k' :Nat) (b' :Int) (ln' :Int) (ld' :Int),((k:Int)+1)=(k' :Int)/\(k:Int)=b' /\((aR e32 e40).1.num)=ln' /\((aR e32 e40).1.den)=ld' /\(k' <=d.basic.length/\(-1<=b' /\b' <k')/\cU d j.toNat (d.basic.length - k') k' b' ⟨ln',ld'⟩=dT d j.toNat)/\d.basic.length - k' <d.basic.length - k) (cR ((k:Int)+1)/\ ∃(k' :Nat) (b' :Int) (ln' :Int) (ld' :Int),((k:Int)+1)=(k' :Int)/\b=b' /\ln=ln' /\ld=ld' /\(k' <=d.basic.length/\(-1<=b' /\b' <k')/\cU d j.toNat (d.basic.length - k') k' b' ⟨ln',ld'⟩=dT d j.toNat)/\d.basic.length - k' <d.basic.length - k)) (cR ((k:Int)+1)/\ ∃(k' :Nat) (b' :Int) (ln' :Int) (ld' :Int),((k:Int)+1)=(k' :Int)/\b=b' /\ln=ln' /\ld=ld' /\(k' <=d.basic.length/\(-1<=b' /\b' <k')/\cU d j.toNat (d.basic.length - k') k' b' ⟨ln',ld'⟩=dT d j.toNat)/\d.basic.length - k' <d.basic.length - k)))))) (b=(dT d j.toNat)/\True))) (by kernel_rfl) ?_;refine lx fun n0=>lx fun n1=>lx fun n2=>lx fun n3=>lx fun n4=>?_;obtain⟨b1,b2,b3,b4,b5,b6,b7,b8⟩:=dE hd;refine⟨List.length_map _,⟨0,-1,0,0,rfl,rfl,rfl,rfl,Nat.zero_le _,by omega,rfl⟩,fun k b ln ld ⟨hk,hb,hv⟩=>?_⟩;refine dd (fun c0=>?_) fun c0=>?_
 ·refine aBD fun e21 h21=>?_;have hrl:=(b5 _ (List.mem_of_getElem? h21)).1;refine aBD fun e24 h24=>?_;refine dd (fun c1=>?_) fun c1=>?_
  ·refine aBV ?_;exact⟨k+1,b,ln,ld,rfl,rfl,rfl,rfl,⟨by omega,by omega,by exact(aET (by omega) h21 h24 c1).symm.trans hv⟩,by omega⟩
  ·refine aBD fun e32 h32=>?_;refine aBD fun e37 h37=>?_;obtain rfl:=fS h21 h37;refine aBD fun e40 h40=>?_;obtain rfl:=fS h24 h40;refine⟨aEB e32 e40,dm (fun c2=>?_) fun c2=>?_⟩
   ·apply et1
    ·(rw[<-hv,aGE (by omega) h21 h24 c1 h32 c2];done)
   ·refine⟨aA2 ((aR e32 e40).1) (⟨ln,ld⟩:aC),dd (fun g52=>?_) fun g52=>?_⟩
    ·refine aBV ?_;exact⟨k+1,(k:Int),(aR e32 e40).1.num,(aR e32 e40).1.den,rfl,rfl,rfl,rfl,⟨by omega,by omega,by exact(sH (by omega) h21 h24 c1 h32 c2 (aLD g52)).symm.trans hv⟩,by omega⟩
    ·refine dd (fun g56=>?_) fun g56=>?_
     ·refine aBV ?_;exact⟨k+1,(k:Int),(aR e32 e40).1.num,(aR e32 e40).1.den,rfl,rfl,rfl,rfl,⟨by omega,by omega,by exact(sH (by omega) h21 h24 c1 h32 c2 (aLE g56)).symm.trans hv⟩,by omega⟩
     ·refine dd (fun g59=>?_) fun g59=>?_
      ·refine aBD fun e63 h63=>?_;refine aBD fun e68 h68=>?_;refine dd (fun c3=>?_) fun c3=>?_
       ·refine aBV ?_;exact⟨k+1,(k:Int),(aR e32 e40).1.num,(aR e32 e40).1.den,rfl,rfl,rfl,rfl,⟨by omega,by omega,by exact(sH (by omega) h21 h24 c1 h32 c2 (aLF g59 h63 h68 c3)).symm.trans hv⟩,by omega⟩
       ·refine aBV ?_;exact⟨k+1,b,ln,ld,rfl,rfl,rfl,rfl,⟨by omega,by omega,by exact(aCv (by omega) h21 h24 c1 h32 c2 (aLH g52 g56 h63 h68 c3)).symm.trans hv⟩,by omega⟩
      ·refine aBV ?_;exact⟨k+1,b,ln,ld,rfl,rfl,rfl,rfl,⟨by omega,by omega,by exact(aCv (by omega) h21 h24 c1 h32 c2 (aLG g52 g56 g59)).symm.trans hv⟩,by omega⟩
 ·apply et1
  ·(rw[aCE (by omega) hv];done)
abbrev aAg (d:aD)(j:Int):Prop:=Cn 35 [.agg [.sl 3 1 (d.basic.map aI),.sl 3 1 (d.others.map aI),.sl 31 1 (d.table.map aE),.sl 30 2 (d.limits.map aB),.sl 30 2 (d.costs.map aB),.int .i64 d.value.num,.int .i64 d.value.den],.one (.int .i64 j)] (vI (kX d j)) []
theorem aIv (d:aD)(j:Int)(h0:d.basic.length<=1048576)(h1:d.others.length<=1048576):aAg d j:=by
 refine cq Try.func35 (.call (vB (bR d)) []<| .br (.fin []) (.len d.others.length<| .call (vB (decide (0<=j/\j<=((d.others.length:Int) - 1)))) []<| .lit<| .lit<| .br (.fin []) (.loop (Nat × Int × Int × Int) (Q4 Nat Int Int Int) ([5,7,8,9,10]++rg 24 64) [600,800] (fun yy0=>[(7,vI (yy0.1:Int)),(5,vI yy0.2.1)]) (fun yy0=>[(600,some (.box 30 [vI yy0.2.2.1,vI yy0.2.2.2]))]) (fun yy0=>yy0.1<=d.basic.length/\(-1<=yy0.2.1/\yy0.2.1<yy0.1)/\cU d j.toNat (d.basic.length - yy0.1) yy0.1 yy0.2.1 ⟨yy0.2.2.1,yy0.2.2.2⟩=dT d j.toNat) (fun yy0=>d.basic.length - yy0.1) (fun yy0=> .len d.basic.length<| .br (.elem _ aE d.table (fun e34=> .elem _ aB e34 (fun e37=> .br (.back [(600,600)]) (.elem _ aB d.limits (fun e45=> .elem _ aE d.table (fun e50=> .elem _ aB e50 (fun e53=>bX (kU e45 e53)<| .br (.fin []) (.call (vI (bK ((aR e45 e53).1) (⟨yy0.2.2.1,yy0.2.2.2⟩:aC))) []<| .br (.back [(600,600)]) (.lit<| .lit<| .br (.back [(600,600)]) (.lit<| .lit<| .br (.elem _ aI d.basic (fun e76=> .elem _ aI d.basic (fun e81=> .lit<| .lit<| .lit<| .lit<| .lit<| .br (.back [(600,600)]) (.back [(600,600)])))) (.back [(600,600)]))))))))))) (.fin []))))) (p:=Lx (d.basic.map aI)<| Lx (d.others.map aI)<| Lx (d.table.map aE)<| Lx (d.limits.map aB)<| Lx (d.costs.map aB)<| pQ d/\Nr (bR d) ((-1:Int)=(kX d j)/\True) (Lm aI d.others/\(cR ((d.others.length:Int) - 1)/\(gE j (0:Int) ((d.others.length:Int) - 1)/\Nb (0<=j/\j<=((d.others.length:Int) - 1)) ((-1:Int)=(kX d j)/\True) ((∃(k:Nat) (b:Int) (ln:Int) (ld:Int),0=(k:Int)/\(-1:Int)=b/\0=ln/\0=ld/\k<=d.basic.length/\(-1<=b/\b<k)/\cU d j.toNat (d.basic.length - k) k b ⟨ln,ld⟩=dT d j.toNat)/\ ∀(k:Nat) (b:Int) (ln:Int) (ld:Int),(k<=d.basic.length/\(-1<=b/\b<k)/\cU d j.toNat (d.basic.length - k) k b ⟨ln,ld⟩=dT d j.toNat)->Lm aI d.basic/\Br ((k:Int)<(d.basic.length:Int)) (0<=(k:Int)/\Em aE d.table k fun e34=>0<=j/\Em aB e34 ((j).toNat) fun e37=>Br (e37.num<=0) (cR ((k:Int)+1)/\ ∃(k' :Nat) (b' :Int) (ln' :Int) (ld' :Int),((k:Int)+1)=(k' :Int)/\b=b' /\ln=ln' /\ld=ld' /\(k' <=d.basic.length/\(-1<=b' /\b' <k')/\cU d j.toNat (d.basic.length - k') k' b' ⟨ln',ld'⟩=dT d j.toNat)/\d.basic.length - k' <d.basic.length - k) (0<=(k:Int)/\Em aB d.limits k fun e45=>0<=(k:Int)/\Em aE d.table k fun e50=>0<=j/\Em aB e50 ((j).toNat) fun e53=>nC e45 e53/\Nr ((aR e45 e53).2) ((-1:Int)=(kX d j)/\True) (eC ((aR e45 e53).1) (⟨ln,ld⟩:aC)/\Br (b<0) (cR ((k:Int)+1)/\ ∃(k' :Nat) (b' :Int) (ln' :Int) (ld' :Int),((k:Int)+1)=(k' :Int)/\(k:Int)=b' /\((aR e45 e53).1.num)=ln' /\((aR e45 e53).1.den)=ld' /\(k' <=d.basic.length/\(-1<=b' /\b' <k')/\cU d j.toNat (d.basic.length - k') k' b' ⟨ln',ld'⟩=dT d j.toNat)/\d.basic.length - k' <d.basic.length - k) (Br ((bK ((aR e45 e53).1) (⟨ln,ld⟩:aC))<0) (cR ((k:Int)+1)/\ ∃(k' :Nat) (b' :Int) (ln' :Int) (ld' :Int),((k:Int)+1)=(k' :Int)/\(k:Int)=b' /\((aR e45 e53).1.num)=ln' /\((aR e45 e53).1.den)=ld' /\(k' <=d.basic.length/\(-1<=b' /\b' <k')/\cU d j.toNat (d.basic.length - k') k' b' ⟨ln',ld'⟩=dT d j.toNat)/\d.basic.length - k' <d.basic.length - k) (Br ((bK ((aR e45 e53).1) (⟨ln,ld⟩:aC))=0) (0<=(k:Int)/\Em aI d.basic k fun e76=>0<=b/\Em aI d.basic ((b).toNat) fun e81=>Br (e76<e81) (cR ((k:Int)+1)/\ ∃(k' :Nat) (b' :Int) (ln' :Int) (ld' :Int),((k:Int)+1)=(k' :Int)/\(k:Int)=b' /\((aR e45 e53).1.num)=ln' /\((aR e45 e53).1.den)=ld' /\(k' <=d.basic.length/\(-1<=b' /\b' <k')/\cU d j.toNat (d.basic.length - k') k' b' ⟨ln',ld'⟩=dT d j.toNat)/\d.basic.length - k' <d.basic.length - k) (cR ((k:Int)+1)/\ ∃(k' :Nat) (b' :Int) (ln' :Int) (ld' :Int),((k:Int)+1)=(k' :Int)/\b=b' /\ln=ln' /\ld=ld' /\(k' <=d.basic.length/\(-1<=b' /\b' <k')/\cU d j.toNat (d.basic.length - k') k' b' ⟨ln',ld'⟩=dT d j.toNat)/\d.basic.length - k' <d.basic.length - k)) (cR ((k:Int)+1)/\ ∃(k' :Nat) (b' :Int) (ln' :Int) (ld' :Int),((k:Int)+1)=(k' :Int)/\b=b' /\ln=ln' /\ld=ld' /\(k' <=d.basic.length/\(-1<=b' /\b' <k')/\cU d j.toNat (d.basic.length - k') k' b' ⟨ln',ld'⟩=dT d j.toNat)/\d.basic.length - k' <d.basic.length - k)))))) (b=(kX d j)/\True)))))) (by kernel_rfl) ?_;refine lx fun n0=>lx fun n1=>lx fun n2=>lx fun n3=>lx fun n4=>?_;refine⟨aAc d (by omega) (by omega),dm (fun g15=>?_) fun g15=>?_⟩
 ·apply et1
  ·(rw[aKe g15];done)
 ·refine⟨List.length_map _,⟨by omega,by omega⟩,lB _ _ _,dn (fun c0=>?_) fun c0=>?_⟩
  ·apply et1
   ·(rw[aIt (by omega)];done)
  ·have hd:bR d=true:=g15;have hj:0<=j/\j<d.others.length:=by omega
   obtain⟨b1,b2,b3,b4,b5,b6,b7,b8⟩:=dE hd;refine⟨⟨0,-1,0,0,rfl,rfl,rfl,rfl,Nat.zero_le _,by omega,rfl⟩,fun k b ln ld ⟨hk,hb,hv⟩=>?_⟩;refine⟨List.length_map _,dd (fun c1=>?_) fun c1=>?_⟩
   ·refine aBD fun e34 h34=>?_;have hrl:=(b5 _ (List.mem_of_getElem? h34)).1;refine aBD fun e37 h37=>?_;refine dd (fun c2=>?_) fun c2=>?_
    ·refine aBV ?_;exact⟨k+1,b,ln,ld,rfl,rfl,rfl,rfl,⟨by omega,by omega,by exact(aET (by omega) h34 h37 c2).symm.trans hv⟩,by omega⟩
    ·refine aBD fun e45 h45=>?_;refine aBD fun e50 h50=>?_;obtain rfl:=fS h34 h50;refine aBD fun e53 h53=>?_;obtain rfl:=fS h37 h53;refine⟨vH e45 e53,dm (fun c3=>?_) fun c3=>?_⟩
     ·apply et1
      ·(rw[aAe hd hj,<-hv,aGE (by omega) h34 h37 c2 h45 c3];done)
     ·refine⟨gG ((aR e45 e53).1) (⟨ln,ld⟩:aC),dd (fun g65=>?_) fun g65=>?_⟩
      ·refine aBV ?_;exact⟨k+1,(k:Int),(aR e45 e53).1.num,(aR e45 e53).1.den,rfl,rfl,rfl,rfl,⟨by omega,by omega,by exact(sH (by omega) h34 h37 c2 h45 c3 (aLD g65)).symm.trans hv⟩,by omega⟩
      ·refine dd (fun g69=>?_) fun g69=>?_
       ·refine aBV ?_;exact⟨k+1,(k:Int),(aR e45 e53).1.num,(aR e45 e53).1.den,rfl,rfl,rfl,rfl,⟨by omega,by omega,by exact(sH (by omega) h34 h37 c2 h45 c3 (aLE g69)).symm.trans hv⟩,by omega⟩
       ·refine dd (fun g72=>?_) fun g72=>?_
        ·refine aBD fun e76 h76=>?_;refine aBD fun e81 h81=>?_;refine dd (fun c4=>?_) fun c4=>?_
         ·refine aBV ?_;exact⟨k+1,(k:Int),(aR e45 e53).1.num,(aR e45 e53).1.den,rfl,rfl,rfl,rfl,⟨by omega,by omega,by exact(sH (by omega) h34 h37 c2 h45 c3 (aLF g72 h76 h81 c4)).symm.trans hv⟩,by omega⟩
         ·refine aBV ?_;exact⟨k+1,b,ln,ld,rfl,rfl,rfl,rfl,⟨by omega,by omega,by exact(aCv (by omega) h34 h37 c2 h45 c3 (aLH g65 g69 h76 h81 c4)).symm.trans hv⟩,by omega⟩
        ·refine aBV ?_;exact⟨k+1,b,ln,ld,rfl,rfl,rfl,rfl,⟨by omega,by omega,by exact(aCv (by omega) h34 h37 c2 h45 c3 (aLG g65 g69 g72)).symm.trans hv⟩,by omega⟩
   ·apply et1
    ·(rw[aAe hd hj,aCE (by omega) hv];done)
theorem jN (d:aD)(i j k:Nat):dB d i j (k+1)=dB d i j k++[(vL d i j k).1]:=by simp[dB,List.range_succ]
theorem jO (d:aD)(i j k:Nat):cX d i j (k+1)=(cX d i j k&&(vL d i j k).2):=by simp[cX,List.range_succ]
theorem wW {d:aD}{i j k:Nat}{x a:aC}(ha:dF d i j=a)(hx:dF d i k=x)(h: ¬k=j):vL d i j k=aR x a:=by rw[vL,if_neg h,ha,hx]
theorem wX {d:aD}{i j k:Nat}{a:aC}(ha:dF d i j=a)(h:k=j):vL d i j k=aR (aF 1) a:=by rw[vL,if_pos h,ha];rfl
theorem cM (l p:List aC)(j k:Nat):cY l p j (k+1)=cY l p j k++[(chX l (l.getD j zR) p j k).1]:=by simp[cY,List.range_succ]
theorem cV (l p:List aC)(j k:Nat):dU l p j (k+1)=(dU l p j k&&(chX l (l.getD j zR) p j k).2):=by simp[dU,List.range_succ]
theorem jP {l p:List aC}{j k:Nat}{x c y:aC}(h: ¬k=j)(hx:l[k]? =some x)(hc:l[j]? =some c)(hy:p[k]? =some y):chX l (l.getD j zR) p j k=bC x c y:=by rw[chX,if_neg h,aP hx,aP hc,aP hy]
theorem jQ {l p:List aC}{j k:Nat}{c y:aC}(h:k=j)(hc:l[j]? =some c)(hy:p[k]? =some y):chX l (l.getD j zR) p j k=bC (aF 0) c y:=by rw[chX,if_pos h,aP hc,aP hy];rfl
theorem gP (d:aD)(i j k:Nat):eN d i j (k+1)=eN d i j k++[rH d i j k]:=by simp[eN,List.range_succ]
theorem gQ (d:aD)(i j k:Nat):eU d i j (k+1)=eU d i j k++[sV d i j k]:=by simp[eU,List.range_succ]
theorem gS (d:aD)(i j k:Nat):eO d i j (k+1)=(eO d i j k&&aA7 d i j k):=by simp[eO,List.range_succ]
theorem sI {F R C L f g:Bool}(h1:f=(F&&R))(h2:g=(f&&C)):(g&&L)=(F&&(R&&(C&&L))):=by subst h1;subst h2;cases F<;>cases R<;>cases C<;>rfl
theorem aCF {d:aD}{i j r:Nat}(h:r=i):rH d i j r=dB d i j d.others.length/\sV d i j r=(cL d i j).1/\aA7 d i j r=true:=by rw[rH,sV,aA7,if_pos h,if_pos h,if_pos h];exact⟨rfl,rfl,rfl⟩
theorem aIw {d:aD}{i j r:Nat}{p:List aC}{x c l:aC}{row:List aC}(h: ¬r=i)(hp:p=dB d i j d.others.length)(hr:d.table[r]? =some row)(hc:row[j]? =some c)(hx:d.limits[r]? =some x)(hl:(cL d i j).1=l):rH d i j r=cY row p j d.others.length/\sV d i j r=(bC x c l).1/\aA7 d i j r=(dU row p j d.others.length&&(bC x c l).2):=by
 rw[rH,sV,aA7,if_neg h,if_neg h,if_neg h,aFx,eW hr hc,aP hx,aP hr,hl,<-hp];exact⟨rfl,rfl,rfl⟩
theorem vM {d:aD}{i j:Int}(h: ¬((0<=i/\i<d.basic.length)/\0<=j/\j<d.others.length)):bB d i j=(rI,false):=by rw[bB,if_neg (fun q=>h q.2)]
theorem aKf {d:aD}{i j:Int}(h:bR d=false):bB d i j=(rI,false):=by rw[bB,if_neg (by rw[h];simp)]
theorem gJ {d:aD}{i j:Int}(h: ¬((dF d i.toNat j.toNat).num≠0/\iJ d i.toNat j.toNat=true/\(nE d i.toNat j.toNat).2=true)):bB d i j=(rI,false):=by
 rw[bB];split
 ·rw[dJ,if_neg h]
 rfl
theorem aEU {d:aD}{i j:Int}(h:bR d=true)(hi:0<=i/\i<d.basic.length)(hj:0<=j/\j<d.others.length)(h1:(dF d i.toNat j.toNat).num≠0)(h2:iJ d i.toNat j.toNat=true)(h3:(nE d i.toNat j.toNat).2=true):bB d i j=(dW d i.toNat j.toNat,true):=by rw[bB,if_pos ⟨h,hi,hj⟩,dJ,if_pos ⟨h1,h2,h3⟩]
theorem aAh {d:aD}{i j:Nat}(h:bR d=true)(hj:j<d.others.length)(hl:(cL d i j).2=true):nE d i j=((cT d.value (bQ (d.costs.getD j zR) (cL d i j).1).1).1,(bQ (d.costs.getD j zR) (cL d i j).1).2&&(cT d.value (bQ (d.costs.getD j zR) (cL d i j).1).1).2):=by
 obtain⟨_,_,_,_,_,_,b7,b8⟩:=dE h;exact aA8 b8 (eY b7 hj) (sG hl)
theorem aHJ {α:Type}{l:List α}{i:Nat}{x:α}(h:l[i]? =some x):l.set i x=l:=by
 obtain⟨hi,rfl⟩:=List.getElem?_eq_some_iff.1 h;simp
theorem aAi {p:Nat->Bool}{k n:Nat}(hk:k<=n)(h:(List.range k).all p=false):(List.range n).all p=false:=by
 cases e:(List.range n).all p with
 | false=>rfl
 | true=>
   rw[List.all_eq_true] at e;have:(List.range k).all p=true:=List.all_eq_true.2 fun x hx=>e x (List.mem_range.2 (by have:=List.mem_range.1 hx;omega));rw[this] at h;cases h
theorem aEV {d:aD}{i j r k:Nat}{p:List aC}{f g:Bool}(hf:f=((cX d i j d.others.length&&(cL d i j).2)&&eO d i j r))(hr:r<=d.basic.length)(hp:p=dB d i j d.others.length)(hg:g=(f&&dU d.costs p j k))(hk:k<=d.others.length)(h:g=false):iJ d i j=false:=by
 rw[iJ,aFy,<-hp];subst hf;rw[hg] at h;simp only[Bool.and_eq_false_iff] at h ⊢;rcases h with (h | h) | h
 ·exact .inl (.inl h)
 ·exact .inl (.inr (aAi hr h))
 exact .inr (aAi hk h)
theorem aHK {d:aD}{i j r k:Nat}{p:List aC}{f g:Bool}(hf:f=((cX d i j d.others.length&&(cL d i j).2)&&eO d i j r))(hr:r=d.basic.length)(hp:p=dB d i j d.others.length)(hg:g=(f&&dU d.costs p j k))(hk:k=d.others.length)(h:g=true):iJ d i j=true:=by
 rw[iJ,aFy,<-hp,<-hr,<-hf,<-hk,<-hg,h]
theorem yG {d:aD}{i j r:Nat}{f:Bool}(hf:f=((cX d i j d.others.length&&(cL d i j).2)&&eO d i j r))(hr:r<=d.basic.length)(h:f=false):iJ d i j=false:=by
 subst hf;rw[iJ];simp only[Bool.and_eq_false_iff] at h ⊢;rcases h with h | h
 ·exact .inl (.inl h)
 exact .inl (.inr (aAi hr h))
theorem yH {d:aD}{i j:Nat}(h:cX d i j d.others.length=false):iJ d i j=false:=by
 rw[iJ,h];rfl
theorem aCG {d:aD}{i j:Nat}(h:iJ d i j=true):(cL d i j).2=true:=by
 simp only[iJ,Bool.and_eq_true] at h;exact h.1.1.2
theorem tT {d:aD}{i j:Nat}(hi:i<d.basic.length):(eN d i j d.basic.length).set i (dB d i j d.others.length)=eN d i j d.basic.length:=aHJ (by simp[eN,hi,rH])
abbrev fD (a:aC)(b:aC)(c:aC):AV × List (Nat × Rs):=(.tup [.agg [vI ((bC a b c).1.num),vI ((bC a b c).1.den)],vB ((bC a b c).2)],[])
abbrev fT (a:aC)(b:aC)(c:aC):Prop:=Cn 72 [.agg [.int .i64 a.num,.int .i64 a.den],.agg [.int .i64 b.num,.int .i64 b.den],.agg [.int .i64 c.num,.int .i64 c.den]] (fD a b c).1 (fD a b c).2
theorem jR (a b c:aC):fT a b c:=by
 refine cq Try.func72 (.br (.fin []) (.lit<| .lit<| .lit<| .br (.fin []) (bX (kT b c)<| bX (tN a ((bQ b c).1))<| .br (.fin []) (.fin [])))) (p:=Br (b.num=0) (a.num=((bC a b c).1.num)/\a.den=((bC a b c).1.den)/\(true)=((bC a b c).2)/\True) (Br (c.num=0) (a.num=((bC a b c).1.num)/\a.den=((bC a b c).1.den)/\(true)=((bC a b c).2)/\True) (nB b c/\aA1 a ((bQ b c).1)/\Bb ((bQ b c).2) ((((iU a ((bQ b c).1)).1).num)=((bC a b c).1.num)/\(((iU a ((bQ b c).1)).1).den)=((bC a b c).1.den)/\((iU a ((bQ b c).1)).2)=((bC a b c).2)/\True) ((((iU a ((bQ b c).1)).1).num)=((bC a b c).1.num)/\(((iU a ((bQ b c).1)).1).den)=((bC a b c).1.den)/\(false)=((bC a b c).2)/\True)))) (by kernel_rfl) ?_;refine dd (fun g15=>?_) fun g15=>?_
 ·apply et3<;>((rw[bC,if_pos (.inl (by exact g15))]<;>rfl))
 ·refine dd (fun c0=>?_) fun c0=>?_
  ·apply et3<;>((rw[bC,if_pos (.inr c0)]<;>rfl))
  ·refine⟨vG b c,aIh a ((bQ b c).1),db (fun g35=>?_) fun g35=>?_⟩
   ·apply et3<;>(first|(rw[bC,if_neg (by rintro(q|q);exact g15 q;exact c0 q)];simp[*];done)|(rw[bC,if_neg (by rintro(q|q);exact g15 q;exact c0 q)]<;>rfl))
   ·apply et3<;>(first|(rw[bC,if_neg (by rintro(q|q);exact g15 q;exact c0 q)];simp[*];done)|(rw[bC,if_neg (by rintro(q|q);exact g15 q;exact c0 q)]<;>rfl))
end Go.Proofs.Ytepphdhnkaiamaa
namespace Go.Proofs
open Go.Shelf
namespace Ytepphdhnkaiamaa
def Try.cloneRats_ren : Go.Shelf.Ren := ⟨fun | 41 => 82 | n => n, fun | 22 => 31 | 23 => 30 | 4 => 4 | n => n, fun | n => n⟩
theorem Try.cloneRats : Go.Proofs.SlLaysE0.n41 Try.prog Try.cloneRats_ren := {
  mixed := by kernel_rfl
  f41 := ⟨Try.f82.name, by decide, Try.func82.trans (congrArg some (by kernel_rfl))⟩
  t4 := Try.underlying4
  a4 := Try.isAgg4
  z4 := Try.sizeOf4
  v4 := Try.zeroValue4
  t22 := Try.underlying31
  a22 := Try.isAgg31
  z22 := Try.sizeOf31
  v22 := Try.zeroValue31 }
end Ytepphdhnkaiamaa
end Go.Proofs
namespace Go.Proofs.Ytepphdhnkaiamaa
open Go.ChangeShapes Go.WideShapes Go.ChangeAt Go.RowKit
set_option linter.unusedVariables false
section
variable {P:Program}
theorem aHL {f:FuncId}{args:List Ar}{e k:Nat}{xs:List (List bE)}(hc:gZ P f=true)(h: ∀A w (vs:Array Value),(∀b,A b->b<w.heap.size)->nN A w args vs.toList->Calls P f vs w (fun en w' => ∃(v:Value) (F:List Nat),en= .returned v/\lZ w' (.sl e k xs) v F/\F.Nodup/\(∀g∈F,w.heap.size<=g)/\Below w.heap.size w w' /\ ∀g∈F,g<w'.heap.size)):
 Con P f args (.own 0) [(0,.arr e k true xs)]:=by
 refine⟨hc,fun A w vs hA ha=>(h A w vs hA ha).mono fun en w' ⟨v,F,he,ho,hn,hg,hb,hlt⟩=>?_⟩;unfold lZ at ho;obtain⟨css,Fs,r1,r2,r3⟩:=ho;have hpl:(⟨v,v.ownBlock.toList,Fs.flatten⟩:Pl).F=F:=by unfold Pl.F;exact r2.symm
 refine⟨v,fun _=>False,fun x=>if x=0 then some ⟨v,v.ownBlock.toList,Fs.flatten⟩ else none,he,hb,by simp,by simp,fun x r hx=>?_,fun x hx=>?_,fun x x' pl pl' hne hx hx' g hg hg' =>?_,fun x pl hx=>?_,fun x pl hx g hg' =>?_,?_⟩
 ·simp only[aV] at hx;split at hx
  ·rename_i e1;injection hx with hx
   subst hx;exact⟨_,if_pos e1,⟨css,Fs,r1,rfl,rfl,r3⟩⟩
  cases hx
 ·simp only[aV] at hx;split at hx
  ·cases hx
  rename_i e1;exact if_neg e1
 ·simp only at hx hx';split at hx
  ·split at hx'
   ·subst_vars;exact hne rfl
   cases hx'
  cases hx
 ·simp only at hx;split at hx
  ·injection hx with hx
   subst hx;rw[hpl];exact hn
  cases hx
 ·simp only at hx;split at hx
  ·injection hx with hx
   subst hx;rw[hpl] at hg';exact⟨hg g hg',hlt g hg'⟩
  cases hx
 unfold aG;intro pl hp;simp only[if_true,Option.some.injEq] at hp;subst hp;rfl
end
def aKg (x:aC):List Value:=[.int .i64 x.num,.int .i64 x.den]
theorem xN {K:Nat->Prop}{w:World}: ∀{l:List aC} {css:List (List Value)},dG K w 2 (l.map aB) css->css=l.map aKg
 | [],css,h=>h
 | x::l,css,⟨c,css',e,h1,h2,h3⟩=>by
   subst e;obtain⟨v,vs,e1,m1,v2,vs2,e2,m2,m3⟩:=h2;unfold fK at m1 m2;rw[xN h3,e1,e2,m1,m2,show vs2= [] from m3];rfl
theorem aCH {w:World}: ∀(l:List aC),cD w 2 (l.map aB) (l.map aKg) (l.map fun _=>[])
 | []=>by unfold cD;exact⟨rfl,rfl⟩
 | x::l=>by
   rw[List.map_cons,List.map_cons,List.map_cons];unfold cD;refine⟨_,_,_,_,rfl,rfl,rfl,?_,aCH l⟩;have h1:lZ w (.int .i64 x.num) (.int .i64 x.num) []:=by unfold lZ;exact⟨rfl,rfl⟩
   have h2:lZ w (.int .i64 x.den) (.int .i64 x.den) []:=by unfold lZ;exact⟨rfl,rfl⟩
   exact jH (F1:=[]) (F2:=[]) h1 (jH (F1:=[]) (F2:=[]) h2 aD7)
theorem aEW: ∀l:List aC,(l.map aKg).flatten.length=l.length*2
 | []=>rfl
 | x::l=>by simp only[List.map_cons,List.flatten_cons,List.length_append,List.length_cons,aEW l,aKg,List.length_nil];omega
theorem tU (l:List aC)(h0:0<l.length)(hl:l.length<=1048576):Con Try.prog 82 [.one (.sl 30 2 (l.map aB))] (.own 0) [(0,.arr 30 2 true (l.map aB))]:=
 aHL (by kernel_rfl) fun A w vs hA ha=>by
  obtain⟨v,vs',e,hv,hv2⟩:=ha;simp only[aG3] at hv;unfold fK at hv;obtain⟨a,c,rfl,h1,h2,h3⟩:=hv;obtain⟨css,hr,hne⟩:=eP.vals h3;obtain⟨b,off,rfl,hcell⟩:=hne (by intro q;rw[List.map_eq_nil_iff] at q;rw[q] at h0;exact absurd h0 (Nat.lt_irrefl 0));have ev:vs= #[.slice (some ⟨b,off,none⟩) (l.map aB).length c]:=by apply Array.ext';rw[e,show vs' = [] from hv2]
  have hcs:=xN hr;have hone:=sZ hr
  have hlen:css.flatten.length=(l.map aB).length*2:=by
   rw[hcs,aEW,List.length_map]
  rw[ev];have hT:eK Try.prog 30=some (true,2,16,.agg #[.int .i64 0,.int .i64 0]):=by kernel_rfl
  have hI:=eL hT w;refine(AnyE.slices_Clone Try.cloneRats _ _ 2 16 hI.2.2.2.2.2.1 hI.2.2.2.2.2.2.2 hI.2.2.2.2.2.2.1 hI.2.2.2.2.1 rfl (by omega) (fun w=>(eL hT w).2.1) b off _ c css.flatten w hlen (by simp[maxLen];omega) (by simp;omega) (fun j u hj=>by have:=hcell j u hj;rwa [Nat.add_zero] at this) hone).mono fun e w' ⟨v',he,ho,_,hb⟩=>?_;refine⟨v',v'.ownBlock.toList,he,?_,?_,fun g hg=>(oV ho g hg).1,hb,fun g hg=>(oV ho g hg).2⟩
  ·unfold lZ;refine⟨css,l.map fun _=>[],vU ho (fun g hg=>Nat.zero_le g),?_,?_⟩
   ·simp
   rw[hcs];exact aCH l
  cases v'.ownBlock<;>simp
end Go.Proofs.Ytepphdhnkaiamaa
namespace Go.Proofs.Ytepphdhnkaiamaa
open Go.ChangeShapes Go.WideShapes Go.ChangeAt Go.RowKit
set_option linter.unusedVariables false
set_option linter.unusedSimpArgs false
set_option maxRecDepth 100000
set_option maxHeartbeats 4000000
abbrev rK (f:Bool)(a:aC)(b:aC):List AV × List (Nat × Rs) × AV × List (Nat × Rs):=([.ptr 0 0,.agg [vI a.num,vI a.den],.agg [vI b.num,vI b.den]],[(0,.box 87 [vB f])],.agg [vI ((aR a b).1.num),vI ((aR a b).1.den)],[(0,.box 87 [vB (f || !(aR a b).2)])])
abbrev aAj (f:Bool)(a:aC)(b:aC):Prop:=Cm 83 (rK f a b).1 (rK f a b).2.1 (rK f a b).2.2.1 (rK f a b).2.2.2
theorem aKh (f:Bool)(a b:aC):aAj f a b:=by
 refine cqx Try.func83 (bX (pL a b)<| .br (.fin [(0,0)]) (.fin [(0,0)])) (p:=tM a b/\Bb (f) (((aR a b).1.num)=((aR a b).1.num)/\((aR a b).1.den)=((aR a b).1.den)/\(true)=(f || !(aR a b).2)/\True) (((aR a b).1.num)=((aR a b).1.num)/\((aR a b).1.den)=((aR a b).1.den)/\(!((aR a b).2))=(f || !(aR a b).2)/\True)) (by kernel_rfl) ?_;refine⟨aEB a b,db (fun g20=>?_) fun g20=>?_⟩
 ·refine⟨rfl,rfl,?_,trivial⟩
  ·(rw[g20]<;>rfl)
 ·refine⟨rfl,rfl,?_,trivial⟩
  ·(rw[g20]<;>rfl)
abbrev nV (f:Bool)(a:aC)(b:aC)(c:aC):List AV × List (Nat × Rs) × AV × List (Nat × Rs):=([.ptr 0 0,.agg [vI a.num,vI a.den],.agg [vI b.num,vI b.den],.agg [vI c.num,vI c.den]],[(0,.box 87 [vB f])],.agg [vI ((cK a b c).1.num),vI ((cK a b c).1.den)],[(0,.box 87 [vB (f || !(cK a b c).2)])])
abbrev vN (f:Bool)(a:aC)(b:aC)(c:aC):Prop:=Cm 85 (nV f a b c).1 (nV f a b c).2.1 (nV f a b c).2.2.1 (nV f a b c).2.2.2
theorem aGF (f:Bool)(a b c:aC):vN f a b c:=by
 refine cqx Try.func85 (.br (.fin [(0,0)]) (.lit<| .lit<| .lit<| .br (.fin [(0,0)]) (bX (pK b c)<| bX (pJ a ((bQ b c).1))<| .br (.fin [(0,0)]) (.lit<| .lit<| .br (.fin [(0,0)]) (.fin [(0,0)]))))) (p:=Br (b.num=0) (a.num=((cK a b c).1.num)/\a.den=((cK a b c).1.den)/\(f)=(f || !(cK a b c).2)/\True) (Br (c.num=0) (a.num=((cK a b c).1.num)/\a.den=((cK a b c).1.den)/\(f)=(f || !(cK a b c).2)/\True) (tL b c/\tK a ((bQ b c).1)/\Bb (f) ((((cT a ((bQ b c).1)).1).num)=((cK a b c).1.num)/\(((cT a ((bQ b c).1)).1).den)=((cK a b c).1.den)/\(true)=(f || !(cK a b c).2)/\True) (Nr ((bQ b c).2) ((((cT a ((bQ b c).1)).1).num)=((cK a b c).1.num)/\(((cT a ((bQ b c).1)).1).den)=((cK a b c).1.den)/\(true)=(f || !(cK a b c).2)/\True) ((((cT a ((bQ b c).1)).1).num)=((cK a b c).1.num)/\(((cT a ((bQ b c).1)).1).den)=((cK a b c).1.den)/\(!((cT a ((bQ b c).1)).2))=(f || !(cK a b c).2)/\True))))) (by kernel_rfl) ?_;refine dd (fun g16=>?_) fun g16=>?_
 ·apply et3<;>((rw[cK,if_pos (.inl g16)]<;>(simp;done)))
 ·refine dd (fun c0=>?_) fun c0=>?_
  ·apply et3<;>((rw[cK,if_pos (.inr c0)]<;>(simp;done)))
  ·have hP:cK a b c=((cT a (bQ b c).1).1,(bQ b c).2&&(cT a (bQ b c).1).2):=by rw[cK,if_neg (by rintro(q | q);exact g16 q;exact c0 q)]
   refine⟨aEA b c,aDz a ((bQ b c).1),db (fun g39=>?_) fun g39=>?_⟩
   ·apply et3<;>((rw[hP]<;>(simp[*];done)))
   ·refine dm (fun g43=>?_) fun g43=>?_
    ·apply et3<;>((rw[hP]<;>(simp[*];done)))
    ·apply et3<;>((rw[hP]<;>(simp[*];done)))
abbrev kY (a:aC):Prop:=Cn 44 [.agg [.int .i64 a.num,.int .i64 a.den]] (.agg [vI ((cN a).num),vI ((cN a).den)]) []
theorem rL (a:aC)(ha: -9223372036854775807<=a.num/\a.num<=9223372036854775807):kY a:=by
 refine cq Try.func44 (.fin []) (p:=cR (-a.num)/\(-a.num)=((cN a).num)/\a.den=((cN a).den)/\True) (by kernel_rfl) ?_;refine⟨by exact⟨by omega,by omega⟩,?_,?_,trivial⟩<;>(rfl)
theorem aMK (a c:aC): -9223372036854775807<=(aR a c).1.num/\(aR a c).1.num<=9223372036854775807:=by
 cases e:(aR a c).2 with
 | true=>have:=bA (sG e);omega
 | false=>rw[aEF e];exact⟨by decide,by decide⟩
theorem aML {α:Type}{A l:List α}{k:Nat}(h:A.length=k):(A++l.drop k)[k]? =l[k]? :=by
 subst h;rw[List.getElem?_append_right (Nat.le_refl _)];simp[List.getElem?_drop]
theorem vO {α:Type}{A l:List α}{k:Nat}{y:α}(h:A.length=k)(hk:k<l.length):(A++l.drop k).set k y=(A++[y])++l.drop (k+1):=by
 subst h;rw[List.drop_eq_getElem_cons hk,List.set_append_right _ _ (Nat.le_refl _),Nat.sub_self,List.set_cons_zero,List.append_assoc];rfl
theorem aGG {α:Type}{A l:List α}{k:Nat}(h:l.length<=k):A++l.drop k=A:=by rw[List.drop_eq_nil_of_le h,List.append_nil]
theorem nt2 (A B:Bool):(!A || !B)= !(A&&B):=by cases A<;>cases B<;>rfl
theorem nt3 (f A B:Bool):((f || !A) || !B)=(f || !(A&&B)):=by cases f<;>cases A<;>cases B<;>rfl
theorem wY (l p:List aC)(j n:Nat):(cY l p j n).length=n:=by simp[cY]
theorem aIx {l p:List aC}{j k:Nat}{x c y:aC}(h: ¬k=j)(hx:l[k]? =some x)(hc:l.getD j zR=c)(hy:p[k]? =some y):chX l (l.getD j zR) p j k=cK x (cN c) y:=by rw[chX,if_neg h,aP hx,hc,aP hy,aBy]
theorem aIy {l p:List aC}{j k:Nat}{c a:aC}(h:k=j)(hc:l.getD j zR=c)(hy:p.getD j zR=(aR sQ a).1)(vc:aJ c=true)(va:aJ a=true)(h0: ¬a.num=0):chX l (l.getD j zR) p j k=(cN (aR c a).1,(aR c a).2):=by
 rw[chX,if_pos h,hc,h,hy];exact aIo vc va h0
theorem aIz {d:aD}{i j n:Nat}{a:aC}(hj:j<n)(ha:dF d i j=a):(dB d i j n).getD j zR=(aR sQ a).1:=by
 have e:(dB d i j n)[j]? =some (vL d i j j).1:=by rw[dB,List.getElem?_map,List.getElem?_range hj];rfl
 rw[aP e,vL,if_pos rfl,ha]
abbrev jA (l:List aC)(p:List aC)(a:aC)(j:Int)(f:Bool):List AV × List (Nat × Rs) × AV × List (Nat × Rs):=([.p none (.sl 30 2 (l.map aB)),.rp none [.int .i64 j],.ptr 0 0,.rp none [.int .i64 a.num,.int .i64 a.den],.rp none [.sl 30 2 (p.map aB)]],[(0,.box 85 [.ptr 1 0]),(1,.box 87 [vB f])],.own 2,[(0,.box 85 [.ptr 1 0]),(1,.box 87 [vB (f || !dU l p j.toNat l.length)]),(2,.arr 30 2 true ((cY l p j.toNat l.length).map aB))])
abbrev pR (l:List aC)(p:List aC)(a:aC)(j:Int)(f:Bool):Prop:=Cm 84 (jA l p a j f).1 (jA l p a j f).2.1 (jA l p a j f).2.2.1 (jA l p a j f).2.2.2
theorem aAk (l p:List aC)(a:aC)(j:Int)(f:Bool)(hj:0<=j/\j<l.length)(hl:l.length<=15)(hp:p.length=l.length)(hv: ∀x∈l,aJ x=true)(hva:aJ a=true)(hnz: ¬a.num=0)(hpj:p.getD j.toNat zR=(aR sQ a).1):pR l p a j f:=by
 refine cqx Try.func84 (.elem _ aB l (fun e11=> .call (.own 0) [(0,.arr 30 2 true (l.map aB))]<| .len l.length<| .loop (Nat × (List aC) × Bool) (Q3 Nat (List aC) Bool) ([0,8]++rg 17 30) [1,1400] (fun yy0=>[(17,vI (yy0.1:Int)),(0,.own 1400)]) (fun yy0=>[(1400,some (.arr 30 2 true (yy0.2.1.map aB))),(1,some (.box 87 [vB yy0.2.2]))]) (fun yy0=>yy0.1<=l.length/\yy0.2.1=cY l p j.toNat yy0.1++l.drop yy0.1/\yy0.2.2=(f || !dU l p j.toNat yy0.1)/\yy0.2.1.length=l.length) (fun yy0=>l.length - yy0.1) (fun yy0=> .br (.br (mW (rK yy0.2.2 e11 a) [(0,1)]<| .call (.agg [vI ((cN ((aR e11 a).1)).num),vI ((cN ((aR e11 a).1)).den)]) []<| .len yy0.2.1.length<| .set aC aB yy0.2.1 (fun s7_8=>(cN ((aR e11 a).1))) (fun s7_8=> .back [(1,1),(1400,1400)])) (.len yy0.2.1.length<| .elem _ aB yy0.2.1 (fun e37=> .call (.agg [vI ((cN e11).num),vI ((cN e11).den)]) []<| .elem _ aB p (fun e42=>mW (nV yy0.2.2 e37 (cN e11) e42) [(0,1)]<| .len yy0.2.1.length<| .set aC aB yy0.2.1 (fun s8_15=>((cK e37 (cN e11) e42).1)) (fun s8_15=> .back [(1,1),(1400,1400)]))))) (.fin [(0,0),(1,1),(2,1400)])))) (p:=0<=j/\Em aB l ((j).toNat) fun e11=>Con Try.prog 82 [.one (.sl 30 2 (l.map aB))] (.own 0) [(0,.arr 30 2 true (l.map aB))]/\(Lm aB l/\((∃(k:Nat) (o:List aC) (g:Bool),0=(k:Int)/\l.map aB=o.map aB/\(f)=g/\k<=l.length/\o=cY l p j.toNat k++l.drop k/\g=(f || !dU l p j.toNat k)/\o.length=l.length)/\ ∀(k:Nat) (o:List aC) (g:Bool),(k<=l.length/\o=cY l p j.toNat k++l.drop k/\g=(f || !dU l p j.toNat k)/\o.length=l.length)->Br ((k:Int)<(l.length:Int)) (Br ((k:Int)=j) (aAj g e11 a/\e11.num=e11.num/\e11.den=e11.den/\a.num=a.num/\a.den=a.den/\(g)=g/\(kY ((aR e11 a).1)/\(0<=(k:Int)/\Lm aB o/\(k:Int)<(o.length:Int)/\(o.map aB=o.map aB/\k<o.length/\ ∀s7_8,o[k]? =some s7_8->fY (aB s7_8)=true/\0+2<=(aB s7_8).length/\(aB s7_8).take 0++[.int .i64 ((cN ((aR e11 a).1)).num),.int .i64 ((cN ((aR e11 a).1)).den)]++(aB s7_8).drop (0+2)=aB (cN ((aR e11 a).1))/\cR ((k:Int)+1)/\ ∃(k' :Nat) (o' :List aC) (g' :Bool),((k:Int)+1)=(k' :Int)/\(o.set k (cN ((aR e11 a).1))).map aB=o'.map aB/\(g || !(aR e11 a).2)=g' /\(k' <=l.length/\o' =cY l p j.toNat k' ++l.drop k' /\g' =(f || !dU l p j.toNat k')/\o'.length=l.length)/\l.length - k' <l.length - k)))) (0<=(k:Int)/\Lm aB o/\(k:Int)<(o.length:Int)/\Em aB o k fun e37=>kY e11/\(0<=(k:Int)/\Em aB p k fun e42=>vN g e37 (cN e11) e42/\e37.num=e37.num/\e37.den=e37.den/\((cN e11).num)=((cN e11).num)/\((cN e11).den)=((cN e11).den)/\e42.num=e42.num/\e42.den=e42.den/\(g)=g/\(0<=(k:Int)/\Lm aB o/\(k:Int)<(o.length:Int)/\(o.map aB=o.map aB/\k<o.length/\ ∀s8_15,o[k]? =some s8_15->fY (aB s8_15)=true/\0+2<=(aB s8_15).length/\(aB s8_15).take 0++[.int .i64 ((cK e37 (cN e11) e42).1.num),.int .i64 ((cK e37 (cN e11) e42).1.den)]++(aB s8_15).drop (0+2)=aB ((cK e37 (cN e11) e42).1)/\cR ((k:Int)+1)/\ ∃(k' :Nat) (o' :List aC) (g' :Bool),((k:Int)+1)=(k' :Int)/\(o.set k ((cK e37 (cN e11) e42).1)).map aB=o'.map aB/\(g || !(cK e37 (cN e11) e42).2)=g' /\(k' <=l.length/\o' =cY l p j.toNat k' ++l.drop k' /\g' =(f || !dU l p j.toNat k')/\o'.length=l.length)/\l.length - k' <l.length - k))))) ((g)=(f || !dU l p j.toNat l.length)/\o.map aB=(cY l p j.toNat l.length).map aB/\True)))) (by kernel_rfl) ?_;refine aBD fun e11 h11=>?_;have hc:l.getD j.toNat zR=e11:=aP h11;have hcv:=hv _ (List.mem_of_getElem? h11);have hcb:=bA hcv;refine⟨tU l (by omega) (by omega),List.length_map _,⟨0,l,f,rfl,rfl,rfl,Nat.zero_le _,rfl,by simp[dU],rfl⟩,fun k o g ⟨hk,ho,hg,hL⟩=>?_⟩;refine dd (fun c0=>?_) fun c0=>?_
 ·refine dd (fun c1=>?_) fun c1=>?_
  ·refine⟨aKh g e11 a,rfl,rfl,rfl,rfl,rfl,rL ((aR e11 a).1) (by exact aMK _ _),by omega,List.length_map _,by omega,rfl,by omega,fun s7_8 hs7_8=>⟨rfl,Nat.le_of_ble_eq_true rfl,rfl,?_⟩⟩;refine aBV ?_;exact⟨k+1,_,g || !(aR e11 a).2,rfl,rfl,rfl,⟨by omega,by (rw[ho,vO (wY _ _ _ _) (by omega),cM,aIy (by omega) hc hpj hcv hva hnz]<;>rfl),by (rw[hg,nt3,cV,aIy (by omega) hc hpj hcv hva hnz]<;>rfl),by rw[List.length_set];exact hL⟩,by omega⟩
  ·refine⟨by omega,List.length_map _,by omega,rfl,by omega,fun e37 h37=>?_⟩;have w37:l[k]? =some e37:=by rw[<-aML (A:=cY l p j.toNat k) (l:=l) (wY l p j.toNat k),<-ho];exact h37
   refine⟨rL e11 (by omega),by omega,rfl,by omega,fun e42 h42=>?_⟩;refine⟨aGF g e37 (cN e11) e42,rfl,rfl,rfl,rfl,rfl,rfl,rfl,by omega,List.length_map _,by omega,rfl,by omega,fun s8_15 hs8_15=>⟨rfl,Nat.le_of_ble_eq_true rfl,rfl,?_⟩⟩;refine aBV ?_;exact⟨k+1,_,g || !(cK e37 (cN e11) e42).2,rfl,rfl,rfl,⟨by omega,by (rw[ho,vO (wY _ _ _ _) (by omega),cM,aIx (by omega) w37 hc h42]<;>rfl),by (rw[hg,nt3,cV,aIx (by omega) w37 hc h42]<;>rfl),by rw[List.length_set];exact hL⟩,by omega⟩
 ·refine⟨?_,?_,trivial⟩<;>(first|(rw[hg,show k=l.length by omega];done)|(rw[ho,show k=l.length by omega,aGG (Nat.le_refl _)];done))
theorem aMM {d:aD}{i j:Nat}(h:(dF d i j).num=0):dJ d i j=(rI,false):=by rw[dJ,if_neg (fun q=>q.1 h)]
theorem aKi {d:aD}{i j:Nat}(h:(!((iJ d i j)&&(nE d i j).2))=true):dJ d i j=(rI,false):=by
 rw[dJ,if_neg];rintro⟨_,h1,h2⟩;rw[h1,h2] at h;cases h
theorem aJA {d:aD}{i j:Nat}(h0: ¬(dF d i j).num=0)(h:(!((iJ d i j)&&(nE d i j).2))=false):dJ d i j=(dW d i j,true):=by
 rw[dJ,if_pos];rw[Bool.not_eq_false',Bool.and_eq_true] at h;exact⟨h0,h.1,h.2⟩
theorem aJB (F R C V:Bool):((!(F&&R) || !C) || !V)= !(((F&&R)&&C)&&V):=by cases F<;>cases R<;>cases C<;>cases V<;>rfl
theorem aEX (F R C L:Bool):((!(F&&R) || !C) || !L)= !(F&&(R&&(C&&L))):=by cases F<;>cases R<;>cases C<;>cases L<;>rfl
theorem tV (d:aD)(i j r:Nat):(eU d i j r).length=r:=by simp[eU]
theorem aJC {d:aD}{i j r:Nat}{p:List aC}{x c l:aC}{row:List aC}(h: ¬r=i)(hp:p=dB d i j d.others.length)(hr:d.table[r]? =some row)(hn:row.length=d.others.length)(hc:row[j]? =some c)(hx:d.limits[r]? =some x)(hl:(cL d i j).1=l):rH d i j r=cY row p j row.length/\sV d i j r=(cK x (cN c) l).1/\aA7 d i j r=(dU row p j row.length&&(cK x (cN c) l).2):=by
 rw[aBy,hn];exact aIw h hp hr hc hx hl
abbrev aFT (d:aD)(i:Int)(j:Int):AV × List (Nat × Rs):=(.tup [.agg [.own 0,.own 1,.own 2,.own 3,.own 4,vI ((dJ d i.toNat j.toNat).1.value.num),vI ((dJ d i.toNat j.toNat).1.value.den)],vB ((dJ d i.toNat j.toNat).2)],[(0,.arr 3 1 true ((dJ d i.toNat j.toNat).1.basic.map aI)),(1,.arr 3 1 true ((dJ d i.toNat j.toNat).1.others.map aI)),(2,.arr 31 1 true ((dJ d i.toNat j.toNat).1.table.map aE)),(3,.arr 30 2 true ((dJ d i.toNat j.toNat).1.limits.map aB)),(4,.arr 30 2 true ((dJ d i.toNat j.toNat).1.costs.map aB))])
abbrev aJD (d:aD)(i:Int)(j:Int):Prop:=Cn 42 [.agg [.sl 3 1 (d.basic.map aI),.sl 3 1 (d.others.map aI),.sl 31 1 (d.table.map aE),.sl 30 2 (d.limits.map aB),.sl 30 2 (d.costs.map aB),.int .i64 d.value.num,.int .i64 d.value.den],.one (.int .i64 i),.one (.int .i64 j)] (aFT d i j).1 (aFT d i j).2
theorem aNK (d:aD)(i j:Int)(hd:bR d=true)(hi:0<=i/\i<d.basic.length)(hj:0<=j/\j<d.others.length):aJD d i j:=by
 refine cq Try.func42 (.elem _ aE d.table (fun e23=> .elem _ aB e23 (fun e26=> .br (.fin []) (bX (aGC d.basic)<| bX (aGC d.others)<| .call (.own 0) [(0,.arr 30 2 true (d.limits.map aB))]<| .call (.own 0) [(0,.arr 30 2 true (d.costs.map aB))]<| .elem _ aI d.others (fun e56=> .elem _ aI d.basic (fun e61=> .len d.basic.length<| .set Int aI d.basic (fun s6_17=>e56) (fun s6_17=> .len d.others.length<| .set Int aI d.others (fun s6_19=>e61) (fun s6_19=> .elem _ aE d.table (fun e69=> .len e69.length<| .loop (Nat × (List aC) × Bool) (Q3 Nat (List aC) Bool) ([12,13,65]++rg 72 17) [1100,1300,1900,6500,8600,8700] (fun yy0=>[(72,vI (yy0.1:Int))]) (fun yy0=>[(1100,some (.box 31 [.own 6500])),(6500,some (.arr 30 2 true (yy0.2.1.map aB))),(1900,some (.box 87 [vB yy0.2.2]))]) (fun yy0=>yy0.1<=d.others.length/\yy0.2.1=dB d i.toNat j.toNat yy0.1/\yy0.2.2= !cX d i.toNat j.toNat yy0.1/\yy0.2.1.length=yy0.1) (fun yy0=>d.others.length - yy0.1) (fun yy0=> .br (.elem _ aB e69 (fun e75=> .br (.call (.agg [vI ((aF (1:Int)).num),vI ((aF (1:Int)).den)]) []<| mW (rK yy0.2.2 (aF (1:Int)) e26) [(0,1900)]<| .app aC aB yy0.2.1 ([((aR (aF (1:Int)) e26).1)]:List aC)<| .back [(1100,1100),(1900,1900),(6500,8700)]) (mW (rK yy0.2.2 e75 e26) [(0,1900)]<| .app aC aB yy0.2.1 ([((aR e75 e26).1)]:List aC)<| .back [(1100,1100),(1900,1900),(6500,8700)]))) (.elem _ aB d.limits (fun e93=>mW (rK yy0.2.2 e93 e26) [(0,1900)]<| .len d.table.length<| .loop ((Nat × (List (List aC)) × (List aC) × Bool) ⊕ (Nat × (List (List aC)) × (List aC) × Bool)) (Qs (Q4 Nat (List (List aC)) (List aC) Bool) (Q4 Nat (List (List aC)) (List aC) Bool)) ([16,17]++rg 101 45) [800,1000,1900,4000,9003,11200,11300,12402,12500,12600] (Sum.elim (fun yy1=>([(101,vI (yy1.1:Int))]:Sl)) (fun yy1=>([(101,vI (yy1.1:Int))]:Sl))) (Sum.elim (fun yy1=>([(1000,some (.box 49 [.own 3400,.own 3700,.own 9003,.own 4000,.own 4300,vI d.value.num,vI d.value.den])),(4000,some (.arr 30 2 true (yy1.2.2.1.map aB))),(1900,some (.box 87 [vB yy1.2.2.2])),(800,some (.box 85 [.ptr 1900 0])),(9003,some (.arr 31 1 true (yy1.2.1.map aE)))]:Rl)) (fun yy1=>([(1000,some (.box 49 [.own 3400,.own 3700,.own 9003,.own 4000,.own 4300,vI d.value.num,vI d.value.den])),(4000,some (.arr 30 2 true (yy1.2.2.1.map aB))),(1900,some (.box 87 [vB yy1.2.2.2])),(800,some (.box 85 [.ptr 1900 0])),(9003,some (.hole 31 1 (yy1.2.1.map aE) i.toNat 0 6500))]:Rl))) (Sum.elim (fun yy1=>(yy1.1<=d.basic.length/\(yy1.1:Int)<=i)/\yy1.2.1=eN d i.toNat j.toNat yy1.1/\yy1.2.1.length=yy1.1/\yy1.2.2.1=eU d i.toNat j.toNat yy1.1++d.limits.drop yy1.1/\yy1.2.2.1.length=d.limits.length/\yy1.2.2.2= !((cX d i.toNat j.toNat d.others.length&&(cL d i.toNat j.toNat).2)&&eO d i.toNat j.toNat yy1.1)) (fun yy1=>(yy1.1<=d.basic.length/\i<(yy1.1:Int))/\yy1.2.1=eN d i.toNat j.toNat yy1.1/\yy1.2.1.length=yy1.1/\yy1.2.2.1=eU d i.toNat j.toNat yy1.1++d.limits.drop yy1.1/\yy1.2.2.1.length=d.limits.length/\yy1.2.2.2= !((cX d i.toNat j.toNat d.others.length&&(cL d i.toNat j.toNat).2)&&eO d i.toNat j.toNat yy1.1))) (Sum.elim (fun yy1=>d.basic.length - yy1.1) (fun yy1=>d.basic.length - yy1.1)) (Sum.elim (fun yy1=>(.yes<| .elem _ aE d.table (fun e104=> .br (.apph (List aC) aE yy1.2.1 yy0.2.1<| .len yy1.2.2.1.length<| .set aC aB yy1.2.2.1 (fun s22_5=>((aR e93 e26).1)) (fun s22_5=> .back [(800,800),(1000,1000),(1900,1900),(4000,4000),(9003,11300)] 1)) (mW (jA e104 yy0.2.1 e26 j yy1.2.2.2) [(0,800),(1,1900)]<| .appx (List aC) aE yy1.2.1 (cY e104 yy0.2.1 j.toNat e104.length)<| .elem _ aB d.limits (fun e135=> .elem _ aB e104 (fun e139=> .call (.agg [vI ((cN e139).num),vI ((cN e139).den)]) []<| mW (nV (yy1.2.2.2 || !dU e104 yy0.2.1 j.toNat e104.length) e135 (cN e139) ((aR e93 e26).1)) [(0,1900)]<| .len yy1.2.2.1.length<| .set aC aB yy1.2.2.1 (fun s24_17=>((cK e135 (cN e139) ((aR e93 e26).1)).1)) (fun s24_17=> .back [(800,800),(1000,1000),(1900,1900),(4000,4000),(9003,12600)] 0))))):T)) (fun yy1=>(.br (.elem _ aE d.table (fun e104=> .no<| mW (jA e104 yy0.2.1 e26 j yy1.2.2.2) [(0,800),(1,1900)]<| .appy (List aC) aE yy1.2.1 (cY e104 yy0.2.1 j.toNat e104.length)<| .elem _ aB d.limits (fun e135=> .elem _ aB e104 (fun e139=> .call (.agg [vI ((cN e139).num),vI ((cN e139).den)]) []<| mW (nV (yy1.2.2.2 || !dU e104 yy0.2.1 j.toNat e104.length) e135 (cN e139) ((aR e93 e26).1)) [(0,1900)]<| .len yy1.2.2.1.length<| .set aC aB yy1.2.2.1 (fun s24_17=>((cK e135 (cN e139) ((aR e93 e26).1)).1)) (fun s24_17=> .back [(800,800),(1000,1000),(1900,1900),(4000,4000),(9003,12600)] 1))))) (mW (jA d.costs yy0.2.1 e26 j yy1.2.2.2) [(0,800),(1,1900)]<| .join 27 9003 6500 (List aC) aE yy1.2.1 (fun a6500=>yy0.2.1) (fun a6500=> .elem _ aB d.costs (fun e157=>mW (nV (yy1.2.2.2 || !dU d.costs yy0.2.1 j.toNat d.costs.length) d.value e157 ((aR e93 e26).1)) [(0,1900)]<| .br (.fin []) (.fin [(0,3400),(1,3700),(2,9003),(3,4000),(4,14902)])))):T))))))))))))))) (p:=Lx (d.basic.map aI)<| Lx (d.others.map aI)<| Lx (d.table.map aE)<| Lx (d.limits.map aB)<| Lx (d.costs.map aB)<| 0<=i/\Em aE d.table ((i).toNat) fun e23=>0<=j/\Em aB e23 ((j).toNat) fun e26=>Br (e26.num=0) (0=((dJ d i.toNat j.toNat).1.value.num)/\0=((dJ d i.toNat j.toNat).1.value.den)/\(false)=((dJ d i.toNat j.toNat).2)/\[]=(dJ d i.toNat j.toNat).1.basic.map aI/\[]=(dJ d i.toNat j.toNat).1.others.map aI/\[]=(dJ d i.toNat j.toNat).1.table.map aE/\[]=(dJ d i.toNat j.toNat).1.limits.map aB/\[]=(dJ d i.toNat j.toNat).1.costs.map aB/\True) (aIr d.basic/\(aIr d.others/\(Con Try.prog 82 [.one (.sl 30 2 (d.limits.map aB))] (.own 0) [(0,.arr 30 2 true (d.limits.map aB))]/\(Con Try.prog 82 [.one (.sl 30 2 (d.costs.map aB))] (.own 0) [(0,.arr 30 2 true (d.costs.map aB))]/\(0<=j/\Em aI d.others ((j).toNat) fun e56=>0<=i/\Em aI d.basic ((i).toNat) fun e61=>0<=i/\Lm aI d.basic/\i<(d.basic.length:Int)/\(d.basic.map aI=d.basic.map aI/\(i).toNat<d.basic.length/\ ∀s6_17,d.basic[(i).toNat]? =some s6_17->fY (aI s6_17)=true/\0+1<=(aI s6_17).length/\(aI s6_17).take 0++[.int .i64 e56]++(aI s6_17).drop (0+1)=aI e56/\(0<=j/\Lm aI d.others/\j<(d.others.length:Int)/\(d.others.map aI=d.others.map aI/\(j).toNat<d.others.length/\ ∀s6_19,d.others[(j).toNat]? =some s6_19->fY (aI s6_19)=true/\0+1<=(aI s6_19).length/\(aI s6_19).take 0++[.int .i64 e61]++(aI s6_19).drop (0+1)=aI e61/\(0<=i/\Em aE d.table ((i).toNat) fun e69=>Lm aB e69/\((∃(k:Nat) (pr:List aC) (g:Bool),0=(k:Int)/\[]=pr.map aB/\(false)=g/\k<=d.others.length/\pr=dB d i.toNat j.toNat k/\g= !cX d i.toNat j.toNat k/\pr.length=k)/\ ∀(k:Nat) (pr:List aC) (g:Bool),(k<=d.others.length/\pr=dB d i.toNat j.toNat k/\g= !cX d i.toNat j.toNat k/\pr.length=k)->Br ((k:Int)<(e69.length:Int)) (0<=(k:Int)/\Em aB e69 k fun e75=>Br ((k:Int)=j) (jL (1:Int)/\aAj g (aF (1:Int)) e26/\((aF (1:Int)).num)=((aF (1:Int)).num)/\((aF (1:Int)).den)=((aF (1:Int)).den)/\e26.num=e26.num/\e26.den=e26.den/\(g)=g/\Ap aB pr ([((aR (aF (1:Int)) e26).1)]:List aC) 16 (cR ((k:Int)+1)/\ ∃(k' :Nat) (pr' :List aC) (g' :Bool),((k:Int)+1)=(k' :Int)/\(pr++[((aR (aF (1:Int)) e26).1)]).map aB=pr'.map aB/\(g || !(aR (aF (1:Int)) e26).2)=g' /\(k' <=d.others.length/\pr' =dB d i.toNat j.toNat k' /\g' = !cX d i.toNat j.toNat k' /\pr'.length=k')/\d.others.length - k' <d.others.length - k)) (aAj g e75 e26/\e75.num=e75.num/\e75.den=e75.den/\e26.num=e26.num/\e26.den=e26.den/\(g)=g/\Ap aB pr ([((aR e75 e26).1)]:List aC) 16 (cR ((k:Int)+1)/\ ∃(k' :Nat) (pr' :List aC) (g' :Bool),((k:Int)+1)=(k' :Int)/\(pr++[((aR e75 e26).1)]).map aB=pr'.map aB/\(g || !(aR e75 e26).2)=g' /\(k' <=d.others.length/\pr' =dB d i.toNat j.toNat k' /\g' = !cX d i.toNat j.toNat k' /\pr'.length=k')/\d.others.length - k' <d.others.length - k))) (0<=i/\Em aB d.limits ((i).toNat) fun e93=>aAj g e93 e26/\e93.num=e93.num/\e93.den=e93.den/\e26.num=e26.num/\e26.den=e26.den/\(g)=g/\(Lm aE d.table/\((∃(r:Nat) (tb:List (List aC)) (ls:List aC) (f1:Bool),0=(r:Int)/\d.value.num=d.value.num/\d.value.den=d.value.den/\d.limits.map aB=ls.map aB/\(g || !(aR e93 e26).2)=f1/\[]=tb.map aE/\(r<=d.basic.length/\(r:Int)<=i)/\tb=eN d i.toNat j.toNat r/\tb.length=r/\ls=eU d i.toNat j.toNat r++d.limits.drop r/\ls.length=d.limits.length/\f1= !((cX d i.toNat j.toNat d.others.length&&(cL d i.toNat j.toNat).2)&&eO d i.toNat j.toNat r))/\(∀(r:Nat) (tb:List (List aC)) (ls:List aC) (f1:Bool),((r<=d.basic.length/\(r:Int)<=i)/\tb=eN d i.toNat j.toNat r/\tb.length=r/\ls=eU d i.toNat j.toNat r++d.limits.drop r/\ls.length=d.limits.length/\f1= !((cX d i.toNat j.toNat d.others.length&&(cL d i.toNat j.toNat).2)&&eO d i.toNat j.toNat r))->(decide ((r:Int)<(d.table.length:Int)))=true/\(0<=(r:Int)/\Em aE d.table r fun e104=>Br ((r:Int)=i) (tb.map aE=tb.map aE/\([.sl 30 2 (pr.map aB)]:List bE)= [.sl 30 2 (pr.map aB)]/\(tb.length+1)*24<=140737488355328/\(0<=(r:Int)/\Lm aB ls/\(r:Int)<(ls.length:Int)/\(ls.map aB=ls.map aB/\r<ls.length/\ ∀s22_5,ls[r]? =some s22_5->fY (aB s22_5)=true/\0+2<=(aB s22_5).length/\(aB s22_5).take 0++[.int .i64 ((aR e93 e26).1.num),.int .i64 ((aR e93 e26).1.den)]++(aB s22_5).drop (0+2)=aB ((aR e93 e26).1)/\cR ((r:Int)+1)/\ ∃(r' :Nat) (tb' :List (List aC)) (ls' :List aC) (f1' :Bool),((r:Int)+1)=(r' :Int)/\d.value.num=d.value.num/\d.value.den=d.value.den/\(ls.set r ((aR e93 e26).1)).map aB=ls'.map aB/\(f1)=f1' /\(tb++[pr]).map aE=tb'.map aE/\tb.length=i.toNat/\((r' <=d.basic.length/\i<(r' :Int))/\tb' =eN d i.toNat j.toNat r' /\tb'.length=r' /\ls' =eU d i.toNat j.toNat r' ++d.limits.drop r' /\ls'.length=d.limits.length/\f1' = !((cX d i.toNat j.toNat d.others.length&&(cL d i.toNat j.toNat).2)&&eO d i.toNat j.toNat r'))/\d.basic.length - r' <d.basic.length - r))) (pR e104 pr e26 j f1/\e104.map aB=e104.map aB/\j=j/\e26.num=e26.num/\e26.den=e26.den/\pr.map aB=pr.map aB/\(f1)=f1/\(tb.map aE=tb.map aE/\(cY e104 pr j.toNat e104.length).map aB=(cY e104 pr j.toNat e104.length).map aB/\(tb.length+1)*24<=140737488355328/\(0<=(r:Int)/\Em aB d.limits r fun e135=>0<=j/\Em aB e104 ((j).toNat) fun e139=>kY e139/\(vN (f1 || !dU e104 pr j.toNat e104.length) e135 (cN e139) ((aR e93 e26).1)/\e135.num=e135.num/\e135.den=e135.den/\((cN e139).num)=((cN e139).num)/\((cN e139).den)=((cN e139).den)/\((aR e93 e26).1.num)=((aR e93 e26).1.num)/\((aR e93 e26).1.den)=((aR e93 e26).1.den)/\(f1 || !dU e104 pr j.toNat e104.length)=(f1 || !dU e104 pr j.toNat e104.length)/\(0<=(r:Int)/\Lm aB ls/\(r:Int)<(ls.length:Int)/\(ls.map aB=ls.map aB/\r<ls.length/\ ∀s24_17,ls[r]? =some s24_17->fY (aB s24_17)=true/\0+2<=(aB s24_17).length/\(aB s24_17).take 0++[.int .i64 (((cK e135 (cN e139) ((aR e93 e26).1)).1).num),.int .i64 (((cK e135 (cN e139) ((aR e93 e26).1)).1).den)]++(aB s24_17).drop (0+2)=aB ((cK e135 (cN e139) ((aR e93 e26).1)).1)/\cR ((r:Int)+1)/\ ∃(r' :Nat) (tb' :List (List aC)) (ls' :List aC) (f1' :Bool),((r:Int)+1)=(r' :Int)/\d.value.num=d.value.num/\d.value.den=d.value.den/\(ls.set r ((cK e135 (cN e139) ((aR e93 e26).1)).1)).map aB=ls'.map aB/\((f1 || !dU e104 pr j.toNat e104.length) || !(cK e135 (cN e139) ((aR e93 e26).1)).2)=f1' /\(tb++[cY e104 pr j.toNat e104.length]).map aE=tb'.map aE/\((r' <=d.basic.length/\(r' :Int)<=i)/\tb' =eN d i.toNat j.toNat r' /\tb'.length=r' /\ls' =eU d i.toNat j.toNat r' ++d.limits.drop r' /\ls'.length=d.limits.length/\f1' = !((cX d i.toNat j.toNat d.others.length&&(cL d i.toNat j.toNat).2)&&eO d i.toNat j.toNat r'))/\d.basic.length - r' <d.basic.length - r))))))))/\(∀(r:Nat) (tb:List (List aC)) (ls:List aC) (f1:Bool),((r<=d.basic.length/\i<(r:Int))/\tb=eN d i.toNat j.toNat r/\tb.length=r/\ls=eU d i.toNat j.toNat r++d.limits.drop r/\ls.length=d.limits.length/\f1= !((cX d i.toNat j.toNat d.others.length&&(cL d i.toNat j.toNat).2)&&eO d i.toNat j.toNat r))->Br ((r:Int)<(d.table.length:Int)) (0<=(r:Int)/\Em aE d.table r fun e104=>(decide ((r:Int)=i))=false/\(pR e104 pr e26 j f1/\e104.map aB=e104.map aB/\j=j/\e26.num=e26.num/\e26.den=e26.den/\pr.map aB=pr.map aB/\(f1)=f1/\(tb.map aE=tb.map aE/\(cY e104 pr j.toNat e104.length).map aB=(cY e104 pr j.toNat e104.length).map aB/\(tb.length+1)*24<=140737488355328/\(0<=(r:Int)/\Em aB d.limits r fun e135=>0<=j/\Em aB e104 ((j).toNat) fun e139=>kY e139/\(vN (f1 || !dU e104 pr j.toNat e104.length) e135 (cN e139) ((aR e93 e26).1)/\e135.num=e135.num/\e135.den=e135.den/\((cN e139).num)=((cN e139).num)/\((cN e139).den)=((cN e139).den)/\((aR e93 e26).1.num)=((aR e93 e26).1.num)/\((aR e93 e26).1.den)=((aR e93 e26).1.den)/\(f1 || !dU e104 pr j.toNat e104.length)=(f1 || !dU e104 pr j.toNat e104.length)/\(0<=(r:Int)/\Lm aB ls/\(r:Int)<(ls.length:Int)/\(ls.map aB=ls.map aB/\r<ls.length/\ ∀s24_17,ls[r]? =some s24_17->fY (aB s24_17)=true/\0+2<=(aB s24_17).length/\(aB s24_17).take 0++[.int .i64 (((cK e135 (cN e139) ((aR e93 e26).1)).1).num),.int .i64 (((cK e135 (cN e139) ((aR e93 e26).1)).1).den)]++(aB s24_17).drop (0+2)=aB ((cK e135 (cN e139) ((aR e93 e26).1)).1)/\cR ((r:Int)+1)/\ ∃(r' :Nat) (tb' :List (List aC)) (ls' :List aC) (f1' :Bool),((r:Int)+1)=(r' :Int)/\d.value.num=d.value.num/\d.value.den=d.value.den/\(ls.set r ((cK e135 (cN e139) ((aR e93 e26).1)).1)).map aB=ls'.map aB/\((f1 || !dU e104 pr j.toNat e104.length) || !(cK e135 (cN e139) ((aR e93 e26).1)).2)=f1' /\(tb++[cY e104 pr j.toNat e104.length]).map aE=tb'.map aE/\i.toNat=i.toNat/\((r' <=d.basic.length/\i<(r' :Int))/\tb' =eN d i.toNat j.toNat r' /\tb'.length=r' /\ls' =eU d i.toNat j.toNat r' ++d.limits.drop r' /\ls'.length=d.limits.length/\f1' = !((cX d i.toNat j.toNat d.others.length&&(cL d i.toNat j.toNat).2)&&eO d i.toNat j.toNat r'))/\d.basic.length - r' <d.basic.length - r))))))) (pR d.costs pr e26 j f1/\d.costs.map aB=d.costs.map aB/\j=j/\e26.num=e26.num/\e26.den=e26.den/\pr.map aB=pr.map aB/\(f1)=f1/\(tb.map aE=tb.map aE/\i.toNat<tb.length/\ ∀a6500,tb[i.toNat]? =some a6500->((aE a6500).take 0++ .sl 30 2 (pr.map aB)::(aE a6500).drop (0+1)=aE pr)/\0<=j/\Em aB d.costs ((j).toNat) fun e157=>vN (f1 || !dU d.costs pr j.toNat d.costs.length) d.value e157 ((aR e93 e26).1)/\d.value.num=d.value.num/\d.value.den=d.value.den/\e157.num=e157.num/\e157.den=e157.den/\((aR e93 e26).1.num)=((aR e93 e26).1.num)/\((aR e93 e26).1.den)=((aR e93 e26).1.den)/\(f1 || !dU d.costs pr j.toNat d.costs.length)=(f1 || !dU d.costs pr j.toNat d.costs.length)/\Bb ((f1 || !dU d.costs pr j.toNat d.costs.length) || !(cK d.value e157 ((aR e93 e26).1)).2) (0=((dJ d i.toNat j.toNat).1.value.num)/\0=((dJ d i.toNat j.toNat).1.value.den)/\(false)=((dJ d i.toNat j.toNat).2)/\[]=(dJ d i.toNat j.toNat).1.basic.map aI/\[]=(dJ d i.toNat j.toNat).1.others.map aI/\[]=(dJ d i.toNat j.toNat).1.table.map aE/\[]=(dJ d i.toNat j.toNat).1.limits.map aB/\[]=(dJ d i.toNat j.toNat).1.costs.map aB/\True) ((((cK d.value e157 ((aR e93 e26).1)).1).num)=((dJ d i.toNat j.toNat).1.value.num)/\(((cK d.value e157 ((aR e93 e26).1)).1).den)=((dJ d i.toNat j.toNat).1.value.den)/\(true)=((dJ d i.toNat j.toNat).2)/\(d.basic.set ((i).toNat) e56).map aI=(dJ d i.toNat j.toNat).1.basic.map aI/\(d.others.set ((j).toNat) e61).map aI=(dJ d i.toNat j.toNat).1.others.map aI/\(tb.set i.toNat pr).map aE=(dJ d i.toNat j.toNat).1.table.map aE/\ls.map aB=(dJ d i.toNat j.toNat).1.limits.map aB/\(cY d.costs pr j.toNat d.costs.length).map aB=(dJ d i.toNat j.toNat).1.costs.map aB/\True)))))))))))))))))) (by kernel_rfl) ?_;refine lx fun n0=>lx fun n1=>lx fun n2=>lx fun n3=>lx fun n4=>?_;obtain⟨b1,b2,b3,b4,b5,b6,b7,b8⟩:=dE hd;refine aBD fun e23 h23=>?_;obtain⟨hr23,hv23⟩:=b5 _ (List.mem_of_getElem? h23);refine aBD fun e26 h26=>?_;have ha:dF d i.toNat j.toNat=e26:=eW h23 h26;have hva:aJ e26=true:=hv23 _ (List.mem_of_getElem? h26);refine dd (fun c0=>?_) fun c0=>?_
 ·apply et8<;>((rw[aMM (by rw[ha];exact c0)]<;>rfl))
 ·have hnz: ¬e26.num=0:=c0;refine⟨cpI _ (by omega),cpI _ (by omega),tU d.limits (by omega) (by omega),tU d.costs (by omega) (by omega),by omega,rfl,by omega,fun e56 h56=>?_⟩;have w56:d.others.getD j.toNat 0=e56:=aP h56;refine aBD fun e61 h61=>?_;have w61:d.basic.getD i.toNat 0=e61:=aP h61;refine⟨by omega,List.length_map _,by omega,rfl,by omega,fun s6_17 hs6_17=>⟨rfl,Nat.le_of_ble_eq_true rfl,rfl,?_⟩⟩;refine⟨by omega,List.length_map _,by omega,rfl,by omega,fun s6_19 hs6_19=>⟨rfl,Nat.le_of_ble_eq_true rfl,rfl,?_⟩⟩;refine aBD fun e69 h69=>?_;obtain rfl:=fS h23 h69;refine⟨List.length_map _,⟨0,([]:List aC),false,rfl,rfl,rfl,Nat.zero_le _,rfl,rfl,rfl⟩,fun k pr g ⟨hk,hpr,hf,hL⟩=>?_⟩;refine dd (fun c1=>?_) fun c1=>?_
  ·refine aBD fun e75 h75=>?_;refine dd (fun c2=>?_) fun c2=>?_
   ·refine⟨pO (1:Int),aKh g (aF (1:Int)) e26,rfl,rfl,rfl,rfl,rfl,?_⟩;refine ap ?_;refine aBV ?_;exact⟨k+1,_,g || !(aR (aF (1:Int)) e26).2,rfl,rfl,rfl,⟨by omega,by (rw[hpr,jN,wX ha (by omega)]<;>rfl),by (rw[jO,hf,nt2,wX ha (by omega)]<;>rfl),by simp;omega⟩,by omega⟩
   ·refine⟨aKh g e75 e26,rfl,rfl,rfl,rfl,rfl,?_⟩;refine ap ?_;refine aBV ?_;exact⟨k+1,_,g || !(aR e75 e26).2,rfl,rfl,rfl,⟨by omega,by (rw[hpr,jN,wW ha (eW h23 h75) (by omega)]<;>rfl),by (rw[jO,hf,nt2,wW ha (eW h23 h75) (by omega)]<;>rfl),by simp;omega⟩,by omega⟩
  ·have hk' :k=d.others.length:=by omega
   rw[hk'] at hpr hf;have hpj:pr.getD j.toNat zR=(aR sQ e26).1:=by rw[hpr];exact aIz (by omega) ha
   refine aBD fun e93 h93=>?_;have hl:cL d i.toNat j.toNat=aR e93 e26:=by rw[cL,aP h93,ha]
   refine⟨aKh g e93 e26,rfl,rfl,rfl,rfl,rfl,List.length_map _,⟨0,([]:List (List aC)),d.limits,g || !(aR e93 e26).2,by rfl,by rfl,by rfl,by rfl,by rfl,by rfl,⟨Nat.zero_le _,by omega⟩,rfl,rfl,rfl,rfl,by rw[show eO d i.toNat j.toNat 0=true from rfl,Bool.and_true,hl,hf,nt2]⟩,?_,?_⟩
   ·intro r tb ls f1 ⟨hr,ht,htL,hls,hlL,hf1⟩;refine⟨by rw[decide_eq_true_eq];omega,by omega,rfl,by omega,fun e104 h104=>?_⟩;obtain⟨hr104,hv104⟩:=b5 _ (List.mem_of_getElem? h104);refine dd (fun c4=>?_) fun c4=>?_
    ·refine⟨rfl,rfl,by omega,by omega,List.length_map _,by omega,rfl,by omega,fun s22_5 hs22_5=>⟨rfl,Nat.le_of_ble_eq_true rfl,rfl,?_⟩⟩;refine aBV ?_;exact⟨r+1,_,_,f1,by rfl,by rfl,by rfl,by rfl,by rfl,by rfl,by omega,⟨⟨by omega,by omega⟩,by rw[ht,gP,(aCF (show r=i.toNat by omega)).1,<-hpr],by simp;omega,by rw[hls,vO (tV _ _ _ _) (by omega),gQ,(aCF (show r=i.toNat by omega)).2.1,hl]<;>rfl,by rw[List.length_set];exact hlL,by rw[gS,(aCF (show r=i.toNat by omega)).2.2,Bool.and_true];exact hf1⟩,by omega⟩
    ·refine⟨aAk e104 pr e26 j f1 (by omega) (by omega) (by omega) (by assumption) (by assumption) (by assumption) (by assumption),rfl,rfl,rfl,rfl,rfl,rfl,rfl,rfl,by omega,by omega,rfl,by omega,fun e135 h135=>?_⟩;refine aBD fun e139 h139=>?_;have z:=aJC (d:=d) (i:=i.toNat) (j:=j.toNat) (r:=r) (by omega) hpr h104 hr104 h139 h135 (show (cL d i.toNat j.toNat).1=_ by rw[hl]);have hcb:=bA (hv104 _ (List.mem_of_getElem? h139));refine⟨rL e139 (by omega),aGF (f1 || !dU e104 pr j.toNat e104.length) e135 (cN e139) ((aR e93 e26).1),rfl,rfl,rfl,rfl,rfl,rfl,rfl,by omega,List.length_map _,by omega,rfl,by omega,fun s24_17 hs24_17=>⟨rfl,Nat.le_of_ble_eq_true rfl,rfl,?_⟩⟩;refine aBV ?_;exact⟨r+1,_,_,(f1 || !dU e104 pr j.toNat e104.length) || !(cK e135 (cN e139) ((aR e93 e26).1)).2,by rfl,by rfl,by rfl,by rfl,by rfl,by rfl,⟨⟨by omega,by omega⟩,by rw[ht,gP,z.1],by simp;omega,by rw[hls,vO (tV _ _ _ _) (by omega),gQ,z.2.1]<;>rfl,by rw[List.length_set];exact hlL,by rw[gS,z.2.2,hf1,aEX]⟩,by omega⟩
   ·intro r tb ls f1 ⟨hr,ht,htL,hls,hlL,hf1⟩;refine dd (fun c3=>?_) fun c3=>?_
    ·refine aBD fun e104 h104=>?_;obtain⟨hr104,hv104⟩:=b5 _ (List.mem_of_getElem? h104);refine⟨by rw[decide_eq_false_iff_not];omega,aAk e104 pr e26 j f1 (by omega) (by omega) (by omega) (by assumption) (by assumption) (by assumption) (by assumption),rfl,rfl,rfl,rfl,rfl,rfl,rfl,rfl,by omega,by omega,rfl,by omega,fun e135 h135=>?_⟩;refine aBD fun e139 h139=>?_;have z:=aJC (d:=d) (i:=i.toNat) (j:=j.toNat) (r:=r) (by omega) hpr h104 hr104 h139 h135 (show (cL d i.toNat j.toNat).1=_ by rw[hl]);have hcb:=bA (hv104 _ (List.mem_of_getElem? h139));refine⟨rL e139 (by omega),aGF (f1 || !dU e104 pr j.toNat e104.length) e135 (cN e139) ((aR e93 e26).1),rfl,rfl,rfl,rfl,rfl,rfl,rfl,by omega,List.length_map _,by omega,rfl,by omega,fun s24_17 hs24_17=>⟨rfl,Nat.le_of_ble_eq_true rfl,rfl,?_⟩⟩;refine aBV ?_;exact⟨r+1,_,_,(f1 || !dU e104 pr j.toNat e104.length) || !(cK e135 (cN e139) ((aR e93 e26).1)).2,by rfl,by rfl,by rfl,by rfl,by rfl,by rfl,by rfl,⟨⟨by omega,by omega⟩,by rw[ht,gP,z.1],by simp;omega,by rw[hls,vO (tV _ _ _ _) (by omega),gQ,z.2.1]<;>rfl,by rw[List.length_set];exact hlL,by rw[gS,z.2.2,hf1,aEX]⟩,by omega⟩
    ·refine⟨aAk d.costs pr e26 j f1 (by omega) (by omega) (by omega) (by exact b7.2) (by assumption) (by assumption) (by assumption),rfl,rfl,rfl,rfl,rfl,rfl,rfl,by omega,fun a6500 ha6500=>⟨rfl,?_⟩⟩;refine aBD fun e157 h157=>?_;have hV:nE d i.toNat j.toNat=cK d.value e157 (aR e93 e26).1:=by rw[nE,aP h157,hl]
     refine⟨aGF (f1 || !dU d.costs pr j.toNat d.costs.length) d.value e157 ((aR e93 e26).1),rfl,rfl,rfl,rfl,rfl,rfl,rfl,?_⟩;have hfl:(!((iJ d i.toNat j.toNat)&&(nE d i.toNat j.toNat).2))=((f1 || !dU d.costs pr j.toNat d.costs.length) || !(cK d.value e157 (aR e93 e26).1).2):=by rw[hf1,hV,iJ,aFy,<-hpr,aJB,show d.costs.length=d.others.length from b7.1,show r=d.basic.length by omega]
     refine db (fun c5=>?_) fun c5=>?_
     ·have hP:=aKi (hfl.trans c5);apply et8<;>((rw[hP]<;>rfl))
     ·have hP:=aJA (by rw[ha];exact hnz) (hfl.trans c5);apply et8<;>((rw[hP]<;>first|(rw[dW,w56]<;>rfl)|(rw[dW,w61]<;>rfl)|(rw[ht,show r=d.basic.length by omega,hpr,tT (by omega)]<;>rfl)|(rw[hls,show r=d.basic.length by omega,aGG (by omega)]<;>rfl)|(rw[dW,aCs,<-hpr,show d.costs.length=d.others.length from b7.1]<;>rfl)|(rw[dW,hV];done)))
theorem getD_some {α:Type}{l:List α}{i:Nat}{x:α}(h:i<l.length):l[i]? =some (l.getD i x):=by rw[List.getD_eq_getElem?_getD,List.getElem?_eq_getElem h];rfl
theorem aCI (k:Nat):upto (k+1)=upto k++[(k:Int)]:=by simp[upto,List.range_succ]
def aAl (n i:Nat):List Int:=(List.range i).map fun (j:Nat)=>((n+j:Nat):Int)
theorem aCJ (n i:Nat):aAl n (i+1)=aAl n i++[((n+i:Nat):Int)]:=by simp[aAl,List.range_succ]
theorem aKj {p:aQ}(h:aW p=true){i:Nat}(hi:i<p.rows.length):(p.rows.getD i []).length=p.objective.length:=by
 obtain⟨_,_,_,b4,_⟩:=cP h;have:=List.mem_of_getElem? (getD_some (x:=([]:List Int)) hi);exact(b4 _ (List.mem_append_left _ this)).1
abbrev jB (l:List Int):AV × List (Nat × Rs):=(.own 0,[(0,.arr 30 2 true ((l.map aF).map aB))])
abbrev kZ (l:List Int):Prop:=Cn 43 [.one (.sl 3 1 (l.map aI))] (jB l).1 (jB l).2
theorem rM (l:List Int)(hl:l.length<=1048576):kZ l:=by
 refine cq Try.func43 (.len l.length<| .loop (Nat × (List aC)) (Q2 Nat (List aC)) ([3,5,6]++rg 9 10) [600,1600,1700] (fun yy0=>[(9,vI (yy0.1:Int)),(3,.own 600)]) (fun yy0=>[(600,some (.arr 30 2 true (yy0.2.map aB)))]) (fun yy0=>yy0.1<=l.length/\yy0.2=(l.take yy0.1).map aF/\yy0.2.length=yy0.1) (fun yy0=>l.length - yy0.1) (fun yy0=> .br (.elem _ aI l (fun e11=> .call (.agg [vI ((aF e11).num),vI ((aF e11).den)]) []<| .app aC aB yy0.2 ([(aF e11)]:List aC)<| .back [(600,1700)])) (.fin [(0,600)]))) (p:=Lx (l.map aI)<| Lm aI l/\((∃(k:Nat) (o:List aC),0=(k:Int)/\[]=o.map aB/\k<=l.length/\o=(l.take k).map aF/\o.length=k)/\ ∀(k:Nat) (o:List aC),(k<=l.length/\o=(l.take k).map aF/\o.length=k)->Br ((k:Int)<(l.length:Int)) (0<=(k:Int)/\Em aI l k fun e11=>jL e11/\Ap aB o ([(aF e11)]:List aC) 16 (cR ((k:Int)+1)/\ ∃(k' :Nat) (o' :List aC),((k:Int)+1)=(k' :Int)/\(o++[(aF e11)]).map aB=o'.map aB/\(k' <=l.length/\o' =(l.take k').map aF/\o'.length=k')/\l.length - k' <l.length - k)) (o.map aB=(l.map aF).map aB/\True))) (by kernel_rfl) ?_;refine lx fun n0=>?_;refine⟨List.length_map _,⟨0,([]:List aC),rfl,rfl,Nat.zero_le _,rfl,rfl⟩,fun k o ⟨hk,ho,hL⟩=>?_⟩;refine dd (fun c0=>?_) fun c0=>?_
 ·refine aBD fun e11 h11=>?_;refine⟨pO e11,?_⟩;refine ap ?_;refine aBV ?_;exact⟨k+1,_,rfl,rfl,⟨by omega,by rw[ho,jD h11,List.map_append];rfl,by simp;omega⟩,by omega⟩
 ·apply et1
  ·rw[ho,List.take_of_length_le (by omega)]
end Go.Proofs.Ytepphdhnkaiamaa
