/-
  Contracts and plain laws, joined: part 8.
-/
import Derived.Test.YtpoobcnmhnbdlaaP16
namespace Go.Proofs.Ytpoobcnmhnbdlaa
open Go.ChangeShapes Go.WideShapes Go.ChangeAt Go.RowKit
set_option linter.unusedVariables false
set_option linter.unusedSimpArgs false
set_option maxRecDepth 100000
set_option maxHeartbeats 4000000
theorem aCB: ∀(r s:List Int),r.Nodup→(∀x∈r,x∈s)→s.length≤r.length→s.Perm r
 | [],s,_,_,h=>by
   have:s= []:=List.length_eq_zero_iff.1 (by simpa using h)
   rw [this]
 | a::r,s,hn,hs,hl=>by
   have ha:a∈s:=hs a (by simp)
   have p1:s.Perm (a::s.erase a):=List.perm_cons_erase ha
   have hn' :=List.nodup_cons.1 hn
   have:=aCB r (s.erase a) hn'.2 (fun x hx=>(List.mem_erase_of_ne (fun (e:x=a)=>hn'.1 (by rw [←e];exact hx))).2 (hs x (by simp [hx]))) (by
    rw [List.length_erase_of_mem ha]
    simp only [List.length_cons] at hl
    omega)
   exact p1.trans (this.cons a)
def isI (n x:Int):Bool:=decide (x=n)
def jK (l:List Int):Bool:=(List.range l.length).all fun (i:Nat)=>l.any (isI i)
abbrev upto (n:Nat):List Int:=(List.range n).map fun (i:Nat)=>(i:Int)
theorem tC {l:List Int} (h:jK l=true):l.Perm (upto l.length):=by
 refine aCB _ _ ?_ ?_ (by simp)
 ·rw [List.Nodup,List.pairwise_map]
  exact List.nodup_range.imp fun hne he=>hne (by omega)
 ·intro x hx
  obtain ⟨j,hj,rfl⟩:=List.mem_map.1 hx
  have:=List.all_eq_true.1 h j hj
  obtain ⟨y,hy,e⟩:=List.any_eq_true.1 this
  rw [isI,decide_eq_true_eq] at e
  rwa [←e]
theorem aDm {l:List Int} (h:l.Perm (upto l.length)):jK l=true:=by
 refine List.all_eq_true.2 fun i hi=>?_
 have:(i:Int)∈l:=h.mem_iff.2 (List.mem_map.2 ⟨i,hi,rfl⟩)
 exact List.any_eq_true.2 ⟨_,this,by simp [isI]⟩
theorem aEb {l:List Int} (h:jK l=true) {x:Int} (hx:x∈l):0≤x∧x<l.length:=by
 have:=(tC h).mem_iff.1 hx
 obtain ⟨j,hj,rfl⟩:=List.mem_map.1 this
 have:=List.mem_range.1 hj
 omega
theorem aDn {l:List Int} (h:jK l=true):gU l=upto l.length:=by
 refine List.Perm.eq_of_pairwise (le:=fun x y=>decide (x≤y)=true) (fun a b _ _ h1 h2=>?_) (List.pairwise_mergeSort (fun a b c h1 h2=>?_) (fun a b=>?_) l) ?_ ((List.mergeSort_perm l _).trans (tC h))
 ·simp only [decide_eq_true_eq] at h1 h2;omega
 ·simp only [decide_eq_true_eq] at h1 h2 ⊢;omega
 ·simp only [Bool.or_eq_true,decide_eq_true_eq];omega
 ·rw [List.pairwise_map]
  exact List.pairwise_lt_range.imp fun h=>by simp only [decide_eq_true_eq];omega
theorem aDo {l:List Int} (h: ∀i,i<l.length→(gU l)[i]? =some (i:Int)):jK l=true:=by
 refine List.all_eq_true.2 fun i hi=>?_
 rw [List.mem_range] at hi
 exact List.any_eq_true.2 ⟨i,List.mem_mergeSort.1 (List.mem_of_getElem? (h i hi)),by simp [isI]⟩
theorem pD {l:List Int} {k:Nat} {x:Int} (hx:(gU l)[k]? =some x) (hne: ¬x=(k:Int)):jK l=false:=by
 cases e:jK l with
 | false=>rfl
 | true=>
   have hk:k<l.length:=by have:=(List.getElem?_eq_some_iff.1 hx).1;rwa [yE] at this
   rw [aDn e,List.getElem?_map,List.getElem?_range hk] at hx
   exact absurd (Option.some.inj hx).symm hne
def fD (l:List aC) (n:Int):Bool:=decide ((l.length:Int)=n)&&l.all aT
def cB (d:DictionaryD):Bool:=decide ((d.basic.length:Int)≤64)&&(decide (1≤(d.others.length:Int)∧(d.others.length:Int)≤15)&&(decide ((d.table.length:Int)=d.basic.length)&&(jK (d.basic++d.others)&&(d.table.all (fun r=>fD r d.others.length)&&(fD d.limits d.basic.length&&(fD d.costs d.others.length&&aT d.value))))))
theorem dS {d:DictionaryD} (h:jK (d.basic++d.others)=false):cB d=false:=by simp only [cB,h,Bool.false_and,Bool.and_false]
theorem cD {d:DictionaryD} {k:Nat} {r:List aC} (h:d.table[k]? =some r) (hr:fD r d.others.length=false):cB d=false:=by
 have:d.table.all (fun r=>fD r d.others.length)=false:=mQ h hr
 simp only [cB,this,Bool.false_and,Bool.and_false]
theorem dT {d:DictionaryD} (h:fD d.limits d.basic.length=false):cB d=false:=by simp only [cB,h,Bool.false_and,Bool.and_false]
theorem dJ {d:DictionaryD} (h:fD d.costs d.others.length=false):cB d=false:=by simp only [cB,h,Bool.false_and,Bool.and_false]
theorem aDp {d:DictionaryD} (h:(d.basic.length:Int)≤64∧(1≤(d.others.length:Int)∧(d.others.length:Int)≤15)∧(d.table.length:Int)=d.basic.length) (h1:jK (d.basic++d.others)=true) (h2:d.table.all (fun r=>fD r d.others.length)=true) (h3:fD d.limits d.basic.length=true) (h4:fD d.costs d.others.length=true) (h5:aT d.value=true):cB d=true:=by
 simp only [cB,h1,h2,h3,h4,h5,Bool.and_true,Bool.and_eq_true,decide_eq_true_eq]
 exact h
theorem gP {l:List aC} {n:Int} (h: ¬(l.length:Int)=n):fD l n=false:=by simp only [fD,decide_eq_false h,Bool.false_and]
theorem bW {l:List aC} {n:Int} (h:l.all aT=false):fD l n=false:=by simp only [fD,h,Bool.and_false]
theorem dO {l:List aC} {n:Int} (h:(l.length:Int)=n) (h1:l.all aT=true):fD l n=true:=by simp only [fD,decide_eq_true h,h1,Bool.and_true]
theorem iS {l:List aC} {n:Nat}:fD l n=true↔l.length=n∧ ∀x∈l,aT x=true:=by
 simp only [fD,Bool.and_eq_true,decide_eq_true_eq,List.all_eq_true]
 constructor
 ·exact fun h=>⟨by omega,h.2⟩
 ·exact fun h=>⟨by omega,h.2⟩
theorem fR {d:DictionaryD} (h:cB d=true):d.basic.length≤64∧(1≤d.others.length∧d.others.length≤15)∧d.table.length=d.basic.length∧jK (d.basic++d.others)=true∧(∀r∈d.table,r.length=d.others.length∧ ∀x∈r,aT x=true)∧(d.limits.length=d.basic.length∧ ∀x∈d.limits,aT x=true)∧(d.costs.length=d.others.length∧ ∀x∈d.costs,aT x=true)∧aT d.value=true:=by
 simp only [cB,Bool.and_eq_true,decide_eq_true_eq,List.all_eq_true (l:=d.table)] at h
 obtain ⟨h1,h2,h3,h4,h5,h6,h7,h8⟩:=h
 exact ⟨by omega,by omega,by omega,h4,fun r hr=>iS.1 (h5 r hr),iS.1 h6,iS.1 h7,h8⟩
theorem aCC {d:DictionaryD} (h:cB d=true):(∀x∈d.basic,0≤x∧x<d.basic.length+d.others.length)∧ ∀x∈d.others,0≤x∧x<d.basic.length+d.others.length:=by
 obtain ⟨_,_,_,hp,_⟩:=fR h
 have key: ∀x∈d.basic++d.others,0≤x∧x<d.basic.length+d.others.length:=fun x hx=>by
  have:=aEb hp hx
  rw [List.length_append] at this
  omega
 exact ⟨fun x hx=>key x (List.mem_append_left _ hx),fun x hx=>key x (List.mem_append_right _ hx)⟩
def vE (d:DictionaryD) (b:Int) (k:Nat):Bool:=decide (0<(d.costs.getD k zR).num)&&(decide (b<0) || decide (d.others.getD k 0<d.others.getD b.toNat 0))
def iV (d:DictionaryD):Nat→Int
 | 0=> -1
 | k+1=>if vE d (iV d k) k=true then (k:Int) else iV d k
def eC (d:DictionaryD):Int:=iV d d.others.length
theorem tD (d:DictionaryD): ∀k:Nat,-1≤iV d k∧iV d k<k
 | 0=>by simp [iV]
 | k+1=>by
   have:=tD d k
   rw [iV]
   split<;>omega
theorem aDq {d:DictionaryD} {k:Nat} {b:Int} (hb:b=iV d k) (h:vE d b k=true):(k:Int)=iV d (k+1):=by rw [iV,←hb,if_pos h]
theorem aFN {d:DictionaryD} {k:Nat} {b:Int} (hb:b=iV d k) (h:vE d b k=false):b=iV d (k+1):=by rw [iV,←hb,if_neg (by rw [h];decide)]
def iC (d:DictionaryD):Int:=if cB d=true then eC d else -1
def gI (d:DictionaryD) (i j:Nat):aC:=(d.table.getD i []).getD j zR
def kQ (d:DictionaryD) (b:Int) (c:Int) (k:Nat):Bool:=decide (b<0) || (decide (c<0) || (decide (c=0)&&decide (d.basic.getD k 0<d.basic.getD b.toNat 0)))
def eH (d:DictionaryD) (j:Nat):Nat→Nat→Int→aC→Int
 | 0,_,b,_=>b
 | f+1,k,b,l=>if (gI d k j).num≤0 then eH d j f (k+1) b l else if (aQ (d.limits.getD k zR) (gI d k j)).2=false then -1 else if kQ d b (cG (aQ (d.limits.getD k zR) (gI d k j)).1 l) k=true then eH d j f (k+1) (k:Int) (aQ (d.limits.getD k zR) (gI d k j)).1 else eH d j f (k+1) b l
def fJ (d:DictionaryD) (j:Nat):Int:=eH d j d.basic.length 0 (-1) zR
theorem aEc {d:DictionaryD} {j n k:Nat} {b:Int} {l:aC} (hk:k<n) (h:(gI d k j).num≤0):eH d j (n - k) k b l=eH d j (n - (k+1)) (k+1) b l:=by
 rw [show n - k=(n - (k+1))+1 by omega,eH,if_pos h]
theorem aGF {d:DictionaryD} {j n k:Nat} {b:Int} {l:aC} (hk:k<n) (h: ¬(gI d k j).num≤0) (h2:(aQ (d.limits.getD k zR) (gI d k j)).2=false):eH d j (n - k) k b l= -1:=by
 rw [show n - k=(n - (k+1))+1 by omega,eH,if_neg h,if_pos h2]
theorem aGG {d:DictionaryD} {j n k:Nat} {b:Int} {l:aC} (hk:k<n) (h: ¬(gI d k j).num≤0) (h2:(aQ (d.limits.getD k zR) (gI d k j)).2=true) (h3:kQ d b (cG (aQ (d.limits.getD k zR) (gI d k j)).1 l) k=true):eH d j (n - k) k b l=eH d j (n - (k+1)) (k+1) (k:Int) (aQ (d.limits.getD k zR) (gI d k j)).1:=by
 rw [show n - k=(n - (k+1))+1 by omega,eH,if_neg h,if_neg (by rw [h2];decide),if_pos h3]
theorem aH9 {d:DictionaryD} {j n k:Nat} {b:Int} {l:aC} (hk:k<n) (h: ¬(gI d k j).num≤0) (h2:(aQ (d.limits.getD k zR) (gI d k j)).2=true) (h3:kQ d b (cG (aQ (d.limits.getD k zR) (gI d k j)).1 l) k=false):eH d j (n - k) k b l=eH d j (n - (k+1)) (k+1) b l:=by
 rw [show n - k=(n - (k+1))+1 by omega,eH,if_neg h,if_neg (by rw [h2];decide),if_neg (by rw [h3];decide)]
theorem yF (d:DictionaryD) (j:Nat): ∀(f k:Nat) (b:Int) (l:aC),-1≤b∧b<k→ -1≤eH d j f k b l∧eH d j f k b l<(k+f:Nat)
 | 0,k,b,l,h=>by rw [eH];omega
 | f+1,k,b,l,h=>by
   have h1:=yF d j f (k+1) b l (by omega)
   have h2:=yF d j f (k+1) (k:Int) (aQ (d.limits.getD k zR) (gI d k j)).1 (by omega)
   rw [eH]
   split
   ·omega
   ·split
    ·omega
    ·split<;>omega
theorem aDr (d:DictionaryD) (j:Nat): -1≤fJ d j∧fJ d j<d.basic.length:=by
 have:=yF d j d.basic.length 0 (-1) zR (by omega)
 rw [fJ];omega
def lH (d:DictionaryD) (j:Int):Int:=if cB d=true∧0≤j∧j<d.others.length then fJ d j.toNat else -1
def aBV (d:DictionaryD) (i j k:Nat):aC × Bool:=aQ (if k=j then zD else gI d i k) (gI d i j)
def eU (d:DictionaryD) (i j n:Nat):List aC:=(List.range n).map fun k=>(aBV d i j k).1
def dU (d:DictionaryD) (i j n:Nat):Bool:=(List.range n).all fun k=>(aBV d i j k).2
def dP (d:DictionaryD) (i j:Nat):aC × Bool:=aQ (d.limits.getD i zR) (gI d i j)
def chX (l:List aC) (c:aC) (p:List aC) (j k:Nat):aC × Bool:=aU (if k=j then aBU else l.getD k zR) c (p.getD k zR)
def dX (l:List aC) (p:List aC) (j n:Nat):List aC:=(List.range n).map fun k=>(chX l (l.getD j zR) p j k).1
def eO (l:List aC) (p:List aC) (j n:Nat):Bool:=(List.range n).all fun k=>(chX l (l.getD j zR) p j k).2
def aHa (d:DictionaryD) (i j r:Nat):aC × Bool:=aU (d.limits.getD r zR) (gI d r j) (dP d i j).1
def wV (d:DictionaryD) (i j r:Nat):List aC:=if r=i then eU d i j d.others.length else dX (d.table.getD r []) (eU d i j d.others.length) j d.others.length
def yV (d:DictionaryD) (i j r:Nat):aC:=if r=i then (dP d i j).1 else (aHa d i j r).1
def aCh (d:DictionaryD) (i j r:Nat):Bool:=if r=i then true else eO (d.table.getD r []) (eU d i j d.others.length) j d.others.length&&(aHa d i j r).2
def fW (d:DictionaryD) (i j n:Nat):List (List aC):=(List.range n).map (wV d i j)
def gD (d:DictionaryD) (i j n:Nat):List aC:=(List.range n).map (yV d i j)
def fK (d:DictionaryD) (i j n:Nat):Bool:=(List.range n).all (aCh d i j)
def fX (d:DictionaryD) (i j:Nat):List aC:=dX d.costs (eU d i j d.others.length) j d.others.length
def aFO (d:DictionaryD) (i j:Nat):Bool:=eO d.costs (eU d i j d.others.length) j d.others.length
def bX (a b c:aC):aC × Bool:=if b.num=0∨c.num=0 then (a,true) else ((cN a (bR b c).1).1,(bR b c).2&&(cN a (bR b c).1).2)
def tE (d:DictionaryD) (i j:Nat):aC × Bool:=bX d.value (d.costs.getD j zR) (dP d i j).1
def kG (d:DictionaryD) (i j:Nat):Bool:=((dU d i j d.others.length&&(dP d i j).2)&&fK d i j d.basic.length)&&aFO d i j
def tF:DictionaryD:=⟨[],[],[],[],[],⟨0,0⟩⟩
def aH (d:DictionaryD) (i j:Nat):DictionaryD:=⟨d.basic.set i (d.others.getD j 0),d.others.set j (d.basic.getD i 0),fW d i j d.basic.length,gD d i j d.basic.length,fX d i j,(tE d i j).1⟩
def eA (d:DictionaryD) (i j:Nat):DictionaryD × Bool:=if (gI d i j).num≠0∧kG d i j=true∧(tE d i j).2=true then (aH d i j,true) else (tF,false)
def aW (d:DictionaryD) (i j:Int):DictionaryD × Bool:=if cB d=true∧(0≤i∧i<d.basic.length)∧0≤j∧j<d.others.length then eA d i.toNat j.toNat else (tF,false)
theorem aCD (a b c:aC):bX a (dL b) c=aU a b c:=aGC a b c
theorem aHb {a b c:aC} (ha:aT a=true) (h:(bX a b c).2=true):aT (bX a b c).1=true:=by
 unfold bX at*
 split at h
 ·rename_i hp;rw [if_pos hp];exact ha
 ·rename_i hp
  rw [if_neg hp]
  simp only [Bool.and_eq_true] at h
  exact aIo h.2
theorem aIq {a:aC} (h:aT a=true):cN a aBU=(a,true):=by
 have v:cL 0 1=true:=by decide
 rw [cN,show aCc a.num a.den aBU.num aBU.den=bG (a.num*1+0*a.den) (a.den*1) from fC h v]
 rw [Int.zero_mul,Int.mul_one,Int.mul_one,Int.add_zero,tW h];rfl
theorem aIr {b c:aC} (hb:aT b=true) (hc:aT c=true) (h:b.num=0∨c.num=0):bR b c=(aBU,true):=by
 have h1:=cF hb
 have h2:=cF hc
 rw [bR,eT hb hc,show b.num*c.num=0 from Int.mul_eq_zero.2 h,aBy (Int.mul_ne_zero (by omega) (by omega))];rfl
theorem aEd {a b c:aC} (ha:aT a=true) (hb:aT b=true) (hc:aT c=true):bX a b c=((cN a (bR b c).1).1,(bR b c).2&&(cN a (bR b c).1).2):=by
 unfold bX
 split
 ·rename_i h
  rw [aIr hb hc h,aIq ha];rfl
 ·rfl
theorem aGH:aT aBU=true:=by decide
theorem vF {l:List aC} {n k:Nat} (h:l.length=n∧ ∀x∈l,aT x=true) (hk:k<n):aT (l.getD k zR)=true:=by
 have hk' :k<l.length:=by omega
 rw [List.getD_eq_getElem?_getD,List.getElem?_eq_getElem hk']
 exact h.2 _ (List.getElem_mem hk')
theorem aEe (d:DictionaryD) (i j n:Nat):(eU d i j n).length=n:=by simp [eU]
theorem aGI {d:DictionaryD} {i j n:Nat} (h:dU d i j n=true): ∀x∈eU d i j n,aT x=true:=by
 intro x hx
 obtain ⟨k,hk,rfl⟩:=List.mem_map.1 hx
 exact tX (List.all_eq_true.1 h k hk)
theorem aDs {l p:List aC} {j n:Nat} (hl:l.length=n∧ ∀x∈l,aT x=true) (h:eO l p j n=true): ∀x∈dX l p j n,aT x=true:=by
 intro x hx
 obtain ⟨k,hk,rfl⟩:=List.mem_map.1 hx
 refine aDl ?_ (List.all_eq_true.1 h k hk)
 split
 ·exact aGH
 ·exact vF hl (List.mem_range.1 hk)
theorem aHc {a b:List Int} {i j:Nat} {x y:Int} (hx:a[i]? =some x) (hy:b[j]? =some y):(a.set i y++b.set j x).Perm (a++b):=by
 obtain ⟨hi,rfl⟩:=List.getElem?_eq_some_iff.1 hx
 obtain ⟨hj,rfl⟩:=List.getElem?_eq_some_iff.1 hy
 have ea:a.set i b[j]=a.take i++b[j]::a.drop (i+1):=List.set_eq_take_append_cons_drop .. |>.trans (if_pos hi)
 have eb:b.set j a[i]=b.take j++a[i]::b.drop (j+1):=List.set_eq_take_append_cons_drop .. |>.trans (if_pos hj)
 have fa:a=a.take i++a[i]::a.drop (i+1):=by rw [←List.drop_eq_getElem_cons hi,List.take_append_drop]
 have fb:b=b.take j++b[j]::b.drop (j+1):=by rw [←List.drop_eq_getElem_cons hj,List.take_append_drop]
 rw [ea,eb]
 conv=>rhs;rw [fa,fb]
 rw [List.perm_iff_count]
 intro z
 simp only [List.count_append,List.count_cons]
 omega
theorem aIs {d:DictionaryD} {i j:Nat} (h:cB d=true) (hi:i<d.basic.length) (hj:j<d.others.length) (h1:kG d i j=true) (h2:(tE d i j).2=true):cB (aH d i j)=true:=by
 obtain ⟨b1,b2,b3,b4,b5,b6,b7,b8⟩:=fR h
 simp only [kG,Bool.and_eq_true] at h1
 obtain ⟨⟨⟨q1,q2⟩,q3⟩,q4⟩:=h1
 have hb:d.basic[i]? =some (d.basic.getD i 0):=by rw [List.getD_eq_getElem?_getD,List.getElem?_eq_getElem hi];rfl
 have hf:d.others[j]? =some (d.others.getD j 0):=by rw [List.getD_eq_getElem?_getD,List.getElem?_eq_getElem hj];rfl
 refine aDp ?_ ?_ ?_ ?_ ?_ ?_
 ·simp only [aH,List.length_set,fW,List.length_map,List.length_range];exact ⟨by omega,by omega,trivial⟩
 ·refine aDm ?_
  have:=aHc hb hf
  exact (this.trans (tC b4)).trans (by simp only [aH,List.length_append,List.length_set];exact .refl _)
 ·refine List.all_eq_true.2 fun r hr=>?_
  simp only [aH,List.length_set] at hr ⊢
  obtain ⟨k,hk,rfl⟩:=List.mem_map.1 hr
  rw [List.mem_range] at hk
  have ok:=List.all_eq_true.1 q3 k (List.mem_range.2 hk)
  refine iS.2 ?_
  unfold wV
  split
  ·exact ⟨aEe _ _ _ _,aGI q1⟩
  ·rename_i hne
   rw [aCh,if_neg hne,Bool.and_eq_true] at ok
   have hk' :k<d.table.length:=by omega
   have hc:d.table.getD k []=d.table[k]:=by rw [List.getD_eq_getElem?_getD,List.getElem?_eq_getElem hk'];rfl
   exact ⟨by simp [dX],aDs (by rw [hc];exact b5 _ (List.getElem_mem hk')) ok.1⟩
 ·refine iS.2 ⟨by simp [aH,gD],fun x hx=>?_⟩
  obtain ⟨k,hk,rfl⟩:=List.mem_map.1 hx
  rw [List.mem_range] at hk
  have ok:=List.all_eq_true.1 q3 k (List.mem_range.2 hk)
  unfold yV
  split
  ·exact tX q2
  ·rename_i hne
   rw [aCh,if_neg hne,Bool.and_eq_true] at ok
   exact aDl (vF b6 hk) ok.2
 ·refine iS.2 ⟨by simp [aH,fX,dX],?_⟩
  exact aDs b7 q4
 ·exact aHb b8 h2
theorem aCi {d:DictionaryD} {i j:Nat} (h:cB d=true) (hi:i<d.basic.length) (hj:j<d.others.length) (h1:(eA d i j).2=true):cB (eA d i j).1=true∧(eA d i j).1.basic.length=d.basic.length∧(eA d i j).1.others.length=d.others.length:=by
 unfold eA at*
 split at h1
 ·rename_i hp
  rw [if_pos hp]
  exact ⟨aIs h hi hj hp.2.1 hp.2.2,by simp [aH],by simp [aH]⟩
 ·cases h1
def gQ (p:ProgramD):DictionaryD:=⟨(List.range p.rows.length).map (fun (i:Nat)=>((p.objective.length+i:Nat):Int)),upto p.objective.length,p.rows.map (List.map aJ),p.limits.map aJ,p.objective.map aJ,aJ 0⟩
theorem pE {n:Int} (h: -99≤n∧n≤99):aT (aJ n)=true:=by
 have e:Int.gcd n 1=1:=by simp
 simp only [aT,aJ,cL,e,Bool.and_eq_true,decide_eq_true_eq,and_true]
 exact ⟨by decide,zM (by omega) (by omega)⟩
theorem aDt {p:ProgramD} (h:cW p=true):cB (gQ p)=true:=by
 obtain ⟨b1,b2,b3,b4,b5⟩:=kP h
 refine aDp ?_ ?_ ?_ ?_ ?_ ?_
 ·simp only [gQ,List.length_map,List.length_range];exact ⟨by omega,by omega,trivial⟩
 ·refine List.all_eq_true.2 fun i hi=>?_
  rw [List.mem_range] at hi
  simp only [gQ,List.length_append,List.length_map,List.length_range] at hi
  refine List.any_eq_true.2 ⟨(i:Int),?_,by simp [isI]⟩
  simp only [gQ,List.mem_append,List.mem_map,List.mem_range]
  by_cases hn:i<p.objective.length
  ·exact .inr ⟨i,hn,rfl⟩
  ·exact .inl ⟨i - p.objective.length,by omega,by omega⟩
 ·refine List.all_eq_true.2 fun r hr=>?_
  obtain ⟨l,hl,rfl⟩:=List.mem_map.1 hr
  have hb:=b4 l (List.mem_append_left _ hl)
  refine iS.2 ⟨by simp [gQ,hb.1],fun x hx=>?_⟩
  obtain ⟨n,hn,rfl⟩:=List.mem_map.1 hx
  have:=hb.2 n hn
  exact pE (by omega)
 ·refine iS.2 ⟨by simp [gQ,b3],fun x hx=>?_⟩
  obtain ⟨n,hn,rfl⟩:=List.mem_map.1 hx
  have:=b5 n hn
  exact pE (by omega)
 ·refine iS.2 ⟨by simp [gQ],fun x hx=>?_⟩
  obtain ⟨n,hn,rfl⟩:=List.mem_map.1 hx
  have:=(b4 p.objective (by simp)).2 n hn
  exact pE (by omega)
 ·exact pE (by omega)
theorem aCE (p:ProgramD):(gQ p).basic.length=p.rows.length∧(gQ p).others.length=p.objective.length:=by simp [gQ]
def eD (p:ProgramD):DictionaryD × Bool:=if cW p=true then (gQ p,true) else (tF,false)
theorem cQ {p:ProgramD} (h:cW p=true):eD p=(gQ p,true):=by rw [eD,if_pos h]
theorem dM {p:ProgramD} (h:cW p=false):eD p=(tF,false):=by rw [eD,if_neg (by rw [h];decide)]
def fE:Nat→DictionaryD→DictionaryD × Bool
 | 0,_=>(tF,false)
 | f+1,d=>if eC d<0 then (d,true) else if fJ d (eC d).toNat<0 then (tF,false) else if (eA d (fJ d (eC d).toNat).toNat (eC d).toNat).2=true then fE f (eA d (fJ d (eC d).toNat).toNat (eC d).toNat).1 else (tF,false)
theorem aAg {d:DictionaryD} {n s:Nat} (hs:s<n) (h:eC d<0):fE (n - s) d=(d,true):=by
 rw [show n - s=(n - (s+1))+1 by omega,fE,if_pos h]
theorem yG {d:DictionaryD} {n s:Nat} (hs:s<n) (h: ¬eC d<0) (h2:fJ d (eC d).toNat<0):fE (n - s) d=(tF,false):=by
 rw [show n - s=(n - (s+1))+1 by omega,fE,if_neg h,if_pos h2]
theorem aCF {d:DictionaryD} {n s:Nat} (hs:s<n) (h: ¬eC d<0) (h2: ¬fJ d (eC d).toNat<0) (h3:(eA d (fJ d (eC d).toNat).toNat (eC d).toNat).2=false):fE (n - s) d=(tF,false):=by
 rw [show n - s=(n - (s+1))+1 by omega,fE,if_neg h,if_neg h2,if_neg (by rw [h3];decide)]
theorem aAh {d:DictionaryD} {n s:Nat} (hs:s<n) (h: ¬eC d<0) (h2: ¬fJ d (eC d).toNat<0) (h3:(eA d (fJ d (eC d).toNat).toNat (eC d).toNat).2=true):fE (n - s) d=fE (n - (s+1)) (eA d (fJ d (eC d).toNat).toNat (eC d).toNat).1:=by
 rw [show n - s=(n - (s+1))+1 by omega,fE,if_neg h,if_neg h2,if_pos h3]
theorem aEf {d:DictionaryD} {n s:Nat} (hs:s+1=n) (h: ¬eC d<0):fE (n - s) d=(tF,false):=by
 rw [show n - s=0+1 by omega,fE,if_neg h]
 split
 ·rfl
 ·split<;>rfl
def jL (d:DictionaryD) (n:Nat):Nat→List aC
 | 0=>List.replicate n (aJ 0)
 | i+1=>if d.basic.getD i 0<n then (jL d n i).set (d.basic.getD i 0).toNat (d.limits.getD i zR) else jL d n i
def jM (d:DictionaryD) (n m:Nat):Nat→List aC
 | 0=>List.replicate m (aJ 0)
 | k+1=>if (n:Int)≤d.others.getD k 0 then (jM d n m k).set (d.others.getD k 0 - n).toNat (dL (d.costs.getD k zR)) else jM d n m k
theorem aCG (d:DictionaryD) (n:Nat): ∀k,(jL d n k).length=n
 | 0=>by simp [jL]
 | k+1=>by rw [jL];split<;>simp [aCG d n k]
theorem aCH (d:DictionaryD) (n m:Nat): ∀k,(jM d n m k).length=m
 | 0=>by simp [jM]
 | k+1=>by rw [jM];split<;>simp [aCH d n m k]
def aCj:fO:=⟨⟨0,0⟩,[],[]⟩
def aKB (d:DictionaryD) (n m:Nat):fO:=⟨d.value,jL d n d.basic.length,jM d n m d.others.length⟩
def cH (p:ProgramD):fO × Bool:=if cW p=true∧(fE 300 (gQ p)).2=true then (aKB (fE 300 (gQ p)).1 p.objective.length p.rows.length,true) else (aCj,false)
theorem cA {p:ProgramD} (h:cW p=false):cH p=(aCj,false):=by rw [cH,if_neg (by rw [h];simp)]
theorem qF {p:ProgramD} (h:fE 300 (gQ p)=(tF,false)):cH p=(aCj,false):=by rw [cH,h,if_neg (by simp)]
theorem aDu {p:ProgramD} {d:DictionaryD} (h:cW p=true) (h2:fE 300 (gQ p)=(d,true)):cH p=(aKB d p.objective.length p.rows.length,true):=by rw [cH,h2,if_pos ⟨h,rfl⟩]
abbrev aDv (l:List Int):AV × List (Nat × Rs):=(.own 0,[(0,.arr 3 1 true (l.map aG))])
abbrev aFP (l:List Int):Prop:=gF Try.prog 66 [.one (.sl 3 1 (l.map aG))] (aDv l).1 (aDv l).2
theorem cpI (l:List Int) (hl:l.length≤1048576):aFP l:=by
 refine cT dR bK Try.func66 (by kernel_rfl) (.app Int aG ([]:List Int) l<| .fin [(0,500)]) (p:=(l.map aG).length≤9223372036854775807→[]=([]:List Int).map aG∧l.map aG=l.map aG∧(∀x,cV (aG x)=true)∧(([]:List Int).length+l.length)*8≤140737488355328∧(([]:List Int)++l).map aG=l.map aG∧True) (by kernel_rfl) ?_
 intro n0
 simp only [List.length_map] at n0
 refine ⟨rfl,rfl,fun _=>rfl,by simp;omega,?_⟩
 refine ⟨?_,trivial⟩
 ·simp
theorem aCI {α:Type} {p:α→Bool} {l:List α} {k:Nat} {x:α} (h:l[k]? =some x) (hp:p x=true):l.any p=true:=List.any_eq_true.2 ⟨x,List.mem_of_getElem? h,hp⟩
theorem aGJ {α:Type} {p:α→Bool} {l:List α} {k:Nat} {x:α} (h:l[k]? =some x) (ha:(l.take k).any p=false) (hp:p x=false):(l.take (k+1)).any p=false:=by
 rw [List.take_add_one,h]
 simp [ha,hp]
theorem aCJ {α:Type} {p:α→Bool} {l:List α} {k:Nat} (hge:l.length≤k) (ha:(l.take k).any p=false):l.any p=false:=by rwa [List.take_of_length_le hge] at ha
theorem upN {p:Nat→Prop} {k:Nat} (ha: ∀i,i<k→p i) (h:p k): ∀i,i<k+1→p i:=by
 intro i hi
 rcases Nat.lt_or_eq_of_le (Nat.le_of_lt_succ hi) with h' | rfl
 ·exact ha i h'
 ·exact h
theorem aIt {l:List Int} {n:Nat} (hn:l.length≤n) (h: ∀i,i<n→l.any (isI (i:Nat))=true):jK l=true:=List.all_eq_true.2 fun i hi=>h i (by rw [List.mem_range] at hi;omega)
theorem lI {l:List Int} {k:Nat} (hk:k<l.length) (h:l.any (isI (k:Nat))=false):jK l=false:=by
 cases e:jK l with
 | false=>rfl
 | true=>rw [List.all_eq_true.1 e k (List.mem_range.2 hk)] at h;cases h
abbrev aAi (l:List Int) (n:Int):Prop:=gF Try.prog 71 [.one (.sl 3 1 (l.map aG)),.one (.int .i64 n)] (vB (l.any (isI n))) []
theorem aHd (l:List Int) (n:Int):aAi l n:=by
 refine cT dR bK Try.func71 (by kernel_rfl) (.loop Nat (Q1 Nat) [5,6,7,8,9,10,11,12,13,14,15,16,17] [] (fun k=>[(5,vI (k:Int))]) (fun k=>[]) (fun k=>k≤l.length∧(l.take k).any (isI n)=false) (fun k=>l.length - k) (fun k=> .len l.length<| .br (.elem _ aG l (fun e14=> .br (.fin []) (.back []))) (.fin []))) (p:=(l.map aG).length≤9223372036854775807→(∃(k:Nat),(0:Int)=(k:Int)∧k≤l.length∧(l.take k).any (isI n)=false)∧ ∀(k:Nat),(k≤l.length∧(l.take k).any (isI n)=false)→Lm aG l∧(((decide ((k:Int)<((l.length:Nat):Int)))=true→0≤(k:Int)∧Em aG l k fun e14=>((decide (e14=n))=true→(true)=(l.any (isI n))∧True)∧((decide (e14=n))=false→dN ((k:Int)+(1:Int))∧ ∃(k' :Nat),((k:Int)+(1:Int))=(k' :Int)∧(k' ≤l.length∧(l.take k').any (isI n)=false)∧l.length - k' <l.length - k))∧((decide ((k:Int)<((l.length:Nat):Int)))=false→(false)=(l.any (isI n))∧True))) (by kernel_rfl) ?_
 intro n0
 simp only [List.length_map] at n0
 refine ⟨⟨0,rfl,Nat.zero_le _,rfl⟩,fun k ⟨hk,ha⟩=>?_⟩
 refine ⟨List.length_map _,fun c0=>?_,fun c0=>?_⟩
 ·replace c0:=yq c0
  refine ⟨by omega,rfl,by omega,fun e14 h14=>?_⟩
  refine ⟨fun c1=>?_,fun c1=>?_⟩
  ·replace c1:=yq c1
   refine ⟨?_,trivial⟩
   ·first | (rw [aCI h14 (decide_eq_true c1)];done) | (rw [aCJ (by omega) ha];done)
  ·replace c1:=nq c1
   refine ⟨⟨by omega,by omega⟩,?_⟩
   exact ⟨k+1,rfl,⟨by omega,aGJ h14 ha (decide_eq_false c1)⟩,by omega⟩
 ·replace c0:=nq c0
  refine ⟨?_,trivial⟩
  ·first | (rw [aCI h14 (decide_eq_true c1)];done) | (rw [aCJ (by omega) ha];done)
abbrev pF (l:List aC):Prop:=gF Try.prog 72 [.one (.sl 28 2 (l.map aA))] (vB (l.all aT)) []
theorem yH (l:List aC):pF l:=by
 refine cT dR bK Try.func72 (by kernel_rfl) (.loop Nat (Q1 Nat) [3,4,5,6,7,8,9,10,11,12,13,14,15] [] (fun k=>[(3,vI (k:Int))]) (fun k=>[]) (fun k=>k≤l.length∧(l.take k).all aT=true) (fun k=>l.length - k) (fun k=> .len l.length<| .br (.elem _ aA l (fun e12=> .call (vB (aT e12)) []<| .br (.fin []) (.back []))) (.fin []))) (p:=(l.map aA).length≤9223372036854775807→(∃(k:Nat),(0:Int)=(k:Int)∧k≤l.length∧(l.take k).all aT=true)∧ ∀(k:Nat),(k≤l.length∧(l.take k).all aT=true)→Lm aA l∧(((decide ((k:Int)<((l.length:Nat):Int)))=true→0≤(k:Int)∧Em aA l k fun e12=>eX e12∧(((!(aT e12))=true→(false)=(l.all aT)∧True)∧((!(aT e12))=false→dN ((k:Int)+(1:Int))∧ ∃(k' :Nat),((k:Int)+(1:Int))=(k' :Int)∧(k' ≤l.length∧(l.take k').all aT=true)∧l.length - k' <l.length - k)))∧((decide ((k:Int)<((l.length:Nat):Int)))=false→(true)=(l.all aT)∧True))) (by kernel_rfl) ?_
 intro n0
 simp only [List.length_map] at n0
 refine ⟨⟨0,rfl,Nat.zero_le _,rfl⟩,fun k ⟨hk,ha⟩=>?_⟩
 refine ⟨List.length_map _,fun c0=>?_,fun c0=>?_⟩
 ·replace c0:=yq c0
  refine ⟨by omega,rfl,by omega,fun e12 h12=>?_⟩
  refine ⟨iB e12,fun c1=>?_,fun c1=>?_⟩
  ·replace c1:=nt c1
   refine ⟨?_,trivial⟩
   ·first | (rw [mQ h12 c1];done) | (rw [dQ (by omega) ha];done)
  ·replace c1:=nf c1
   refine ⟨⟨by omega,by omega⟩,?_⟩
   exact ⟨k+1,rfl,⟨by omega,jH h12 ha c1⟩,by omega⟩
 ·replace c0:=nq c0
  refine ⟨?_,trivial⟩
  ·first | (rw [mQ h12 c1];done) | (rw [dQ (by omega) ha];done)
theorem dK {d:DictionaryD} (h: ¬((d.basic.length:Int)≤64∧(1≤(d.others.length:Int)∧(d.others.length:Int)≤15)∧(d.table.length:Int)=d.basic.length∧(d.limits.length:Int)=d.basic.length∧(d.costs.length:Int)=d.others.length)):cB d=false:=by
 cases e:cB d with
 | false=>rfl
 | true=>
   obtain ⟨b1,b2,b3,_,_,b6,b7,_⟩:=fR e
   exact absurd ⟨by omega,by omega,by omega,by omega,by omega⟩ h
theorem eK {d:DictionaryD} (h:(d.basic.length:Int)≤64∧(1≤(d.others.length:Int)∧(d.others.length:Int)≤15)∧(d.table.length:Int)=d.basic.length) (h1:jK (d.basic++d.others)=true) (h2:d.table.all (fun r=>fD r d.others.length)=true) (h3:fD d.limits d.basic.length=true) (h4:fD d.costs d.others.length=true):cB d=aT d.value:=by
 simp only [cB,h1,h2,h3,h4,decide_eq_true h.1,decide_eq_true h.2.1,decide_eq_true h.2.2,Bool.true_and]
abbrev aAj (d:DictionaryD):Prop:=gF Try.prog 55 [.agg [.sl 3 1 (d.basic.map aG),.sl 3 1 (d.others.map aG),.sl 29 1 (d.table.map aD),.sl 28 2 (d.limits.map aA),.sl 28 2 (d.costs.map aA),.int .i64 d.value.num,.int .i64 d.value.den]] (vB (cB d)) []
theorem aHe (d:DictionaryD) (h0:d.basic.length≤1048576) (h1:d.others.length≤1048576):aAj d:=by
 refine cT dR bK Try.func55 (by kernel_rfl) (.len d.basic.length<| .len d.others.length<| .br (.fin []) (.call (vB (decide ((1:Int)≤((d.others.length:Nat):Int)∧((d.others.length:Nat):Int)≤(15:Int)))) []<| .lit<| .lit<| .br (.fin []) (.len d.table.length<| .lit<| .lit<| .lit<| .br (.fin []) (dA (aDv d.basic)<| .app Int aG d.basic d.others<| .callx [.own 0] [(0,.arr 3 1 true ((d.basic++d.others).map aG))] [(0,3500)] (.tup []) [(0,.arr 3 1 true ((gU (d.basic++d.others)).map aG))]<| .len ((gU (d.basic++d.others)).length)<| .loop Nat (Q1 Nat) [6,7,40,41,42,43,44,45,46,47,48] [] (fun k=>[(40,vI (k:Int))]) (fun k=>[]) (fun k=>k≤(gU (d.basic++d.others)).length∧(∀i,i<k→(gU (d.basic++d.others))[i]? =some ((i:Nat):Int))) (fun k=>(gU (d.basic++d.others)).length - k) (fun k=> .br (.len ((gU (d.basic++d.others)).length)<| .elem _ aG (gU (d.basic++d.others)) (fun e44=> .br (.fin []) (.back []))) (.len d.table.length<| .loop Nat (Q1 Nat) [9,52,53,54,55,56,57,58,59,60] [] (fun j=>[(52,vI (j:Int))]) (fun j=>[]) (fun j=>j≤d.table.length∧(d.table.take j).all (fun r=>fD r d.others.length)=true) (fun j=>d.table.length - j) (fun j=> .br (.elem _ aD d.table (fun e54=> .call (vB (decide ((e54.length:Int)=((d.others.length:Nat):Int))&&e54.all aT)) []<| .br (.fin []) (.back []))) (.call (vB (decide ((d.limits.length:Int)=((d.basic.length:Nat):Int))&&d.limits.all aT)) []<| .br (.call (vB (decide ((d.costs.length:Int)=((d.others.length:Nat):Int))&&d.costs.all aT)) []<| .lit<| .br (.call (vB (aT d.value)) []<| .fin []) (.fin [])) (.fin []))))))))) (p:=(d.basic.map aG).length≤9223372036854775807→(d.others.map aG).length≤9223372036854775807→(d.table.map aD).length≤9223372036854775807→(d.limits.map aA).length≤9223372036854775807→(d.costs.map aA).length≤9223372036854775807→Lm aG d.basic∧(Lm aG d.others∧(((decide ((64:Int)<((d.basic.length:Nat):Int)))=true→(false)=(cB d)∧True)∧((decide ((64:Int)<((d.basic.length:Nat):Int)))=false→jW ((d.others.length:Nat):Int) (1:Int) (15:Int)∧(((!(decide ((1:Int)≤((d.others.length:Nat):Int)∧((d.others.length:Nat):Int)≤(15:Int))))=true→(false)=(cB d)∧True)∧((!(decide ((1:Int)≤((d.others.length:Nat):Int)∧((d.others.length:Nat):Int)≤(15:Int))))=false→Lm aD d.table∧(((!(decide (((d.table.length:Nat):Int)=((d.basic.length:Nat):Int))))=true→(false)=(cB d)∧True)∧((!(decide (((d.table.length:Nat):Int)=((d.basic.length:Nat):Int))))=false→aFP d.basic∧(d.basic.map aG=d.basic.map aG∧d.others.map aG=d.others.map aG∧(∀x,cV (aG x)=true)∧(d.basic.length+d.others.length)*8≤140737488355328∧(sO Try.prog 76 [.own 0] [(0,.arr 3 1 true ((d.basic++d.others).map aG))] (.tup []) [(0,.arr 3 1 true ((gU (d.basic++d.others)).map aG))]∧(d.basic++d.others).map aG=(d.basic++d.others).map aG∧(Lm aG (gU (d.basic++d.others))∧((∃(k:Nat),(0:Int)=(k:Int)∧k≤(gU (d.basic++d.others)).length∧(∀i,i<k→(gU (d.basic++d.others))[i]? =some ((i:Nat):Int)))∧ ∀(k:Nat),(k≤(gU (d.basic++d.others)).length∧(∀i,i<k→(gU (d.basic++d.others))[i]? =some ((i:Nat):Int)))→((decide ((k:Int)<(((gU (d.basic++d.others)).length:Nat):Int)))=true→0≤(k:Int)∧Lm aG (gU (d.basic++d.others))∧(k:Int)<(((gU (d.basic++d.others)).length:Nat):Int)∧Em aG (gU (d.basic++d.others)) k fun e44=>((!(decide (e44=(k:Int))))=true→(false)=(cB d)∧True)∧((!(decide (e44=(k:Int))))=false→dN ((k:Int)+(1:Int))∧ ∃(k' :Nat),((k:Int)+(1:Int))=(k' :Int)∧(k' ≤(gU (d.basic++d.others)).length∧(∀i,i<k' →(gU (d.basic++d.others))[i]? =some ((i:Nat):Int)))∧(gU (d.basic++d.others)).length - k' <(gU (d.basic++d.others)).length - k))∧((decide ((k:Int)<(((gU (d.basic++d.others)).length:Nat):Int)))=false→Lm aD d.table∧((∃(j:Nat),(0:Int)=(j:Int)∧j≤d.table.length∧(d.table.take j).all (fun r=>fD r d.others.length)=true)∧ ∀(j:Nat),(j≤d.table.length∧(d.table.take j).all (fun r=>fD r d.others.length)=true)→((decide ((j:Int)<((d.table.length:Nat):Int)))=true→0≤(j:Int)∧Em aD d.table j fun e54=>qW e54 ((d.others.length:Nat):Int)∧(((!(decide ((e54.length:Int)=((d.others.length:Nat):Int))&&e54.all aT))=true→(false)=(cB d)∧True)∧((!(decide ((e54.length:Int)=((d.others.length:Nat):Int))&&e54.all aT))=false→dN ((j:Int)+(1:Int))∧ ∃(j' :Nat),((j:Int)+(1:Int))=(j' :Int)∧(j' ≤d.table.length∧(d.table.take j').all (fun r=>fD r d.others.length)=true)∧d.table.length - j' <d.table.length - j)))∧((decide ((j:Int)<((d.table.length:Nat):Int)))=false→qW d.limits ((d.basic.length:Nat):Int)∧(((decide ((d.limits.length:Int)=((d.basic.length:Nat):Int))&&d.limits.all aT)=true→qW d.costs ((d.others.length:Nat):Int)∧(((decide ((d.costs.length:Int)=((d.others.length:Nat):Int))&&d.costs.all aT)=true→eW d.value∧(aT d.value)=(cB d)∧True)∧((decide ((d.costs.length:Int)=((d.others.length:Nat):Int))&&d.costs.all aT)=false→(false)=(cB d)∧True)))∧((decide ((d.limits.length:Int)=((d.basic.length:Nat):Int))&&d.limits.all aT)=false→(false)=(cB d)∧True))))))))))))))))) (by kernel_rfl) ?_
 intro n0 n1 n2 n3 n4
 simp only [List.length_map] at n0 n1 n2 n3 n4
 refine ⟨List.length_map _,List.length_map _,fun g18=>?_,fun g18=>?_⟩
 ·replace g18:=yq g18
  refine ⟨?_,trivial⟩
  ·first | (exact (dK (by omega)).symm) | (exact (dS (pD h44 (by omega))).symm) | (exact (cD h54 c4).symm) | (exact (dT g65).symm) | (exact (dJ g71).symm) | (exact (eK (by omega) hp hcl g65 g71).symm)
 ·replace g18:=nq g18
  refine ⟨pC _ _ _,fun g23=>?_,fun g23=>?_⟩
  ·replace g23:=nq (nt g23)
   refine ⟨?_,trivial⟩
   ·first | (exact (dK (by omega)).symm) | (exact (dS (pD h44 (by omega))).symm) | (exact (cD h54 c4).symm) | (exact (dT g65).symm) | (exact (dJ g71).symm) | (exact (eK (by omega) hp hcl g65 g71).symm)
  ·replace g23:=yq (nf g23)
   refine ⟨List.length_map _,fun c0=>?_,fun c0=>?_⟩
   ·replace c0:=nq (nt c0)
    refine ⟨?_,trivial⟩
    ·first | (exact (dK (by omega)).symm) | (exact (dS (pD h44 (by omega))).symm) | (exact (cD h54 c4).symm) | (exact (dT g65).symm) | (exact (dJ g71).symm) | (exact (eK (by omega) hp hcl g65 g71).symm)
   ·replace c0:=yq (nf c0)
    have hsl:=yE (d.basic++d.others)
    have hll:(d.basic++d.others).length=d.basic.length+d.others.length:=List.length_append
    refine ⟨cpI _ (by omega),rfl,rfl,fun _=>rfl,by first | omega | (simp;omega),?_⟩
    refine ⟨aGE (d.basic++d.others) (by first | omega | (simp;omega)),rfl,List.length_map _,⟨0,rfl,Nat.zero_le _,fun i h=>absurd h (Nat.not_lt_zero _)⟩,fun k ⟨hk,ha⟩=>?_⟩
    refine ⟨fun c1=>?_,fun c1=>?_⟩
    ·replace c1:=yq c1
     refine ⟨by omega,List.length_map _,by omega,rfl,by omega,fun e44 h44=>?_⟩
     refine ⟨fun c2=>?_,fun c2=>?_⟩
     ·replace c2:=nq (nt c2)
      refine ⟨?_,trivial⟩
      ·first | (exact (dK (by omega)).symm) | (exact (dS (pD h44 (by omega))).symm) | (exact (cD h54 c4).symm) | (exact (dT g65).symm) | (exact (dJ g71).symm) | (exact (eK (by omega) hp hcl g65 g71).symm)
     ·replace c2:=yq (nf c2)
      refine ⟨⟨by omega,by omega⟩,?_⟩
      exact ⟨k+1,rfl,⟨by omega,upN (p:=fun i=>(gU (d.basic++d.others))[i]? =some ((i:Nat):Int)) ha (by rw [h44,c2])⟩,by omega⟩
    ·replace c1:=nq c1
     have hp:jK (d.basic++d.others)=true:=aDo fun i hi=>ha i (by omega)
     refine ⟨List.length_map _,⟨0,rfl,Nat.zero_le _,rfl⟩,fun j ⟨hj,hb⟩=>?_⟩
     refine ⟨fun c3=>?_,fun c3=>?_⟩
     ·replace c3:=yq c3
      refine ⟨by omega,rfl,by omega,fun e54 h54=>?_⟩
      refine ⟨aAf e54 ((d.others.length:Nat):Int),fun c4=>?_,fun c4=>?_⟩
      ·replace c4:=nt c4
       refine ⟨?_,trivial⟩
       ·first | (exact (dK (by omega)).symm) | (exact (dS (pD h44 (by omega))).symm) | (exact (cD h54 c4).symm) | (exact (dT g65).symm) | (exact (dJ g71).symm) | (exact (eK (by omega) hp hcl g65 g71).symm)
      ·replace c4:=nf c4
       refine ⟨⟨by omega,by omega⟩,?_⟩
       exact ⟨j+1,rfl,⟨by omega,jH h54 hb c4⟩,by omega⟩
     ·replace c3:=nq c3
      have hcl:=dQ (by omega) hb
      refine ⟨aAf d.limits ((d.basic.length:Nat):Int),fun g65=>?_,fun g65=>?_⟩
      ·refine ⟨aAf d.costs ((d.others.length:Nat):Int),fun g71=>?_,fun g71=>?_⟩
       ·refine ⟨iA d.value,?_,trivial⟩
        ·first | (exact (dK (by omega)).symm) | (exact (dS (pD h44 (by omega))).symm) | (exact (cD h54 c4).symm) | (exact (dT g65).symm) | (exact (dJ g71).symm) | (exact (eK (by omega) hp hcl g65 g71).symm)
       ·refine ⟨?_,trivial⟩
        ·first | (exact (dK (by omega)).symm) | (exact (dS (pD h44 (by omega))).symm) | (exact (cD h54 c4).symm) | (exact (dT g65).symm) | (exact (dJ g71).symm) | (exact (eK (by omega) hp hcl g65 g71).symm)
      ·refine ⟨?_,trivial⟩
       ·first | (exact (dK (by omega)).symm) | (exact (dS (pD h44 (by omega))).symm) | (exact (cD h54 c4).symm) | (exact (dT g65).symm) | (exact (dJ g71).symm) | (exact (eK (by omega) hp hcl g65 g71).symm)
abbrev qX (d:DictionaryD):Prop:=gF Try.prog 45 [.agg [.sl 3 1 (d.basic.map aG),.sl 3 1 (d.others.map aG),.sl 29 1 (d.table.map aD),.sl 28 2 (d.limits.map aA),.sl 28 2 (d.costs.map aA),.int .i64 d.value.num,.int .i64 d.value.den]] (vB (cB d)) []
theorem aAk (d:DictionaryD) (h0:d.basic.length≤1048576) (h1:d.others.length≤1048576):qX d:=by
 refine cT dR bK Try.func45 (by kernel_rfl) (.len d.basic.length<| .len d.others.length<| .br (.fin []) (.call (vB (decide ((1:Int)≤((d.others.length:Nat):Int)∧((d.others.length:Nat):Int)≤(15:Int)))) []<| .lit<| .lit<| .br (.fin []) (.len d.table.length<| .lit<| .lit<| .lit<| .br (.fin []) (.len d.limits.length<| .lit<| .lit<| .lit<| .br (.fin []) (.len d.costs.length<| .lit<| .lit<| .lit<| .br (.fin []) (.app Int aG ([]:List Int) d.basic<| .app Int aG (([]:List Int)++d.basic) d.others<| .loop Nat (Q1 Nat) [6,49,50,51,52,53,54,55,56,57,58,59] [] (fun k=>[(6,vI (k:Int))]) (fun k=>[]) (fun k=>k≤d.basic.length+d.others.length∧(∀i,i<k→((([]:List Int)++d.basic)++d.others).any (isI (i:Nat))=true)) (fun k=>d.basic.length+d.others.length - k) (fun k=> .br (.call (vB (((([]:List Int)++d.basic)++d.others).any (isI (k:Int)))) []<| .br (.fin []) (.back [])) (.loop Nat (Q1 Nat) [7,60,61,62,63,64,65,66,67,68,69,70,71,72,73,74,75,76,77,78,79,80,81] [] (fun j=>[(7,vI (j:Int))]) (fun j=>[]) (fun j=>j≤d.basic.length∧(d.table.take j).all (fun r=>fD r d.others.length)=true) (fun j=>d.basic.length - j) (fun j=> .br (.elem _ aD d.table (fun e68=> .len e68.length<| .br (.fin []) (.elem _ aD d.table (fun e77=> .call (vB (e77.all aT)) []<| .lit<| .lit<| .br (.fin []) (.back []))))) (.call (vB (d.limits.all aT)) []<| .br (.call (vB (d.costs.all aT)) []<| .lit<| .br (.call (vB (aT d.value)) []<| .fin []) (.fin [])) (.fin []))))))))))) (p:=(d.basic.map aG).length≤9223372036854775807→(d.others.map aG).length≤9223372036854775807→(d.table.map aD).length≤9223372036854775807→(d.limits.map aA).length≤9223372036854775807→(d.costs.map aA).length≤9223372036854775807→Lm aG d.basic∧(Lm aG d.others∧(((decide ((64:Int)<((d.basic.length:Nat):Int)))=true→(false)=(cB d)∧True)∧((decide ((64:Int)<((d.basic.length:Nat):Int)))=false→iJ ((d.others.length:Nat):Int) (1:Int) (15:Int)∧(((!(decide ((1:Int)≤((d.others.length:Nat):Int)∧((d.others.length:Nat):Int)≤(15:Int))))=true→(false)=(cB d)∧True)∧((!(decide ((1:Int)≤((d.others.length:Nat):Int)∧((d.others.length:Nat):Int)≤(15:Int))))=false→Lm aD d.table∧(((!(decide (((d.table.length:Nat):Int)=((d.basic.length:Nat):Int))))=true→(false)=(cB d)∧True)∧((!(decide (((d.table.length:Nat):Int)=((d.basic.length:Nat):Int))))=false→Lm aA d.limits∧(((!(decide (((d.limits.length:Nat):Int)=((d.basic.length:Nat):Int))))=true→(false)=(cB d)∧True)∧((!(decide (((d.limits.length:Nat):Int)=((d.basic.length:Nat):Int))))=false→Lm aA d.costs∧(((!(decide (((d.costs.length:Nat):Int)=((d.others.length:Nat):Int))))=true→(false)=(cB d)∧True)∧((!(decide (((d.costs.length:Nat):Int)=((d.others.length:Nat):Int))))=false→[]=([]:List Int).map aG∧d.basic.map aG=d.basic.map aG∧(∀x,cV (aG x)=true)∧(([]:List Int).length+d.basic.length)*8≤140737488355328∧((([]:List Int)++d.basic).map aG=(([]:List Int)++d.basic).map aG∧d.others.map aG=d.others.map aG∧(∀x,cV (aG x)=true)∧((([]:List Int)++d.basic).length+d.others.length)*8≤140737488355328∧((∃(k:Nat),(0:Int)=(k:Int)∧k≤d.basic.length+d.others.length∧(∀i,i<k→((([]:List Int)++d.basic)++d.others).any (isI (i:Nat))=true))∧ ∀(k:Nat),(k≤d.basic.length+d.others.length∧(∀i,i<k→((([]:List Int)++d.basic)++d.others).any (isI (i:Nat))=true))→dN (((d.basic.length:Nat):Int)+((d.others.length:Nat):Int))∧(((decide ((k:Int)<(((d.basic.length:Nat):Int)+((d.others.length:Nat):Int))))=true→aAi ((([]:List Int)++d.basic)++d.others) (k:Int)∧(((!(((([]:List Int)++d.basic)++d.others).any (isI (k:Int))))=true→(false)=(cB d)∧True)∧((!(((([]:List Int)++d.basic)++d.others).any (isI (k:Int))))=false→dN ((k:Int)+(1:Int))∧ ∃(k' :Nat),((k:Int)+(1:Int))=(k' :Int)∧(k' ≤d.basic.length+d.others.length∧(∀i,i<k' →((([]:List Int)++d.basic)++d.others).any (isI (i:Nat))=true))∧d.basic.length+d.others.length - k' <d.basic.length+d.others.length - k)))∧((decide ((k:Int)<(((d.basic.length:Nat):Int)+((d.others.length:Nat):Int))))=false→(∃(j:Nat),(0:Int)=(j:Int)∧j≤d.basic.length∧(d.table.take j).all (fun r=>fD r d.others.length)=true)∧ ∀(j:Nat),(j≤d.basic.length∧(d.table.take j).all (fun r=>fD r d.others.length)=true)→((decide ((j:Int)<((d.basic.length:Nat):Int)))=true→0≤(j:Int)∧Em aD d.table j fun e68=>Lm aA e68∧(((!(decide (((e68.length:Nat):Int)=((d.others.length:Nat):Int))))=true→(false)=(cB d)∧True)∧((!(decide (((e68.length:Nat):Int)=((d.others.length:Nat):Int))))=false→0≤(j:Int)∧Em aD d.table j fun e77=>pF e77∧(((!(e77.all aT))=true→(false)=(cB d)∧True)∧((!(e77.all aT))=false→dN ((j:Int)+(1:Int))∧ ∃(j' :Nat),((j:Int)+(1:Int))=(j' :Int)∧(j' ≤d.basic.length∧(d.table.take j').all (fun r=>fD r d.others.length)=true)∧d.basic.length - j' <d.basic.length - j)))))∧((decide ((j:Int)<((d.basic.length:Nat):Int)))=false→pF d.limits∧(((d.limits.all aT)=true→pF d.costs∧(((d.costs.all aT)=true→eX d.value∧(aT d.value)=(cB d)∧True)∧((d.costs.all aT)=false→(false)=(cB d)∧True)))∧((d.limits.all aT)=false→(false)=(cB d)∧True))))))))))))))))))) (by kernel_rfl) ?_
 intro n0 n1 n2 n3 n4
 simp only [List.length_map] at n0 n1 n2 n3 n4
 refine ⟨List.length_map _,List.length_map _,fun g16=>?_,fun g16=>?_⟩
 ·replace g16:=yq g16
  refine ⟨?_,trivial⟩
  ·first | (exact (dK (by omega)).symm) | (exact (dS (lI (k:=k) (by simp;omega) c2)).symm) | (exact (cD h68 (gP (by omega))).symm) | (exact (cD h68 (bW c4)).symm) | (exact (dT (bW g85)).symm) | (exact (dJ (bW g90)).symm) | (exact (eK (by omega) hp hcl (dO (by omega) g85) (dO (by omega) g90)).symm)
 ·replace g16:=nq g16
  refine ⟨mL _ _ _,fun g21=>?_,fun g21=>?_⟩
  ·replace g21:=nq (nt g21)
   refine ⟨?_,trivial⟩
   ·first | (exact (dK (by omega)).symm) | (exact (dS (lI (k:=k) (by simp;omega) c2)).symm) | (exact (cD h68 (gP (by omega))).symm) | (exact (cD h68 (bW c4)).symm) | (exact (dT (bW g85)).symm) | (exact (dJ (bW g90)).symm) | (exact (eK (by omega) hp hcl (dO (by omega) g85) (dO (by omega) g90)).symm)
  ·replace g21:=yq (nf g21)
   refine ⟨List.length_map _,fun g28=>?_,fun g28=>?_⟩
   ·replace g28:=nq (nt g28)
    refine ⟨?_,trivial⟩
    ·first | (exact (dK (by omega)).symm) | (exact (dS (lI (k:=k) (by simp;omega) c2)).symm) | (exact (cD h68 (gP (by omega))).symm) | (exact (cD h68 (bW c4)).symm) | (exact (dT (bW g85)).symm) | (exact (dJ (bW g90)).symm) | (exact (eK (by omega) hp hcl (dO (by omega) g85) (dO (by omega) g90)).symm)
   ·replace g28:=yq (nf g28)
    refine ⟨List.length_map _,fun g35=>?_,fun g35=>?_⟩
    ·replace g35:=nq (nt g35)
     refine ⟨?_,trivial⟩
     ·first | (exact (dK (by omega)).symm) | (exact (dS (lI (k:=k) (by simp;omega) c2)).symm) | (exact (cD h68 (gP (by omega))).symm) | (exact (cD h68 (bW c4)).symm) | (exact (dT (bW g85)).symm) | (exact (dJ (bW g90)).symm) | (exact (eK (by omega) hp hcl (dO (by omega) g85) (dO (by omega) g90)).symm)
    ·replace g35:=yq (nf g35)
     refine ⟨List.length_map _,fun c0=>?_,fun c0=>?_⟩
     ·replace c0:=nq (nt c0)
      refine ⟨?_,trivial⟩
      ·first | (exact (dK (by omega)).symm) | (exact (dS (lI (k:=k) (by simp;omega) c2)).symm) | (exact (cD h68 (gP (by omega))).symm) | (exact (cD h68 (bW c4)).symm) | (exact (dT (bW g85)).symm) | (exact (dJ (bW g90)).symm) | (exact (eK (by omega) hp hcl (dO (by omega) g85) (dO (by omega) g90)).symm)
     ·replace c0:=yq (nf c0)
      refine ⟨rfl,rfl,fun _=>rfl,by first | omega | (simp;omega),?_⟩
      refine ⟨rfl,rfl,fun _=>rfl,by first | omega | (simp;omega),?_⟩
      refine ⟨⟨0,rfl,Nat.zero_le _,fun i h=>absurd h (Nat.not_lt_zero _)⟩,fun k ⟨hk,ha⟩=>?_⟩
      refine ⟨⟨by omega,by omega⟩,fun c1=>?_,fun c1=>?_⟩
      ·replace c1:=yq c1
       refine ⟨aHd ((([]:List Int)++d.basic)++d.others) (k:Int),fun c2=>?_,fun c2=>?_⟩
       ·replace c2:=nt c2
        refine ⟨?_,trivial⟩
        ·first | (exact (dK (by omega)).symm) | (exact (dS (lI (k:=k) (by simp;omega) c2)).symm) | (exact (cD h68 (gP (by omega))).symm) | (exact (cD h68 (bW c4)).symm) | (exact (dT (bW g85)).symm) | (exact (dJ (bW g90)).symm) | (exact (eK (by omega) hp hcl (dO (by omega) g85) (dO (by omega) g90)).symm)
       ·replace c2:=nf c2
        refine ⟨⟨by omega,by omega⟩,?_⟩
        exact ⟨k+1,rfl,⟨by omega,upN (p:=fun i=>((([]:List Int)++d.basic)++d.others).any (isI (i:Nat))=true) ha c2⟩,by omega⟩
      ·replace c1:=nq c1
       have hp:jK (d.basic++d.others)=true:=aIt (n:=k) (by simp;omega) ha
       refine ⟨⟨0,rfl,Nat.zero_le _,rfl⟩,fun j ⟨hj,hb⟩=>?_⟩
       refine ⟨fun c3=>?_,fun c3=>?_⟩
       ·replace c3:=yq c3
        refine ⟨by omega,rfl,by omega,fun e68 h68=>?_⟩
        refine ⟨List.length_map _,fun g73=>?_,fun g73=>?_⟩
        ·replace g73:=nq (nt g73)
         refine ⟨?_,trivial⟩
         ·first | (exact (dK (by omega)).symm) | (exact (dS (lI (k:=k) (by simp;omega) c2)).symm) | (exact (cD h68 (gP (by omega))).symm) | (exact (cD h68 (bW c4)).symm) | (exact (dT (bW g85)).symm) | (exact (dJ (bW g90)).symm) | (exact (eK (by omega) hp hcl (dO (by omega) g85) (dO (by omega) g90)).symm)
        ·replace g73:=yq (nf g73)
         refine ⟨by omega,rfl,by omega,fun e77 h77=>?_⟩
         obtain rfl:=(dE h68 h77).symm
         refine ⟨yH _,fun c4=>?_,fun c4=>?_⟩
         ·replace c4:=nt c4
          refine ⟨?_,trivial⟩
          ·first | (exact (dK (by omega)).symm) | (exact (dS (lI (k:=k) (by simp;omega) c2)).symm) | (exact (cD h68 (gP (by omega))).symm) | (exact (cD h68 (bW c4)).symm) | (exact (dT (bW g85)).symm) | (exact (dJ (bW g90)).symm) | (exact (eK (by omega) hp hcl (dO (by omega) g85) (dO (by omega) g90)).symm)
         ·replace c4:=nf c4
          refine ⟨⟨by omega,by omega⟩,?_⟩
          exact ⟨j+1,rfl,⟨by omega,jH h68 hb (dO g73 c4)⟩,by omega⟩
       ·replace c3:=nq c3
        have hcl:=dQ (by omega) hb
        refine ⟨yH _,fun g85=>?_,fun g85=>?_⟩
        ·refine ⟨yH _,fun g90=>?_,fun g90=>?_⟩
         ·refine ⟨iB d.value,?_,trivial⟩
          ·first | (exact (dK (by omega)).symm) | (exact (dS (lI (k:=k) (by simp;omega) c2)).symm) | (exact (cD h68 (gP (by omega))).symm) | (exact (cD h68 (bW c4)).symm) | (exact (dT (bW g85)).symm) | (exact (dJ (bW g90)).symm) | (exact (eK (by omega) hp hcl (dO (by omega) g85) (dO (by omega) g90)).symm)
         ·refine ⟨?_,trivial⟩
          ·first | (exact (dK (by omega)).symm) | (exact (dS (lI (k:=k) (by simp;omega) c2)).symm) | (exact (cD h68 (gP (by omega))).symm) | (exact (cD h68 (bW c4)).symm) | (exact (dT (bW g85)).symm) | (exact (dJ (bW g90)).symm) | (exact (eK (by omega) hp hcl (dO (by omega) g85) (dO (by omega) g90)).symm)
        ·refine ⟨?_,trivial⟩
         ·first | (exact (dK (by omega)).symm) | (exact (dS (lI (k:=k) (by simp;omega) c2)).symm) | (exact (cD h68 (gP (by omega))).symm) | (exact (cD h68 (bW c4)).symm) | (exact (dT (bW g85)).symm) | (exact (dJ (bW g90)).symm) | (exact (eK (by omega) hp hcl (dO (by omega) g85) (dO (by omega) g90)).symm)
end Go.Proofs.Ytpoobcnmhnbdlaa
