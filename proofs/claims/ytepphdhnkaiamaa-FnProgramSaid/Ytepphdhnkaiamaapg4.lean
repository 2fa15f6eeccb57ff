/-
  Contracts and plain laws, joined: part 5.
-/
import Derived.Test.Ytepphdhnkaiamaapg3
import Derived.Shelf.Sort.Plain
import Derived.Shelf.Slices.In.SortNone
import Derived.Sort.OwnSortedInts
namespace Go.Proofs.Ytepphdhnkaiamaa
open Go.ChangeShapes Go.WideShapes Go.ChangeAt Go.RowKit
set_option linter.unusedVariables false
set_option linter.unusedSimpArgs false
set_option maxRecDepth 100000
set_option maxHeartbeats 4000000
structure PS where
 rows:List (List Int)
 lims:List Int
 cu:Cu
def aH (l:List Int)(u:Cu):Int × Cu:=((aA l u 6).1 - 1,(aA l u 6).2)
def aS (l:List Int)(n:Nat)(s:PS):PS:=⟨s.rows++[(aL (aH l) n s.cu).1],s.lims++[(aA l (aL (aH l) n s.cu).2 12).1],(aA l (aL (aH l) n s.cu).2 12).2⟩
def aIe (n:Int)(p:Nat):List Int:=(List.replicate n.toNat (0:Int)).set p 1
def idS (l:List Int)(n:Int)(p:Nat)(s:PS):PS:=if (aA l s.cu 6).1=0 then ⟨s.rows,s.lims,(aA l s.cu 6).2⟩ else ⟨s.rows++[aIe n p],s.lims++[1+(aA l (aA l s.cu 6).2 9).1],(aA l (aA l s.cu 6).2 9).2⟩
def cO (l:List Int)(n:Int):Nat->PS->PS
 | 0,s=>s
 | p+1,s=>idS l n p (cO l n p s)
theorem kE {l:List Int}{n:Int}{p:Nat}{s:PS}(h:(aA l (cO l n p s).cu 6).1=0):cO l n (p+1) s=⟨(cO l n p s).rows,(cO l n p s).lims,(aA l (cO l n p s).cu 6).2⟩:=by rw[cO,idS,if_pos h]
theorem kF {l:List Int}{n:Int}{p:Nat}{s:PS}(h: ¬(aA l (cO l n p s).cu 6).1=0):cO l n (p+1) s=⟨(cO l n p s).rows++[aIe n p],(cO l n p s).lims++[1+(aA l (aA l (cO l n p s).cu 6).2 9).1],(aA l (aA l (cO l n p s).cu 6).2 9).2⟩:=by rw[cO,idS,if_neg h]
theorem aAT (l:List Int)(n:Nat)(s:PS): ∀j,(bN (aS l n) j s).rows.length=s.rows.length+j/\(bN (aS l n) j s).lims.length=s.lims.length+j
 | 0=>⟨rfl,rfl⟩
 | j+1=>by
   have h:=aAT l n s j;rw[bN,aS];simp only[List.length_append,List.length_cons,List.length_nil];omega
theorem aCq (l:List Int)(n:Int)(s:PS): ∀p,(cO l n p s).rows.length<=s.rows.length+p/\(cO l n p s).lims.length<=s.lims.length+p
 | 0=>⟨Nat.le_refl _,Nat.le_refl _⟩
 | p+1=>by
   have h:=aCq l n s p;rw[cO,idS];split
   ·dsimp only;exact⟨by omega,by omega⟩
   simp only[List.length_append,List.length_cons,List.length_nil];omega
def prO (l:List Int)(u:Cu):List Int × Cu:=aL (aH l) (1+(aA l u 4).1).toNat (aA l u 4).2
def prR (l:List Int)(u:Cu):PS:=bN (aS l (1+(aA l u 4).1).toNat) (aA l (prO l u).2 6).1.toNat ⟨[],[],(aA l (prO l u).2 6).2⟩
def mZ (l:List Int)(u:Cu):PS:=cO l (1+(aA l u 4).1) (1+(aA l u 4).1).toNat (prR l u)
def aN (l:List Int)(u:Cu):aQ × Cu:=
 if (aA l (mZ l u).cu 20).1=0 then (⟨(prO l u).1.set 0 (bP l (aA l (mZ l u).cu 20).2 [10,-10,9]).1,(mZ l u).rows,(mZ l u).lims⟩,(bP l (aA l (mZ l u).cu 20).2 [10,-10,9]).2)
 else if (aA l (mZ l u).cu 20).1=1 then (⟨(prO l u).1,(mZ l u).rows,(mZ l u).lims++[1]⟩,(aA l (mZ l u).cu 20).2)
 else if (aA l (mZ l u).cu 20).1=2/\0<(mZ l u).lims.length then (⟨(prO l u).1,(mZ l u).rows,(mZ l u).lims.set 0 (bP l (aA l (mZ l u).cu 20).2 [-1,99,100]).1⟩,(bP l (aA l (mZ l u).cu 20).2 [-1,99,100]).2)
 else (⟨(prO l u).1,(mZ l u).rows,(mZ l u).lims⟩,(aA l (mZ l u).cu 20).2)
theorem aAU {l:List Int}{u:Cu}(h:(aA l (mZ l u).cu 20).1=0):aN l u=(⟨(prO l u).1.set 0 (bP l (aA l (mZ l u).cu 20).2 [10,-10,9]).1,(mZ l u).rows,(mZ l u).lims⟩,(bP l (aA l (mZ l u).cu 20).2 [10,-10,9]).2):=by rw[aN,if_pos h]
theorem aAV {l:List Int}{u:Cu}(h:(aA l (mZ l u).cu 20).1=1):aN l u=(⟨(prO l u).1,(mZ l u).rows,(mZ l u).lims++[1]⟩,(aA l (mZ l u).cu 20).2):=by rw[aN,if_neg (by omega),if_pos h]
theorem aAW {l:List Int}{u:Cu}(h:(aA l (mZ l u).cu 20).1=2)(h2:0<(mZ l u).lims.length):aN l u=(⟨(prO l u).1,(mZ l u).rows,(mZ l u).lims.set 0 (bP l (aA l (mZ l u).cu 20).2 [-1,99,100]).1⟩,(bP l (aA l (mZ l u).cu 20).2 [-1,99,100]).2):=by rw[aN,if_neg (by omega),if_neg (by omega),if_pos ⟨h,h2⟩]
theorem aAX {l:List Int}{u:Cu}(h: ¬(aA l (mZ l u).cu 20).1=0)(h1: ¬(aA l (mZ l u).cu 20).1=1)(h2: ¬(aA l (mZ l u).cu 20).1=2\/(mZ l u).lims.length=0):aN l u=(⟨(prO l u).1,(mZ l u).rows,(mZ l u).lims⟩,(aA l (mZ l u).cu 20).2):=by rw[aN,if_neg h,if_neg h1,if_neg (by omega)]
theorem aK4 (l:List Int)(u:Cu):(prO l u).1.length<=4/\(mZ l u).rows.length<=9/\(mZ l u).lims.length<=9:=by
 have h1:=dV l u (n:=4) (by omega);have h2:=dV l (prO l u).2 (n:=6) (by omega);have h3:=aAT l (1+(aA l u 4).1).toNat ⟨[],[],(aA l (prO l u).2 6).2⟩ (aA l (prO l u).2 6).1.toNat;have h4:=aCq l (1+(aA l u 4).1) (prR l u) (1+(aA l u 4).1).toNat;have h5:=rB (aH l) (aA l u 4).2 (1+(aA l u 4).1).toNat;simp only[List.length_nil] at h3;refine⟨?_,?_,?_⟩
 ·rw[prO];omega
 ·rw[mZ];rw[prR] at h4 ⊢;omega
 rw[mZ];rw[prR] at h4 ⊢;omega
theorem aAY (l:List Int)(u:Cu):(aN l u).1.objective.length<=4/\(aN l u).1.rows.length<=9/\(aN l u).1.limits.length<=10:=by
 have h:=aK4 l u;unfold aN;split
 ·simp only[List.length_set];omega
 split
 ·simp only[List.length_append,List.length_cons,List.length_nil];omega
 split
 ·simp only[List.length_set];omega
 dsimp only;exact⟨h.1,h.2.1,by omega⟩
theorem aBt {l:List Int}{n:Nat}(hn:n<=4){s:PS}(hs: ∀r∈s.rows,r.length<=4): ∀j,∀r∈(bN (aS l n) j s).rows,r.length<=4
 | 0,r,hr=>hs r hr
 | j+1,r,hr=>by
   rw[bN,aS] at hr;rcases List.mem_append.1 hr with hr | hr
   ·exact aBt hn hs j r hr
   rw[List.mem_singleton.1 hr,rB];exact hn
theorem aAZ {l:List Int}{n:Int}(hn:n.toNat<=4){s:PS}(hs: ∀r∈s.rows,r.length<=4): ∀p,∀r∈(cO l n p s).rows,r.length<=4
 | 0,r,hr=>hs r hr
 | p+1,r,hr=>by
   rw[cO,idS] at hr;split at hr
   ·exact aAZ hn hs p r hr
   rcases List.mem_append.1 hr with hr | hr
   ·exact aAZ hn hs p r hr
   rw[List.mem_singleton.1 hr,aIe,List.length_set,List.length_replicate];exact hn
theorem aGx (l:List Int)(u:Cu): ∀r∈(aN l u).1.rows,r.length<=4:=by
 have h1:=dV l u (n:=4) (by omega);have h: ∀r∈(mZ l u).rows,r.length<=4:=aAZ (by omega) (aBt (by omega) (by simp) _) _;unfold aN;split
 ·exact h
 split
 ·exact h
 split
 ·exact h
 exact h
abbrev vF (l:List Int)(u:Cu):List AV × List (Nat × Rs) × AV × List (Nat × Rs):=([.ptr 0 0],[(0,.box 84 [.p none (.sl 5 1 (l.map bD)),vI (u.i:Int),vI u.h])],.agg [.own 1,.own 2,.own 3],[(0,.box 84 [.p none (.sl 5 1 (l.map bD)),vI (((aN l u).2.i:Nat):Int),vI ((aN l u).2.h)]),(1,.arr 3 1 true ((aN l u).1.objective.map aI)),(2,.arr 24 1 true ((aN l u).1.rows.map aZ)),(3,.arr 3 1 true ((aN l u).1.limits.map aI))])
abbrev aIf (l:List Int)(u:Cu):Prop:=Cm 37 (vF l u).1 (vF l u).2.1 (vF l u).2.2.1 (vF l u).2.2.2
theorem aFK (l:List Int)(u:Cu)(hl:l.length<=1048576):aIf l u:=by
 refine cqx Try.func37 (.callxs [.ptr 0 0,vI 4] [(0,.box 84 [.p none (.sl 5 1 (l.map bD)),vI (u.i:Int),vI u.h])] [(0,0)] (vI ((aA l u (4:Int)).1)) [(0,.box 84 [.p none (.sl 5 1 (l.map bD)),vI (((aA l u (4:Int)).2.i:Nat):Int),vI ((aA l u (4:Int)).2.h)])]<| .loop Nat (Q1 Nat) ([5]++rg 15 13) [0,400,2500,2600,9001] (fun k=>[(5,vI (k:Int))]) (fun k=>[(400,some (.box 27 [.own 9001,.nil,.nil])),(9001,some (.arr 3 1 true ((aL (aH l) k (aA l u 4).2).1.map aI))),(0,some (.box 84 [.p none (.sl 5 1 (l.map bD)),vI (((aL (aH l) k (aA l u 4).2).2.i:Nat):Int),vI ((aL (aH l) k (aA l u 4).2).2.h)]))]) (fun k=>(k:Int)<=(1+(aA l u 4).1)) (fun k=>((1+(aA l u 4).1) - k).toNat) (fun k=> .br (.callxs [.ptr 0 0,vI 6] [(0,.box 84 [.p none (.sl 5 1 (l.map bD)),vI (((aL (aH l) k (aA l u 4).2).2.i:Nat):Int),vI ((aL (aH l) k (aA l u 4).2).2.h)])] [(0,0)] (vI ((aA l ((aL (aH l) k (aA l u 4).2).2) (6:Int)).1)) [(0,.box 84 [.p none (.sl 5 1 (l.map bD)),vI (((aA l ((aL (aH l) k (aA l u 4).2).2) (6:Int)).2.i:Nat):Int),vI ((aA l ((aL (aH l) k (aA l u 4).2).2) (6:Int)).2.h)])]<| .app Int aI ((aL (aH l) k (aA l u 4).2).1) ([((aA l ((aL (aH l) k (aA l u 4).2).2) (6:Int)).1) - 1]:List Int)<| .back [(0,0),(400,400),(9001,2600)]) (.callxs [.ptr 0 0,vI 6] [(0,.box 84 [.p none (.sl 5 1 (l.map bD)),vI (((aL (aH l) k (aA l u 4).2).2.i:Nat):Int),vI ((aL (aH l) k (aA l u 4).2).2.h)])] [(0,0)] (vI ((aA l ((aL (aH l) k (aA l u 4).2).2) (6:Int)).1)) [(0,.box 84 [.p none (.sl 5 1 (l.map bD)),vI (((aA l ((aL (aH l) k (aA l u 4).2).2) (6:Int)).2.i:Nat):Int),vI ((aA l ((aL (aH l) k (aA l u 4).2).2) (6:Int)).2.h)])]<| .loop Nat (Q1 Nat) ([6,7,8]++rg 30 29) [0,400,3400,4400,4500,4900,5000,5600,5700,9002,9003] (fun j=>[(6,vI ((aA l (aL (aH l) k (aA l u 4).2).2 6).1 - (j:Int)))]) (fun j=>[(400,some (.box 27 [.own 9001,.own 9002,.own 9003])),(9002,some (.arr 24 1 true (((bN (aS l (1+(aA l u 4).1).toNat) j (⟨[],[],(aA l (aL (aH l) k (aA l u 4).2).2 6).2⟩:PS)).rows).map aZ))),(9003,some (.arr 3 1 true (((bN (aS l (1+(aA l u 4).1).toNat) j (⟨[],[],(aA l (aL (aH l) k (aA l u 4).2).2 6).2⟩:PS)).lims).map aI))),(0,some (.box 84 [.p none (.sl 5 1 (l.map bD)),vI (((bN (aS l (1+(aA l u 4).1).toNat) j (⟨[],[],(aA l (aL (aH l) k (aA l u 4).2).2 6).2⟩:PS)).cu.i:Nat):Int),vI ((bN (aS l (1+(aA l u 4).1).toNat) j (⟨[],[],(aA l (aL (aH l) k (aA l u 4).2).2 6).2⟩:PS)).cu.h)]))]) (fun j=>(j:Int)<=(aA l (aL (aH l) k (aA l u 4).2).2 6).1) (fun j=>((aA l (aL (aH l) k (aA l u 4).2).2 6).1 - j).toNat) (fun j=> .br (.loop Nat (Q1 Nat) ([7,8]++rg 34 12) [0,3400,4400,4500] (fun q=>[(8,vI (q:Int)),(7,.own 3400)]) (fun q=>[(3400,some (.arr 3 1 true (((aL (aH l) q (bN (aS l (1+(aA l u 4).1).toNat) j (⟨[],[],(aA l (aL (aH l) k (aA l u 4).2).2 6).2⟩:PS)).cu).1).map aI))),(0,some (.box 84 [.p none (.sl 5 1 (l.map bD)),vI (((aL (aH l) q (bN (aS l (1+(aA l u 4).1).toNat) j (⟨[],[],(aA l (aL (aH l) k (aA l u 4).2).2 6).2⟩:PS)).cu).2.i:Nat):Int),vI ((aL (aH l) q (bN (aS l (1+(aA l u 4).1).toNat) j (⟨[],[],(aA l (aL (aH l) k (aA l u 4).2).2 6).2⟩:PS)).cu).2.h)]))]) (fun q=>(q:Int)<=(1+(aA l u 4).1)) (fun q=>((1+(aA l u 4).1) - q).toNat) (fun q=> .br (.callxs [.ptr 0 0,vI 6] [(0,.box 84 [.p none (.sl 5 1 (l.map bD)),vI ((((aL (aH l) q (bN (aS l (1+(aA l u 4).1).toNat) j (⟨[],[],(aA l (aL (aH l) k (aA l u 4).2).2 6).2⟩:PS)).cu).2).i:Nat):Int),vI (((aL (aH l) q (bN (aS l (1+(aA l u 4).1).toNat) j (⟨[],[],(aA l (aL (aH l) k (aA l u 4).2).2 6).2⟩:PS)).cu).2).h)])] [(0,0)] (vI ((aA l ((aL (aH l) q (bN (aS l (1+(aA l u 4).1).toNat) j (⟨[],[],(aA l (aL (aH l) k (aA l u 4).2).2 6).2⟩:PS)).cu).2) (6:Int)).1)) [(0,.box 84 [.p none (.sl 5 1 (l.map bD)),vI (((aA l ((aL (aH l) q (bN (aS l (1+(aA l u 4).1).toNat) j (⟨[],[],(aA l (aL (aH l) k (aA l u 4).2).2 6).2⟩:PS)).cu).2) (6:Int)).2.i:Nat):Int),vI ((aA l ((aL (aH l) q (bN (aS l (1+(aA l u 4).1).toNat) j (⟨[],[],(aA l (aL (aH l) k (aA l u 4).2).2 6).2⟩:PS)).cu).2) (6:Int)).2.h)])]<| .app Int aI ((aL (aH l) q (bN (aS l (1+(aA l u 4).1).toNat) j (⟨[],[],(aA l (aL (aH l) k (aA l u 4).2).2 6).2⟩:PS)).cu).1) ([((aA l ((aL (aH l) q (bN (aS l (1+(aA l u 4).1).toNat) j (⟨[],[],(aA l (aL (aH l) k (aA l u 4).2).2 6).2⟩:PS)).cu).2) (6:Int)).1) - 1]:List Int)<| .back [(0,0),(3400,4500)]) (.appx (List Int) aZ ((bN (aS l (1+(aA l u 4).1).toNat) j (⟨[],[],(aA l (aL (aH l) k (aA l u 4).2).2 6).2⟩:PS)).rows) ((aL (aH l) q (bN (aS l (1+(aA l u 4).1).toNat) j (⟨[],[],(aA l (aL (aH l) k (aA l u 4).2).2 6).2⟩:PS)).cu).1)<| .callxs [.ptr 0 0,vI 12] [(0,.box 84 [.p none (.sl 5 1 (l.map bD)),vI ((((aL (aH l) q (bN (aS l (1+(aA l u 4).1).toNat) j (⟨[],[],(aA l (aL (aH l) k (aA l u 4).2).2 6).2⟩:PS)).cu).2).i:Nat):Int),vI (((aL (aH l) q (bN (aS l (1+(aA l u 4).1).toNat) j (⟨[],[],(aA l (aL (aH l) k (aA l u 4).2).2 6).2⟩:PS)).cu).2).h)])] [(0,0)] (vI ((aA l ((aL (aH l) q (bN (aS l (1+(aA l u 4).1).toNat) j (⟨[],[],(aA l (aL (aH l) k (aA l u 4).2).2 6).2⟩:PS)).cu).2) (12:Int)).1)) [(0,.box 84 [.p none (.sl 5 1 (l.map bD)),vI (((aA l ((aL (aH l) q (bN (aS l (1+(aA l u 4).1).toNat) j (⟨[],[],(aA l (aL (aH l) k (aA l u 4).2).2 6).2⟩:PS)).cu).2) (12:Int)).2.i:Nat):Int),vI ((aA l ((aL (aH l) q (bN (aS l (1+(aA l u 4).1).toNat) j (⟨[],[],(aA l (aL (aH l) k (aA l u 4).2).2 6).2⟩:PS)).cu).2) (12:Int)).2.h)])]<| .app Int aI ((bN (aS l (1+(aA l u 4).1).toNat) j (⟨[],[],(aA l (aL (aH l) k (aA l u 4).2).2 6).2⟩:PS)).lims) ([(aA l ((aL (aH l) q (bN (aS l (1+(aA l u 4).1).toNat) j (⟨[],[],(aA l (aL (aH l) k (aA l u 4).2).2 6).2⟩:PS)).cu).2) (12:Int)).1]:List Int)<| .back [(0,0),(400,400),(9002,5000),(9003,5700)]))) (.loop Nat (Q1 Nat) ([9,10]++rg 59 27) [0,400,6800,7500,7600,8300,8400,9002,9003] (fun p=>[(9,vI (p:Int))]) (fun p=>[(400,some (.box 27 [.own 9001,.own 9002,.own 9003])),(9002,some (.arr 24 1 true (((cO l (1+(aA l u 4).1) p (bN (aS l (1+(aA l u 4).1).toNat) j (⟨[],[],(aA l (aL (aH l) k (aA l u 4).2).2 6).2⟩:PS))).rows).map aZ))),(9003,some (.arr 3 1 true (((cO l (1+(aA l u 4).1) p (bN (aS l (1+(aA l u 4).1).toNat) j (⟨[],[],(aA l (aL (aH l) k (aA l u 4).2).2 6).2⟩:PS))).lims).map aI))),(0,some (.box 84 [.p none (.sl 5 1 (l.map bD)),vI (((cO l (1+(aA l u 4).1) p (bN (aS l (1+(aA l u 4).1).toNat) j (⟨[],[],(aA l (aL (aH l) k (aA l u 4).2).2 6).2⟩:PS))).cu.i:Nat):Int),vI ((cO l (1+(aA l u 4).1) p (bN (aS l (1+(aA l u 4).1).toNat) j (⟨[],[],(aA l (aL (aH l) k (aA l u 4).2).2 6).2⟩:PS))).cu.h)]))]) (fun p=>(p:Int)<=(1+(aA l u 4).1)) (fun p=>((1+(aA l u 4).1) - p).toNat) (fun p=> .br (.callxs [.ptr 0 0,vI 6] [(0,.box 84 [.p none (.sl 5 1 (l.map bD)),vI ((((cO l (1+(aA l u 4).1) p (bN (aS l (1+(aA l u 4).1).toNat) j (⟨[],[],(aA l (aL (aH l) k (aA l u 4).2).2 6).2⟩:PS))).cu).i:Nat):Int),vI (((cO l (1+(aA l u 4).1) p (bN (aS l (1+(aA l u 4).1).toNat) j (⟨[],[],(aA l (aL (aH l) k (aA l u 4).2).2 6).2⟩:PS))).cu).h)])] [(0,0)] (vB (decide ((aA l ((cO l (1+(aA l u 4).1) p (bN (aS l (1+(aA l u 4).1).toNat) j (⟨[],[],(aA l (aL (aH l) k (aA l u 4).2).2 6).2⟩:PS))).cu) (6:Int)).1=0))) [(0,.box 84 [.p none (.sl 5 1 (l.map bD)),vI (((aA l ((cO l (1+(aA l u 4).1) p (bN (aS l (1+(aA l u 4).1).toNat) j (⟨[],[],(aA l (aL (aH l) k (aA l u 4).2).2 6).2⟩:PS))).cu) (6:Int)).2.i:Nat):Int),vI ((aA l ((cO l (1+(aA l u 4).1) p (bN (aS l (1+(aA l u 4).1).toNat) j (⟨[],[],(aA l (aL (aH l) k (aA l u 4).2).2 6).2⟩:PS))).cu) (6:Int)).2.h)])]<| .br (.mk (((1:Int)+((aA l u (4:Int)).1)).toNat) [.int .i64 (0:Int)] ((List.replicate (((1:Int)+((aA l u (4:Int)).1)).toNat) (0:Int)).map aI)<| .len ((List.replicate (((1:Int)+((aA l u (4:Int)).1)).toNat) (0:Int)).length)<| .set Int aI (List.replicate (((1:Int)+((aA l u (4:Int)).1)).toNat) (0:Int)) (fun s22_3=>(1:Int)) (fun s22_3=> .appx (List Int) aZ ((cO l (1+(aA l u 4).1) p (bN (aS l (1+(aA l u 4).1).toNat) j (⟨[],[],(aA l (aL (aH l) k (aA l u 4).2).2 6).2⟩:PS))).rows) ((List.replicate (((1:Int)+((aA l u (4:Int)).1)).toNat) (0:Int)).set p (1:Int))<| .callxs [.ptr 0 0,vI 9] [(0,.box 84 [.p none (.sl 5 1 (l.map bD)),vI ((((aA l ((cO l (1+(aA l u 4).1) p (bN (aS l (1+(aA l u 4).1).toNat) j (⟨[],[],(aA l (aL (aH l) k (aA l u 4).2).2 6).2⟩:PS))).cu) (6:Int)).2).i:Nat):Int),vI (((aA l ((cO l (1+(aA l u 4).1) p (bN (aS l (1+(aA l u 4).1).toNat) j (⟨[],[],(aA l (aL (aH l) k (aA l u 4).2).2 6).2⟩:PS))).cu) (6:Int)).2).h)])] [(0,0)] (vI ((aA l ((aA l ((cO l (1+(aA l u 4).1) p (bN (aS l (1+(aA l u 4).1).toNat) j (⟨[],[],(aA l (aL (aH l) k (aA l u 4).2).2 6).2⟩:PS))).cu) (6:Int)).2) (9:Int)).1)) [(0,.box 84 [.p none (.sl 5 1 (l.map bD)),vI (((aA l ((aA l ((cO l (1+(aA l u 4).1) p (bN (aS l (1+(aA l u 4).1).toNat) j (⟨[],[],(aA l (aL (aH l) k (aA l u 4).2).2 6).2⟩:PS))).cu) (6:Int)).2) (9:Int)).2.i:Nat):Int),vI ((aA l ((aA l ((cO l (1+(aA l u 4).1) p (bN (aS l (1+(aA l u 4).1).toNat) j (⟨[],[],(aA l (aL (aH l) k (aA l u 4).2).2 6).2⟩:PS))).cu) (6:Int)).2) (9:Int)).2.h)])]<| .app Int aI ((cO l (1+(aA l u 4).1) p (bN (aS l (1+(aA l u 4).1).toNat) j (⟨[],[],(aA l (aL (aH l) k (aA l u 4).2).2 6).2⟩:PS))).lims) ([(1:Int)+((aA l ((aA l ((cO l (1+(aA l u 4).1) p (bN (aS l (1+(aA l u 4).1).toNat) j (⟨[],[],(aA l (aL (aH l) k (aA l u 4).2).2 6).2⟩:PS))).cu) (6:Int)).2) (9:Int)).1)]:List Int)<| .back [(0,0),(400,400),(9002,7600),(9003,8400)])) (.back [(0,0),(400,400),(9002,9002),(9003,9003)])) (.callxs [.ptr 0 0,vI 20] [(0,.box 84 [.p none (.sl 5 1 (l.map bD)),vI ((((cO l (1+(aA l u 4).1) p (bN (aS l (1+(aA l u 4).1).toNat) j (⟨[],[],(aA l (aL (aH l) k (aA l u 4).2).2 6).2⟩:PS))).cu).i:Nat):Int),vI (((cO l (1+(aA l u 4).1) p (bN (aS l (1+(aA l u 4).1).toNat) j (⟨[],[],(aA l (aL (aH l) k (aA l u 4).2).2 6).2⟩:PS))).cu).h)])] [(0,0)] (vI ((aA l ((cO l (1+(aA l u 4).1) p (bN (aS l (1+(aA l u 4).1).toNat) j (⟨[],[],(aA l (aL (aH l) k (aA l u 4).2).2 6).2⟩:PS))).cu) (20:Int)).1)) [(0,.box 84 [.p none (.sl 5 1 (l.map bD)),vI (((aA l ((cO l (1+(aA l u 4).1) p (bN (aS l (1+(aA l u 4).1).toNat) j (⟨[],[],(aA l (aL (aH l) k (aA l u 4).2).2 6).2⟩:PS))).cu) (20:Int)).2.i:Nat):Int),vI ((aA l ((cO l (1+(aA l u 4).1) p (bN (aS l (1+(aA l u 4).1).toNat) j (⟨[],[],(aA l (aL (aH l) k (aA l u 4).2).2 6).2⟩:PS))).cu) (20:Int)).2.h)])]<| .br (.callxs [.ptr 0 0,.own 1] [(0,.box 84 [.p none (.sl 5 1 (l.map bD)),vI ((((aA l ((cO l (1+(aA l u 4).1) p (bN (aS l (1+(aA l u 4).1).toNat) j (⟨[],[],(aA l (aL (aH l) k (aA l u 4).2).2 6).2⟩:PS))).cu) (20:Int)).2).i:Nat):Int),vI (((aA l ((cO l (1+(aA l u 4).1) p (bN (aS l (1+(aA l u 4).1).toNat) j (⟨[],[],(aA l (aL (aH l) k (aA l u 4).2).2 6).2⟩:PS))).cu) (20:Int)).2).h)]),(1,.arr 3 1 true (([(10:Int),(-10:Int),(9:Int)]:List Int).map aI))] [(0,0),(1,9300)] (vI ((bP l ((aA l ((cO l (1+(aA l u 4).1) p (bN (aS l (1+(aA l u 4).1).toNat) j (⟨[],[],(aA l (aL (aH l) k (aA l u 4).2).2 6).2⟩:PS))).cu) (20:Int)).2) ([(10:Int),(-10:Int),(9:Int)]:List Int)).1)) [(0,.box 84 [.p none (.sl 5 1 (l.map bD)),vI (((bP l ((aA l ((cO l (1+(aA l u 4).1) p (bN (aS l (1+(aA l u 4).1).toNat) j (⟨[],[],(aA l (aL (aH l) k (aA l u 4).2).2 6).2⟩:PS))).cu) (20:Int)).2) ([(10:Int),(-10:Int),(9:Int)]:List Int)).2.i:Nat):Int),vI ((bP l ((aA l ((cO l (1+(aA l u 4).1) p (bN (aS l (1+(aA l u 4).1).toNat) j (⟨[],[],(aA l (aL (aH l) k (aA l u 4).2).2 6).2⟩:PS))).cu) (20:Int)).2) ([(10:Int),(-10:Int),(9:Int)]:List Int)).2.h)])]<| .len ((aL (aH l) k (aA l u 4).2).1.length)<| .set Int aI ((aL (aH l) k (aA l u 4).2).1) (fun s27_6=>(bP l ((aA l ((cO l (1+(aA l u 4).1) p (bN (aS l (1+(aA l u 4).1).toNat) j (⟨[],[],(aA l (aL (aH l) k (aA l u 4).2).2 6).2⟩:PS))).cu) (20:Int)).2) ([(10:Int),(-10:Int),(9:Int)]:List Int)).1) (fun s27_6=> .fin [(0,0),(1,9001),(2,9002),(3,9003)])) (.br (.app Int aI ((cO l (1+(aA l u 4).1) p (bN (aS l (1+(aA l u 4).1).toNat) j (⟨[],[],(aA l (aL (aH l) k (aA l u 4).2).2 6).2⟩:PS))).lims) ([(1:Int)]:List Int)<| .fin [(0,0),(1,9001),(2,9002),(3,10100)]) (.br (.len (((cO l (1+(aA l u 4).1) p (bN (aS l (1+(aA l u 4).1).toNat) j (⟨[],[],(aA l (aL (aH l) k (aA l u 4).2).2 6).2⟩:PS))).lims).length)<| .br (.callxs [.ptr 0 0,.own 1] [(0,.box 84 [.p none (.sl 5 1 (l.map bD)),vI ((((aA l ((cO l (1+(aA l u 4).1) p (bN (aS l (1+(aA l u 4).1).toNat) j (⟨[],[],(aA l (aL (aH l) k (aA l u 4).2).2 6).2⟩:PS))).cu) (20:Int)).2).i:Nat):Int),vI (((aA l ((cO l (1+(aA l u 4).1) p (bN (aS l (1+(aA l u 4).1).toNat) j (⟨[],[],(aA l (aL (aH l) k (aA l u 4).2).2 6).2⟩:PS))).cu) (20:Int)).2).h)]),(1,.arr 3 1 true (([(-1:Int),(99:Int),(100:Int)]:List Int).map aI))] [(0,0),(1,11200)] (vI ((bP l ((aA l ((cO l (1+(aA l u 4).1) p (bN (aS l (1+(aA l u 4).1).toNat) j (⟨[],[],(aA l (aL (aH l) k (aA l u 4).2).2 6).2⟩:PS))).cu) (20:Int)).2) ([(-1:Int),(99:Int),(100:Int)]:List Int)).1)) [(0,.box 84 [.p none (.sl 5 1 (l.map bD)),vI (((bP l ((aA l ((cO l (1+(aA l u 4).1) p (bN (aS l (1+(aA l u 4).1).toNat) j (⟨[],[],(aA l (aL (aH l) k (aA l u 4).2).2 6).2⟩:PS))).cu) (20:Int)).2) ([(-1:Int),(99:Int),(100:Int)]:List Int)).2.i:Nat):Int),vI ((bP l ((aA l ((cO l (1+(aA l u 4).1) p (bN (aS l (1+(aA l u 4).1).toNat) j (⟨[],[],(aA l (aL (aH l) k (aA l u 4).2).2 6).2⟩:PS))).cu) (20:Int)).2) ([(-1:Int),(99:Int),(100:Int)]:List Int)).2.h)])]<| .len (((cO l (1+(aA l u 4).1) p (bN (aS l (1+(aA l u 4).1).toNat) j (⟨[],[],(aA l (aL (aH l) k (aA l u 4).2).2 6).2⟩:PS))).lims).length)<| .set Int aI ((cO l (1+(aA l u 4).1) p (bN (aS l (1+(aA l u 4).1).toNat) j (⟨[],[],(aA l (aL (aH l) k (aA l u 4).2).2 6).2⟩:PS))).lims) (fun s32_6=>(bP l ((aA l ((cO l (1+(aA l u 4).1) p (bN (aS l (1+(aA l u 4).1).toNat) j (⟨[],[],(aA l (aL (aH l) k (aA l u 4).2).2 6).2⟩:PS))).cu) (20:Int)).2) ([(-1:Int),(99:Int),(100:Int)]:List Int)).1) (fun s32_6=> .fin [(0,0),(1,9001),(2,9002),(3,9003)])) (.fin [(0,0),(1,9001),(2,9002),(3,9003)])) (.fin [(0,0),(1,9001),(2,9002),(3,9003)])))))))))) (p:=fR Try.prog 61 [.ptr 0 0,vI 4] [(0,.box 84 [.p none (.sl 5 1 (l.map bD)),vI (u.i:Int),vI u.h])] (vI ((aA l u (4:Int)).1)) [(0,.box 84 [.p none (.sl 5 1 (l.map bD)),vI (((aA l u (4:Int)).2.i:Nat):Int),vI ((aA l u (4:Int)).2.h)])]/\(4:Int)=4/\l.map bD=l.map bD/\(u.i:Int)=(u.i:Int)/\u.h=u.h/\(cR ((1:Int)+((aA l u (4:Int)).1))/\((∃(k:Nat),0=(k:Int)/\[]=(aL (aH l) k (aA l u 4).2).1.map aI/\l.map bD=l.map bD/\(((aA l u (4:Int)).2.i:Nat):Int)=(((aL (aH l) k (aA l u 4).2).2.i:Nat):Int)/\((aA l u (4:Int)).2.h)=((aL (aH l) k (aA l u 4).2).2.h)/\(k:Int)<=(1+(aA l u 4).1))/\ ∀(k:Nat),(k:Int)<=(1+(aA l u 4).1)->Br ((k:Int)<((1:Int)+((aA l u (4:Int)).1))) (fR Try.prog 61 [.ptr 0 0,vI 6] [(0,.box 84 [.p none (.sl 5 1 (l.map bD)),vI (((aL (aH l) k (aA l u 4).2).2.i:Nat):Int),vI ((aL (aH l) k (aA l u 4).2).2.h)])] (vI ((aA l ((aL (aH l) k (aA l u 4).2).2) (6:Int)).1)) [(0,.box 84 [.p none (.sl 5 1 (l.map bD)),vI (((aA l ((aL (aH l) k (aA l u 4).2).2) (6:Int)).2.i:Nat):Int),vI ((aA l ((aL (aH l) k (aA l u 4).2).2) (6:Int)).2.h)])]/\(6:Int)=6/\l.map bD=l.map bD/\(((aL (aH l) k (aA l u 4).2).2.i:Nat):Int)=(((aL (aH l) k (aA l u 4).2).2.i:Nat):Int)/\((aL (aH l) k (aA l u 4).2).2.h)=((aL (aH l) k (aA l u 4).2).2.h)/\cR (((aA l ((aL (aH l) k (aA l u 4).2).2) (6:Int)).1) - 1)/\Ap aI ((aL (aH l) k (aA l u 4).2).1) ([((aA l ((aL (aH l) k (aA l u 4).2).2) (6:Int)).1) - 1]:List Int) 8 (cR ((k:Int)+1)/\ ∃(k' :Nat),((k:Int)+1)=(k' :Int)/\(((aL (aH l) k (aA l u 4).2).1)++[((aA l ((aL (aH l) k (aA l u 4).2).2) (6:Int)).1) - 1]).map aI=(aL (aH l) k' (aA l u 4).2).1.map aI/\l.map bD=l.map bD/\(((aA l ((aL (aH l) k (aA l u 4).2).2) (6:Int)).2.i:Nat):Int)=(((aL (aH l) k' (aA l u 4).2).2.i:Nat):Int)/\((aA l ((aL (aH l) k (aA l u 4).2).2) (6:Int)).2.h)=((aL (aH l) k' (aA l u 4).2).2.h)/\(k' :Int)<=(1+(aA l u 4).1)/\((1+(aA l u 4).1) - k').toNat<((1+(aA l u 4).1) - k).toNat)) (fR Try.prog 61 [.ptr 0 0,vI 6] [(0,.box 84 [.p none (.sl 5 1 (l.map bD)),vI (((aL (aH l) k (aA l u 4).2).2.i:Nat):Int),vI ((aL (aH l) k (aA l u 4).2).2.h)])] (vI ((aA l ((aL (aH l) k (aA l u 4).2).2) (6:Int)).1)) [(0,.box 84 [.p none (.sl 5 1 (l.map bD)),vI (((aA l ((aL (aH l) k (aA l u 4).2).2) (6:Int)).2.i:Nat):Int),vI ((aA l ((aL (aH l) k (aA l u 4).2).2) (6:Int)).2.h)])]/\(6:Int)=6/\l.map bD=l.map bD/\(((aL (aH l) k (aA l u 4).2).2.i:Nat):Int)=(((aL (aH l) k (aA l u 4).2).2.i:Nat):Int)/\((aL (aH l) k (aA l u 4).2).2.h)=((aL (aH l) k (aA l u 4).2).2.h)/\((∃(j:Nat),((aA l ((aL (aH l) k (aA l u 4).2).2) (6:Int)).1)=((aA l (aL (aH l) k (aA l u 4).2).2 6).1 - (j:Int))/\[]=((bN (aS l (1+(aA l u 4).1).toNat) j (⟨[],[],(aA l (aL (aH l) k (aA l u 4).2).2 6).2⟩:PS)).rows).map aZ/\[]=((bN (aS l (1+(aA l u 4).1).toNat) j (⟨[],[],(aA l (aL (aH l) k (aA l u 4).2).2 6).2⟩:PS)).lims).map aI/\l.map bD=l.map bD/\(((aA l ((aL (aH l) k (aA l u 4).2).2) (6:Int)).2.i:Nat):Int)=(((bN (aS l (1+(aA l u 4).1).toNat) j (⟨[],[],(aA l (aL (aH l) k (aA l u 4).2).2 6).2⟩:PS)).cu.i:Nat):Int)/\((aA l ((aL (aH l) k (aA l u 4).2).2) (6:Int)).2.h)=((bN (aS l (1+(aA l u 4).1).toNat) j (⟨[],[],(aA l (aL (aH l) k (aA l u 4).2).2 6).2⟩:PS)).cu.h)/\(j:Int)<=(aA l (aL (aH l) k (aA l u 4).2).2 6).1)/\ ∀(j:Nat),(j:Int)<=(aA l (aL (aH l) k (aA l u 4).2).2 6).1->Br (0<((aA l (aL (aH l) k (aA l u 4).2).2 6).1 - (j:Int))) ((∃(q:Nat),0=(q:Int)/\[]=((aL (aH l) q (bN (aS l (1+(aA l u 4).1).toNat) j (⟨[],[],(aA l (aL (aH l) k (aA l u 4).2).2 6).2⟩:PS)).cu).1).map aI/\l.map bD=l.map bD/\(((bN (aS l (1+(aA l u 4).1).toNat) j (⟨[],[],(aA l (aL (aH l) k (aA l u 4).2).2 6).2⟩:PS)).cu.i:Nat):Int)=(((aL (aH l) q (bN (aS l (1+(aA l u 4).1).toNat) j (⟨[],[],(aA l (aL (aH l) k (aA l u 4).2).2 6).2⟩:PS)).cu).2.i:Nat):Int)/\((bN (aS l (1+(aA l u 4).1).toNat) j (⟨[],[],(aA l (aL (aH l) k (aA l u 4).2).2 6).2⟩:PS)).cu.h)=((aL (aH l) q (bN (aS l (1+(aA l u 4).1).toNat) j (⟨[],[],(aA l (aL (aH l) k (aA l u 4).2).2 6).2⟩:PS)).cu).2.h)/\(q:Int)<=(1+(aA l u 4).1))/\ ∀(q:Nat),(q:Int)<=(1+(aA l u 4).1)->Br ((q:Int)<((1:Int)+((aA l u (4:Int)).1))) (fR Try.prog 61 [.ptr 0 0,vI 6] [(0,.box 84 [.p none (.sl 5 1 (l.map bD)),vI ((((aL (aH l) q (bN (aS l (1+(aA l u 4).1).toNat) j (⟨[],[],(aA l (aL (aH l) k (aA l u 4).2).2 6).2⟩:PS)).cu).2).i:Nat):Int),vI (((aL (aH l) q (bN (aS l (1+(aA l u 4).1).toNat) j (⟨[],[],(aA l (aL (aH l) k (aA l u 4).2).2 6).2⟩:PS)).cu).2).h)])] (vI ((aA l ((aL (aH l) q (bN (aS l (1+(aA l u 4).1).toNat) j (⟨[],[],(aA l (aL (aH l) k (aA l u 4).2).2 6).2⟩:PS)).cu).2) (6:Int)).1)) [(0,.box 84 [.p none (.sl 5 1 (l.map bD)),vI (((aA l ((aL (aH l) q (bN (aS l (1+(aA l u 4).1).toNat) j (⟨[],[],(aA l (aL (aH l) k (aA l u 4).2).2 6).2⟩:PS)).cu).2) (6:Int)).2.i:Nat):Int),vI ((aA l ((aL (aH l) q (bN (aS l (1+(aA l u 4).1).toNat) j (⟨[],[],(aA l (aL (aH l) k (aA l u 4).2).2 6).2⟩:PS)).cu).2) (6:Int)).2.h)])]/\(6:Int)=6/\l.map bD=l.map bD/\(((aL (aH l) q (bN (aS l (1+(aA l u 4).1).toNat) j (⟨[],[],(aA l (aL (aH l) k (aA l u 4).2).2 6).2⟩:PS)).cu).2.i:Nat):Int)=((((aL (aH l) q (bN (aS l (1+(aA l u 4).1).toNat) j (⟨[],[],(aA l (aL (aH l) k (aA l u 4).2).2 6).2⟩:PS)).cu).2).i:Nat):Int)/\((aL (aH l) q (bN (aS l (1+(aA l u 4).1).toNat) j (⟨[],[],(aA l (aL (aH l) k (aA l u 4).2).2 6).2⟩:PS)).cu).2.h)=(((aL (aH l) q (bN (aS l (1+(aA l u 4).1).toNat) j (⟨[],[],(aA l (aL (aH l) k (aA l u 4).2).2 6).2⟩:PS)).cu).2).h)/\cR (((aA l ((aL (aH l) q (bN (aS l (1+(aA l u 4).1).toNat) j (⟨[],[],(aA l (aL (aH l) k (aA l u 4).2).2 6).2⟩:PS)).cu).2) (6:Int)).1) - 1)/\Ap aI ((aL (aH l) q (bN (aS l (1+(aA l u 4).1).toNat) j (⟨[],[],(aA l (aL (aH l) k (aA l u 4).2).2 6).2⟩:PS)).cu).1) ([((aA l ((aL (aH l) q (bN (aS l (1+(aA l u 4).1).toNat) j (⟨[],[],(aA l (aL (aH l) k (aA l u 4).2).2 6).2⟩:PS)).cu).2) (6:Int)).1) - 1]:List Int) 8 (cR ((q:Int)+1)/\ ∃(q' :Nat),((q:Int)+1)=(q' :Int)/\(((aL (aH l) q (bN (aS l (1+(aA l u 4).1).toNat) j (⟨[],[],(aA l (aL (aH l) k (aA l u 4).2).2 6).2⟩:PS)).cu).1)++[((aA l ((aL (aH l) q (bN (aS l (1+(aA l u 4).1).toNat) j (⟨[],[],(aA l (aL (aH l) k (aA l u 4).2).2 6).2⟩:PS)).cu).2) (6:Int)).1) - 1]).map aI=((aL (aH l) q' (bN (aS l (1+(aA l u 4).1).toNat) j (⟨[],[],(aA l (aL (aH l) k (aA l u 4).2).2 6).2⟩:PS)).cu).1).map aI/\l.map bD=l.map bD/\(((aA l ((aL (aH l) q (bN (aS l (1+(aA l u 4).1).toNat) j (⟨[],[],(aA l (aL (aH l) k (aA l u 4).2).2 6).2⟩:PS)).cu).2) (6:Int)).2.i:Nat):Int)=(((aL (aH l) q' (bN (aS l (1+(aA l u 4).1).toNat) j (⟨[],[],(aA l (aL (aH l) k (aA l u 4).2).2 6).2⟩:PS)).cu).2.i:Nat):Int)/\((aA l ((aL (aH l) q (bN (aS l (1+(aA l u 4).1).toNat) j (⟨[],[],(aA l (aL (aH l) k (aA l u 4).2).2 6).2⟩:PS)).cu).2) (6:Int)).2.h)=((aL (aH l) q' (bN (aS l (1+(aA l u 4).1).toNat) j (⟨[],[],(aA l (aL (aH l) k (aA l u 4).2).2 6).2⟩:PS)).cu).2.h)/\(q' :Int)<=(1+(aA l u 4).1)/\((1+(aA l u 4).1) - q').toNat<((1+(aA l u 4).1) - q).toNat)) (((bN (aS l (1+(aA l u 4).1).toNat) j (⟨[],[],(aA l (aL (aH l) k (aA l u 4).2).2 6).2⟩:PS)).rows).map aZ=((bN (aS l (1+(aA l u 4).1).toNat) j (⟨[],[],(aA l (aL (aH l) k (aA l u 4).2).2 6).2⟩:PS)).rows).map aZ/\((aL (aH l) q (bN (aS l (1+(aA l u 4).1).toNat) j (⟨[],[],(aA l (aL (aH l) k (aA l u 4).2).2 6).2⟩:PS)).cu).1).map aI=((aL (aH l) q (bN (aS l (1+(aA l u 4).1).toNat) j (⟨[],[],(aA l (aL (aH l) k (aA l u 4).2).2 6).2⟩:PS)).cu).1).map aI/\(((bN (aS l (1+(aA l u 4).1).toNat) j (⟨[],[],(aA l (aL (aH l) k (aA l u 4).2).2 6).2⟩:PS)).rows).length+1)*24<=140737488355328/\fR Try.prog 61 [.ptr 0 0,vI 12] [(0,.box 84 [.p none (.sl 5 1 (l.map bD)),vI ((((aL (aH l) q (bN (aS l (1+(aA l u 4).1).toNat) j (⟨[],[],(aA l (aL (aH l) k (aA l u 4).2).2 6).2⟩:PS)).cu).2).i:Nat):Int),vI (((aL (aH l) q (bN (aS l (1+(aA l u 4).1).toNat) j (⟨[],[],(aA l (aL (aH l) k (aA l u 4).2).2 6).2⟩:PS)).cu).2).h)])] (vI ((aA l ((aL (aH l) q (bN (aS l (1+(aA l u 4).1).toNat) j (⟨[],[],(aA l (aL (aH l) k (aA l u 4).2).2 6).2⟩:PS)).cu).2) (12:Int)).1)) [(0,.box 84 [.p none (.sl 5 1 (l.map bD)),vI (((aA l ((aL (aH l) q (bN (aS l (1+(aA l u 4).1).toNat) j (⟨[],[],(aA l (aL (aH l) k (aA l u 4).2).2 6).2⟩:PS)).cu).2) (12:Int)).2.i:Nat):Int),vI ((aA l ((aL (aH l) q (bN (aS l (1+(aA l u 4).1).toNat) j (⟨[],[],(aA l (aL (aH l) k (aA l u 4).2).2 6).2⟩:PS)).cu).2) (12:Int)).2.h)])]/\(12:Int)=12/\l.map bD=l.map bD/\(((aL (aH l) q (bN (aS l (1+(aA l u 4).1).toNat) j (⟨[],[],(aA l (aL (aH l) k (aA l u 4).2).2 6).2⟩:PS)).cu).2.i:Nat):Int)=((((aL (aH l) q (bN (aS l (1+(aA l u 4).1).toNat) j (⟨[],[],(aA l (aL (aH l) k (aA l u 4).2).2 6).2⟩:PS)).cu).2).i:Nat):Int)/\((aL (aH l) q (bN (aS l (1+(aA l u 4).1).toNat) j (⟨[],[],(aA l (aL (aH l) k (aA l u 4).2).2 6).2⟩:PS)).cu).2.h)=(((aL (aH l) q (bN (aS l (1+(aA l u 4).1).toNat) j (⟨[],[],(aA l (aL (aH l) k (aA l u 4).2).2 6).2⟩:PS)).cu).2).h)/\Ap aI ((bN (aS l (1+(aA l u 4).1).toNat) j (⟨[],[],(aA l (aL (aH l) k (aA l u 4).2).2 6).2⟩:PS)).lims) ([(aA l ((aL (aH l) q (bN (aS l (1+(aA l u 4).1).toNat) j (⟨[],[],(aA l (aL (aH l) k (aA l u 4).2).2 6).2⟩:PS)).cu).2) (12:Int)).1]:List Int) 8 (cR (((aA l (aL (aH l) k (aA l u 4).2).2 6).1 - (j:Int)) - 1)/\ ∃(j' :Nat),(((aA l (aL (aH l) k (aA l u 4).2).2 6).1 - (j:Int)) - 1)=((aA l (aL (aH l) k (aA l u 4).2).2 6).1 - ((j' :Nat):Int))/\(((bN (aS l (1+(aA l u 4).1).toNat) j (⟨[],[],(aA l (aL (aH l) k (aA l u 4).2).2 6).2⟩:PS)).rows)++[(aL (aH l) q (bN (aS l (1+(aA l u 4).1).toNat) j (⟨[],[],(aA l (aL (aH l) k (aA l u 4).2).2 6).2⟩:PS)).cu).1]).map aZ=((bN (aS l (1+(aA l u 4).1).toNat) j' (⟨[],[],(aA l (aL (aH l) k (aA l u 4).2).2 6).2⟩:PS)).rows).map aZ/\(((bN (aS l (1+(aA l u 4).1).toNat) j (⟨[],[],(aA l (aL (aH l) k (aA l u 4).2).2 6).2⟩:PS)).lims)++[(aA l ((aL (aH l) q (bN (aS l (1+(aA l u 4).1).toNat) j (⟨[],[],(aA l (aL (aH l) k (aA l u 4).2).2 6).2⟩:PS)).cu).2) (12:Int)).1]).map aI=((bN (aS l (1+(aA l u 4).1).toNat) j' (⟨[],[],(aA l (aL (aH l) k (aA l u 4).2).2 6).2⟩:PS)).lims).map aI/\l.map bD=l.map bD/\(((aA l ((aL (aH l) q (bN (aS l (1+(aA l u 4).1).toNat) j (⟨[],[],(aA l (aL (aH l) k (aA l u 4).2).2 6).2⟩:PS)).cu).2) (12:Int)).2.i:Nat):Int)=(((bN (aS l (1+(aA l u 4).1).toNat) j' (⟨[],[],(aA l (aL (aH l) k (aA l u 4).2).2 6).2⟩:PS)).cu.i:Nat):Int)/\((aA l ((aL (aH l) q (bN (aS l (1+(aA l u 4).1).toNat) j (⟨[],[],(aA l (aL (aH l) k (aA l u 4).2).2 6).2⟩:PS)).cu).2) (12:Int)).2.h)=((bN (aS l (1+(aA l u 4).1).toNat) j' (⟨[],[],(aA l (aL (aH l) k (aA l u 4).2).2 6).2⟩:PS)).cu.h)/\(j' :Int)<=(aA l (aL (aH l) k (aA l u 4).2).2 6).1/\((aA l (aL (aH l) k (aA l u 4).2).2 6).1 - j').toNat<((aA l (aL (aH l) k (aA l u 4).2).2 6).1 - j).toNat))) ((∃(p:Nat),0=(p:Int)/\((bN (aS l (1+(aA l u 4).1).toNat) j (⟨[],[],(aA l (aL (aH l) k (aA l u 4).2).2 6).2⟩:PS)).rows).map aZ=((cO l (1+(aA l u 4).1) p (bN (aS l (1+(aA l u 4).1).toNat) j (⟨[],[],(aA l (aL (aH l) k (aA l u 4).2).2 6).2⟩:PS))).rows).map aZ/\((bN (aS l (1+(aA l u 4).1).toNat) j (⟨[],[],(aA l (aL (aH l) k (aA l u 4).2).2 6).2⟩:PS)).lims).map aI=((cO l (1+(aA l u 4).1) p (bN (aS l (1+(aA l u 4).1).toNat) j (⟨[],[],(aA l (aL (aH l) k (aA l u 4).2).2 6).2⟩:PS))).lims).map aI/\l.map bD=l.map bD/\(((bN (aS l (1+(aA l u 4).1).toNat) j (⟨[],[],(aA l (aL (aH l) k (aA l u 4).2).2 6).2⟩:PS)).cu.i:Nat):Int)=(((cO l (1+(aA l u 4).1) p (bN (aS l (1+(aA l u 4).1).toNat) j (⟨[],[],(aA l (aL (aH l) k (aA l u 4).2).2 6).2⟩:PS))).cu.i:Nat):Int)/\((bN (aS l (1+(aA l u 4).1).toNat) j (⟨[],[],(aA l (aL (aH l) k (aA l u 4).2).2 6).2⟩:PS)).cu.h)=((cO l (1+(aA l u 4).1) p (bN (aS l (1+(aA l u 4).1).toNat) j (⟨[],[],(aA l (aL (aH l) k (aA l u 4).2).2 6).2⟩:PS))).cu.h)/\(p:Int)<=(1+(aA l u 4).1))/\ ∀(p:Nat),(p:Int)<=(1+(aA l u 4).1)->Br ((p:Int)<((1:Int)+((aA l u (4:Int)).1))) (fR Try.prog 51 [.ptr 0 0,vI 6] [(0,.box 84 [.p none (.sl 5 1 (l.map bD)),vI ((((cO l (1+(aA l u 4).1) p (bN (aS l (1+(aA l u 4).1).toNat) j (⟨[],[],(aA l (aL (aH l) k (aA l u 4).2).2 6).2⟩:PS))).cu).i:Nat):Int),vI (((cO l (1+(aA l u 4).1) p (bN (aS l (1+(aA l u 4).1).toNat) j (⟨[],[],(aA l (aL (aH l) k (aA l u 4).2).2 6).2⟩:PS))).cu).h)])] (vB (decide ((aA l ((cO l (1+(aA l u 4).1) p (bN (aS l (1+(aA l u 4).1).toNat) j (⟨[],[],(aA l (aL (aH l) k (aA l u 4).2).2 6).2⟩:PS))).cu) (6:Int)).1=0))) [(0,.box 84 [.p none (.sl 5 1 (l.map bD)),vI (((aA l ((cO l (1+(aA l u 4).1) p (bN (aS l (1+(aA l u 4).1).toNat) j (⟨[],[],(aA l (aL (aH l) k (aA l u 4).2).2 6).2⟩:PS))).cu) (6:Int)).2.i:Nat):Int),vI ((aA l ((cO l (1+(aA l u 4).1) p (bN (aS l (1+(aA l u 4).1).toNat) j (⟨[],[],(aA l (aL (aH l) k (aA l u 4).2).2 6).2⟩:PS))).cu) (6:Int)).2.h)])]/\(6:Int)=6/\l.map bD=l.map bD/\(((cO l (1+(aA l u 4).1) p (bN (aS l (1+(aA l u 4).1).toNat) j (⟨[],[],(aA l (aL (aH l) k (aA l u 4).2).2 6).2⟩:PS))).cu.i:Nat):Int)=((((cO l (1+(aA l u 4).1) p (bN (aS l (1+(aA l u 4).1).toNat) j (⟨[],[],(aA l (aL (aH l) k (aA l u 4).2).2 6).2⟩:PS))).cu).i:Nat):Int)/\((cO l (1+(aA l u 4).1) p (bN (aS l (1+(aA l u 4).1).toNat) j (⟨[],[],(aA l (aL (aH l) k (aA l u 4).2).2 6).2⟩:PS))).cu.h)=(((cO l (1+(aA l u 4).1) p (bN (aS l (1+(aA l u 4).1).toNat) j (⟨[],[],(aA l (aL (aH l) k (aA l u 4).2).2 6).2⟩:PS))).cu).h)/\Nb ((aA l ((cO l (1+(aA l u 4).1) p (bN (aS l (1+(aA l u 4).1).toNat) j (⟨[],[],(aA l (aL (aH l) k (aA l u 4).2).2 6).2⟩:PS))).cu) (6:Int)).1=0) (((1:Int)+((aA l u (4:Int)).1))=((((1:Int)+((aA l u (4:Int)).1)).toNat:Nat):Int)/\((1:Int)+((aA l u (4:Int)).1))=((((1:Int)+((aA l u (4:Int)).1)).toNat:Nat):Int)/\8*(((1:Int)+((aA l u (4:Int)).1)).toNat)<=281474976710656/\(((1:Int)+((aA l u (4:Int)).1)).toNat)<=9223372036854775807/\List.replicate (((1:Int)+((aA l u (4:Int)).1)).toNat) [.int .i64 (0:Int)]=(List.replicate (((1:Int)+((aA l u (4:Int)).1)).toNat) (0:Int)).map aI/\(0<=(p:Int)/\Lm aI (List.replicate (((1:Int)+((aA l u (4:Int)).1)).toNat) (0:Int))/\(p:Int)<(((List.replicate (((1:Int)+((aA l u (4:Int)).1)).toNat) (0:Int)).length:Nat):Int)/\((List.replicate (((1:Int)+((aA l u (4:Int)).1)).toNat) (0:Int)).map aI=(List.replicate (((1:Int)+((aA l u (4:Int)).1)).toNat) (0:Int)).map aI/\p<(List.replicate (((1:Int)+((aA l u (4:Int)).1)).toNat) (0:Int)).length/\ ∀s22_3,(List.replicate (((1:Int)+((aA l u (4:Int)).1)).toNat) (0:Int))[p]? =some s22_3->fY (aI s22_3)=true/\0+1<=(aI s22_3).length/\(aI s22_3).take 0++[.int .i64 (1:Int)]++(aI s22_3).drop (0+1)=aI (1:Int)/\((cO l (1+(aA l u 4).1) p (bN (aS l (1+(aA l u 4).1).toNat) j (⟨[],[],(aA l (aL (aH l) k (aA l u 4).2).2 6).2⟩:PS))).rows).map aZ=((cO l (1+(aA l u 4).1) p (bN (aS l (1+(aA l u 4).1).toNat) j (⟨[],[],(aA l (aL (aH l) k (aA l u 4).2).2 6).2⟩:PS))).rows).map aZ/\((List.replicate (((1:Int)+((aA l u (4:Int)).1)).toNat) (0:Int)).set p (1:Int)).map aI=((List.replicate (((1:Int)+((aA l u (4:Int)).1)).toNat) (0:Int)).set p (1:Int)).map aI/\(((cO l (1+(aA l u 4).1) p (bN (aS l (1+(aA l u 4).1).toNat) j (⟨[],[],(aA l (aL (aH l) k (aA l u 4).2).2 6).2⟩:PS))).rows).length+1)*24<=140737488355328/\fR Try.prog 61 [.ptr 0 0,vI 9] [(0,.box 84 [.p none (.sl 5 1 (l.map bD)),vI ((((aA l ((cO l (1+(aA l u 4).1) p (bN (aS l (1+(aA l u 4).1).toNat) j (⟨[],[],(aA l (aL (aH l) k (aA l u 4).2).2 6).2⟩:PS))).cu) (6:Int)).2).i:Nat):Int),vI (((aA l ((cO l (1+(aA l u 4).1) p (bN (aS l (1+(aA l u 4).1).toNat) j (⟨[],[],(aA l (aL (aH l) k (aA l u 4).2).2 6).2⟩:PS))).cu) (6:Int)).2).h)])] (vI ((aA l ((aA l ((cO l (1+(aA l u 4).1) p (bN (aS l (1+(aA l u 4).1).toNat) j (⟨[],[],(aA l (aL (aH l) k (aA l u 4).2).2 6).2⟩:PS))).cu) (6:Int)).2) (9:Int)).1)) [(0,.box 84 [.p none (.sl 5 1 (l.map bD)),vI (((aA l ((aA l ((cO l (1+(aA l u 4).1) p (bN (aS l (1+(aA l u 4).1).toNat) j (⟨[],[],(aA l (aL (aH l) k (aA l u 4).2).2 6).2⟩:PS))).cu) (6:Int)).2) (9:Int)).2.i:Nat):Int),vI ((aA l ((aA l ((cO l (1+(aA l u 4).1) p (bN (aS l (1+(aA l u 4).1).toNat) j (⟨[],[],(aA l (aL (aH l) k (aA l u 4).2).2 6).2⟩:PS))).cu) (6:Int)).2) (9:Int)).2.h)])]/\(9:Int)=9/\l.map bD=l.map bD/\(((aA l ((cO l (1+(aA l u 4).1) p (bN (aS l (1+(aA l u 4).1).toNat) j (⟨[],[],(aA l (aL (aH l) k (aA l u 4).2).2 6).2⟩:PS))).cu) (6:Int)).2.i:Nat):Int)=((((aA l ((cO l (1+(aA l u 4).1) p (bN (aS l (1+(aA l u 4).1).toNat) j (⟨[],[],(aA l (aL (aH l) k (aA l u 4).2).2 6).2⟩:PS))).cu) (6:Int)).2).i:Nat):Int)/\((aA l ((cO l (1+(aA l u 4).1) p (bN (aS l (1+(aA l u 4).1).toNat) j (⟨[],[],(aA l (aL (aH l) k (aA l u 4).2).2 6).2⟩:PS))).cu) (6:Int)).2.h)=(((aA l ((cO l (1+(aA l u 4).1) p (bN (aS l (1+(aA l u 4).1).toNat) j (⟨[],[],(aA l (aL (aH l) k (aA l u 4).2).2 6).2⟩:PS))).cu) (6:Int)).2).h)/\cR ((1:Int)+((aA l ((aA l ((cO l (1+(aA l u 4).1) p (bN (aS l (1+(aA l u 4).1).toNat) j (⟨[],[],(aA l (aL (aH l) k (aA l u 4).2).2 6).2⟩:PS))).cu) (6:Int)).2) (9:Int)).1))/\Ap aI ((cO l (1+(aA l u 4).1) p (bN (aS l (1+(aA l u 4).1).toNat) j (⟨[],[],(aA l (aL (aH l) k (aA l u 4).2).2 6).2⟩:PS))).lims) ([(1:Int)+((aA l ((aA l ((cO l (1+(aA l u 4).1) p (bN (aS l (1+(aA l u 4).1).toNat) j (⟨[],[],(aA l (aL (aH l) k (aA l u 4).2).2 6).2⟩:PS))).cu) (6:Int)).2) (9:Int)).1)]:List Int) 8 (cR ((p:Int)+1)/\ ∃(p' :Nat),((p:Int)+1)=(p' :Int)/\(((cO l (1+(aA l u 4).1) p (bN (aS l (1+(aA l u 4).1).toNat) j (⟨[],[],(aA l (aL (aH l) k (aA l u 4).2).2 6).2⟩:PS))).rows)++[(List.replicate (((1:Int)+((aA l u (4:Int)).1)).toNat) (0:Int)).set p (1:Int)]).map aZ=((cO l (1+(aA l u 4).1) p' (bN (aS l (1+(aA l u 4).1).toNat) j (⟨[],[],(aA l (aL (aH l) k (aA l u 4).2).2 6).2⟩:PS))).rows).map aZ/\(((cO l (1+(aA l u 4).1) p (bN (aS l (1+(aA l u 4).1).toNat) j (⟨[],[],(aA l (aL (aH l) k (aA l u 4).2).2 6).2⟩:PS))).lims)++[(1:Int)+((aA l ((aA l ((cO l (1+(aA l u 4).1) p (bN (aS l (1+(aA l u 4).1).toNat) j (⟨[],[],(aA l (aL (aH l) k (aA l u 4).2).2 6).2⟩:PS))).cu) (6:Int)).2) (9:Int)).1)]).map aI=((cO l (1+(aA l u 4).1) p' (bN (aS l (1+(aA l u 4).1).toNat) j (⟨[],[],(aA l (aL (aH l) k (aA l u 4).2).2 6).2⟩:PS))).lims).map aI/\l.map bD=l.map bD/\(((aA l ((aA l ((cO l (1+(aA l u 4).1) p (bN (aS l (1+(aA l u 4).1).toNat) j (⟨[],[],(aA l (aL (aH l) k (aA l u 4).2).2 6).2⟩:PS))).cu) (6:Int)).2) (9:Int)).2.i:Nat):Int)=(((cO l (1+(aA l u 4).1) p' (bN (aS l (1+(aA l u 4).1).toNat) j (⟨[],[],(aA l (aL (aH l) k (aA l u 4).2).2 6).2⟩:PS))).cu.i:Nat):Int)/\((aA l ((aA l ((cO l (1+(aA l u 4).1) p (bN (aS l (1+(aA l u 4).1).toNat) j (⟨[],[],(aA l (aL (aH l) k (aA l u 4).2).2 6).2⟩:PS))).cu) (6:Int)).2) (9:Int)).2.h)=((cO l (1+(aA l u 4).1) p' (bN (aS l (1+(aA l u 4).1).toNat) j (⟨[],[],(aA l (aL (aH l) k (aA l u 4).2).2 6).2⟩:PS))).cu.h)/\(p' :Int)<=(1+(aA l u 4).1)/\((1+(aA l u 4).1) - p').toNat<((1+(aA l u 4).1) - p).toNat)))) (cR ((p:Int)+1)/\ ∃(p' :Nat),((p:Int)+1)=(p' :Int)/\((cO l (1+(aA l u 4).1) p (bN (aS l (1+(aA l u 4).1).toNat) j (⟨[],[],(aA l (aL (aH l) k (aA l u 4).2).2 6).2⟩:PS))).rows).map aZ=((cO l (1+(aA l u 4).1) p' (bN (aS l (1+(aA l u 4).1).toNat) j (⟨[],[],(aA l (aL (aH l) k (aA l u 4).2).2 6).2⟩:PS))).rows).map aZ/\((cO l (1+(aA l u 4).1) p (bN (aS l (1+(aA l u 4).1).toNat) j (⟨[],[],(aA l (aL (aH l) k (aA l u 4).2).2 6).2⟩:PS))).lims).map aI=((cO l (1+(aA l u 4).1) p' (bN (aS l (1+(aA l u 4).1).toNat) j (⟨[],[],(aA l (aL (aH l) k (aA l u 4).2).2 6).2⟩:PS))).lims).map aI/\l.map bD=l.map bD/\(((aA l ((cO l (1+(aA l u 4).1) p (bN (aS l (1+(aA l u 4).1).toNat) j (⟨[],[],(aA l (aL (aH l) k (aA l u 4).2).2 6).2⟩:PS))).cu) (6:Int)).2.i:Nat):Int)=(((cO l (1+(aA l u 4).1) p' (bN (aS l (1+(aA l u 4).1).toNat) j (⟨[],[],(aA l (aL (aH l) k (aA l u 4).2).2 6).2⟩:PS))).cu.i:Nat):Int)/\((aA l ((cO l (1+(aA l u 4).1) p (bN (aS l (1+(aA l u 4).1).toNat) j (⟨[],[],(aA l (aL (aH l) k (aA l u 4).2).2 6).2⟩:PS))).cu) (6:Int)).2.h)=((cO l (1+(aA l u 4).1) p' (bN (aS l (1+(aA l u 4).1).toNat) j (⟨[],[],(aA l (aL (aH l) k (aA l u 4).2).2 6).2⟩:PS))).cu.h)/\(p' :Int)<=(1+(aA l u 4).1)/\((1+(aA l u 4).1) - p').toNat<((1+(aA l u 4).1) - p).toNat)) (fR Try.prog 61 [.ptr 0 0,vI 20] [(0,.box 84 [.p none (.sl 5 1 (l.map bD)),vI ((((cO l (1+(aA l u 4).1) p (bN (aS l (1+(aA l u 4).1).toNat) j (⟨[],[],(aA l (aL (aH l) k (aA l u 4).2).2 6).2⟩:PS))).cu).i:Nat):Int),vI (((cO l (1+(aA l u 4).1) p (bN (aS l (1+(aA l u 4).1).toNat) j (⟨[],[],(aA l (aL (aH l) k (aA l u 4).2).2 6).2⟩:PS))).cu).h)])] (vI ((aA l ((cO l (1+(aA l u 4).1) p (bN (aS l (1+(aA l u 4).1).toNat) j (⟨[],[],(aA l (aL (aH l) k (aA l u 4).2).2 6).2⟩:PS))).cu) (20:Int)).1)) [(0,.box 84 [.p none (.sl 5 1 (l.map bD)),vI (((aA l ((cO l (1+(aA l u 4).1) p (bN (aS l (1+(aA l u 4).1).toNat) j (⟨[],[],(aA l (aL (aH l) k (aA l u 4).2).2 6).2⟩:PS))).cu) (20:Int)).2.i:Nat):Int),vI ((aA l ((cO l (1+(aA l u 4).1) p (bN (aS l (1+(aA l u 4).1).toNat) j (⟨[],[],(aA l (aL (aH l) k (aA l u 4).2).2 6).2⟩:PS))).cu) (20:Int)).2.h)])]/\(20:Int)=20/\l.map bD=l.map bD/\(((cO l (1+(aA l u 4).1) p (bN (aS l (1+(aA l u 4).1).toNat) j (⟨[],[],(aA l (aL (aH l) k (aA l u 4).2).2 6).2⟩:PS))).cu.i:Nat):Int)=((((cO l (1+(aA l u 4).1) p (bN (aS l (1+(aA l u 4).1).toNat) j (⟨[],[],(aA l (aL (aH l) k (aA l u 4).2).2 6).2⟩:PS))).cu).i:Nat):Int)/\((cO l (1+(aA l u 4).1) p (bN (aS l (1+(aA l u 4).1).toNat) j (⟨[],[],(aA l (aL (aH l) k (aA l u 4).2).2 6).2⟩:PS))).cu.h)=(((cO l (1+(aA l u 4).1) p (bN (aS l (1+(aA l u 4).1).toNat) j (⟨[],[],(aA l (aL (aH l) k (aA l u 4).2).2 6).2⟩:PS))).cu).h)/\Br (((aA l ((cO l (1+(aA l u 4).1) p (bN (aS l (1+(aA l u 4).1).toNat) j (⟨[],[],(aA l (aL (aH l) k (aA l u 4).2).2 6).2⟩:PS))).cu) (20:Int)).1)=0) (fR Try.prog 80 [.ptr 0 0,.own 1] [(0,.box 84 [.p none (.sl 5 1 (l.map bD)),vI ((((aA l ((cO l (1+(aA l u 4).1) p (bN (aS l (1+(aA l u 4).1).toNat) j (⟨[],[],(aA l (aL (aH l) k (aA l u 4).2).2 6).2⟩:PS))).cu) (20:Int)).2).i:Nat):Int),vI (((aA l ((cO l (1+(aA l u 4).1) p (bN (aS l (1+(aA l u 4).1).toNat) j (⟨[],[],(aA l (aL (aH l) k (aA l u 4).2).2 6).2⟩:PS))).cu) (20:Int)).2).h)]),(1,.arr 3 1 true (([(10:Int),(-10:Int),(9:Int)]:List Int).map aI))] (vI ((bP l ((aA l ((cO l (1+(aA l u 4).1) p (bN (aS l (1+(aA l u 4).1).toNat) j (⟨[],[],(aA l (aL (aH l) k (aA l u 4).2).2 6).2⟩:PS))).cu) (20:Int)).2) ([(10:Int),(-10:Int),(9:Int)]:List Int)).1)) [(0,.box 84 [.p none (.sl 5 1 (l.map bD)),vI (((bP l ((aA l ((cO l (1+(aA l u 4).1) p (bN (aS l (1+(aA l u 4).1).toNat) j (⟨[],[],(aA l (aL (aH l) k (aA l u 4).2).2 6).2⟩:PS))).cu) (20:Int)).2) ([(10:Int),(-10:Int),(9:Int)]:List Int)).2.i:Nat):Int),vI ((bP l ((aA l ((cO l (1+(aA l u 4).1) p (bN (aS l (1+(aA l u 4).1).toNat) j (⟨[],[],(aA l (aL (aH l) k (aA l u 4).2).2 6).2⟩:PS))).cu) (20:Int)).2) ([(10:Int),(-10:Int),(9:Int)]:List Int)).2.h)])]/\l.map bD=l.map bD/\(((aA l ((cO l (1+(aA l u 4).1) p (bN (aS l (1+(aA l u 4).1).toNat) j (⟨[],[],(aA l (aL (aH l) k (aA l u 4).2).2 6).2⟩:PS))).cu) (20:Int)).2.i:Nat):Int)=((((aA l ((cO l (1+(aA l u 4).1) p (bN (aS l (1+(aA l u 4).1).toNat) j (⟨[],[],(aA l (aL (aH l) k (aA l u 4).2).2 6).2⟩:PS))).cu) (20:Int)).2).i:Nat):Int)/\((aA l ((cO l (1+(aA l u 4).1) p (bN (aS l (1+(aA l u 4).1).toNat) j (⟨[],[],(aA l (aL (aH l) k (aA l u 4).2).2 6).2⟩:PS))).cu) (20:Int)).2.h)=(((aA l ((cO l (1+(aA l u 4).1) p (bN (aS l (1+(aA l u 4).1).toNat) j (⟨[],[],(aA l (aL (aH l) k (aA l u 4).2).2 6).2⟩:PS))).cu) (20:Int)).2).h)/\[[.int .i64 (10:Int)],[.int .i64 (-10:Int)],[.int .i64 (9:Int)]]=([(10:Int),(-10:Int),(9:Int)]:List Int).map aI/\(0<=(0:Int)/\Lm aI ((aL (aH l) k (aA l u 4).2).1)/\0<(((aL (aH l) k (aA l u 4).2).1.length:Nat):Int)/\((aL (aH l) k (aA l u 4).2).1.map aI=(aL (aH l) k (aA l u 4).2).1.map aI/\0<(aL (aH l) k (aA l u 4).2).1.length/\ ∀s27_6,((aL (aH l) k (aA l u 4).2).1)[0]? =some s27_6->fY (aI s27_6)=true/\0+1<=(aI s27_6).length/\(aI s27_6).take 0++[.int .i64 ((bP l ((aA l ((cO l (1+(aA l u 4).1) p (bN (aS l (1+(aA l u 4).1).toNat) j (⟨[],[],(aA l (aL (aH l) k (aA l u 4).2).2 6).2⟩:PS))).cu) (20:Int)).2) ([(10:Int),(-10:Int),(9:Int)]:List Int)).1)]++(aI s27_6).drop (0+1)=aI ((bP l ((aA l ((cO l (1+(aA l u 4).1) p (bN (aS l (1+(aA l u 4).1).toNat) j (⟨[],[],(aA l (aL (aH l) k (aA l u 4).2).2 6).2⟩:PS))).cu) (20:Int)).2) ([(10:Int),(-10:Int),(9:Int)]:List Int)).1)/\l.map bD=l.map bD/\(((bP l ((aA l ((cO l (1+(aA l u 4).1) p (bN (aS l (1+(aA l u 4).1).toNat) j (⟨[],[],(aA l (aL (aH l) k (aA l u 4).2).2 6).2⟩:PS))).cu) (20:Int)).2) ([(10:Int),(-10:Int),(9:Int)]:List Int)).2.i:Nat):Int)=(((aN l u).2.i:Nat):Int)/\((bP l ((aA l ((cO l (1+(aA l u 4).1) p (bN (aS l (1+(aA l u 4).1).toNat) j (⟨[],[],(aA l (aL (aH l) k (aA l u 4).2).2 6).2⟩:PS))).cu) (20:Int)).2) ([(10:Int),(-10:Int),(9:Int)]:List Int)).2.h)=((aN l u).2.h)/\((aL (aH l) k (aA l u 4).2).1.set 0 ((bP l ((aA l ((cO l (1+(aA l u 4).1) p (bN (aS l (1+(aA l u 4).1).toNat) j (⟨[],[],(aA l (aL (aH l) k (aA l u 4).2).2 6).2⟩:PS))).cu) (20:Int)).2) ([(10:Int),(-10:Int),(9:Int)]:List Int)).1)).map aI=(aN l u).1.objective.map aI/\((cO l (1+(aA l u 4).1) p (bN (aS l (1+(aA l u 4).1).toNat) j (⟨[],[],(aA l (aL (aH l) k (aA l u 4).2).2 6).2⟩:PS))).rows).map aZ=(aN l u).1.rows.map aZ/\((cO l (1+(aA l u 4).1) p (bN (aS l (1+(aA l u 4).1).toNat) j (⟨[],[],(aA l (aL (aH l) k (aA l u 4).2).2 6).2⟩:PS))).lims).map aI=(aN l u).1.limits.map aI/\True))) (Br (((aA l ((cO l (1+(aA l u 4).1) p (bN (aS l (1+(aA l u 4).1).toNat) j (⟨[],[],(aA l (aL (aH l) k (aA l u 4).2).2 6).2⟩:PS))).cu) (20:Int)).1)=1) (Ap aI ((cO l (1+(aA l u 4).1) p (bN (aS l (1+(aA l u 4).1).toNat) j (⟨[],[],(aA l (aL (aH l) k (aA l u 4).2).2 6).2⟩:PS))).lims) ([(1:Int)]:List Int) 8 (l.map bD=l.map bD/\(((aA l ((cO l (1+(aA l u 4).1) p (bN (aS l (1+(aA l u 4).1).toNat) j (⟨[],[],(aA l (aL (aH l) k (aA l u 4).2).2 6).2⟩:PS))).cu) (20:Int)).2.i:Nat):Int)=(((aN l u).2.i:Nat):Int)/\((aA l ((cO l (1+(aA l u 4).1) p (bN (aS l (1+(aA l u 4).1).toNat) j (⟨[],[],(aA l (aL (aH l) k (aA l u 4).2).2 6).2⟩:PS))).cu) (20:Int)).2.h)=((aN l u).2.h)/\(aL (aH l) k (aA l u 4).2).1.map aI=(aN l u).1.objective.map aI/\((cO l (1+(aA l u 4).1) p (bN (aS l (1+(aA l u 4).1).toNat) j (⟨[],[],(aA l (aL (aH l) k (aA l u 4).2).2 6).2⟩:PS))).rows).map aZ=(aN l u).1.rows.map aZ/\(((cO l (1+(aA l u 4).1) p (bN (aS l (1+(aA l u 4).1).toNat) j (⟨[],[],(aA l (aL (aH l) k (aA l u 4).2).2 6).2⟩:PS))).lims)++[(1:Int)]).map aI=(aN l u).1.limits.map aI/\True)) (Br (((aA l ((cO l (1+(aA l u 4).1) p (bN (aS l (1+(aA l u 4).1).toNat) j (⟨[],[],(aA l (aL (aH l) k (aA l u 4).2).2 6).2⟩:PS))).cu) (20:Int)).1)=2) (Lm aI ((cO l (1+(aA l u 4).1) p (bN (aS l (1+(aA l u 4).1).toNat) j (⟨[],[],(aA l (aL (aH l) k (aA l u 4).2).2 6).2⟩:PS))).lims)/\Br (0<((((cO l (1+(aA l u 4).1) p (bN (aS l (1+(aA l u 4).1).toNat) j (⟨[],[],(aA l (aL (aH l) k (aA l u 4).2).2 6).2⟩:PS))).lims).length:Nat):Int)) (fR Try.prog 80 [.ptr 0 0,.own 1] [(0,.box 84 [.p none (.sl 5 1 (l.map bD)),vI ((((aA l ((cO l (1+(aA l u 4).1) p (bN (aS l (1+(aA l u 4).1).toNat) j (⟨[],[],(aA l (aL (aH l) k (aA l u 4).2).2 6).2⟩:PS))).cu) (20:Int)).2).i:Nat):Int),vI (((aA l ((cO l (1+(aA l u 4).1) p (bN (aS l (1+(aA l u 4).1).toNat) j (⟨[],[],(aA l (aL (aH l) k (aA l u 4).2).2 6).2⟩:PS))).cu) (20:Int)).2).h)]),(1,.arr 3 1 true (([(-1:Int),(99:Int),(100:Int)]:List Int).map aI))] (vI ((bP l ((aA l ((cO l (1+(aA l u 4).1) p (bN (aS l (1+(aA l u 4).1).toNat) j (⟨[],[],(aA l (aL (aH l) k (aA l u 4).2).2 6).2⟩:PS))).cu) (20:Int)).2) ([(-1:Int),(99:Int),(100:Int)]:List Int)).1)) [(0,.box 84 [.p none (.sl 5 1 (l.map bD)),vI (((bP l ((aA l ((cO l (1+(aA l u 4).1) p (bN (aS l (1+(aA l u 4).1).toNat) j (⟨[],[],(aA l (aL (aH l) k (aA l u 4).2).2 6).2⟩:PS))).cu) (20:Int)).2) ([(-1:Int),(99:Int),(100:Int)]:List Int)).2.i:Nat):Int),vI ((bP l ((aA l ((cO l (1+(aA l u 4).1) p (bN (aS l (1+(aA l u 4).1).toNat) j (⟨[],[],(aA l (aL (aH l) k (aA l u 4).2).2 6).2⟩:PS))).cu) (20:Int)).2) ([(-1:Int),(99:Int),(100:Int)]:List Int)).2.h)])]/\l.map bD=l.map bD/\(((aA l ((cO l (1+(aA l u 4).1) p (bN (aS l (1+(aA l u 4).1).toNat) j (⟨[],[],(aA l (aL (aH l) k (aA l u 4).2).2 6).2⟩:PS))).cu) (20:Int)).2.i:Nat):Int)=((((aA l ((cO l (1+(aA l u 4).1) p (bN (aS l (1+(aA l u 4).1).toNat) j (⟨[],[],(aA l (aL (aH l) k (aA l u 4).2).2 6).2⟩:PS))).cu) (20:Int)).2).i:Nat):Int)/\((aA l ((cO l (1+(aA l u 4).1) p (bN (aS l (1+(aA l u 4).1).toNat) j (⟨[],[],(aA l (aL (aH l) k (aA l u 4).2).2 6).2⟩:PS))).cu) (20:Int)).2.h)=(((aA l ((cO l (1+(aA l u 4).1) p (bN (aS l (1+(aA l u 4).1).toNat) j (⟨[],[],(aA l (aL (aH l) k (aA l u 4).2).2 6).2⟩:PS))).cu) (20:Int)).2).h)/\[[.int .i64 (-1:Int)],[.int .i64 (99:Int)],[.int .i64 (100:Int)]]=([(-1:Int),(99:Int),(100:Int)]:List Int).map aI/\(0<=(0:Int)/\Lm aI ((cO l (1+(aA l u 4).1) p (bN (aS l (1+(aA l u 4).1).toNat) j (⟨[],[],(aA l (aL (aH l) k (aA l u 4).2).2 6).2⟩:PS))).lims)/\0<((((cO l (1+(aA l u 4).1) p (bN (aS l (1+(aA l u 4).1).toNat) j (⟨[],[],(aA l (aL (aH l) k (aA l u 4).2).2 6).2⟩:PS))).lims).length:Nat):Int)/\(((cO l (1+(aA l u 4).1) p (bN (aS l (1+(aA l u 4).1).toNat) j (⟨[],[],(aA l (aL (aH l) k (aA l u 4).2).2 6).2⟩:PS))).lims).map aI=((cO l (1+(aA l u 4).1) p (bN (aS l (1+(aA l u 4).1).toNat) j (⟨[],[],(aA l (aL (aH l) k (aA l u 4).2).2 6).2⟩:PS))).lims).map aI/\0<((cO l (1+(aA l u 4).1) p (bN (aS l (1+(aA l u 4).1).toNat) j (⟨[],[],(aA l (aL (aH l) k (aA l u 4).2).2 6).2⟩:PS))).lims).length/\ ∀s32_6,((cO l (1+(aA l u 4).1) p (bN (aS l (1+(aA l u 4).1).toNat) j (⟨[],[],(aA l (aL (aH l) k (aA l u 4).2).2 6).2⟩:PS))).lims)[0]? =some s32_6->fY (aI s32_6)=true/\0+1<=(aI s32_6).length/\(aI s32_6).take 0++[.int .i64 ((bP l ((aA l ((cO l (1+(aA l u 4).1) p (bN (aS l (1+(aA l u 4).1).toNat) j (⟨[],[],(aA l (aL (aH l) k (aA l u 4).2).2 6).2⟩:PS))).cu) (20:Int)).2) ([(-1:Int),(99:Int),(100:Int)]:List Int)).1)]++(aI s32_6).drop (0+1)=aI ((bP l ((aA l ((cO l (1+(aA l u 4).1) p (bN (aS l (1+(aA l u 4).1).toNat) j (⟨[],[],(aA l (aL (aH l) k (aA l u 4).2).2 6).2⟩:PS))).cu) (20:Int)).2) ([(-1:Int),(99:Int),(100:Int)]:List Int)).1)/\l.map bD=l.map bD/\(((bP l ((aA l ((cO l (1+(aA l u 4).1) p (bN (aS l (1+(aA l u 4).1).toNat) j (⟨[],[],(aA l (aL (aH l) k (aA l u 4).2).2 6).2⟩:PS))).cu) (20:Int)).2) ([(-1:Int),(99:Int),(100:Int)]:List Int)).2.i:Nat):Int)=(((aN l u).2.i:Nat):Int)/\((bP l ((aA l ((cO l (1+(aA l u 4).1) p (bN (aS l (1+(aA l u 4).1).toNat) j (⟨[],[],(aA l (aL (aH l) k (aA l u 4).2).2 6).2⟩:PS))).cu) (20:Int)).2) ([(-1:Int),(99:Int),(100:Int)]:List Int)).2.h)=((aN l u).2.h)/\(aL (aH l) k (aA l u 4).2).1.map aI=(aN l u).1.objective.map aI/\((cO l (1+(aA l u 4).1) p (bN (aS l (1+(aA l u 4).1).toNat) j (⟨[],[],(aA l (aL (aH l) k (aA l u 4).2).2 6).2⟩:PS))).rows).map aZ=(aN l u).1.rows.map aZ/\(((cO l (1+(aA l u 4).1) p (bN (aS l (1+(aA l u 4).1).toNat) j (⟨[],[],(aA l (aL (aH l) k (aA l u 4).2).2 6).2⟩:PS))).lims).set 0 ((bP l ((aA l ((cO l (1+(aA l u 4).1) p (bN (aS l (1+(aA l u 4).1).toNat) j (⟨[],[],(aA l (aL (aH l) k (aA l u 4).2).2 6).2⟩:PS))).cu) (20:Int)).2) ([(-1:Int),(99:Int),(100:Int)]:List Int)).1)).map aI=(aN l u).1.limits.map aI/\True))) (l.map bD=l.map bD/\(((aA l ((cO l (1+(aA l u 4).1) p (bN (aS l (1+(aA l u 4).1).toNat) j (⟨[],[],(aA l (aL (aH l) k (aA l u 4).2).2 6).2⟩:PS))).cu) (20:Int)).2.i:Nat):Int)=(((aN l u).2.i:Nat):Int)/\((aA l ((cO l (1+(aA l u 4).1) p (bN (aS l (1+(aA l u 4).1).toNat) j (⟨[],[],(aA l (aL (aH l) k (aA l u 4).2).2 6).2⟩:PS))).cu) (20:Int)).2.h)=((aN l u).2.h)/\(aL (aH l) k (aA l u 4).2).1.map aI=(aN l u).1.objective.map aI/\((cO l (1+(aA l u 4).1) p (bN (aS l (1+(aA l u 4).1).toNat) j (⟨[],[],(aA l (aL (aH l) k (aA l u 4).2).2 6).2⟩:PS))).rows).map aZ=(aN l u).1.rows.map aZ/\((cO l (1+(aA l u 4).1) p (bN (aS l (1+(aA l u 4).1).toNat) j (⟨[],[],(aA l (aL (aH l) k (aA l u 4).2).2 6).2⟩:PS))).lims).map aI=(aN l u).1.limits.map aI/\True)) (l.map bD=l.map bD/\(((aA l ((cO l (1+(aA l u 4).1) p (bN (aS l (1+(aA l u 4).1).toNat) j (⟨[],[],(aA l (aL (aH l) k (aA l u 4).2).2 6).2⟩:PS))).cu) (20:Int)).2.i:Nat):Int)=(((aN l u).2.i:Nat):Int)/\((aA l ((cO l (1+(aA l u 4).1) p (bN (aS l (1+(aA l u 4).1).toNat) j (⟨[],[],(aA l (aL (aH l) k (aA l u 4).2).2 6).2⟩:PS))).cu) (20:Int)).2.h)=((aN l u).2.h)/\(aL (aH l) k (aA l u 4).2).1.map aI=(aN l u).1.objective.map aI/\((cO l (1+(aA l u 4).1) p (bN (aS l (1+(aA l u 4).1).toNat) j (⟨[],[],(aA l (aL (aH l) k (aA l u 4).2).2 6).2⟩:PS))).rows).map aZ=(aN l u).1.rows.map aZ/\((cO l (1+(aA l u 4).1) p (bN (aS l (1+(aA l u 4).1).toNat) j (⟨[],[],(aA l (aL (aH l) k (aA l u 4).2).2 6).2⟩:PS))).lims).map aI=(aN l u).1.limits.map aI/\True)))))))))) (by kernel_rfl) ?_;have w1:=dV l u (n:=4) (by omega);refine⟨gU l u (by assumption) (4:Int),rfl,rfl,rfl,rfl,⟨by omega,by omega⟩,⟨0,rfl,rfl,rfl,rfl,rfl,by omega⟩,fun k hk=>?_⟩;have hz1:=rB (aH l) (aA l u 4).2 k;have w2:=dV l (aL (aH l) k (aA l u 4).2).2 (n:=6) (by omega);refine dd (fun c0=>?_) fun c0=>?_
 ·refine⟨gU l ((aL (aH l) k (aA l u 4).2).2) (by assumption) (6:Int),rfl,rfl,rfl,rfl,⟨by omega,by omega⟩,?_⟩;refine ap ?_ (by first|omega|(simp only[List.length_append,List.length_cons,List.length_nil,List.length_set];omega));refine aBV ?_;exact⟨k+1,rfl,rfl,rfl,rfl,rfl,by omega,by omega⟩
 ·have ek:(1+(aA l u 4).1).toNat=k:=by omega
  have e1:prO l u=(aL (aH l) k (aA l u 4).2):=by rw[prO,ek]
  have w3:=dV l (aL (aH l) k (aA l u 4).2).2 (n:=6) (by omega);refine⟨gU l ((aL (aH l) k (aA l u 4).2).2) (by assumption) (6:Int),rfl,rfl,rfl,rfl,⟨0,(by first|rfl|omega|(simp only[bN,aS,eqq];done)),(by first|rfl|omega|(simp only[bN,aS,eqq];done)),(by first|rfl|omega|(simp only[bN,aS,eqq];done)),(by first|rfl|omega|(simp only[bN,aS,eqq];done)),(by first|rfl|omega|(simp only[bN,aS,eqq];done)),(by first|rfl|omega|(simp only[bN,aS,eqq];done)),by omega⟩,fun j hj=>?_⟩;have hz2:=aAT l (1+(aA l u 4).1).toNat (⟨[],[],(aA l (aL (aH l) k (aA l u 4).2).2 6).2⟩:PS) j;simp only[List.length_nil] at hz2;refine dd (fun c1=>?_) fun c1=>?_
  ·refine⟨⟨0,rfl,rfl,rfl,rfl,rfl,by omega⟩,fun q hq=>?_⟩;have hz3:=rB (aH l) (bN (aS l (1+(aA l u 4).1).toNat) j (⟨[],[],(aA l (aL (aH l) k (aA l u 4).2).2 6).2⟩:PS)).cu q;have w4:=dV l (aL (aH l) q (bN (aS l (1+(aA l u 4).1).toNat) j (⟨[],[],(aA l (aL (aH l) k (aA l u 4).2).2 6).2⟩:PS)).cu).2 (n:=6) (by omega);have w5:=dV l (aL (aH l) q (bN (aS l (1+(aA l u 4).1).toNat) j (⟨[],[],(aA l (aL (aH l) k (aA l u 4).2).2 6).2⟩:PS)).cu).2 (n:=12) (by omega);refine dd (fun c2=>?_) fun c2=>?_
   ·refine⟨gU l ((aL (aH l) q (bN (aS l (1+(aA l u 4).1).toNat) j (⟨[],[],(aA l (aL (aH l) k (aA l u 4).2).2 6).2⟩:PS)).cu).2) (by assumption) (6:Int),rfl,rfl,rfl,rfl,⟨by omega,by omega⟩,?_⟩;refine ap ?_ (by first|omega|(simp only[List.length_append,List.length_cons,List.length_nil,List.length_set];omega));refine aBV ?_;exact⟨q+1,rfl,rfl,rfl,rfl,rfl,by omega,by omega⟩
   ·have eqq:(1+(aA l u 4).1).toNat=q:=by omega
    refine⟨rfl,rfl,by first|omega|(simp only[List.length_append,List.length_cons,List.length_nil,List.length_set];omega),gU l ((aL (aH l) q (bN (aS l (1+(aA l u 4).1).toNat) j (⟨[],[],(aA l (aL (aH l) k (aA l u 4).2).2 6).2⟩:PS)).cu).2) (by assumption) (12:Int),rfl,rfl,rfl,rfl,?_⟩;refine ap ?_ (by first|omega|(simp only[List.length_append,List.length_cons,List.length_nil,List.length_set];omega));refine aBV ?_;exact⟨j+1,(by first|rfl|omega|(simp only[bN,aS,eqq];done)),(by first|rfl|omega|(simp only[bN,aS,eqq];done)),(by first|rfl|omega|(simp only[bN,aS,eqq];done)),(by first|rfl|omega|(simp only[bN,aS,eqq];done)),(by first|rfl|omega|(simp only[bN,aS,eqq];done)),(by first|rfl|omega|(simp only[bN,aS,eqq];done)),by omega,by omega⟩
  ·have ej:(aA l (prO l u).2 6).1.toNat=j:=by rw[e1];omega
   have e2:prR l u=(bN (aS l (1+(aA l u 4).1).toNat) j (⟨[],[],(aA l (aL (aH l) k (aA l u 4).2).2 6).2⟩:PS)):=by rw[prR,ej,e1]
   refine⟨⟨0,(by first|rfl|(rw[kE c4]<;>rfl)|(rw[kF c4]<;>rfl)),(by first|rfl|(rw[kE c4]<;>rfl)|(rw[kF c4]<;>rfl)),(by first|rfl|(rw[kE c4]<;>rfl)|(rw[kF c4]<;>rfl)),(by first|rfl|(rw[kE c4]<;>rfl)|(rw[kF c4]<;>rfl)),(by first|rfl|(rw[kE c4]<;>rfl)|(rw[kF c4]<;>rfl)),(by first|rfl|(rw[kE c4]<;>rfl)|(rw[kF c4]<;>rfl)),by omega⟩,fun p hp=>?_⟩;have hz4:=aCq l (1+(aA l u 4).1) (bN (aS l (1+(aA l u 4).1).toNat) j (⟨[],[],(aA l (aL (aH l) k (aA l u 4).2).2 6).2⟩:PS)) p;have w6:=dV l (aA l (cO l (1+(aA l u 4).1) p (bN (aS l (1+(aA l u 4).1).toNat) j (⟨[],[],(aA l (aL (aH l) k (aA l u 4).2).2 6).2⟩:PS))).cu 6).2 (n:=9) (by omega);refine dd (fun c3=>?_) fun c3=>?_
   ·refine⟨aCj l ((cO l (1+(aA l u 4).1) p (bN (aS l (1+(aA l u 4).1).toNat) j (⟨[],[],(aA l (aL (aH l) k (aA l u 4).2).2 6).2⟩:PS))).cu) (by assumption) (6:Int),rfl,rfl,rfl,rfl,dn (fun c4=>?_) fun c4=>?_⟩
    ·refine⟨by omega,by omega,by first|omega|(simp only[List.length_append,List.length_cons,List.length_nil,List.length_set];omega),by first|omega|(simp only[List.length_append,List.length_cons,List.length_nil,List.length_set];omega),by first|(rw[List.map_replicate];done)|(rw[List.map_replicate];rfl),by omega,List.length_map _,by first|omega|(simp only[List.length_replicate];omega),rfl,by first|omega|(simp only[List.length_replicate];omega),fun s22_3 hs22_3=>⟨rfl,Nat.le_of_ble_eq_true rfl,rfl,?_⟩⟩;refine⟨rfl,rfl,by first|omega|(simp only[List.length_append,List.length_cons,List.length_nil,List.length_set];omega),gU l ((aA l ((cO l (1+(aA l u 4).1) p (bN (aS l (1+(aA l u 4).1).toNat) j (⟨[],[],(aA l (aL (aH l) k (aA l u 4).2).2 6).2⟩:PS))).cu) (6:Int)).2) (by assumption) (9:Int),rfl,rfl,rfl,rfl,⟨by omega,by omega⟩,?_⟩;refine ap ?_ (by first|omega|(simp only[List.length_append,List.length_cons,List.length_nil,List.length_set];omega));refine aBV ?_;exact⟨p+1,(by first|rfl|(rw[kE c4]<;>rfl)|(rw[kF c4]<;>rfl)),(by first|rfl|(rw[kE c4]<;>rfl)|(rw[kF c4]<;>rfl)),(by first|rfl|(rw[kE c4]<;>rfl)|(rw[kF c4]<;>rfl)),(by first|rfl|(rw[kE c4]<;>rfl)|(rw[kF c4]<;>rfl)),(by first|rfl|(rw[kE c4]<;>rfl)|(rw[kF c4]<;>rfl)),(by first|rfl|(rw[kE c4]<;>rfl)|(rw[kF c4]<;>rfl)),by omega,by omega⟩
    ·refine aBV ?_;exact⟨p+1,(by first|rfl|(rw[kE c4]<;>rfl)|(rw[kF c4]<;>rfl)),(by first|rfl|(rw[kE c4]<;>rfl)|(rw[kF c4]<;>rfl)),(by first|rfl|(rw[kE c4]<;>rfl)|(rw[kF c4]<;>rfl)),(by first|rfl|(rw[kE c4]<;>rfl)|(rw[kF c4]<;>rfl)),(by first|rfl|(rw[kE c4]<;>rfl)|(rw[kF c4]<;>rfl)),(by first|rfl|(rw[kE c4]<;>rfl)|(rw[kF c4]<;>rfl)),by omega,by omega⟩
   ·have ep:(1+(aA l u 4).1).toNat=p:=by omega
    have e3:mZ l u=(cO l (1+(aA l u 4).1) p (bN (aS l (1+(aA l u 4).1).toNat) j (⟨[],[],(aA l (aL (aH l) k (aA l u 4).2).2 6).2⟩:PS))):=by rw[mZ,e2];exact congrArg (fun t=>cO l (1+(aA l u 4).1) t (bN (aS l (1+(aA l u 4).1).toNat) j (⟨[],[],(aA l (aL (aH l) k (aA l u 4).2).2 6).2⟩:PS))) ep
    have w7:=dV l (cO l (1+(aA l u 4).1) p (bN (aS l (1+(aA l u 4).1).toNat) j (⟨[],[],(aA l (aL (aH l) k (aA l u 4).2).2 6).2⟩:PS))).cu (n:=20) (by omega);refine⟨gU l ((cO l (1+(aA l u 4).1) p (bN (aS l (1+(aA l u 4).1).toNat) j (⟨[],[],(aA l (aL (aH l) k (aA l u 4).2).2 6).2⟩:PS))).cu) (by assumption) (20:Int),rfl,rfl,rfl,rfl,dd (fun c5=>?_) fun c5=>?_⟩
    ·refine⟨aCk l ((aA l ((cO l (1+(aA l u 4).1) p (bN (aS l (1+(aA l u 4).1).toNat) j (⟨[],[],(aA l (aL (aH l) k (aA l u 4).2).2 6).2⟩:PS))).cu) (20:Int)).2) (by assumption) ([(10:Int),(-10:Int),(9:Int)]:List Int) (by decide),rfl,rfl,rfl,rfl,by omega,List.length_map _,by first|omega|(simp only[List.length_replicate];omega),rfl,by first|omega|(simp only[List.length_replicate];omega),fun s27_6 hs27_6=>⟨rfl,Nat.le_of_ble_eq_true rfl,rfl,?_⟩⟩;refine⟨rfl,?_,?_,?_,?_,?_,trivial⟩<;>(first|(simp only[aAU (by rw[e3];exact c5),e3,e1];done)|(simp only[aAV (by rw[e3];exact c6),e3,e1];done)|(simp only[aAW (by rw[e3];exact c7) (by rw[e3];omega),e3,e1];done)|(simp only[aAX (by rw[e3];exact c5) (by rw[e3];exact c6) (by rw[e3];first|(left;exact c7)|(right;omega)),e3,e1];done))
    ·refine dd (fun c6=>?_) fun c6=>?_
     ·refine ap ?_ (by first|omega|(simp only[List.length_append,List.length_cons,List.length_nil,List.length_set];omega));refine⟨rfl,?_,?_,?_,?_,?_,trivial⟩<;>(first|(simp only[aAU (by rw[e3];exact c5),e3,e1];done)|(simp only[aAV (by rw[e3];exact c6),e3,e1];done)|(simp only[aAW (by rw[e3];exact c7) (by rw[e3];omega),e3,e1];done)|(simp only[aAX (by rw[e3];exact c5) (by rw[e3];exact c6) (by rw[e3];first|(left;exact c7)|(right;omega)),e3,e1];done))
     ·refine dd (fun c7=>?_) fun c7=>?_
      ·refine⟨List.length_map _,dd (fun c8=>?_) fun c8=>?_⟩
       ·refine⟨aCk l ((aA l ((cO l (1+(aA l u 4).1) p (bN (aS l (1+(aA l u 4).1).toNat) j (⟨[],[],(aA l (aL (aH l) k (aA l u 4).2).2 6).2⟩:PS))).cu) (20:Int)).2) (by assumption) ([(-1:Int),(99:Int),(100:Int)]:List Int) (by decide),rfl,rfl,rfl,rfl,by omega,List.length_map _,by first|omega|(simp only[List.length_replicate];omega),rfl,by first|omega|(simp only[List.length_replicate];omega),fun s32_6 hs32_6=>⟨rfl,Nat.le_of_ble_eq_true rfl,rfl,?_⟩⟩;refine⟨rfl,?_,?_,?_,?_,?_,trivial⟩<;>(first|(simp only[aAU (by rw[e3];exact c5),e3,e1];done)|(simp only[aAV (by rw[e3];exact c6),e3,e1];done)|(simp only[aAW (by rw[e3];exact c7) (by rw[e3];omega),e3,e1];done)|(simp only[aAX (by rw[e3];exact c5) (by rw[e3];exact c6) (by rw[e3];first|(left;exact c7)|(right;omega)),e3,e1];done))
       ·refine⟨rfl,?_,?_,?_,?_,?_,trivial⟩<;>(first|(simp only[aAU (by rw[e3];exact c5),e3,e1];done)|(simp only[aAV (by rw[e3];exact c6),e3,e1];done)|(simp only[aAW (by rw[e3];exact c7) (by rw[e3];omega),e3,e1];done)|(simp only[aAX (by rw[e3];exact c5) (by rw[e3];exact c6) (by rw[e3];first|(left;exact c7)|(right;omega)),e3,e1];done))
      ·refine⟨rfl,?_,?_,?_,?_,?_,trivial⟩<;>(first|(simp only[aAU (by rw[e3];exact c5),e3,e1];done)|(simp only[aAV (by rw[e3];exact c6),e3,e1];done)|(simp only[aAW (by rw[e3];exact c7) (by rw[e3];omega),e3,e1];done)|(simp only[aAX (by rw[e3];exact c5) (by rw[e3];exact c6) (by rw[e3];first|(left;exact c7)|(right;omega)),e3,e1];done))
abbrev pJ (a:aC)(b:aC):AV × List (Nat × Rs):=(.tup [.agg [vI ((cT a b).1.num),vI ((cT a b).1.den)],vB ((cT a b).2)],[])
abbrev tK (a:aC)(b:aC):Prop:=Cn 87 [.agg [.int .i64 a.num,.int .i64 a.den],.agg [.int .i64 b.num,.int .i64 b.den]] (pJ a b).1 (pJ a b).2
theorem aDz (a b:aC):tK a b:=by
 refine cq Try.func87 (.call (vB (aJ a)) []<| .br (.fin []) (.call (vB (aJ b)) []<| .lit<| .lit<| .br (.fin []) (bX (oQ ((a.num*b.den)+(b.num*a.den)) (a.den*b.den))<| .fin []))) (p:=eB a/\Nr (aJ a) (0=((cT a b).1.num)/\0=((cT a b).1.den)/\(false)=((cT a b).2)/\True) (eB b/\Nr (aJ b) (0=((cT a b).1.num)/\0=((cT a b).1.den)/\(false)=((cT a b).2)/\True) (cR (a.num*b.den)/\cR (b.num*a.den)/\cR ((a.num*b.den)+(b.num*a.den))/\cR (a.den*b.den)/\sC ((a.num*b.den)+(b.num*a.den)) (a.den*b.den)/\(((eS (aX ((a.num*b.den)+(b.num*a.den)) (a.den*b.den))).1).num)=((cT a b).1.num)/\(((eS (aX ((a.num*b.den)+(b.num*a.den)) (a.den*b.den))).1).den)=((cT a b).1.den)/\((eS (aX ((a.num*b.den)+(b.num*a.den)) (a.den*b.den))).2)=((cT a b).2)/\True))) (by kernel_rfl) ?_;refine⟨gF a,dm (fun g9=>?_) fun g9=>?_⟩
 ·apply et3<;>((rw[cT,yB (.inl g9)];rfl))
 ·refine⟨gF b,dm (fun c0=>?_) fun c0=>?_⟩
  ·apply et3<;>((rw[cT,yB (.inr c0)];rfl))
  ·have q1:=bA g9;have q2:=bA c0;have m1:=dL (x:=a.num) (y:=b.den) ⟨by omega,by omega⟩ ⟨by omega,by omega⟩;have m2:=dL (x:=b.num) (y:=a.den) ⟨by omega,by omega⟩ ⟨by omega,by omega⟩;have m3:=dL (x:=a.den) (y:=b.den) ⟨by omega,by omega⟩ ⟨by omega,by omega⟩;have m4:=dL (x:=a.num) (y:=b.num) ⟨by omega,by omega⟩ ⟨by omega,by omega⟩;have m5:=dL (x:=a.den) (y:=b.num) ⟨by omega,by omega⟩ ⟨by omega,by omega⟩;refine⟨⟨by omega,by omega⟩,⟨by omega,by omega⟩,⟨by omega,by omega⟩,⟨by omega,by omega⟩,aCp _ _ (by omega) (by omega),?_,?_,?_,trivial⟩<;>((rw[cT,rC g9 c0];done))
abbrev pK (a:aC)(b:aC):AV × List (Nat × Rs):=(.tup [.agg [vI ((bQ a b).1.num),vI ((bQ a b).1.den)],vB ((bQ a b).2)],[])
abbrev tL (a:aC)(b:aC):Prop:=Cn 86 [.agg [.int .i64 a.num,.int .i64 a.den],.agg [.int .i64 b.num,.int .i64 b.den]] (pK a b).1 (pK a b).2
theorem aEA (a b:aC):tL a b:=by
 refine cq Try.func86 (.call (vB (aJ a)) []<| .br (.fin []) (.call (vB (aJ b)) []<| .lit<| .lit<| .br (.fin []) (bX (oQ (a.num*b.num) (a.den*b.den))<| .fin []))) (p:=eB a/\Nr (aJ a) (0=((bQ a b).1.num)/\0=((bQ a b).1.den)/\(false)=((bQ a b).2)/\True) (eB b/\Nr (aJ b) (0=((bQ a b).1.num)/\0=((bQ a b).1.den)/\(false)=((bQ a b).2)/\True) (cR (a.num*b.num)/\cR (a.den*b.den)/\sC (a.num*b.num) (a.den*b.den)/\(((eS (aX (a.num*b.num) (a.den*b.den))).1).num)=((bQ a b).1.num)/\(((eS (aX (a.num*b.num) (a.den*b.den))).1).den)=((bQ a b).1.den)/\((eS (aX (a.num*b.num) (a.den*b.den))).2)=((bQ a b).2)/\True))) (by kernel_rfl) ?_;refine⟨gF a,dm (fun g9=>?_) fun g9=>?_⟩
 ·apply et3<;>((rw[bQ,yC (.inl g9)];rfl))
 ·refine⟨gF b,dm (fun c0=>?_) fun c0=>?_⟩
  ·apply et3<;>((rw[bQ,yC (.inr c0)];rfl))
  ·have q1:=bA g9;have q2:=bA c0;have m1:=dL (x:=a.num) (y:=b.den) ⟨by omega,by omega⟩ ⟨by omega,by omega⟩;have m2:=dL (x:=b.num) (y:=a.den) ⟨by omega,by omega⟩ ⟨by omega,by omega⟩;have m3:=dL (x:=a.den) (y:=b.den) ⟨by omega,by omega⟩ ⟨by omega,by omega⟩;have m4:=dL (x:=a.num) (y:=b.num) ⟨by omega,by omega⟩ ⟨by omega,by omega⟩;have m5:=dL (x:=a.den) (y:=b.num) ⟨by omega,by omega⟩ ⟨by omega,by omega⟩;refine⟨⟨by omega,by omega⟩,⟨by omega,by omega⟩,aCp _ _ (by omega) (by omega),?_,?_,?_,trivial⟩<;>((rw[bQ,mX g9 c0];done))
abbrev pL (a:aC)(b:aC):AV × List (Nat × Rs):=(.tup [.agg [vI ((aR a b).1.num),vI ((aR a b).1.den)],vB ((aR a b).2)],[])
abbrev tM (a:aC)(b:aC):Prop:=Cn 81 [.agg [.int .i64 a.num,.int .i64 a.den],.agg [.int .i64 b.num,.int .i64 b.den]] (pL a b).1 (pL a b).2
theorem aEB (a b:aC):tM a b:=by
 refine cq Try.func81 (.call (vB (aJ a)) []<| .br (.fin []) (.call (vB (aJ b)) []<| .lit<| .lit<| .br (.fin []) (bX (oQ (a.num*b.den) (a.den*b.num))<| .fin []))) (p:=eB a/\Nr (aJ a) (0=((aR a b).1.num)/\0=((aR a b).1.den)/\(false)=((aR a b).2)/\True) (eB b/\Nr (aJ b) (0=((aR a b).1.num)/\0=((aR a b).1.den)/\(false)=((aR a b).2)/\True) (cR (a.num*b.den)/\cR (a.den*b.num)/\sC (a.num*b.den) (a.den*b.num)/\(((eS (aX (a.num*b.den) (a.den*b.num))).1).num)=((aR a b).1.num)/\(((eS (aX (a.num*b.den) (a.den*b.num))).1).den)=((aR a b).1.den)/\((eS (aX (a.num*b.den) (a.den*b.num))).2)=((aR a b).2)/\True))) (by kernel_rfl) ?_;refine⟨gF a,dm (fun g9=>?_) fun g9=>?_⟩
 ·apply et3<;>((rw[aR,yD (.inl g9)];rfl))
 ·refine⟨gF b,dm (fun c0=>?_) fun c0=>?_⟩
  ·apply et3<;>((rw[aR,yD (.inr c0)];rfl))
  ·have q1:=bA g9;have q2:=bA c0;have m1:=dL (x:=a.num) (y:=b.den) ⟨by omega,by omega⟩ ⟨by omega,by omega⟩;have m2:=dL (x:=b.num) (y:=a.den) ⟨by omega,by omega⟩ ⟨by omega,by omega⟩;have m3:=dL (x:=a.den) (y:=b.den) ⟨by omega,by omega⟩ ⟨by omega,by omega⟩;have m4:=dL (x:=a.num) (y:=b.num) ⟨by omega,by omega⟩ ⟨by omega,by omega⟩;have m5:=dL (x:=a.den) (y:=b.num) ⟨by omega,by omega⟩ ⟨by omega,by omega⟩;refine⟨⟨by omega,by omega⟩,⟨by omega,by omega⟩,aCp _ _ (by omega) (by omega),?_,?_,?_,trivial⟩<;>((rw[aR,oP g9 c0];done))
abbrev nA (a:aC)(b:aC):AV × List (Nat × Rs):=(.tup [.agg [vI ((cT a b).1.num),vI ((cT a b).1.den)],vB ((cT a b).2)],[])
abbrev pM (a:aC)(b:aC):Prop:=Cn 74 [.agg [.int .i64 a.num,.int .i64 a.den],.agg [.int .i64 b.num,.int .i64 b.den]] (nA a b).1 (nA a b).2
theorem aA0 (a b:aC):pM a b:=by
 refine cq Try.func74 (.call (vB (aJ a)) []<| .br (.fin []) (.call (vB (aJ b)) []<| .lit<| .lit<| .br (.fin []) (bX (jI ((a.num*b.den)+(b.num*a.den)) (a.den*b.den))<| .fin []))) (p:=dN a/\Nr (aJ a) (0=((cT a b).1.num)/\0=((cT a b).1.den)/\(false)=((cT a b).2)/\True) (dN b/\Nr (aJ b) (0=((cT a b).1.num)/\0=((cT a b).1.den)/\(false)=((cT a b).2)/\True) (cR (a.num*b.den)/\cR (b.num*a.den)/\cR ((a.num*b.den)+(b.num*a.den))/\cR (a.den*b.den)/\kS ((a.num*b.den)+(b.num*a.den)) (a.den*b.den)/\(((eS (aX ((a.num*b.den)+(b.num*a.den)) (a.den*b.den))).1).num)=((cT a b).1.num)/\(((eS (aX ((a.num*b.den)+(b.num*a.den)) (a.den*b.den))).1).den)=((cT a b).1.den)/\((eS (aX ((a.num*b.den)+(b.num*a.den)) (a.den*b.den))).2)=((cT a b).2)/\True))) (by kernel_rfl) ?_;refine⟨fH a,dm (fun g11=>?_) fun g11=>?_⟩
 ·apply et3<;>((rw[cT,yB (.inl g11)];rfl))
 ·refine⟨fH b,dm (fun c0=>?_) fun c0=>?_⟩
  ·apply et3<;>((rw[cT,yB (.inr c0)];rfl))
  ·have q1:=bA g11;have q2:=bA c0;have m1:=dL (x:=a.num) (y:=b.den) ⟨by omega,by omega⟩ ⟨by omega,by omega⟩;have m2:=dL (x:=b.num) (y:=a.den) ⟨by omega,by omega⟩ ⟨by omega,by omega⟩;have m3:=dL (x:=a.den) (y:=b.den) ⟨by omega,by omega⟩ ⟨by omega,by omega⟩;have m4:=dL (x:=a.num) (y:=b.num) ⟨by omega,by omega⟩ ⟨by omega,by omega⟩;have m5:=dL (x:=a.den) (y:=b.num) ⟨by omega,by omega⟩ ⟨by omega,by omega⟩;refine⟨⟨by omega,by omega⟩,⟨by omega,by omega⟩,⟨by omega,by omega⟩,⟨by omega,by omega⟩,sD _ _ (by omega) (by omega),?_,?_,?_,trivial⟩<;>((rw[cT,rC g11 c0];done))
abbrev kT (a:aC)(b:aC):AV × List (Nat × Rs):=(.tup [.agg [vI ((bQ a b).1.num),vI ((bQ a b).1.den)],vB ((bQ a b).2)],[])
abbrev nB (a:aC)(b:aC):Prop:=Cn 73 [.agg [.int .i64 a.num,.int .i64 a.den],.agg [.int .i64 b.num,.int .i64 b.den]] (kT a b).1 (kT a b).2
theorem vG (a b:aC):nB a b:=by
 refine cq Try.func73 (.call (vB (aJ a)) []<| .br (.fin []) (.call (vB (aJ b)) []<| .lit<| .lit<| .br (.fin []) (bX (jI (a.num*b.num) (a.den*b.den))<| .fin []))) (p:=dN a/\Nr (aJ a) (0=((bQ a b).1.num)/\0=((bQ a b).1.den)/\(false)=((bQ a b).2)/\True) (dN b/\Nr (aJ b) (0=((bQ a b).1.num)/\0=((bQ a b).1.den)/\(false)=((bQ a b).2)/\True) (cR (a.num*b.num)/\cR (a.den*b.den)/\kS (a.num*b.num) (a.den*b.den)/\(((eS (aX (a.num*b.num) (a.den*b.den))).1).num)=((bQ a b).1.num)/\(((eS (aX (a.num*b.num) (a.den*b.den))).1).den)=((bQ a b).1.den)/\((eS (aX (a.num*b.num) (a.den*b.den))).2)=((bQ a b).2)/\True))) (by kernel_rfl) ?_;refine⟨fH a,dm (fun g11=>?_) fun g11=>?_⟩
 ·apply et3<;>((rw[bQ,yC (.inl g11)];rfl))
 ·refine⟨fH b,dm (fun c0=>?_) fun c0=>?_⟩
  ·apply et3<;>((rw[bQ,yC (.inr c0)];rfl))
  ·have q1:=bA g11;have q2:=bA c0;have m1:=dL (x:=a.num) (y:=b.den) ⟨by omega,by omega⟩ ⟨by omega,by omega⟩;have m2:=dL (x:=b.num) (y:=a.den) ⟨by omega,by omega⟩ ⟨by omega,by omega⟩;have m3:=dL (x:=a.den) (y:=b.den) ⟨by omega,by omega⟩ ⟨by omega,by omega⟩;have m4:=dL (x:=a.num) (y:=b.num) ⟨by omega,by omega⟩ ⟨by omega,by omega⟩;have m5:=dL (x:=a.den) (y:=b.num) ⟨by omega,by omega⟩ ⟨by omega,by omega⟩;refine⟨⟨by omega,by omega⟩,⟨by omega,by omega⟩,sD _ _ (by omega) (by omega),?_,?_,?_,trivial⟩<;>((rw[bQ,mX g11 c0];done))
abbrev kU (a:aC)(b:aC):AV × List (Nat × Rs):=(.tup [.agg [vI ((aR a b).1.num),vI ((aR a b).1.den)],vB ((aR a b).2)],[])
abbrev nC (a:aC)(b:aC):Prop:=Cn 71 [.agg [.int .i64 a.num,.int .i64 a.den],.agg [.int .i64 b.num,.int .i64 b.den]] (kU a b).1 (kU a b).2
theorem vH (a b:aC):nC a b:=by
 refine cq Try.func71 (.call (vB (aJ a)) []<| .br (.fin []) (.call (vB (aJ b)) []<| .lit<| .lit<| .br (.fin []) (.lit<| .lit<| .lit<| .br (.fin []) (bX (jI (a.num*b.den) (a.den*b.num))<| .fin [])))) (p:=dN a/\Nr (aJ a) (0=((aR a b).1.num)/\0=((aR a b).1.den)/\(false)=((aR a b).2)/\True) (dN b/\Nr (aJ b) (0=((aR a b).1.num)/\0=((aR a b).1.den)/\(false)=((aR a b).2)/\True) (Br (b.num=0) (0=((aR a b).1.num)/\0=((aR a b).1.den)/\(false)=((aR a b).2)/\True) (cR (a.num*b.den)/\cR (a.den*b.num)/\kS (a.num*b.den) (a.den*b.num)/\(((eS (aX (a.num*b.den) (a.den*b.num))).1).num)=((aR a b).1.num)/\(((eS (aX (a.num*b.den) (a.den*b.num))).1).den)=((aR a b).1.den)/\((eS (aX (a.num*b.den) (a.den*b.num))).2)=((aR a b).2)/\True)))) (by kernel_rfl) ?_;refine⟨fH a,dm (fun g11=>?_) fun g11=>?_⟩
 ·apply et3<;>((rw[aR,yD (.inl g11)];rfl))
 ·refine⟨fH b,dm (fun g16=>?_) fun g16=>?_⟩
  ·apply et3<;>((rw[aR,yD (.inr g16)];rfl))
  ·refine dd (fun c0=>?_) fun c0=>?_
   ·apply et3<;>((simp[aR,aGw,eS, *];done))
   ·have q1:=bA g11;have q2:=bA g16;have m1:=dL (x:=a.num) (y:=b.den) ⟨by omega,by omega⟩ ⟨by omega,by omega⟩;have m2:=dL (x:=b.num) (y:=a.den) ⟨by omega,by omega⟩ ⟨by omega,by omega⟩;have m3:=dL (x:=a.den) (y:=b.den) ⟨by omega,by omega⟩ ⟨by omega,by omega⟩;have m4:=dL (x:=a.num) (y:=b.num) ⟨by omega,by omega⟩ ⟨by omega,by omega⟩;have m5:=dL (x:=a.den) (y:=b.num) ⟨by omega,by omega⟩ ⟨by omega,by omega⟩;refine⟨⟨by omega,by omega⟩,⟨by omega,by omega⟩,sD _ _ (by omega) (by omega),?_,?_,?_,trivial⟩<;>((rw[aR,oP g11 g16];done))
theorem kV {n d:Int}:bW (-n) d=bW n d:=by
 have e:Int.gcd (-n) d=Int.gcd n d:=by simp[Int.gcd]
 simp only[bW,e]
 congr 2
 simp only[inB];rw[Bool.eq_iff_iff];simp;omega
theorem aIg {a b c d:Int}:aCl a b (-c) d=aCm a b c d:=by
 unfold aCl aCm;rw[kV,Int.neg_mul,Int.sub_eq_add_neg]
abbrev tN (a:aC)(b:aC):AV × List (Nat × Rs):=(.tup [.agg [vI ((iU a b).1.num),vI ((iU a b).1.den)],vB ((iU a b).2)],[])
abbrev aA1 (a:aC)(b:aC):Prop:=Cn 90 [.agg [.int .i64 a.num,.int .i64 a.den],.agg [.int .i64 b.num,.int .i64 b.den]] (tN a b).1 (tN a b).2
theorem aIh (a b:aC):aA1 a b:=by
 refine cq Try.func90 (.call (vB (aJ a)) []<| .br (.fin []) (.call (vB (aJ b)) []<| .lit<| .lit<| .br (.fin []) (bX (jI ((a.num*b.den) - (b.num*a.den)) (a.den*b.den))<| .fin []))) (p:=dN a/\Nr (aJ a) (0=((iU a b).1.num)/\0=((iU a b).1.den)/\(false)=((iU a b).2)/\True) (dN b/\Nr (aJ b) (0=((iU a b).1.num)/\0=((iU a b).1.den)/\(false)=((iU a b).2)/\True) (cR (a.num*b.den)/\cR (b.num*a.den)/\cR ((a.num*b.den) - (b.num*a.den))/\cR (a.den*b.den)/\kS ((a.num*b.den) - (b.num*a.den)) (a.den*b.den)/\(((eS (aX ((a.num*b.den) - (b.num*a.den)) (a.den*b.den))).1).num)=((iU a b).1.num)/\(((eS (aX ((a.num*b.den) - (b.num*a.den)) (a.den*b.den))).1).den)=((iU a b).1.den)/\((eS (aX ((a.num*b.den) - (b.num*a.den)) (a.den*b.den))).2)=((iU a b).2)/\True))) (by kernel_rfl) ?_;refine⟨fH a,dm (fun g11=>?_) fun g11=>?_⟩
 ·apply et3<;>((rw[iU,aFt (.inl g11)];rfl))
 ·refine⟨fH b,dm (fun c0=>?_) fun c0=>?_⟩
  ·apply et3<;>((rw[iU,aFt (.inr c0)];rfl))
  ·have q1:=bA g11;have q2:=bA c0;have m1:=dL (x:=a.num) (y:=b.den) ⟨by omega,by omega⟩ ⟨by omega,by omega⟩;have m2:=dL (x:=b.num) (y:=a.den) ⟨by omega,by omega⟩ ⟨by omega,by omega⟩;have m3:=dL (x:=a.den) (y:=b.den) ⟨by omega,by omega⟩ ⟨by omega,by omega⟩;have m4:=dL (x:=a.num) (y:=b.num) ⟨by omega,by omega⟩ ⟨by omega,by omega⟩;have m5:=dL (x:=a.den) (y:=b.num) ⟨by omega,by omega⟩ ⟨by omega,by omega⟩;refine⟨⟨by omega,by omega⟩,⟨by omega,by omega⟩,⟨by omega,by omega⟩,⟨by omega,by omega⟩,sD _ _ (by omega) (by omega),?_,?_,?_,trivial⟩<;>((rw[iU,aAL g11 c0];done))
abbrev pN (a:aC)(b:aC):Prop:=Cn 55 [.agg [.int .i64 a.num,.int .i64 a.den],.agg [.int .i64 b.num,.int .i64 b.den]] (vI (bK a b)) []
theorem aA2 (a b:aC):pN a b:=by
 refine cq Try.func55 (.call (vB (aJ a)) []<| .br (.fin []) (.call (vB (aJ b)) []<| .lit<| .lit<| .br (.fin []) (.br (.fin []) (.br (.fin []) (.fin []))))) (p:=eB a/\Nr (aJ a) (0=(bK a b)/\True) (eB b/\Nr (aJ b) (0=(bK a b)/\True) (cR (a.num*b.den)/\cR (b.num*a.den)/\Br ((a.num*b.den)<(b.num*a.den)) ((-1:Int)=(bK a b)/\True) (Br ((b.num*a.den)<(a.num*b.den)) (1=(bK a b)/\True) (0=(bK a b)/\True))))) (by kernel_rfl) ?_;refine⟨gF a,dm (fun g10=>?_) fun g10=>?_⟩
 ·apply et1
  ·(rw[bK,yE (.inl g10)];done)
 ·refine⟨gF b,dm (fun c0=>?_) fun c0=>?_⟩
  ·apply et1
   ·(rw[bK,yE (.inr c0)];done)
  ·have q1:=bA g10;have q2:=bA c0;have m1:=dL (x:=a.num) (y:=b.den) ⟨by omega,by omega⟩ ⟨by omega,by omega⟩;have m2:=dL (x:=b.num) (y:=a.den) ⟨by omega,by omega⟩ ⟨by omega,by omega⟩;have m3:=dL (x:=a.den) (y:=b.den) ⟨by omega,by omega⟩ ⟨by omega,by omega⟩;have m4:=dL (x:=a.num) (y:=b.num) ⟨by omega,by omega⟩ ⟨by omega,by omega⟩;have m5:=dL (x:=a.den) (y:=b.num) ⟨by omega,by omega⟩ ⟨by omega,by omega⟩;refine⟨⟨by omega,by omega⟩,⟨by omega,by omega⟩,dd (fun c1=>?_) fun c1=>?_⟩
   ·apply et1
    ·(rw[bK,mY g10 c0];(rw[if_pos c1];done))
   ·refine dd (fun c2=>?_) fun c2=>?_
    ·apply et1
     ·(rw[bK,mY g10 c0];(rw[if_neg c1,if_pos c2];done))
    ·apply et1
     ·(rw[bK,mY g10 c0];(rw[if_neg c1,if_neg c2];done))
abbrev eC (a:aC)(b:aC):Prop:=Cn 21 [.agg [.int .i64 a.num,.int .i64 a.den],.agg [.int .i64 b.num,.int .i64 b.den]] (vI (bK a b)) []
theorem gG (a b:aC):eC a b:=by
 refine cq Try.func21 (.call (vB (aJ a)) []<| .br (.fin []) (.call (vB (aJ b)) []<| .lit<| .lit<| .br (.fin []) (.br (.fin []) (.br (.fin []) (.fin []))))) (p:=dN a/\Nr (aJ a) (0=(bK a b)/\True) (dN b/\Nr (aJ b) (0=(bK a b)/\True) (cR (a.num*b.den)/\cR (b.num*a.den)/\Br ((a.num*b.den)<(b.num*a.den)) ((-1:Int)=(bK a b)/\True) (Br ((b.num*a.den)<(a.num*b.den)) (1=(bK a b)/\True) (0=(bK a b)/\True))))) (by kernel_rfl) ?_;refine⟨fH a,dm (fun g10=>?_) fun g10=>?_⟩
 ·apply et1
  ·(rw[bK,yE (.inl g10)];done)
 ·refine⟨fH b,dm (fun c0=>?_) fun c0=>?_⟩
  ·apply et1
   ·(rw[bK,yE (.inr c0)];done)
  ·have q1:=bA g10;have q2:=bA c0;have m1:=dL (x:=a.num) (y:=b.den) ⟨by omega,by omega⟩ ⟨by omega,by omega⟩;have m2:=dL (x:=b.num) (y:=a.den) ⟨by omega,by omega⟩ ⟨by omega,by omega⟩;have m3:=dL (x:=a.den) (y:=b.den) ⟨by omega,by omega⟩ ⟨by omega,by omega⟩;have m4:=dL (x:=a.num) (y:=b.num) ⟨by omega,by omega⟩ ⟨by omega,by omega⟩;have m5:=dL (x:=a.den) (y:=b.num) ⟨by omega,by omega⟩ ⟨by omega,by omega⟩;refine⟨⟨by omega,by omega⟩,⟨by omega,by omega⟩,dd (fun c1=>?_) fun c1=>?_⟩
   ·apply et1
    ·(rw[bK,mY g10 c0];(rw[if_pos c1];done))
   ·refine dd (fun c2=>?_) fun c2=>?_
    ·apply et1
     ·(rw[bK,mY g10 c0];(rw[if_neg c1,if_pos c2];done))
    ·apply et1
     ·(rw[bK,mY g10 c0];(rw[if_neg c1,if_neg c2];done))
theorem aP {α:Type}{l:List α}{k:Nat}{x y:α}(h:l[k]? =some x):l.getD k y=x:=by simp[List.getD_eq_getElem?_getD,h]
theorem nT {p:Nat->Bool}{k:Nat}(h:(List.range k).all p=true)(hk:p k=true):(List.range (k+1)).all p=true:=by
 rw[List.range_succ,List.all_append,h];simp[hk]
theorem gO {p:Nat->Bool}{n k:Nat}(hk:k<n)(h:p k=false):(List.range n).all p=false:=by
 rw[List.all_eq_false];exact⟨k,List.mem_range.2 hk,by rw[h];decide⟩
def aF (n:Int):aC:=⟨n,1⟩
def zR:aC:=⟨0,0⟩
def sP (n:Int)(x s:aC):aC × Bool:=((cT s (bQ (aF n) x).1).1,(bQ (aF n) x).2&&(cT s (bQ (aF n) x).1).2)
def dM:List Int->List aC->aC->aC × Bool
 | n::l,x::xs,s=>if (sP n x s).2=true then dM l xs (sP n x s).1 else (zR,false)
 | _,_,s=>(s,true)
theorem aFu {l:List Int}{xs:List aC}{k:Nat}{n:Int}{x s:aC}(hl:l[k]? =some n)(hx:xs[k]? =some x):dM (l.drop k) (xs.drop k) s=if (sP n x s).2=true then dM (l.drop (k+1)) (xs.drop (k+1)) (sP n x s).1 else (zR,false):=by
 obtain⟨h1,rfl⟩:=List.getElem?_eq_some_iff.1 hl;obtain⟨h2,rfl⟩:=List.getElem?_eq_some_iff.1 hx;rw[List.drop_eq_getElem_cons h1,List.drop_eq_getElem_cons h2,dM]
theorem aEC {l:List Int}{xs:List aC}{k:Nat}{n:Int}{x s:aC}(hl:l[k]? =some n)(hx:xs[k]? =some x)(h1:(bQ (aF n) x).2=true)(h2:(cT s (bQ (aF n) x).1).2=true):dM (l.drop k) (xs.drop k) s=dM (l.drop (k+1)) (xs.drop (k+1)) (cT s (bQ (aF n) x).1).1:=by
 rw[aFu hl hx,if_pos (by rw[sP,h1,h2];rfl)];rfl
theorem gC {l:List Int}{xs:List aC}{k:Nat}{n:Int}{x s:aC}(hl:l[k]? =some n)(hx:xs[k]? =some x)(h:(bQ (aF n) x).2=false\/(cT s (bQ (aF n) x).1).2=false):dM (l.drop k) (xs.drop k) s=(zR,false):=by
 rw[aFu hl hx,if_neg];rcases h with h | h
 ·rw[sP,h];simp
 rw[sP,h];simp
theorem jK {l:List Int}{xs:List aC}{k:Nat}{s:aC}(h:l.length<=k\/xs.length<=k):dM (l.drop k) (xs.drop k) s=(s,true):=by
 rcases h with h | h
 ·rw[List.drop_eq_nil_of_le h];simp[dM]
 rw[List.drop_eq_nil_of_le h];cases l.drop k<;>simp[dM]
def cC (l:List Int)(xs:List aC):aC × Bool:=if l.length=xs.length then dM l xs (aF 0) else (zR,false)
theorem dD {l:List Int}{xs:List aC}(h:l.length=xs.length):cC l xs=dM l xs (aF 0):=by rw[cC,if_pos h]
theorem iV {l:List Int}{xs:List aC}(h: ¬l.length=xs.length):cC l xs=(zR,false):=by rw[cC,if_neg h]
def cS (p:aQ)(ys:List aC):aC × Bool:=if aW p=true then cC p.limits ys else (zR,false)
theorem iW {p:aQ}{ys:List aC}(h:aW p=true):cS p ys=cC p.limits ys:=by rw[cS,if_pos h]
theorem vJ {p:aQ}{ys:List aC}(h:aW p=false):cS p ys=(zR,false):=by rw[cS,if_neg (by rw[h];decide)]
def mD (r:aC):Bool:=aJ r&& !decide (r.num<0)
def cW (l:List aC)(n:Int):Bool:=decide ((l.length:Int)=n)&&l.all mD
theorem mE (l:List aC)(n:Int):cW l n=((decide ((l.length:Int)=n)&&l.all aJ)&&l.all fun r=> !decide (r.num<0)):=by
 have:l.all mD=(l.all aJ&&l.all fun r=> !decide (r.num<0)):=by
  induction l with
  | nil=>rfl
  | cons a l ih=>simp only[List.all_cons,ih,mD];cases aJ a<;>cases (!decide (a.num<0))<;>cases l.all aJ<;>simp
 rw[cW,this,Bool.and_assoc]
def iO (rs:List (List Int))(k:Nat):List Int:=rs.map fun r=>r.getD k 0
theorem aBu {rs:List (List Int)}{i k:Nat}{r:List Int}{v:Int}(hr:rs[i]? =some r)(hv:r[k]? =some v):iO (rs.take (i+1)) k=iO (rs.take i) k++[v]:=by
 rw[jD hr];simp[iO,hv]
def dQ (p:aQ)(ys:List aC)(k:Nat):Bool:=(cC (iO p.rows k) ys).2&&decide (0<=bK (cC (iO p.rows k) ys).1 (aF (p.objective.getD k 0)))
def bO (p:aQ)(ys:List aC):Bool:=aW p&&(cW ys p.rows.length&&(List.range p.objective.length).all (dQ p ys))
abbrev jL (n:Int):Prop:=Cn 56 [.one (.int .i64 n)] (.agg [vI ((aF n).num),vI ((aF n).den)]) []
theorem pO (n:Int):jL n:=by
 refine cq Try.func56 (.fin []) (p:=n=((aF n).num)/\1=((aF n).den)/\True) (by kernel_rfl) ?_;refine⟨?_,?_,trivial⟩<;>(rfl)
abbrev eM (n:Int):Prop:=Cn 46 [.one (.int .i64 n)] (.agg [vI ((aF n).num),vI ((aF n).den)]) []
theorem iC (n:Int):eM n:=by
 refine cq Try.func46 (.fin []) (p:=n=((aF n).num)/\1=((aF n).den)/\True) (by kernel_rfl) ?_;refine⟨?_,?_,trivial⟩<;>(rfl)
abbrev jM (l:List Int)(xs:List aC):AV × List (Nat × Rs):=(.tup [.agg [vI ((cC l xs).1.num),vI ((cC l xs).1.den)],vB ((cC l xs).2)],[])
abbrev lR (l:List Int)(xs:List aC):Prop:=Cn 54 [.one (.sl 3 1 (l.map aI)),.one (.sl 30 2 (xs.map aB))] (jM l xs).1 (jM l xs).2
theorem sE (l:List Int)(xs:List aC):lR l xs:=by
 refine cq Try.func54 (.call (.agg [vI ((aF (0:Int)).num),vI ((aF (0:Int)).den)]) []<| .len l.length<| .len xs.length<| .br (.fin []) (.len l.length<| .loop (Nat × aC) (Q2 Nat aC) ([7,8,9,10,11,12]++rg 22 27++[50,51]) [600,900,1100] (fun yy0=>[(22,vI (yy0.1:Int))]) (fun yy0=>[(600,some (.box 30 [vI yy0.2.num,vI yy0.2.den]))]) (fun yy0=>yy0.1<=l.length/\dM (l.drop yy0.1) (xs.drop yy0.1) yy0.2=dM l xs (aF 0)) (fun yy0=>l.length - yy0.1) (fun yy0=> .br (.elem _ aI l (fun e25=> .call (.agg [vI ((aF e25).num),vI ((aF e25).den)]) []<| .elem _ aB xs (fun e32=>bX (pK (aF e25) e32)<| bX (pJ yy0.2 ((bQ (aF e25) e32).1))<| .br (.fin []) (.lit<| .lit<| .br (.fin []) (.back [(600,600)]))))) (.fin [])))) (p:=Lx (l.map aI)<| Lx (xs.map aB)<| jL (0:Int)/\(Lm aI l/\(Lm aB xs/\Nb ((l.length:Int)=(xs.length:Int)) (0=((cC l xs).1.num)/\0=((cC l xs).1.den)/\(false)=((cC l xs).2)/\True) (Lm aI l/\((∃(k:Nat) (s:aC),0=(k:Int)/\((aF (0:Int)).num)=s.num/\((aF (0:Int)).den)=s.den/\k<=l.length/\dM (l.drop k) (xs.drop k) s=dM l xs (aF 0))/\ ∀(k:Nat) (s:aC),(k<=l.length/\dM (l.drop k) (xs.drop k) s=dM l xs (aF 0))->Br ((k:Int)<(l.length:Int)) (0<=(k:Int)/\Em aI l k fun e25=>jL e25/\0<=(k:Int)/\Em aB xs k fun e32=>tL (aF e25) e32/\tK s ((bQ (aF e25) e32).1)/\Nr ((bQ (aF e25) e32).2) (0=((cC l xs).1.num)/\0=((cC l xs).1.den)/\(false)=((cC l xs).2)/\True) (Nr ((cT s ((bQ (aF e25) e32).1)).2) (0=((cC l xs).1.num)/\0=((cC l xs).1.den)/\(false)=((cC l xs).2)/\True) (cR ((k:Int)+1)/\ ∃(k' :Nat) (s' :aC),((k:Int)+1)=(k' :Int)/\(((cT s ((bQ (aF e25) e32).1)).1).num)=s'.num/\(((cT s ((bQ (aF e25) e32).1)).1).den)=s'.den/\(k' <=l.length/\dM (l.drop k') (xs.drop k') s' =dM l xs (aF 0))/\l.length - k' <l.length - k))) (s.num=((cC l xs).1.num)/\s.den=((cC l xs).1.den)/\(true)=((cC l xs).2)/\True)))))) (by kernel_rfl) ?_;refine lx fun n0=>lx fun n1=>?_;refine⟨pO (0:Int),List.length_map _,List.length_map _,dn (fun c0=>?_) fun c0=>?_⟩
 ·apply et3<;>(first|(rw[iV (by omega)]<;>rfl)|(rw[dD (by omega),<-hd,gC h25 h32 (.inl g45)]<;>rfl)|(rw[dD (by omega),<-hd,gC h25 h32 (.inr c2)]<;>rfl)|(rw[dD (by omega),<-hd,jK (by omega)]<;>rfl))
 ·refine⟨List.length_map _,⟨0,aF 0,rfl,rfl,rfl,Nat.zero_le _,rfl⟩,fun k s ⟨hk,hd⟩=>?_⟩;refine dd (fun c1=>?_) fun c1=>?_
  ·refine aBD fun e25 h25=>?_;refine⟨pO e25,by omega,rfl,by omega,fun e32 h32=>?_⟩;refine⟨aEA (aF e25) e32,aDz s ((bQ (aF e25) e32).1),dm (fun g45=>?_) fun g45=>?_⟩
   ·apply et3<;>(first|(rw[iV (by omega)]<;>rfl)|(rw[dD (by omega),<-hd,gC h25 h32 (.inl g45)]<;>rfl)|(rw[dD (by omega),<-hd,gC h25 h32 (.inr c2)]<;>rfl)|(rw[dD (by omega),<-hd,jK (by omega)]<;>rfl))
   ·refine dm (fun c2=>?_) fun c2=>?_
    ·apply et3<;>(first|(rw[iV (by omega)]<;>rfl)|(rw[dD (by omega),<-hd,gC h25 h32 (.inl g45)]<;>rfl)|(rw[dD (by omega),<-hd,gC h25 h32 (.inr c2)]<;>rfl)|(rw[dD (by omega),<-hd,jK (by omega)]<;>rfl))
    ·refine aBV ?_;exact⟨k+1,(cT s (bQ (aF e25) e32).1).1,rfl,rfl,rfl,⟨by omega,by rw[<-hd,aEC h25 h32 g45 c2]⟩,by omega⟩
  ·apply et3<;>(first|(rw[iV (by omega)]<;>rfl)|(rw[dD (by omega),<-hd,gC h25 h32 (.inl g45)]<;>rfl)|(rw[dD (by omega),<-hd,gC h25 h32 (.inr c2)]<;>rfl)|(rw[dD (by omega),<-hd,jK (by omega)]<;>rfl))
abbrev kW (l:List Int)(xs:List aC):AV × List (Nat × Rs):=(.tup [.agg [vI ((dM l xs (aF 0)).1.num),vI ((dM l xs (aF 0)).1.den)],vB ((dM l xs (aF 0)).2)],[])
abbrev nD (l:List Int)(xs:List aC):Prop:=Cn 58 [.one (.sl 3 1 (l.map aI)),.one (.sl 30 2 (xs.map aB))] (kW l xs).1 (kW l xs).2
theorem vK (l:List Int)(xs:List aC):nD l xs:=by
 refine cq Try.func58 (.call (.agg [vI ((aF (0:Int)).num),vI ((aF (0:Int)).den)]) []<| .loop (Nat × aC) (Q2 Nat aC) ([7,8,9,10,11]++rg 13 37++[51]) [600,800,1000] (fun yy0=>[(7,vI (yy0.1:Int))]) (fun yy0=>[(600,some (.box 30 [vI yy0.2.num,vI yy0.2.den]))]) (fun yy0=>yy0.1<=l.length/\dM (l.drop yy0.1) (xs.drop yy0.1) yy0.2=dM l xs (aF 0)) (fun yy0=>l.length - yy0.1) (fun yy0=> .len l.length<| .br (.len xs.length<| .lit<| .lit<| .br (.elem _ aI l (fun e28=> .call (.agg [vI ((aF e28).num),vI ((aF e28).den)]) []<| .elem _ aB xs (fun e33=>bX (kT (aF e28) e33)<| bX (nA yy0.2 ((bQ (aF e28) e33).1))<| .br (.fin []) (.lit<| .lit<| .br (.fin []) (.back [(600,600)]))))) (.fin [])) (.fin []))) (p:=Lx (l.map aI)<| Lx (xs.map aB)<| eM (0:Int)/\((∃(k:Nat) (s:aC),0=(k:Int)/\((aF (0:Int)).num)=s.num/\((aF (0:Int)).den)=s.den/\k<=l.length/\dM (l.drop k) (xs.drop k) s=dM l xs (aF 0))/\ ∀(k:Nat) (s:aC),(k<=l.length/\dM (l.drop k) (xs.drop k) s=dM l xs (aF 0))->Lm aI l/\Br ((k:Int)<(l.length:Int)) (Lm aB xs/\Br ((k:Int)<(xs.length:Int)) (0<=(k:Int)/\Em aI l k fun e28=>eM e28/\0<=(k:Int)/\Em aB xs k fun e33=>nB (aF e28) e33/\pM s ((bQ (aF e28) e33).1)/\Nr ((bQ (aF e28) e33).2) (0=((dM l xs (aF 0)).1.num)/\0=((dM l xs (aF 0)).1.den)/\(false)=((dM l xs (aF 0)).2)/\True) (Nr ((cT s ((bQ (aF e28) e33).1)).2) (0=((dM l xs (aF 0)).1.num)/\0=((dM l xs (aF 0)).1.den)/\(false)=((dM l xs (aF 0)).2)/\True) (cR ((k:Int)+1)/\ ∃(k' :Nat) (s' :aC),((k:Int)+1)=(k' :Int)/\(((cT s ((bQ (aF e28) e33).1)).1).num)=s'.num/\(((cT s ((bQ (aF e28) e33).1)).1).den)=s'.den/\(k' <=l.length/\dM (l.drop k') (xs.drop k') s' =dM l xs (aF 0))/\l.length - k' <l.length - k))) (s.num=((dM l xs (aF 0)).1.num)/\s.den=((dM l xs (aF 0)).1.den)/\(true)=((dM l xs (aF 0)).2)/\True)) (s.num=((dM l xs (aF 0)).1.num)/\s.den=((dM l xs (aF 0)).1.den)/\(true)=((dM l xs (aF 0)).2)/\True))) (by kernel_rfl) ?_;refine lx fun n0=>lx fun n1=>?_;refine⟨iC (0:Int),⟨0,aF 0,rfl,rfl,rfl,Nat.zero_le _,rfl⟩,fun k s ⟨hk,hd⟩=>?_⟩;refine⟨List.length_map _,dd (fun g17=>?_) fun g17=>?_⟩
 ·refine⟨List.length_map _,dd (fun c0=>?_) fun c0=>?_⟩
  ·refine aBD fun e28 h28=>?_;refine⟨iC e28,by omega,rfl,by omega,fun e33 h33=>?_⟩;refine⟨vG (aF e28) e33,aA0 s ((bQ (aF e28) e33).1),dm (fun g46=>?_) fun g46=>?_⟩
   ·apply et3<;>(first|(rw[<-hd,gC h28 h33 (.inl g46)]<;>rfl)|(rw[<-hd,gC h28 h33 (.inr c1)]<;>rfl)|(rw[<-hd,jK (by omega)]<;>rfl))
   ·refine dm (fun c1=>?_) fun c1=>?_
    ·apply et3<;>(first|(rw[<-hd,gC h28 h33 (.inl g46)]<;>rfl)|(rw[<-hd,gC h28 h33 (.inr c1)]<;>rfl)|(rw[<-hd,jK (by omega)]<;>rfl))
    ·refine aBV ?_;exact⟨k+1,(cT s (bQ (aF e28) e33).1).1,rfl,rfl,rfl,⟨by omega,by rw[<-hd,aEC h28 h33 g46 c1]⟩,by omega⟩
  ·apply et3<;>(first|(rw[<-hd,gC h28 h33 (.inl g46)]<;>rfl)|(rw[<-hd,gC h28 h33 (.inr c1)]<;>rfl)|(rw[<-hd,jK (by omega)]<;>rfl))
 ·apply et3<;>(first|(rw[<-hd,gC h28 h33 (.inl g46)]<;>rfl)|(rw[<-hd,gC h28 h33 (.inr c1)]<;>rfl)|(rw[<-hd,jK (by omega)]<;>rfl))
abbrev fI (p:aQ)(ys:List aC):AV × List (Nat × Rs):=(.tup [.agg [vI ((cS p ys).1.num),vI ((cS p ys).1.den)],vB ((cS p ys).2)],[])
abbrev fX (p:aQ)(ys:List aC):Prop:=Cn 22 [.agg [.sl 3 1 (p.objective.map aI),.sl 24 1 (p.rows.map aZ),.sl 3 1 (p.limits.map aI)],.one (.sl 30 2 (ys.map aB))] (fI p ys).1 (fI p ys).2
theorem kA (p:aQ)(ys:List aC)(hrs: ∀r∈p.rows,r.length<=1048576):fX p ys:=by
 refine cq Try.func22 (.call (vB (aW p)) []<| .br (.fin []) (bX (jM p.limits ys)<| .fin [])) (p:=Lx (p.objective.map aI)<| Lx (p.rows.map aZ)<| Lx (p.limits.map aI)<| Lx (ys.map aB)<| iG p/\Nr (aW p) (0=((cS p ys).1.num)/\0=((cS p ys).1.den)/\(false)=((cS p ys).2)/\True) (lR p.limits ys/\((cC p.limits ys).1.num)=((cS p ys).1.num)/\((cC p.limits ys).1.den)=((cS p ys).1.den)/\((cC p.limits ys).2)=((cS p ys).2)/\True)) (by kernel_rfl) ?_;refine lx fun n0=>lx fun n1=>lx fun n2=>lx fun n3=>?_;refine⟨mJ p (by first|assumption|exact hrs),dm (fun c0=>?_) fun c0=>?_⟩
 ·apply et3<;>(first|(rw[vJ c0]<;>rfl)|(rw[iW c0]<;>rfl))
 ·refine⟨sE p.limits ys,?_,?_,?_,trivial⟩<;>(first|(rw[vJ c0]<;>rfl)|(rw[iW c0]<;>rfl))
abbrev tO (p:aQ)(ys:List aC):AV × List (Nat × Rs):=(.tup [.agg [vI ((cS p ys).1.num),vI ((cS p ys).1.den)],vB ((cS p ys).2)],[])
abbrev aA3 (p:aQ)(ys:List aC):Prop:=Cn 50 [.agg [.sl 3 1 (p.objective.map aI),.sl 24 1 (p.rows.map aZ),.sl 3 1 (p.limits.map aI)],.one (.sl 30 2 (ys.map aB))] (tO p ys).1 (tO p ys).2
theorem aIi (p:aQ)(ys:List aC):aA3 p ys:=by
 refine cq Try.func50 (.call (vB (aW p)) []<| .br (.fin []) (.len ys.length<| .len p.limits.length<| .lit<| .lit<| .br (.fin []) (bX (kW p.limits ys)<| .fin []))) (p:=Lx (p.objective.map aI)<| Lx (p.rows.map aZ)<| Lx (p.limits.map aI)<| Lx (ys.map aB)<| iH p/\Nr (aW p) (0=((cS p ys).1.num)/\0=((cS p ys).1.den)/\(false)=((cS p ys).2)/\True) (Lm aB ys/\Lm aI p.limits/\Nb ((ys.length:Int)=(p.limits.length:Int)) (0=((cS p ys).1.num)/\0=((cS p ys).1.den)/\(false)=((cS p ys).2)/\True) (nD p.limits ys/\((dM p.limits ys (aF 0)).1.num)=((cS p ys).1.num)/\((dM p.limits ys (aF 0)).1.den)=((cS p ys).1.den)/\((dM p.limits ys (aF 0)).2)=((cS p ys).2)/\True))) (by kernel_rfl) ?_;refine lx fun n0=>lx fun n1=>lx fun n2=>lx fun n3=>?_;refine⟨mK p,dm (fun g11=>?_) fun g11=>?_⟩
 ·apply et3<;>(first|(rw[vJ g11]<;>rfl)|(rw[iW g11,iV (by omega)]<;>rfl)|(rw[iW g11,dD (by omega)]<;>rfl))
 ·refine⟨List.length_map _,List.length_map _,dn (fun c0=>?_) fun c0=>?_⟩
  ·apply et3<;>(first|(rw[vJ g11]<;>rfl)|(rw[iW g11,iV (by omega)]<;>rfl)|(rw[iW g11,dD (by omega)]<;>rfl))
  ·refine⟨vK p.limits ys,?_,?_,?_,trivial⟩<;>(first|(rw[vJ g11]<;>rfl)|(rw[iW g11,iV (by omega)]<;>rfl)|(rw[iW g11,dD (by omega)]<;>rfl))
abbrev aA4 (l:List aC)(n:Int):Prop:=Cn 77 [.one (.sl 30 2 (l.map aB)),.one (.int .i64 n)] (vB (decide ((l.length:Int)=n)&&l.all aJ)) []
theorem aIj (l:List aC)(n:Int):aA4 l n:=by
 refine cq Try.func77 (.len l.length<| .loop Nat (Q1 Nat) ([6]++rg 9 8) [600] (fun k=>[(9,vI (k:Int))]) (fun k=>[]) (fun k=>k<=l.length/\(l.take k).all aJ=true) (fun k=>l.length - k) (fun k=> .br (.elem _ aB l (fun e11=> .call (vB (aJ e11)) []<| .br (.fin []) (.back []))) (.len l.length<| .fin []))) (p:=Lx (l.map aB)<| Lm aB l/\((∃(k:Nat),0=(k:Int)/\k<=l.length/\(l.take k).all aJ=true)/\ ∀(k:Nat),(k<=l.length/\(l.take k).all aJ=true)->Br ((k:Int)<(l.length:Int)) (0<=(k:Int)/\Em aB l k fun e11=>eB e11/\Nr (aJ e11) ((false)=(decide ((l.length:Int)=n)&&l.all aJ)/\True) (cR ((k:Int)+1)/\ ∃(k' :Nat),((k:Int)+1)=(k' :Int)/\(k' <=l.length/\(l.take k').all aJ=true)/\l.length - k' <l.length - k)) (Lm aB l/\(decide ((l.length:Int)=n))=(decide ((l.length:Int)=n)&&l.all aJ)/\True))) (by kernel_rfl) ?_;refine lx fun n0=>?_;refine⟨List.length_map _,⟨0,rfl,Nat.zero_le _,rfl⟩,fun k ⟨hk,ha⟩=>?_⟩;refine dd (fun c0=>?_) fun c0=>?_
 ·refine aBD fun e11 h11=>?_;refine⟨gF e11,dm (fun c1=>?_) fun c1=>?_⟩
  ·apply et1
   ·first|(rw[fE h11 c1,Bool.and_false];done)|(rw[eZ (by omega) ha,Bool.and_true];done)
  ·refine aBV ?_;exact⟨k+1,rfl,⟨by omega,gY h11 ha c1⟩,by omega⟩
 ·refine⟨List.length_map _,?_,trivial⟩
  ·first|(rw[fE h11 c1,Bool.and_false];done)|(rw[eZ (by omega) ha,Bool.and_true];done)
abbrev wN (l:List aC)(n:Int):Prop:=Cn 53 [.one (.sl 30 2 (l.map aB)),.one (.int .i64 n)] (vB (cW l n)) []
theorem aFv (l:List aC)(n:Int):wN l n:=by
 refine cq Try.func53 (.len l.length<| .loop Nat (Q1 Nat) ([6]++rg 9 8) [600] (fun k=>[(9,vI (k:Int))]) (fun k=>[]) (fun k=>k<=l.length/\(l.take k).all (fun r=> !decide (r.num<0))=true) (fun k=>l.length - k) (fun k=> .br (.elem _ aB l (fun e11=> .br (.fin []) (.back []))) (.call (vB (decide ((l.length:Int)=n)&&l.all aJ)) []<| .fin []))) (p:=Lx (l.map aB)<| Lm aB l/\((∃(k:Nat),0=(k:Int)/\k<=l.length/\(l.take k).all (fun r=> !decide (r.num<0))=true)/\ ∀(k:Nat),(k<=l.length/\(l.take k).all (fun r=> !decide (r.num<0))=true)->Br ((k:Int)<(l.length:Int)) (0<=(k:Int)/\Em aB l k fun e11=>Br (e11.num<0) ((false)=(cW l n)/\True) (cR ((k:Int)+1)/\ ∃(k' :Nat),((k:Int)+1)=(k' :Int)/\(k' <=l.length/\(l.take k').all (fun r=> !decide (r.num<0))=true)/\l.length - k' <l.length - k)) (aA4 l n/\(decide ((l.length:Int)=n)&&l.all aJ)=(cW l n)/\True))) (by kernel_rfl) ?_;refine lx fun n0=>?_;refine⟨List.length_map _,⟨0,rfl,Nat.zero_le _,rfl⟩,fun k ⟨hk,ha⟩=>?_⟩;refine dd (fun c0=>?_) fun c0=>?_
 ·refine aBD fun e11 h11=>?_;refine dd (fun c1=>?_) fun c1=>?_
  ·apply et1
   ·first|(rw[mE,fE (p:=fun r:aC=> !decide (r.num<0)) h11 (by rw[decide_eq_true c1];rfl),Bool.and_false];done)|(rw[mE,eZ (by omega) ha,Bool.and_true];done)
  ·refine aBV ?_;exact⟨k+1,rfl,⟨by omega,gY h11 ha (by rw[decide_eq_false c1];rfl)⟩,by omega⟩
 ·refine⟨aIj l n,?_,trivial⟩
  ·first|(rw[mE,fE (p:=fun r:aC=> !decide (r.num<0)) h11 (by rw[decide_eq_true c1];rfl),Bool.and_false];done)|(rw[mE,eZ (by omega) ha,Bool.and_true];done)
abbrev tP (l:List aC):Prop:=Cn 57 [.one (.sl 30 2 (l.map aB))] (vB (l.all mD)) []
theorem aED (l:List aC):tP l:=by
 refine cq Try.func57 (.loop Nat (Q1 Nat) (rg 3 21) [] (fun k=>[(3,vI (k:Int))]) (fun k=>[]) (fun k=>k<=l.length/\(l.take k).all mD=true) (fun k=>l.length - k) (fun k=> .len l.length<| .br (.elem _ aB l (fun e12=> .call (vB (aJ e12)) []<| .br (.fin []) (.elem _ aB l (fun e19=> .lit<| .lit<| .lit<| .lit<| .br (.fin []) (.back []))))) (.fin []))) (p:=Lx (l.map aB)<| (∃(k:Nat),0=(k:Int)/\k<=l.length/\(l.take k).all mD=true)/\ ∀(k:Nat),(k<=l.length/\(l.take k).all mD=true)->Lm aB l/\Br ((k:Int)<(l.length:Int)) (0<=(k:Int)/\Em aB l k fun e12=>dN e12/\Nr (aJ e12) ((false)=(l.all mD)/\True) (0<=(k:Int)/\Em aB l k fun e19=>Br (e19.num<0) ((false)=(l.all mD)/\True) (cR ((k:Int)+1)/\ ∃(k' :Nat),((k:Int)+1)=(k' :Int)/\(k' <=l.length/\(l.take k').all mD=true)/\l.length - k' <l.length - k))) ((true)=(l.all mD)/\True)) (by kernel_rfl) ?_;refine lx fun n0=>?_;refine⟨⟨0,rfl,Nat.zero_le _,rfl⟩,fun k ⟨hk,ha⟩=>?_⟩;refine⟨List.length_map _,dd (fun c0=>?_) fun c0=>?_⟩
 ·refine aBD fun e12 h12=>?_;refine⟨fH e12,dm (fun g16=>?_) fun g16=>?_⟩
  ·apply et1
   ·first|(rw[fE h12 (by rw[mD,g16];rfl)];done)|(rw[fE h12 (by rw[mD,g16,decide_eq_true c1];rfl)];done)|(rw[eZ (by omega) ha];done)
  ·refine aBD fun e19 h19=>?_;obtain rfl:=(fS h12 h19).symm;refine dd (fun c1=>?_) fun c1=>?_
   ·apply et1
    ·first|(rw[fE h12 (by rw[mD,g16];rfl)];done)|(rw[fE h12 (by rw[mD,g16,decide_eq_true c1];rfl)];done)|(rw[eZ (by omega) ha];done)
   ·refine aBV ?_;exact⟨k+1,rfl,⟨by omega,gY h12 ha (by rw[mD,g16,decide_eq_false c1];rfl)⟩,by omega⟩
 ·apply et1
  ·first|(rw[fE h12 (by rw[mD,g16];rfl)];done)|(rw[fE h12 (by rw[mD,g16,decide_eq_true c1];rfl)];done)|(rw[eZ (by omega) ha];done)
def cN (r:aC):aC:=⟨-r.num,r.den⟩
def sQ:aC:=⟨1,1⟩
def wO:aC:=⟨0,1⟩
def bC (a b c:aC):aC × Bool:=if b.num=0\/c.num=0 then (a,true) else ((iU a (bQ b c).1).1,(bQ b c).2&&(iU a (bQ b c).1).2)
theorem aEE (n d:Int):Int.gcd (-n) d=Int.gcd n d:=by simp[Int.gcd]
theorem aFL (n d:Int):aX (-n) d=(-(aX n d).1,(aX n d).2.1,(aX n d).2.2):=by
 rcases Int.lt_trichotomy d 0 with h | h | h
 ·rw[rE h,rE h,aEE (-n),Int.neg_tdiv,kV];split<;>rfl
 ·subst h;rw[iF,iF];rfl
 rw[oE h,oE h,aEE,Int.neg_tdiv,kV];split<;>rfl
theorem tQ (n d:Int):aX (-n) (-d)=aX n d:=by
 rcases Int.lt_trichotomy d 0 with h | h | h
 ·rw[rE h,oE (show 0< -d by omega)]
 ·subst h;rw[Int.neg_zero,iF,iF]
 rw[oE h,rE (show -d<0 by omega),Int.neg_neg,Int.neg_neg]
theorem aIk {n d:Int}(h:(aX n d).2.2=true):bW (aX n d).1 (aX n d).2.1=true:=by
 rcases Int.lt_trichotomy d 0 with q | q | q
 ·rw[rE q] at*;split at h
  ·rename_i hv;rw[if_pos hv];exact hv
  cases h
 ·subst q;rw[iF] at h;cases h
 rw[oE q] at*;split at h
 ·rename_i hv;rw[if_pos hv];exact hv
 cases h
theorem aGy {n d:Int}(h:(aX n d).2.2=false):aX n d=(0,0,false):=by
 rcases Int.lt_trichotomy d 0 with q | q | q
 ·rw[rE q] at*;split at h
  ·cases h
  rename_i hv;rw[if_neg hv]
 ·subst q;exact iF _
 rw[oE q] at*;split at h
 ·cases h
 rename_i hv;rw[if_neg hv]
theorem sF {n d:Int}(h:bW n d=true):aX n d=(n,d,true):=by
 obtain⟨h1,_,_,_,h2⟩:=tJ h;rw[oE (by omega),h2];simp only[Int.cast_ofNat_Int,Int.tdiv_one];rw[if_pos h]
theorem aIl (b c:aC):bQ (cN b) c=(cN (bQ b c).1,(bQ b c).2):=by
 simp only[bQ,cN,aGv,kV];split
 ·rw[Int.neg_mul,aFL];rfl
 rfl
theorem aIm (a p:aC):cT a (cN p)=iU a p:=by
 simp only[cT,iU,cN,aIg]
theorem aGz (a b c:aC):(if (cN b).num=0\/c.num=0 then (a,true) else ((cT a (bQ (cN b) c).1).1,(bQ (cN b) c).2&&(cT a (bQ (cN b) c).1).2))=bC a b c:=by
 rw[aIl,aIm,bC];have e:(cN b).num=0↔b.num=0:=by simp only[cN];omega
 simp only[e]
theorem aIn {q:Int × Int × Bool}{n d:Int}{p:Prop}[Decidable p](e:q=if p then aX n d else (0,0,false))(h:(eS q).2=true):aJ (eS q).1=true:=by
 subst e;split at h
 ·rename_i hp;rw[if_pos hp];exact aIk h
 cases h
theorem aK5 {a c:aC}(h:(iU a c).2=true):aJ (iU a c).1=true:=aIn (q:=aCm a.num a.den c.num c.den) rfl h
theorem aK6 {a c:aC}(h:(cT a c).2=true):aJ (cT a c).1=true:=aIn (q:=aCl a.num a.den c.num c.den) rfl h
theorem sG {a c:aC}(h:(aR a c).2=true):aJ (aR a c).1=true:=aIn (q:=aBT a.num a.den c.num c.den) rfl h
theorem aEF {a c:aC}(h:(aR a c).2=false):(aR a c).1=⟨0,0⟩:=by
 unfold aR aBT at*;split at h
 ·rename_i hp;rw[if_pos hp,aGy h];rfl
 rename_i hp;rw[if_neg hp];rfl
theorem aA5 {a b c:aC}(ha:aJ a=true)(h:(bC a b c).2=true):aJ (bC a b c).1=true:=by
 unfold bC at*;split at h
 ·rename_i hp;rw[if_pos hp];exact ha
 rename_i hp;rw[if_neg hp];simp only[Bool.and_eq_true] at h;exact aK5 h.2
theorem aCr {a:aC}(h:aJ a=true)(h0:a.num≠0):aR sQ a=((if 0<a.num then ⟨a.den,a.num⟩ else ⟨-a.den,-a.num⟩),true):=by
 obtain⟨h1,h2,h3,h4,h5⟩:=bA h;have v1:bW 1 1=true:=by decide
 rw[aR,show aBT sQ.num sQ.den a.num a.den=aX (1*a.den) (1*a.num) from oP v1 h,Int.one_mul,Int.one_mul];by_cases hp:0<a.num
 ·rw[if_pos hp,sF (by simp only[bW,Int.gcd_comm a.den,h5,Bool.and_eq_true,decide_eq_true_eq,and_true];exact⟨sW (by omega) (by omega),sW (by omega) (by omega)⟩)];rfl
 rw[if_neg hp,<-tQ,sF (by
  have e:Int.gcd (-a.den) (-a.num)=1:=by rw[aIa,Int.gcd_comm];exact h5
  simp only[bW,e,Bool.and_eq_true,decide_eq_true_eq,and_true];exact⟨sW (by omega) (by omega),sW (by omega) (by omega)⟩)];rfl
theorem aK7 {c a:aC}(hc:aJ c=true)(ha:aJ a=true)(h0:a.num≠0):bQ c (aR sQ a).1=aR c a:=by
 have hi:=sG (show (aR sQ a).2=true by rw[aCr ha h0]);rw[aCr ha h0] at*;rw[aR,oP hc ha];split at hi
 ·rename_i hp;rw[if_pos hp,bQ,mX hc hi]
 rename_i hp;rw[if_neg hp,bQ,mX hc hi];simp only[Int.mul_neg];rw[tQ]
theorem zero_sub {x:aC}(h:aJ x=true):iU wO x=(cN x,true):=by
 have v:bW 0 1=true:=by decide
 rw[iU,show aCm wO.num wO.den x.num x.den=aX (0*x.den - x.num*1) (1*x.den) from aAL v h];rw[Int.zero_mul,Int.mul_one,Int.one_mul,Int.zero_sub,sF (by rw[kV];exact h)];rfl
theorem aBv {d:Int}(h:d≠0):aX 0 d=(0,1,true):=by
 have key: ∀e:Int,0<e->aX 0 e=(0,1,true):=fun e he=>by
  have hg:((Int.gcd 0 e:Nat):Int)=e:=by rw[Int.gcd_zero_left];omega
  rw[oE he,hg,Int.zero_tdiv,Int.tdiv_self (by omega)];rfl
 rcases Int.lt_or_gt_of_ne h with q | q
 ·rw[<-tQ,Int.neg_zero];exact key _ (by omega)
 exact key _ q
theorem aIo {c a:aC}(hc:aJ c=true)(ha:aJ a=true)(h0:a.num≠0):bC wO c (aR sQ a).1=(cN (aR c a).1,(aR c a).2):=by
 have hb:=bA hc;have hba:=bA ha;by_cases hz:c.num=0
 ·have hd:c.den*a.num≠0:=Int.mul_ne_zero (by omega) h0;rw[bC,if_pos (.inl hz),aR,oP hc ha,hz,Int.zero_mul,aBv hd];rfl
 have hn: ¬(c.num=0\/(aR sQ a).1.num=0):=by
  rw[aCr ha h0];rintro(q | q)
  ·exact hz q
  revert q;split
  ·show ¬a.den=0;omega
  show ¬ -a.den=0;omega
 rw[bC,if_neg hn,aK7 hc ha h0];cases e:(aR c a).2 with
 | true=>rw[zero_sub (sG e)];rfl
 | false=>rw[aEF e];rfl
end Go.Proofs.Ytepphdhnkaiamaa
namespace Go.Proofs
open Go.Shelf
namespace Ytepphdhnkaiamaa
def Try.lays189_ren : Go.Shelf.Ren := ⟨fun | 189 => 76 | 125 => 92 | 257 => 91 | 128 => 103 | 129 => 104 | 294 => 94 | 295 => 95 | 296 => 96 | 297 => 97 | 298 => 98 | 299 => 99 | 216 => 100 | 300 => 101 | 301 => 102 | 328 => 105 | 329 => 106 | 330 => 107 | 331 => 108 | 332 => 109 | 215 => 110 | 343 => 111 | n => n, fun | 28 => 24 | 3 => 3 | 46 => 94 | 0 => 0 | 51 => 105 | 53 => 107 | 4 => 4 | 183 => 97 | 182 => 96 | 131 => 102 | 5 => 5 | 9 => 9 | 218 => 108 | 222 => 112 | 228 => 115 | 229 => 116 | n => n, fun | n => n⟩
theorem Try.lays189 : Go.Proofs.Lays.n189 Try.prog Try.lays189_ren := {
  mixed := by kernel_rfl
  f125 := Try.func92.trans (congrArg some (by kernel_rfl))
  f128 := Try.func103.trans (congrArg some (by kernel_rfl))
  f129 := Try.func104.trans (congrArg some (by kernel_rfl))
  f189 := Try.func76.trans (congrArg some (by kernel_rfl))
  f215 := Try.func110.trans (congrArg some (by kernel_rfl))
  f216 := Try.func100.trans (congrArg some (by kernel_rfl))
  f257 := Try.func91.trans (congrArg some (by kernel_rfl))
  f294 := Try.func94.trans (congrArg some (by kernel_rfl))
  f295 := Try.func95.trans (congrArg some (by kernel_rfl))
  f296 := Try.func96.trans (congrArg some (by kernel_rfl))
  f297 := Try.func97.trans (congrArg some (by kernel_rfl))
  f298 := Try.func98.trans (congrArg some (by kernel_rfl))
  f299 := Try.func99.trans (congrArg some (by kernel_rfl))
  f300 := Try.func101.trans (congrArg some (by kernel_rfl))
  f301 := Try.func102.trans (congrArg some (by kernel_rfl))
  f328 := Try.func105.trans (congrArg some (by kernel_rfl))
  f329 := Try.func106.trans (congrArg some (by kernel_rfl))
  f330 := Try.func107.trans (congrArg some (by kernel_rfl))
  f331 := Try.func108.trans (congrArg some (by kernel_rfl))
  f332 := Try.func109.trans (congrArg some (by kernel_rfl))
  f343 := Try.func111.trans (congrArg some (by kernel_rfl))
  t0 := Try.underlying0
  a0 := Try.isAgg0
  z0 := Try.sizeOf0
  v0 := Try.zeroValue0
  t3 := Try.underlying3
  a3 := Try.isAgg3
  z3 := Try.sizeOf3
  v3 := Try.zeroValue3
  t4 := Try.underlying4
  a4 := Try.isAgg4
  z4 := Try.sizeOf4
  v4 := Try.zeroValue4
  t5 := Try.underlying5
  a5 := Try.isAgg5
  z5 := Try.sizeOf5
  v5 := Try.zeroValue5
  t9 := Try.underlying9
  a9 := Try.isAgg9
  z9 := Try.sizeOf9
  v9 := Try.zeroValue9
  t28 := Try.underlying24
  a28 := Try.isAgg24
  z28 := Try.sizeOf24
  v28 := Try.zeroValue24
  t46 := Try.underlying94
  a46 := Try.isAgg94
  z46 := Try.sizeOf94
  v46 := Try.zeroValue94
  t51 := Try.underlying105
  a51 := Try.isAgg105
  z51 := Try.sizeOf105
  v51 := Try.zeroValue105
  t53 := Try.underlying107
  a53 := Try.isAgg107
  z53 := Try.sizeOf107
  v53 := Try.zeroValue107
  t131 := Try.underlying102
  a131 := Try.isAgg102
  z131 := Try.sizeOf102
  v131 := Try.zeroValue102
  t182 := Try.underlying96
  a182 := Try.isAgg96
  z182 := Try.sizeOf96
  v182 := Try.zeroValue96
  t183 := Try.underlying97
  a183 := Try.isAgg97
  z183 := Try.sizeOf97
  v183 := Try.zeroValue97
  t218 := Try.underlying108
  a218 := Try.isAgg108
  z218 := Try.sizeOf108
  v218 := Try.zeroValue108
  t222 := Try.underlying112
  a222 := Try.isAgg112
  z222 := Try.sizeOf112
  v222 := Try.zeroValue112
  t228 := Try.underlying115
  a228 := Try.isAgg115
  z228 := Try.sizeOf115
  v228 := Try.zeroValue115
  t229 := Try.underlying116
  a229 := Try.isAgg116
  z229 := Try.sizeOf116
  v229 := Try.zeroValue116 }
end Ytepphdhnkaiamaa
end Go.Proofs
namespace Go.Proofs.Ytepphdhnkaiamaa
open Go.ChangeShapes Go.WideShapes Go.ChangeAt Go.RowKit
set_option linter.unusedVariables false
set_option linter.unusedSimpArgs false
end Go.Proofs.Ytepphdhnkaiamaa
