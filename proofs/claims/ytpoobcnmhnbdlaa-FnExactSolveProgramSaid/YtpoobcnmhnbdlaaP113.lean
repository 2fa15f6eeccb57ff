/-
  Contracts and plain laws, joined: part 14.
-/
import Derived.Test.YtpoobcnmhnbdlaaP13
namespace Go.Proofs.Ytpoobcnmhnbdlaa
open Go.ChangeShapes Go.WideShapes Go.ChangeAt Go.RowKit
set_option linter.unusedVariables false
set_option linter.unusedSimpArgs false
set_option maxRecDepth 100000
set_option maxHeartbeats 4000000
def aEh (k:Int) (_:Int):Int:=k
def mH (_:Int):Nat:=1
theorem wY {α:Type} {s c:α→Nat} (h: ∀x,s x≤4+5*c x): ∀l:List α,cZ s l≤5*aCr c l
 | []=>by simp [cZ,aCr]
 | a::l=>by
   have h1:=h a
   have h2:=wY h l
   simp only [cZ,aCr,List.map_cons,List.sum_cons,List.length_cons] at*
   omega
theorem wZ {α:Type} {s:α→Nat} (h: ∀x,s x≤4): ∀l:List α,cZ s l≤5*l.length
 | []=>by simp [cZ]
 | a::l=>by
   have h1:=h a
   have h2:=wZ h l
   simp only [cZ,List.map_cons,List.sum_cons,List.length_cons] at*
   omega
theorem aKD {α:Type} {s c:α→Nat} (h: ∀x,s x≤4+5*c x) (l:List α) (k:Nat) (hk:k≤l.length):cZ s (l.take k)≤5*(k+cZ c (l.take k)):=by
 have:=wY h (l.take k)
 unfold aCr at this
 rw [List.length_take,Nat.min_eq_left hk] at this
 exact this
theorem aIy {α:Type} {s:α→Nat} (h: ∀x,s x≤4) (l:List α) (k:Nat) (hk:k≤l.length):cZ s (l.take k)≤5*k:=by
 have:=wZ h (l.take k)
 rw [List.length_take,Nat.min_eq_left hk] at this
 exact this
def iE (k:Int) (l:List Int):List Int:=rG aEh mH k l
def bE (l:List Int):Nat:=cZ mH l
theorem gR (l:List Int):bE l≤5*bL l:=wZ (fun _=>by simp [mH]) l
def aCo (k:Int) (l:List (List Int)):List (List Int):=rG iE bE k l
def mI (l:List (List Int)):Nat:=cZ bE l
theorem yI (l:List (List Int)):mI l≤5*gV l:=wY (fun y=>by have:=gR y;omega) l
def jN (k:Int) (x:aC):aC:=⟨k,k+1⟩
def cR (x:aC):Nat:=1+1
theorem pP (x:aC):cR x≤4+5*qC x:=by
 unfold cR qC;omega
def bY (k:Int) (l:List aC):List aC:=rG jN cR k l
def aS (l:List aC):Nat:=cZ cR l
theorem cO (l:List aC):aS l≤5*aV l:=wZ (fun x=>by have:=pP x;simpa [qC] using this) l
def eS (k:Int) (l:List (List aC)):List (List aC):=rG bY aS k l
def bM (l:List (List aC)):Nat:=cZ aS l
theorem jO (l:List (List aC)):bM l≤5*bQ l:=wY (fun y=>by have:=cO y;omega) l
def nV (k:Int) (x:ProgramD):ProgramD:=⟨iE (k) x.objective,aCo (k+((bE x.objective:Nat):Int)) x.rows,iE (k+((bE x.objective:Nat):Int)+((mI x.rows:Nat):Int)) x.limits⟩
def nW (x:ProgramD):Nat:=bE x.objective+mI x.rows+bE x.limits
theorem aCp (x:ProgramD):nW x≤5*fB x:=by
 have:=gR x.objective
 have:=yI x.rows
 have:=gR x.limits
 unfold nW fB;omega
def bF (k:Int) (x:DictionaryD):DictionaryD:=⟨iE (k) x.basic,iE (k+((bE x.basic:Nat):Int)) x.others,eS (k+((bE x.basic:Nat):Int)+((bE x.others:Nat):Int)) x.table,bY (k+((bE x.basic:Nat):Int)+((bE x.others:Nat):Int)+((bM x.table:Nat):Int)) x.limits,bY (k+((bE x.basic:Nat):Int)+((bE x.others:Nat):Int)+((bM x.table:Nat):Int)+((aS x.limits:Nat):Int)) x.costs,x.value⟩
def dB (x:DictionaryD):Nat:=bE x.basic+bE x.others+bM x.table+aS x.limits+aS x.costs
theorem rS (x:DictionaryD):dB x≤5*bU x:=by
 have:=gR x.basic
 have:=gR x.others
 have:=jO x.table
 have:=cO x.limits
 have:=cO x.costs
 unfold dB bU;omega
def eQ (k:Int) (x:fO):fO:=⟨x.value,bY (k) x.primal,bY (k+((aS x.primal:Nat):Int)) x.dual⟩
def dY (x:fO):Nat:=aS x.primal+aS x.dual
theorem aBW (x:fO):dY x≤5*kW x:=by
 have:=cO x.primal
 have:=cO x.dual
 unfold dY kW;omega
abbrev jX (x:List Int) (m:Int):List AV × List (Nat × Rs) × AV × List (Nat × Rs):=([.own 0,vI m],[(0,.arr 3 1 true (x.map aG))],vI (m+((bE x:Nat):Int)),[(0,.arr 3 1 true ((iE m x).map aG))])
abbrev nX (x:List Int) (m:Int):Prop:=sO Try.prog 39 (jX x m).1 (jX x m).2.1 (jX x m).2.2.1 (jX x m).2.2.2
theorem xA (x:List Int) (m:Int) (h0:0≤m) (hm:m+5*((bL x:Nat):Int)≤4611686018427387904):nX x m:=by
 refine pM dR bK Try.func39 (by kernel_rfl) (by kernel_rfl) (.loop (Nat × Int × (List Int)) (Q3 Nat Int (List Int)) [1,5,6,7,8,9,10,11,12,13,14,15,16,17] [0] (fun yy0=>[(5,vI (yy0.1:Int)),(1,vI yy0.2.1)]) (fun yy0=>[(0,some (.arr 3 1 true (yy0.2.2.map aG)))]) (fun yy0=>yy0.1≤x.length∧yy0.2.1=m+((cZ mH (x.take yy0.1):Nat):Int)∧yy0.2.2=eI aEh mH m x yy0.1) (fun yy0=>x.length - yy0.1) (fun yy0=> .len yy0.2.2.length<| .br (.len yy0.2.2.length<| .set Int aG yy0.2.2 (fun s4_4=>yy0.2.1) (fun s4_4=> .back [(0,0)])) (.fin [(0,0)]))) (p:=(∃(k:Nat) (z:Int) (r:List Int),(0:Int)=(k:Int)∧m=z∧x.map aG=r.map aG∧k≤x.length∧z=m+((cZ mH (x.take k):Nat):Int)∧r=eI aEh mH m x k)∧ ∀(k:Nat) (z:Int) (r:List Int),(k≤x.length∧z=m+((cZ mH (x.take k):Nat):Int)∧r=eI aEh mH m x k)→Lm aG r∧(((decide ((k:Int)<((r.length:Nat):Int)))=true→0≤(k:Int)∧Lm aG r∧(k:Int)<((r.length:Nat):Int)∧(r.map aG=r.map aG∧k<r.length∧ ∀s4_4,r[k]? =some s4_4→cV (aG s4_4)=true∧0+1≤(aG s4_4).length∧(aG s4_4).take 0++[.int .i64 z]++(aG s4_4).drop (0+1)=aG z∧dN (z+(1:Int))∧dN ((k:Int)+(1:Int))∧ ∃(k' :Nat) (z' :Int) (r' :List Int),((k:Int)+(1:Int))=(k' :Int)∧(z+(1:Int))=z' ∧(r.set k z).map aG=r'.map aG∧(k' ≤x.length∧z' =m+((cZ mH (x.take k'):Nat):Int)∧r' =eI aEh mH m x k')∧x.length - k' <x.length - k))∧((decide ((k:Int)<((r.length:Nat):Int)))=false→z=(m+((bE x:Nat):Int))∧r.map aG=(iE m x).map aG∧True))) (by kernel_rfl) ?_
 have hS:bE x=cZ mH x:=rfl
 have hC:bL x=x.length:=rfl
 refine ⟨⟨0,m,x,rfl,rfl,rfl,Nat.zero_le _,by simp [cZ],(nN _ _ _ _).symm⟩,fun k z r ⟨hk,hz,hr⟩=>?_⟩
 have hrl:r.length=x.length:=by rw [hr];exact oP _ _ _ _ _ hk
 refine ⟨List.length_map _,fun c0=>?_,fun c0=>?_⟩
 ·replace c0:=yq c0
  obtain ⟨y,hy⟩:=jV (l:=x) (k:=k) (by omega)
  have hry:r[k]? =some y:=by rw [hr,oQ _ _ _ _ _ (by omega)];exact hy
  have hs:=gA mH hy
  have hle:=kI mH x (k+1)
  have hA:cZ mH (x.take k)≤5*k:=aIy (fun _=>by simp [mH]) x k hk
  have hle5:=gR x
  have hE:mH y=1:=rfl
  refine ⟨by omega,List.length_map _,by first | omega | (simp only [List.length_set];omega),rfl,by first | omega | (simp only [List.length_set];omega),fun s4_4 hs4_4=>⟨rfl,Nat.le_of_ble_eq_true rfl,rfl,?_⟩⟩
  obtain rfl:=(dE hry hs4_4).symm
  refine ⟨⟨by first | omega | (dsimp only;omega),by first | omega | (dsimp only;omega)⟩,⟨by first | omega | (dsimp only;omega),by first | omega | (dsimp only;omega)⟩,?_⟩
  exact ⟨k+1,_,_,rfl,rfl,rfl,⟨by omega,by rw [hs];(try dsimp only);omega,by subst hz hr;(try simp only [List.set_set]);exact oR _ _ _ _ _ _ hy⟩,by omega⟩
 ·replace c0:=nq c0
  have hkx:k=x.length:=by omega
  rw [hkx,List.take_length] at hz
  rw [hkx,nO] at hr
  refine ⟨?_,?_,trivial⟩
  ·first | (rw [hz];rfl) | (rw [hr];rfl) | (rw [hz,hS])
  ·first | (rw [hz];rfl) | (rw [hr];rfl) | (rw [hz,hS])
abbrev oN (x:List (List Int)) (m:Int):List AV × List (Nat × Rs) × AV × List (Nat × Rs):=([.own 0,vI m],[(0,.arr 22 1 true (x.map bD))],vI (m+((mI x:Nat):Int)),[(0,.arr 22 1 true ((aCo m x).map bD))])
abbrev aAv (x:List (List Int)) (m:Int):Prop:=sO Try.prog 40 (oN x m).1 (oN x m).2.1 (oN x m).2.2.1 (oN x m).2.2.2
theorem aHo (x:List (List Int)) (m:Int) (h0:0≤m) (hm:m+5*((gV x:Nat):Int)≤4611686018427387904):aAv x m:=by
 refine pM dR bK Try.func40 (by kernel_rfl) (by kernel_rfl) (.loop (Nat × Int × (List (List Int))) (Q3 Nat Int (List (List Int))) [1,5,6,7,8,9,10,11,12,13,14,15,16,17] [0,1507] (fun yy0=>[(5,vI (yy0.1:Int)),(1,vI yy0.2.1)]) (fun yy0=>[(0,some (.arr 22 1 true (yy0.2.2.map bD)))]) (fun yy0=>yy0.1≤x.length∧yy0.2.1=m+((cZ bE (x.take yy0.1):Nat):Int)∧yy0.2.2=eI iE bE m x yy0.1) (fun yy0=>x.length - yy0.1) (fun yy0=> .len yy0.2.2.length<| .br (.split 4 0 yy0.1 0 1507 (List Int) bD yy0.2.2 (fun b1507=> .len yy0.2.2.length<| fN (jX b1507 yy0.2.1) [(0,1507)]<| .join 3 0 1507 (List Int) bD yy0.2.2 (fun a1507=>iE yy0.2.1 b1507) (fun a1507=> .back [(0,0)]))) (.fin [(0,0)]))) (p:=(∃(k:Nat) (z:Int) (r:List (List Int)),(0:Int)=(k:Int)∧m=z∧x.map bD=r.map bD∧k≤x.length∧z=m+((cZ bE (x.take k):Nat):Int)∧r=eI iE bE m x k)∧ ∀(k:Nat) (z:Int) (r:List (List Int)),(k≤x.length∧z=m+((cZ bE (x.take k):Nat):Int)∧r=eI iE bE m x k)→Lm bD r∧(((decide ((k:Int)<((r.length:Nat):Int)))=true→r.map bD=r.map bD∧k<r.length∧ ∀b1507,r[k]? =some b1507→0≤(k:Int)∧Lm bD r∧(k:Int)<((r.length:Nat):Int)∧(k=k∧(nX b1507 z∧z=z∧b1507.map aG=b1507.map aG∧(r.map bD=r.map bD∧k<r.length∧ ∀a1507,r[k]? =some a1507→((bD a1507).take 0++ .sl 3 1 ((iE z b1507).map aG)::(bD a1507).drop (0+1)=bD (iE z b1507))∧dN ((k:Int)+(1:Int))∧ ∃(k' :Nat) (z' :Int) (r' :List (List Int)),((k:Int)+(1:Int))=(k' :Int)∧(z+((bE b1507:Nat):Int))=z' ∧(r.set k (iE z b1507)).map bD=r'.map bD∧(k' ≤x.length∧z' =m+((cZ bE (x.take k'):Nat):Int)∧r' =eI iE bE m x k')∧x.length - k' <x.length - k))))∧((decide ((k:Int)<((r.length:Nat):Int)))=false→z=(m+((mI x:Nat):Int))∧r.map bD=(aCo m x).map bD∧True))) (by kernel_rfl) ?_
 have hS:mI x=cZ bE x:=rfl
 have hC:gV x=x.length+cZ bL x:=rfl
 refine ⟨⟨0,m,x,rfl,rfl,rfl,Nat.zero_le _,by simp [cZ],(nN _ _ _ _).symm⟩,fun k z r ⟨hk,hz,hr⟩=>?_⟩
 have hrl:r.length=x.length:=by rw [hr];exact oP _ _ _ _ _ hk
 refine ⟨List.length_map _,fun c0=>?_,fun c0=>?_⟩
 ·replace c0:=yq c0
  obtain ⟨y,hy⟩:=jV (l:=x) (k:=k) (by omega)
  have hry:r[k]? =some y:=by rw [hr,oQ _ _ _ _ _ (by omega)];exact hy
  have hs:=gA bE hy
  have hle:=kI bE x (k+1)
  have hA:cZ bE (x.take k)≤5*(k+cZ bL (x.take k)):=aKD (s:=bE) (c:=bL) (fun y=>by have:=gR y;omega) x k hk
  have hB:=gA bL hy
  have hD:=kI bL x (k+1)
  have hle5:=yI x
  have hy5:=gR y
  refine ⟨rfl,by first | omega | (simp only [List.length_set];omega),fun b1507 hb1507=>?_⟩
  obtain rfl:=(dE hry hb1507).symm
  refine ⟨by omega,List.length_map _,by first | omega | (simp only [List.length_set];omega),rfl,xA _ _ (by omega) (by first | omega | (dsimp only;omega)),rfl,rfl,rfl,by first | omega | (simp only [List.length_set];omega),fun a1507 ha1507=>⟨rfl,?_⟩⟩
  obtain rfl:=(dE hry ha1507).symm
  refine ⟨⟨by first | omega | (dsimp only;omega),by first | omega | (dsimp only;omega)⟩,?_⟩
  exact ⟨k+1,_,_,rfl,rfl,rfl,⟨by omega,by rw [hs,hz];unfold bE;omega,by subst hz hr;(try simp only [List.set_set]);exact oR _ _ _ _ _ _ hy⟩,by omega⟩
 ·replace c0:=nq c0
  have hkx:k=x.length:=by omega
  rw [hkx,List.take_length] at hz
  rw [hkx,nO] at hr
  refine ⟨?_,?_,trivial⟩
  ·first | (rw [hz];rfl) | (rw [hr];rfl) | (rw [hz,hS])
  ·first | (rw [hz];rfl) | (rw [hr];rfl) | (rw [hz,hS])
abbrev fF (x:List aC) (m:Int):List AV × List (Nat × Rs) × AV × List (Nat × Rs):=([.own 0,vI m],[(0,.arr 28 2 true (x.map aA))],vI (m+((aS x:Nat):Int)),[(0,.arr 28 2 true ((bY m x).map aA))])
abbrev iM (x:List aC) (m:Int):Prop:=sO Try.prog 41 (fF x m).1 (fF x m).2.1 (fF x m).2.2.1 (fF x m).2.2.2
theorem lJ (x:List aC) (m:Int) (h0:0≤m) (hm:m+5*((aV x:Nat):Int)≤4611686018427387904):iM x m:=by
 refine pM dR bK Try.func41 (by kernel_rfl) (by kernel_rfl) (.loop (Nat × Int × (List aC)) (Q3 Nat Int (List aC)) [1,5,6,7,8,9,10,11,12,13,14,15,16,17,18,19,20,21,22,23,24,25] [0] (fun yy0=>[(5,vI (yy0.1:Int)),(1,vI yy0.2.1)]) (fun yy0=>[(0,some (.arr 28 2 true (yy0.2.2.map aA)))]) (fun yy0=>yy0.1≤x.length∧yy0.2.1=m+((cZ cR (x.take yy0.1):Nat):Int)∧yy0.2.2=eI jN cR m x yy0.1) (fun yy0=>x.length - yy0.1) (fun yy0=> .len yy0.2.2.length<| .br (.len yy0.2.2.length<| .set aC aA yy0.2.2 (fun s4_5=>(⟨yy0.2.1,s4_5.den⟩:aC)) (fun s4_5=> .len ((yy0.2.2.set yy0.1 (⟨yy0.2.1,s4_5.den⟩:aC)).length)<| .set aC aA (yy0.2.2.set yy0.1 (⟨yy0.2.1,s4_5.den⟩:aC)) (fun s6_5=>(⟨s6_5.num,yy0.2.1+(1:Int)⟩:aC)) (fun s6_5=> .back [(0,0)]))) (.fin [(0,0)]))) (p:=(∃(k:Nat) (z:Int) (r:List aC),(0:Int)=(k:Int)∧m=z∧x.map aA=r.map aA∧k≤x.length∧z=m+((cZ cR (x.take k):Nat):Int)∧r=eI jN cR m x k)∧ ∀(k:Nat) (z:Int) (r:List aC),(k≤x.length∧z=m+((cZ cR (x.take k):Nat):Int)∧r=eI jN cR m x k)→Lm aA r∧(((decide ((k:Int)<((r.length:Nat):Int)))=true→0≤(k:Int)∧Lm aA r∧(k:Int)<((r.length:Nat):Int)∧(r.map aA=r.map aA∧k<r.length∧ ∀s4_5,r[k]? =some s4_5→cV (aA s4_5)=true∧0+1≤(aA s4_5).length∧(aA s4_5).take 0++[.int .i64 z]++(aA s4_5).drop (0+1)=aA (⟨z,s4_5.den⟩:aC)∧(dN (z+(1:Int))∧(0≤(k:Int)∧Lm aA (r.set k (⟨z,s4_5.den⟩:aC))∧(k:Int)<(((r.set k (⟨z,s4_5.den⟩:aC)).length:Nat):Int)∧((r.set k (⟨z,s4_5.den⟩:aC)).map aA=(r.set k (⟨z,s4_5.den⟩:aC)).map aA∧k<(r.set k (⟨z,s4_5.den⟩:aC)).length∧ ∀s6_5,(r.set k (⟨z,s4_5.den⟩:aC))[k]? =some s6_5→cV (aA s6_5)=true∧1+1≤(aA s6_5).length∧(aA s6_5).take 1++[.int .i64 (z+(1:Int))]++(aA s6_5).drop (1+1)=aA (⟨s6_5.num,z+(1:Int)⟩:aC)∧dN ((z+(1:Int))+(1:Int))∧dN ((k:Int)+(1:Int))∧ ∃(k' :Nat) (z' :Int) (r' :List aC),((k:Int)+(1:Int))=(k' :Int)∧((z+(1:Int))+(1:Int))=z' ∧((r.set k (⟨z,s4_5.den⟩:aC)).set k (⟨s6_5.num,z+(1:Int)⟩:aC)).map aA=r'.map aA∧(k' ≤x.length∧z' =m+((cZ cR (x.take k'):Nat):Int)∧r' =eI jN cR m x k')∧x.length - k' <x.length - k)))))∧((decide ((k:Int)<((r.length:Nat):Int)))=false→z=(m+((aS x:Nat):Int))∧r.map aA=(bY m x).map aA∧True))) (by kernel_rfl) ?_
 have hS:aS x=cZ cR x:=rfl
 have hC:aV x=x.length:=rfl
 refine ⟨⟨0,m,x,rfl,rfl,rfl,Nat.zero_le _,by simp [cZ],(nN _ _ _ _).symm⟩,fun k z r ⟨hk,hz,hr⟩=>?_⟩
 have hrl:r.length=x.length:=by rw [hr];exact oP _ _ _ _ _ hk
 refine ⟨List.length_map _,fun c0=>?_,fun c0=>?_⟩
 ·replace c0:=yq c0
  obtain ⟨y,hy⟩:=jV (l:=x) (k:=k) (by omega)
  have hry:r[k]? =some y:=by rw [hr,oQ _ _ _ _ _ (by omega)];exact hy
  have hs:=gA cR hy
  have hle:=kI cR x (k+1)
  have hA:cZ cR (x.take k)≤5*k:=aIy (fun y=>by have:=pP y;simpa [qC] using this) x k hk
  have hle5:=cO x
  have hE:cR y=1+1:=rfl
  refine ⟨by omega,List.length_map _,by first | omega | (simp only [List.length_set];omega),rfl,by first | omega | (simp only [List.length_set];omega),fun s4_5 hs4_5=>⟨rfl,Nat.le_of_ble_eq_true rfl,rfl,?_⟩⟩
  obtain rfl:=(dE hry hs4_5).symm
  refine ⟨⟨by first | omega | (dsimp only;omega),by first | omega | (dsimp only;omega)⟩,by omega,List.length_map _,by first | omega | (simp only [List.length_set];omega),rfl,by first | omega | (simp only [List.length_set];omega),fun s6_5 hs6_5=>⟨rfl,Nat.le_of_ble_eq_true rfl,rfl,?_⟩⟩
  obtain rfl:=aJz hs6_5
  refine ⟨⟨by first | omega | (dsimp only;omega),by first | omega | (dsimp only;omega)⟩,⟨by first | omega | (dsimp only;omega),by first | omega | (dsimp only;omega)⟩,?_⟩
  exact ⟨k+1,_,_,rfl,rfl,rfl,⟨by omega,by rw [hs];(try dsimp only);omega,by subst hz hr;(try simp only [List.set_set]);exact oR _ _ _ _ _ _ hy⟩,by omega⟩
 ·replace c0:=nq c0
  have hkx:k=x.length:=by omega
  rw [hkx,List.take_length] at hz
  rw [hkx,nO] at hr
  refine ⟨?_,?_,trivial⟩
  ·first | (rw [hz];rfl) | (rw [hr];rfl) | (rw [hz,hS])
  ·first | (rw [hz];rfl) | (rw [hr];rfl) | (rw [hz,hS])
abbrev iX (x:List (List aC)) (m:Int):List AV × List (Nat × Rs) × AV × List (Nat × Rs):=([.own 0,vI m],[(0,.arr 29 1 true (x.map aD))],vI (m+((bM x:Nat):Int)),[(0,.arr 29 1 true ((eS m x).map aD))])
abbrev rT (x:List (List aC)) (m:Int):Prop:=sO Try.prog 57 (iX x m).1 (iX x m).2.1 (iX x m).2.2.1 (iX x m).2.2.2
theorem aBX (x:List (List aC)) (m:Int) (h0:0≤m) (hm:m+5*((bQ x:Nat):Int)≤4611686018427387904):rT x m:=by
 refine pM dR bK Try.func57 (by kernel_rfl) (by kernel_rfl) (.loop (Nat × Int × (List (List aC))) (Q3 Nat Int (List (List aC))) [1,5,6,7,8,9,10,11,12,13,14,15,16,17] [0,1507] (fun yy0=>[(5,vI (yy0.1:Int)),(1,vI yy0.2.1)]) (fun yy0=>[(0,some (.arr 29 1 true (yy0.2.2.map aD)))]) (fun yy0=>yy0.1≤x.length∧yy0.2.1=m+((cZ aS (x.take yy0.1):Nat):Int)∧yy0.2.2=eI bY aS m x yy0.1) (fun yy0=>x.length - yy0.1) (fun yy0=> .len yy0.2.2.length<| .br (.split 4 0 yy0.1 0 1507 (List aC) aD yy0.2.2 (fun b1507=> .len yy0.2.2.length<| fN (fF b1507 yy0.2.1) [(0,1507)]<| .join 3 0 1507 (List aC) aD yy0.2.2 (fun a1507=>bY yy0.2.1 b1507) (fun a1507=> .back [(0,0)]))) (.fin [(0,0)]))) (p:=(∃(k:Nat) (z:Int) (r:List (List aC)),(0:Int)=(k:Int)∧m=z∧x.map aD=r.map aD∧k≤x.length∧z=m+((cZ aS (x.take k):Nat):Int)∧r=eI bY aS m x k)∧ ∀(k:Nat) (z:Int) (r:List (List aC)),(k≤x.length∧z=m+((cZ aS (x.take k):Nat):Int)∧r=eI bY aS m x k)→Lm aD r∧(((decide ((k:Int)<((r.length:Nat):Int)))=true→r.map aD=r.map aD∧k<r.length∧ ∀b1507,r[k]? =some b1507→0≤(k:Int)∧Lm aD r∧(k:Int)<((r.length:Nat):Int)∧(k=k∧(iM b1507 z∧z=z∧b1507.map aA=b1507.map aA∧(r.map aD=r.map aD∧k<r.length∧ ∀a1507,r[k]? =some a1507→((aD a1507).take 0++ .sl 28 2 ((bY z b1507).map aA)::(aD a1507).drop (0+1)=aD (bY z b1507))∧dN ((k:Int)+(1:Int))∧ ∃(k' :Nat) (z' :Int) (r' :List (List aC)),((k:Int)+(1:Int))=(k' :Int)∧(z+((aS b1507:Nat):Int))=z' ∧(r.set k (bY z b1507)).map aD=r'.map aD∧(k' ≤x.length∧z' =m+((cZ aS (x.take k'):Nat):Int)∧r' =eI bY aS m x k')∧x.length - k' <x.length - k))))∧((decide ((k:Int)<((r.length:Nat):Int)))=false→z=(m+((bM x:Nat):Int))∧r.map aD=(eS m x).map aD∧True))) (by kernel_rfl) ?_
 have hS:bM x=cZ aS x:=rfl
 have hC:bQ x=x.length+cZ aV x:=rfl
 refine ⟨⟨0,m,x,rfl,rfl,rfl,Nat.zero_le _,by simp [cZ],(nN _ _ _ _).symm⟩,fun k z r ⟨hk,hz,hr⟩=>?_⟩
 have hrl:r.length=x.length:=by rw [hr];exact oP _ _ _ _ _ hk
 refine ⟨List.length_map _,fun c0=>?_,fun c0=>?_⟩
 ·replace c0:=yq c0
  obtain ⟨y,hy⟩:=jV (l:=x) (k:=k) (by omega)
  have hry:r[k]? =some y:=by rw [hr,oQ _ _ _ _ _ (by omega)];exact hy
  have hs:=gA aS hy
  have hle:=kI aS x (k+1)
  have hA:cZ aS (x.take k)≤5*(k+cZ aV (x.take k)):=aKD (s:=aS) (c:=aV) (fun y=>by have:=cO y;omega) x k hk
  have hB:=gA aV hy
  have hD:=kI aV x (k+1)
  have hle5:=jO x
  have hy5:=cO y
  refine ⟨rfl,by first | omega | (simp only [List.length_set];omega),fun b1507 hb1507=>?_⟩
  obtain rfl:=(dE hry hb1507).symm
  refine ⟨by omega,List.length_map _,by first | omega | (simp only [List.length_set];omega),rfl,lJ _ _ (by omega) (by first | omega | (dsimp only;omega)),rfl,rfl,rfl,by first | omega | (simp only [List.length_set];omega),fun a1507 ha1507=>⟨rfl,?_⟩⟩
  obtain rfl:=(dE hry ha1507).symm
  refine ⟨⟨by first | omega | (dsimp only;omega),by first | omega | (dsimp only;omega)⟩,?_⟩
  exact ⟨k+1,_,_,rfl,rfl,rfl,⟨by omega,by rw [hs,hz];unfold aS;omega,by subst hz hr;(try simp only [List.set_set]);exact oR _ _ _ _ _ _ hy⟩,by omega⟩
 ·replace c0:=nq c0
  have hkx:k=x.length:=by omega
  rw [hkx,List.take_length] at hz
  rw [hkx,nO] at hr
  refine ⟨?_,?_,trivial⟩
  ·first | (rw [hz];rfl) | (rw [hr];rfl) | (rw [hz,hS])
  ·first | (rw [hz];rfl) | (rw [hr];rfl) | (rw [hz,hS])
abbrev lK (x:ProgramD) (m:Int):List AV × List (Nat × Rs) × AV × List (Nat × Rs):=([.agg [.own 0,.own 1,.own 2],vI m],[(0,.arr 3 1 true (x.objective.map aG)),(1,.arr 22 1 true (x.rows.map bD)),(2,.arr 3 1 true (x.limits.map aG))],vI (m+((nW x:Nat):Int)),[(0,.arr 3 1 true (((nV m x).objective).map aG)),(1,.arr 22 1 true (((nV m x).rows).map bD)),(2,.arr 3 1 true (((nV m x).limits).map aG))])
abbrev xB (x:ProgramD) (m:Int):Prop:=sO Try.prog 11 (lK x m).1 (lK x m).2.1 (lK x m).2.2.1 (lK x m).2.2.2
theorem aEi (x:ProgramD) (m:Int) (h0:0≤m) (hm:m+5*((fB x:Nat):Int)≤4611686018427387904):xB x m:=by
 refine pM dR bK Try.func11 (by kernel_rfl) (by kernel_rfl) (fN (jX x.objective m) [(0,0)]<| fN (oN x.rows (m+((bE x.objective:Nat):Int))) [(0,1)]<| fN (jX x.limits ((m+((bE x.objective:Nat):Int))+((mI x.rows:Nat):Int))) [(0,2)]<| .fin [(0,0),(1,1),(2,2)]) (p:=nX x.objective m∧m=m∧x.objective.map aG=x.objective.map aG∧aAv x.rows (m+((bE x.objective:Nat):Int))∧(m+((bE x.objective:Nat):Int))=(m+((bE x.objective:Nat):Int))∧x.rows.map bD=x.rows.map bD∧nX x.limits ((m+((bE x.objective:Nat):Int))+((mI x.rows:Nat):Int))∧((m+((bE x.objective:Nat):Int))+((mI x.rows:Nat):Int))=((m+((bE x.objective:Nat):Int))+((mI x.rows:Nat):Int))∧x.limits.map aG=x.limits.map aG∧(((m+((bE x.objective:Nat):Int))+((mI x.rows:Nat):Int))+((bE x.limits:Nat):Int))=(m+((nW x:Nat):Int))∧(iE m x.objective).map aG=((nV m x).objective).map aG∧(aCo (m+((bE x.objective:Nat):Int)) x.rows).map bD=((nV m x).rows).map bD∧(iE ((m+((bE x.objective:Nat):Int))+((mI x.rows:Nat):Int)) x.limits).map aG=((nV m x).limits).map aG∧True) (by kernel_rfl) ?_
 have hS:nW x=bE x.objective+mI x.rows+bE x.limits:=rfl
 have hC:fB x=bL x.objective+gV x.rows+bL x.limits:=rfl
 have:=gR x.objective
 have:=yI x.rows
 have:=gR x.limits
 refine ⟨xA _ _ (by omega) (by first | omega | (dsimp only;omega)),rfl,rfl,aHo _ _ (by omega) (by first | omega | (dsimp only;omega)),rfl,rfl,xA _ _ (by omega) (by first | omega | (dsimp only;omega)),rfl,rfl,?_,?_,?_,?_,trivial⟩
 ·first | rfl | (rw [hS];omega)
 ·first | rfl | (rw [hS];omega)
 ·first | rfl | (rw [hS];omega)
 ·first | rfl | (rw [hS];omega)
abbrev gZ (x:DictionaryD) (m:Int):List AV × List (Nat × Rs) × AV × List (Nat × Rs):=([.agg [.own 0,.own 1,.own 2,.own 3,.own 4,vI x.value.num,vI x.value.den],vI m],[(0,.arr 3 1 true (x.basic.map aG)),(1,.arr 3 1 true (x.others.map aG)),(2,.arr 29 1 true (x.table.map aD)),(3,.arr 28 2 true (x.limits.map aA)),(4,.arr 28 2 true (x.costs.map aA))],vI (m+((dB x:Nat):Int)),[(0,.arr 3 1 true (((bF m x).basic).map aG)),(1,.arr 3 1 true (((bF m x).others).map aG)),(2,.arr 29 1 true (((bF m x).table).map aD)),(3,.arr 28 2 true (((bF m x).limits).map aA)),(4,.arr 28 2 true (((bF m x).costs).map aA))])
abbrev nK (x:DictionaryD) (m:Int):Prop:=sO Try.prog 19 (gZ x m).1 (gZ x m).2.1 (gZ x m).2.2.1 (gZ x m).2.2.2
theorem uJ (x:DictionaryD) (m:Int) (h0:0≤m) (hm:m+5*((bU x:Nat):Int)≤4611686018427387904):nK x m:=by
 refine pM dR bK Try.func19 (by kernel_rfl) (by kernel_rfl) (fN (jX x.basic m) [(0,0)]<| fN (jX x.others (m+((bE x.basic:Nat):Int))) [(0,1)]<| fN (iX x.table ((m+((bE x.basic:Nat):Int))+((bE x.others:Nat):Int))) [(0,2)]<| fN (fF x.limits (((m+((bE x.basic:Nat):Int))+((bE x.others:Nat):Int))+((bM x.table:Nat):Int))) [(0,3)]<| fN (fF x.costs ((((m+((bE x.basic:Nat):Int))+((bE x.others:Nat):Int))+((bM x.table:Nat):Int))+((aS x.limits:Nat):Int))) [(0,4)]<| .fin [(0,0),(1,1),(2,2),(3,3),(4,4)]) (p:=nX x.basic m∧m=m∧x.basic.map aG=x.basic.map aG∧nX x.others (m+((bE x.basic:Nat):Int))∧(m+((bE x.basic:Nat):Int))=(m+((bE x.basic:Nat):Int))∧x.others.map aG=x.others.map aG∧rT x.table ((m+((bE x.basic:Nat):Int))+((bE x.others:Nat):Int))∧((m+((bE x.basic:Nat):Int))+((bE x.others:Nat):Int))=((m+((bE x.basic:Nat):Int))+((bE x.others:Nat):Int))∧x.table.map aD=x.table.map aD∧iM x.limits (((m+((bE x.basic:Nat):Int))+((bE x.others:Nat):Int))+((bM x.table:Nat):Int))∧(((m+((bE x.basic:Nat):Int))+((bE x.others:Nat):Int))+((bM x.table:Nat):Int))=(((m+((bE x.basic:Nat):Int))+((bE x.others:Nat):Int))+((bM x.table:Nat):Int))∧x.limits.map aA=x.limits.map aA∧iM x.costs ((((m+((bE x.basic:Nat):Int))+((bE x.others:Nat):Int))+((bM x.table:Nat):Int))+((aS x.limits:Nat):Int))∧((((m+((bE x.basic:Nat):Int))+((bE x.others:Nat):Int))+((bM x.table:Nat):Int))+((aS x.limits:Nat):Int))=((((m+((bE x.basic:Nat):Int))+((bE x.others:Nat):Int))+((bM x.table:Nat):Int))+((aS x.limits:Nat):Int))∧x.costs.map aA=x.costs.map aA∧(((((m+((bE x.basic:Nat):Int))+((bE x.others:Nat):Int))+((bM x.table:Nat):Int))+((aS x.limits:Nat):Int))+((aS x.costs:Nat):Int))=(m+((dB x:Nat):Int))∧(iE m x.basic).map aG=((bF m x).basic).map aG∧(iE (m+((bE x.basic:Nat):Int)) x.others).map aG=((bF m x).others).map aG∧(eS ((m+((bE x.basic:Nat):Int))+((bE x.others:Nat):Int)) x.table).map aD=((bF m x).table).map aD∧(bY (((m+((bE x.basic:Nat):Int))+((bE x.others:Nat):Int))+((bM x.table:Nat):Int)) x.limits).map aA=((bF m x).limits).map aA∧(bY ((((m+((bE x.basic:Nat):Int))+((bE x.others:Nat):Int))+((bM x.table:Nat):Int))+((aS x.limits:Nat):Int)) x.costs).map aA=((bF m x).costs).map aA∧True) (by kernel_rfl) ?_
 have hS:dB x=bE x.basic+bE x.others+bM x.table+aS x.limits+aS x.costs:=rfl
 have hC:bU x=bL x.basic+bL x.others+bQ x.table+aV x.limits+aV x.costs:=rfl
 have:=gR x.basic
 have:=gR x.others
 have:=jO x.table
 have:=cO x.limits
 have:=cO x.costs
 refine ⟨xA _ _ (by omega) (by first | omega | (dsimp only;omega)),rfl,rfl,xA _ _ (by omega) (by first | omega | (dsimp only;omega)),rfl,rfl,aBX _ _ (by omega) (by first | omega | (dsimp only;omega)),rfl,rfl,lJ _ _ (by omega) (by first | omega | (dsimp only;omega)),rfl,rfl,lJ _ _ (by omega) (by first | omega | (dsimp only;omega)),rfl,rfl,?_,?_,?_,?_,?_,?_,trivial⟩
 ·first | rfl | (rw [hS];omega)
 ·first | rfl | (rw [hS];omega)
 ·first | rfl | (rw [hS];omega)
 ·first | rfl | (rw [hS];omega)
 ·first | rfl | (rw [hS];omega)
 ·first | rfl | (rw [hS];omega)
abbrev kH (x:fO) (m:Int):List AV × List (Nat × Rs) × AV × List (Nat × Rs):=([.agg [vI x.value.num,vI x.value.den,.own 0,.own 1],vI m],[(0,.arr 28 2 true (x.primal.map aA)),(1,.arr 28 2 true (x.dual.map aA))],vI (m+((dY x:Nat):Int)),[(0,.arr 28 2 true (((eQ m x).primal).map aA)),(1,.arr 28 2 true (((eQ m x).dual).map aA))])
abbrev uK (x:fO) (m:Int):Prop:=sO Try.prog 12 (kH x m).1 (kH x m).2.1 (kH x m).2.2.1 (kH x m).2.2.2
theorem aEC (x:fO) (m:Int) (h0:0≤m) (hm:m+5*((kW x:Nat):Int)≤4611686018427387904):uK x m:=by
 refine pM dR bK Try.func12 (by kernel_rfl) (by kernel_rfl) (fN (fF x.primal m) [(0,0)]<| fN (fF x.dual (m+((aS x.primal:Nat):Int))) [(0,1)]<| .fin [(0,0),(1,1)]) (p:=iM x.primal m∧m=m∧x.primal.map aA=x.primal.map aA∧iM x.dual (m+((aS x.primal:Nat):Int))∧(m+((aS x.primal:Nat):Int))=(m+((aS x.primal:Nat):Int))∧x.dual.map aA=x.dual.map aA∧((m+((aS x.primal:Nat):Int))+((aS x.dual:Nat):Int))=(m+((dY x:Nat):Int))∧(bY m x.primal).map aA=((eQ m x).primal).map aA∧(bY (m+((aS x.primal:Nat):Int)) x.dual).map aA=((eQ m x).dual).map aA∧True) (by kernel_rfl) ?_
 have hS:dY x=aS x.primal+aS x.dual:=rfl
 have hC:kW x=aV x.primal+aV x.dual:=rfl
 have:=cO x.primal
 have:=cO x.dual
 refine ⟨lJ _ _ (by omega) (by first | omega | (dsimp only;omega)),rfl,rfl,lJ _ _ (by omega) (by first | omega | (dsimp only;omega)),rfl,rfl,?_,?_,?_,trivial⟩
 ·first | rfl | (rw [hS];omega)
 ·first | rfl | (rw [hS];omega)
 ·first | rfl | (rw [hS];omega)
abbrev aGM (x:List Int) (m:Int):Prop:=gF Try.prog 58 [.one (.sl 3 1 ((iE m x).map aG)),.one (.int .i64 m)] (vI (m+((bE x:Nat):Int))) []
theorem aFR (x:List Int) (m:Int) (h0:0≤m) (hm:m+5*((bL x:Nat):Int)≤4611686018427387904):aGM x m:=by
 refine cT dR bK Try.func58 (by kernel_rfl) (.loop (Nat × Int) (Q2 Nat Int) [1,5,6,7,8,9,10,11,12,13,14,15,16,17,18,19] [] (fun yy0=>[(5,vI (yy0.1:Int)),(1,vI yy0.2)]) (fun yy0=>[]) (fun yy0=>yy0.1≤x.length∧yy0.2=m+((cZ mH (x.take yy0.1):Nat):Int)) (fun yy0=>x.length - yy0.1) (fun yy0=> .len ((iE m x).length)<| .br (.elem _ aG (iE m x) (fun e14=> .no<| .back [])) (.fin []))) (p:=((iE m x).map aG).length≤9223372036854775807→(∃(k:Nat) (z:Int),(0:Int)=(k:Int)∧m=z∧k≤x.length∧z=m+((cZ mH (x.take k):Nat):Int))∧ ∀(k:Nat) (z:Int),(k≤x.length∧z=m+((cZ mH (x.take k):Nat):Int))→Lm aG (iE m x)∧(((decide ((k:Int)<(((iE m x).length:Nat):Int)))=true→0≤(k:Int)∧Em aG (iE m x) k fun e14=>(!(decide (e14=z)))=false∧dN (z+(1:Int))∧dN ((k:Int)+(1:Int))∧ ∃(k' :Nat) (z' :Int),((k:Int)+(1:Int))=(k' :Int)∧(z+(1:Int))=z' ∧(k' ≤x.length∧z' =m+((cZ mH (x.take k'):Nat):Int))∧x.length - k' <x.length - k)∧((decide ((k:Int)<(((iE m x).length:Nat):Int)))=false→z=(m+((bE x:Nat):Int))∧True))) (by kernel_rfl) ?_
 intro n0
 simp only [List.length_map] at n0
 have hS:bE x=cZ mH x:=rfl
 have hC:bL x=x.length:=rfl
 have hlen:(iE m x).length=x.length:=jS _ _ _ _
 refine ⟨⟨0,m,rfl,rfl,Nat.zero_le _,by simp [cZ]⟩,fun k z ⟨hk,hz⟩=>?_⟩
 refine ⟨List.length_map _,fun c0=>?_,fun c0=>?_⟩
 ·replace c0:=yq c0
  obtain ⟨y,hy⟩:=jV (l:=x) (k:=k) (by omega)
  have hY:(iE m x)[k]? =some (aEh z y):=by rw [hz];exact rZ _ _ x m k y hy
  have hs:=gA mH hy
  have hle:=kI mH x (k+1)
  have hA:cZ mH (x.take k)≤5*k:=aIy (fun _=>by simp [mH]) x k hk
  have hle5:=gR x
  have hE:mH y=1:=rfl
  refine ⟨by omega,rfl,by omega,fun e14 h14=>?_⟩
  obtain rfl:=(dE hY h14).symm
  refine ⟨by simp [aEh],⟨by omega,by omega⟩,⟨by omega,by omega⟩,?_⟩
  exact ⟨k+1,_,rfl,rfl,⟨by omega,by rw [hs];(try dsimp only);omega⟩,by omega⟩
 ·replace c0:=nq c0
  have hkx:k=x.length:=by omega
  rw [hkx,List.take_length] at hz
  refine ⟨?_,trivial⟩
  ·rw [hz];rfl
abbrev aAw (x:List aC) (m:Int):Prop:=gF Try.prog 42 [.one (.sl 28 2 ((bY m x).map aA)),.one (.int .i64 m)] (vI (m+((aS x:Nat):Int))) []
theorem lL (x:List aC) (m:Int) (h0:0≤m) (hm:m+5*((aV x:Nat):Int)≤4611686018427387904):aAw x m:=by
 refine cT dR bK Try.func42 (by kernel_rfl) (.loop (Nat × Int) (Q2 Nat Int) [1,5,6,7,8,9,10,11,12,13,14,15,16,17,18,19,20,21,22,23,24,25,26,27,28,29] [] (fun yy0=>[(5,vI (yy0.1:Int)),(1,vI yy0.2)]) (fun yy0=>[]) (fun yy0=>yy0.1≤x.length∧yy0.2=m+((cZ cR (x.take yy0.1):Nat):Int)) (fun yy0=>x.length - yy0.1) (fun yy0=> .len ((bY m x).length)<| .br (.elem _ aA (bY m x) (fun e14=> .no<| .elem _ aA (bY m x) (fun e23=> .no<| .back []))) (.fin []))) (p:=((bY m x).map aA).length≤9223372036854775807→(∃(k:Nat) (z:Int),(0:Int)=(k:Int)∧m=z∧k≤x.length∧z=m+((cZ cR (x.take k):Nat):Int))∧ ∀(k:Nat) (z:Int),(k≤x.length∧z=m+((cZ cR (x.take k):Nat):Int))→Lm aA (bY m x)∧(((decide ((k:Int)<(((bY m x).length:Nat):Int)))=true→0≤(k:Int)∧Em aA (bY m x) k fun e14=>(!(decide (e14.num=z)))=false∧dN (z+(1:Int))∧0≤(k:Int)∧Em aA (bY m x) k fun e23=>(!(decide (e23.den=(z+(1:Int)))))=false∧dN ((z+(1:Int))+(1:Int))∧dN ((k:Int)+(1:Int))∧ ∃(k' :Nat) (z' :Int),((k:Int)+(1:Int))=(k' :Int)∧((z+(1:Int))+(1:Int))=z' ∧(k' ≤x.length∧z' =m+((cZ cR (x.take k'):Nat):Int))∧x.length - k' <x.length - k)∧((decide ((k:Int)<(((bY m x).length:Nat):Int)))=false→z=(m+((aS x:Nat):Int))∧True))) (by kernel_rfl) ?_
 intro n0
 simp only [List.length_map] at n0
 have hS:aS x=cZ cR x:=rfl
 have hC:aV x=x.length:=rfl
 have hlen:(bY m x).length=x.length:=jS _ _ _ _
 refine ⟨⟨0,m,rfl,rfl,Nat.zero_le _,by simp [cZ]⟩,fun k z ⟨hk,hz⟩=>?_⟩
 refine ⟨List.length_map _,fun c0=>?_,fun c0=>?_⟩
 ·replace c0:=yq c0
  obtain ⟨y,hy⟩:=jV (l:=x) (k:=k) (by omega)
  have hY:(bY m x)[k]? =some (jN z y):=by rw [hz];exact rZ _ _ x m k y hy
  have hs:=gA cR hy
  have hle:=kI cR x (k+1)
  have hA:cZ cR (x.take k)≤5*k:=aIy (fun y=>by have:=pP y;simpa [qC] using this) x k hk
  have hle5:=cO x
  have hE:cR y=1+1:=rfl
  have hg:x.getD k gL=y:=by simp [List.getD_eq_getElem?_getD,hy]
  try rw [hg]
  refine ⟨by omega,rfl,by omega,fun e14 h14=>?_⟩
  obtain rfl:=(dE hY h14).symm
  refine ⟨by simp [jN],⟨by omega,by omega⟩,by omega,rfl,by omega,fun e23 h23=>?_⟩
  obtain rfl:=(dE hY h23).symm
  refine ⟨by simp [jN],⟨by omega,by omega⟩,⟨by omega,by omega⟩,?_⟩
  exact ⟨k+1,_,rfl,rfl,⟨by omega,by rw [hs];(try dsimp only);omega⟩,by omega⟩
 ·replace c0:=nq c0
  have hkx:k=x.length:=by omega
  rw [hkx,List.take_length] at hz
  refine ⟨?_,trivial⟩
  ·rw [hz];rfl
abbrev zE (x:List (List aC)) (m:Int):Prop:=gF Try.prog 59 [.one (.sl 29 1 ((eS m x).map aD)),.one (.int .i64 m)] (vI (m+((bM x:Nat):Int))) []
theorem aBY (x:List (List aC)) (m:Int) (h0:0≤m) (hm:m+5*((bQ x:Nat):Int)≤4611686018427387904):zE x m:=by
 refine cT dR bK Try.func59 (by kernel_rfl) (.loop (Nat × Int) (Q2 Nat Int) [1,5,6,7,8,9,10,11,12,13,14,15,16,17,18,19] [] (fun yy0=>[(5,vI (yy0.1:Int)),(1,vI yy0.2)]) (fun yy0=>[]) (fun yy0=>yy0.1≤x.length∧yy0.2=m+((cZ aS (x.take yy0.1):Nat):Int)) (fun yy0=>x.length - yy0.1) (fun yy0=> .len ((eS m x).length)<| .br (.elem _ aD (eS m x) (fun e14=> .call (vI (yy0.2+((aS (x.getD yy0.1 ([]:List aC)):Nat):Int))) []<| .no<| .back [])) (.fin []))) (p:=((eS m x).map aD).length≤9223372036854775807→(∃(k:Nat) (z:Int),(0:Int)=(k:Int)∧m=z∧k≤x.length∧z=m+((cZ aS (x.take k):Nat):Int))∧ ∀(k:Nat) (z:Int),(k≤x.length∧z=m+((cZ aS (x.take k):Nat):Int))→Lm aD (eS m x)∧(((decide ((k:Int)<(((eS m x).length:Nat):Int)))=true→0≤(k:Int)∧Em aD (eS m x) k fun e14=>gF Try.prog 42 [.one (.sl 28 2 (e14.map aA)),.one (.int .i64 z)] (vI (z+((aS (x.getD k ([]:List aC)):Nat):Int))) []∧(decide ((z+((aS (x.getD k ([]:List aC)):Nat):Int))<(0:Int)))=false∧dN ((k:Int)+(1:Int))∧ ∃(k' :Nat) (z' :Int),((k:Int)+(1:Int))=(k' :Int)∧(z+((aS (x.getD k ([]:List aC)):Nat):Int))=z' ∧(k' ≤x.length∧z' =m+((cZ aS (x.take k'):Nat):Int))∧x.length - k' <x.length - k)∧((decide ((k:Int)<(((eS m x).length:Nat):Int)))=false→z=(m+((bM x:Nat):Int))∧True))) (by kernel_rfl) ?_
 intro n0
 simp only [List.length_map] at n0
 have hS:bM x=cZ aS x:=rfl
 have hC:bQ x=x.length+cZ aV x:=rfl
 have hlen:(eS m x).length=x.length:=jS _ _ _ _
 refine ⟨⟨0,m,rfl,rfl,Nat.zero_le _,by simp [cZ]⟩,fun k z ⟨hk,hz⟩=>?_⟩
 refine ⟨List.length_map _,fun c0=>?_,fun c0=>?_⟩
 ·replace c0:=yq c0
  obtain ⟨y,hy⟩:=jV (l:=x) (k:=k) (by omega)
  have hY:(eS m x)[k]? =some (bY z y):=by rw [hz];exact rZ _ _ x m k y hy
  have hs:=gA aS hy
  have hle:=kI aS x (k+1)
  have hA:cZ aS (x.take k)≤5*(k+cZ aV (x.take k)):=aKD (s:=aS) (c:=aV) (fun y=>by have:=cO y;omega) x k hk
  have hB:=gA aV hy
  have hD:=kI aV x (k+1)
  have hle5:=jO x
  have hy5:=cO y
  have hg:x.getD k ([]:List aC)=y:=by simp [List.getD_eq_getElem?_getD,hy]
  try rw [hg]
  refine ⟨by omega,rfl,by omega,fun e14 h14=>?_⟩
  obtain rfl:=(dE hY h14).symm
  refine ⟨lL _ _ (by omega) (by first | omega | (dsimp only;omega)),by simp;omega,⟨by omega,by omega⟩,?_⟩
  exact ⟨k+1,_,rfl,rfl,⟨by omega,by rw [hs,hz];omega⟩,by omega⟩
 ·replace c0:=nq c0
  have hkx:k=x.length:=by omega
  rw [hkx,List.take_length] at hz
  refine ⟨?_,trivial⟩
  ·rw [hz];rfl
abbrev zF (x:DictionaryD) (m:Int):Prop:=gF Try.prog 20 [.agg [.sl 3 1 (((bF m x).basic).map aG),.sl 3 1 (((bF m x).others).map aG),.sl 29 1 (((bF m x).table).map aD),.sl 28 2 (((bF m x).limits).map aA),.sl 28 2 (((bF m x).costs).map aA),.int .i64 (((bF m x).value).num),.int .i64 (((bF m x).value).den)],.one (.int .i64 m)] (vI (m+((dB x:Nat):Int))) []
theorem uL (x:DictionaryD) (m:Int) (h0:0≤m) (hm:m+5*((bU x:Nat):Int)≤4611686018427387904):zF x m:=by
 refine cT dR bK Try.func20 (by kernel_rfl) (.call (vI (m+((bE x.basic:Nat):Int))) []<| .no<| .call (vI ((m+((bE x.basic:Nat):Int))+((bE x.others:Nat):Int))) []<| .no<| .call (vI (((m+((bE x.basic:Nat):Int))+((bE x.others:Nat):Int))+((bM x.table:Nat):Int))) []<| .no<| .call (vI ((((m+((bE x.basic:Nat):Int))+((bE x.others:Nat):Int))+((bM x.table:Nat):Int))+((aS x.limits:Nat):Int))) []<| .no<| .call (vI (((((m+((bE x.basic:Nat):Int))+((bE x.others:Nat):Int))+((bM x.table:Nat):Int))+((aS x.limits:Nat):Int))+((aS x.costs:Nat):Int))) []<| .no<| .fin []) (p:=(((bF m x).basic).map aG).length≤9223372036854775807→(((bF m x).others).map aG).length≤9223372036854775807→(((bF m x).table).map aD).length≤9223372036854775807→(((bF m x).limits).map aA).length≤9223372036854775807→(((bF m x).costs).map aA).length≤9223372036854775807→gF Try.prog 58 [.one (.sl 3 1 (((bF m x).basic).map aG)),.one (.int .i64 m)] (vI (m+((bE x.basic:Nat):Int))) []∧(decide ((m+((bE x.basic:Nat):Int))<(0:Int)))=false∧gF Try.prog 58 [.one (.sl 3 1 (((bF m x).others).map aG)),.one (.int .i64 (m+((bE x.basic:Nat):Int)))] (vI ((m+((bE x.basic:Nat):Int))+((bE x.others:Nat):Int))) []∧(decide (((m+((bE x.basic:Nat):Int))+((bE x.others:Nat):Int))<(0:Int)))=false∧gF Try.prog 59 [.one (.sl 29 1 (((bF m x).table).map aD)),.one (.int .i64 ((m+((bE x.basic:Nat):Int))+((bE x.others:Nat):Int)))] (vI (((m+((bE x.basic:Nat):Int))+((bE x.others:Nat):Int))+((bM x.table:Nat):Int))) []∧(decide ((((m+((bE x.basic:Nat):Int))+((bE x.others:Nat):Int))+((bM x.table:Nat):Int))<(0:Int)))=false∧gF Try.prog 42 [.one (.sl 28 2 (((bF m x).limits).map aA)),.one (.int .i64 (((m+((bE x.basic:Nat):Int))+((bE x.others:Nat):Int))+((bM x.table:Nat):Int)))] (vI ((((m+((bE x.basic:Nat):Int))+((bE x.others:Nat):Int))+((bM x.table:Nat):Int))+((aS x.limits:Nat):Int))) []∧(decide (((((m+((bE x.basic:Nat):Int))+((bE x.others:Nat):Int))+((bM x.table:Nat):Int))+((aS x.limits:Nat):Int))<(0:Int)))=false∧gF Try.prog 42 [.one (.sl 28 2 (((bF m x).costs).map aA)),.one (.int .i64 ((((m+((bE x.basic:Nat):Int))+((bE x.others:Nat):Int))+((bM x.table:Nat):Int))+((aS x.limits:Nat):Int)))] (vI (((((m+((bE x.basic:Nat):Int))+((bE x.others:Nat):Int))+((bM x.table:Nat):Int))+((aS x.limits:Nat):Int))+((aS x.costs:Nat):Int))) []∧(decide ((((((m+((bE x.basic:Nat):Int))+((bE x.others:Nat):Int))+((bM x.table:Nat):Int))+((aS x.limits:Nat):Int))+((aS x.costs:Nat):Int))<(0:Int)))=false∧(((((m+((bE x.basic:Nat):Int))+((bE x.others:Nat):Int))+((bM x.table:Nat):Int))+((aS x.limits:Nat):Int))+((aS x.costs:Nat):Int))=(m+((dB x:Nat):Int))∧True) (by kernel_rfl) ?_
 intro n0 n1 n2 n3 n4
 simp only [List.length_map] at n0 n1 n2 n3 n4
 have hS:dB x=bE x.basic+bE x.others+bM x.table+aS x.limits+aS x.costs:=rfl
 have hC:bU x=bL x.basic+bL x.others+bQ x.table+aV x.limits+aV x.costs:=rfl
 have:=gR x.basic
 have:=gR x.others
 have:=jO x.table
 have:=cO x.limits
 have:=cO x.costs
 refine ⟨aFR _ _ (by omega) (by first | omega | (dsimp only;omega)),by simp;omega,aFR _ _ (by omega) (by first | omega | (dsimp only;omega)),by simp;omega,aBY _ _ (by omega) (by first | omega | (dsimp only;omega)),by simp;omega,lL _ _ (by omega) (by first | omega | (dsimp only;omega)),by simp;omega,lL _ _ (by omega) (by first | omega | (dsimp only;omega)),by simp;omega,?_,trivial⟩
 ·first | rfl | (rw [hS];omega)
abbrev aBZ (x:fO) (m:Int):Prop:=gF Try.prog 13 [.agg [.int .i64 (((eQ m x).value).num),.int .i64 (((eQ m x).value).den),.sl 28 2 (((eQ m x).primal).map aA),.sl 28 2 (((eQ m x).dual).map aA)],.one (.int .i64 m)] (vI (m+((dY x:Nat):Int))) []
theorem yX (x:fO) (m:Int) (h0:0≤m) (hm:m+5*((kW x:Nat):Int)≤4611686018427387904):aBZ x m:=by
 refine cT dR bK Try.func13 (by kernel_rfl) (.call (vI (m+((aS x.primal:Nat):Int))) []<| .no<| .call (vI ((m+((aS x.primal:Nat):Int))+((aS x.dual:Nat):Int))) []<| .no<| .fin []) (p:=(((eQ m x).primal).map aA).length≤9223372036854775807→(((eQ m x).dual).map aA).length≤9223372036854775807→gF Try.prog 42 [.one (.sl 28 2 (((eQ m x).primal).map aA)),.one (.int .i64 m)] (vI (m+((aS x.primal:Nat):Int))) []∧(decide ((m+((aS x.primal:Nat):Int))<(0:Int)))=false∧gF Try.prog 42 [.one (.sl 28 2 (((eQ m x).dual).map aA)),.one (.int .i64 (m+((aS x.primal:Nat):Int)))] (vI ((m+((aS x.primal:Nat):Int))+((aS x.dual:Nat):Int))) []∧(decide (((m+((aS x.primal:Nat):Int))+((aS x.dual:Nat):Int))<(0:Int)))=false∧((m+((aS x.primal:Nat):Int))+((aS x.dual:Nat):Int))=(m+((dY x:Nat):Int))∧True) (by kernel_rfl) ?_
 intro n0 n1
 simp only [List.length_map] at n0 n1
 have hS:dY x=aS x.primal+aS x.dual:=rfl
 have hC:kW x=aV x.primal+aV x.dual:=rfl
 have:=cO x.primal
 have:=cO x.dual
 refine ⟨lL _ _ (by omega) (by first | omega | (dsimp only;omega)),by simp;omega,lL _ _ (by omega) (by first | omega | (dsimp only;omega)),by simp;omega,?_,trivial⟩
 ·first | rfl | (rw [hS];omega)
end Go.Proofs.Ytpoobcnmhnbdlaa
