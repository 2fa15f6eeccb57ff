/-
  Contracts and plain laws, joined: part 20.
-/
import Derived.Test.YtdfebigfnjfgpaaGreatQP17
import Derived.Test.YtdfebigfnjfgpaaGreatQP16
import Derived.Test.YtdfebigfnjfgpaaGreatQP18
import Derived.Test.YtdfebigfnjfgpaaGreatQP15
import Derived.Test.YtdfebigfnjfgpaaGreatQP14
namespace Go.Proofs.YtdfebigfnjfgpaaGreat
open Go.ChangeShapes Go.WideShapes Go.ChangeAt Go.RowKit
set_option linter.unusedVariables false
set_option linter.unusedSimpArgs false
set_option maxRecDepth 100000
set_option maxHeartbeats 4000000
abbrev aPr (x:List Int) (m:Int):Prop:=cX Tryz.prog 21 [.one (.sl 3 1 ((dF m x).map intD)),.one (.int .i64 m)] (vI (m+((cT x:Nat):Int))) []
theorem aOX (x:List Int) (m:Int) (h0:0≤m) (hm:m+5*((bS x:Nat):Int)≤4611686018427387904):aPr x m:=by
 refine aX bG aR Tryz.func21 (by kernel_rfl) (.loop (Nat × Int) (Q2 Nat Int) [1,5,6,7,8,9,10,11,12,13,14,15,16,17,18,19] [] (fun yy0=>[(5,vI (yy0.1:Int)),(1,vI yy0.2)]) (fun yy0=>[]) (fun yy0=>yy0.1≤x.length∧yy0.2=m+((bR pJ (x.take yy0.1):Nat):Int)) (fun yy0=>x.length - yy0.1) (fun yy0=> .len ((dF m x).length)<| .br (.elem _ intD (dF m x) (fun e14=> .no<| .back [])) (.fin []))) (p:=((dF m x).map intD).length≤9223372036854775807→(∃(k:Nat) (z:Int),(0:Int)=(k:Int)∧m=z∧k≤x.length∧z=m+((bR pJ (x.take k):Nat):Int))∧ ∀(k:Nat) (z:Int),(k≤x.length∧z=m+((bR pJ (x.take k):Nat):Int))→Lm intD (dF m x)∧(((decide ((k:Int)<(((dF m x).length:Nat):Int)))=true→0≤(k:Int)∧Em intD (dF m x) k fun e14=>(!(decide (e14=z)))=false∧cC (z+(1:Int))∧cC ((k:Int)+(1:Int))∧ ∃(k' :Nat) (z' :Int),((k:Int)+(1:Int))=(k' :Int)∧(z+(1:Int))=z' ∧(k' ≤x.length∧z' =m+((bR pJ (x.take k'):Nat):Int))∧x.length - k' <x.length - k)∧((decide ((k:Int)<(((dF m x).length:Nat):Int)))=false→z=(m+((cT x:Nat):Int))∧True))) (by kernel_rfl) ?_
 intro n0
 simp only [List.length_map] at n0
 have hS:cT x=bR pJ x:=rfl
 have hC:bS x=x.length:=rfl
 have hlen:(dF m x).length=x.length:=oR _ _ _ _
 refine ⟨⟨0,m,rfl,rfl,Nat.zero_le _,by simp [bR]⟩,fun k z ⟨hk,hz⟩=>?_⟩
 refine ⟨List.length_map _,fun c0=>?_,fun c0=>?_⟩
 ·replace c0:=yq c0
  obtain ⟨y,hy⟩:=cK (l:=x) (k:=k) (by omega)
  have hY:(dF m x)[k]? =some (aNZ z y):=by rw [hz];exact aFd _ _ x m k y hy
  have hs:=dJ pJ hy
  have hle:=gD pJ x (k+1)
  have hA:bR pJ (x.take k)≤5*k:=aUx (fun _=>by simp [pJ]) x k hk
  have hle5:=jU x
  have hE:pJ y=1:=rfl
  refine ⟨by omega,rfl,by omega,fun e14 h14=>?_⟩
  obtain rfl:=(aY hY h14).symm
  refine ⟨by simp [aNZ],⟨by omega,by omega⟩,⟨by omega,by omega⟩,?_⟩
  exact ⟨k+1,_,rfl,rfl,⟨by omega,by rw [hs];(try dsimp only);omega⟩,by omega⟩
 ·replace c0:=nq c0
  have hkx:k=x.length:=by omega
  rw [hkx,List.take_length] at hz
  refine ⟨?_,trivial⟩
  ·rw [hz];rfl
theorem aHi (n:Int):cM (xM n)≤1000:=by
 by_cases h:1≤n∧n≤4
 ·have:n=1∨n=2∨n=3∨n=4:=by omega
  rcases this with rfl | rfl | rfl | rfl<;>decide+kernel
 ·rw [xM,if_neg h];decide
def okC (n:Int) (c:aF):Bool:=decide (1≤c.dst∧c.dst≤(1:Int)*2^n.toNat - 1)&&(decide (0≤c.src)&&(decide (cH .and .i64 c.src c.dst=c.src)&&decide (¬c.src=c.dst)))
theorem aSQ {n:Int} {c:aF} (h:okC n c=true):(1≤c.dst∧c.dst≤(1:Int)*2^n.toNat - 1)∧0≤c.src∧cH .and .i64 c.src c.dst=c.src∧ ¬c.src=c.dst:=by
 simpa only [okC,Bool.and_eq_true,decide_eq_true_eq] using h
theorem aN3 {n:Int} {c:aF} (h:(1≤c.dst∧c.dst≤(1:Int)*2^n.toNat - 1)∧0≤c.src∧cH .and .i64 c.src c.dst=c.src∧ ¬c.src=c.dst):okC n c=true:=by
 simpa only [okC,Bool.and_eq_true,decide_eq_true_eq] using h
theorem xA {n:Int} {c:aF} (h: ¬((1≤c.dst∧c.dst≤(1:Int)*2^n.toNat - 1)∧0≤c.src∧cH .and .i64 c.src c.dst=c.src∧ ¬c.src=c.dst)):okC n c=false:=by
 cases e:okC n c with
 | false=>rfl
 | true=>exact absurd (aSQ e) h
theorem aCF {a c:Int} (h0:0≤a) (hc:0≤c) (ha:a≤9223372036854775807) (hc2:c≤9223372036854775807):cH .and .i64 a c≤c:=by
 obtain ⟨m,rfl⟩:=Int.eq_ofNat_of_zero_le h0
 obtain ⟨k,rfl⟩:=Int.eq_ofNat_of_zero_le hc
 have e1:(BitVec.ofInt 64 (m:Int)).toNat=m:=by simp;omega
 have e2:(BitVec.ofInt 64 (k:Int)).toNat=k:=by simp;omega
 have hle:m&&&k≤k:=Nat.and_le_right
 unfold cH
 show IntKind.i64.wrap ((BitVec.ofInt 64 (m:Int)&&&BitVec.ofInt 64 (k:Int)).toNat:Nat)≤_
 rw [BitVec.toNat_and,e1,e2,IntWalk.i64_in _ ⟨by omega,by omega⟩]
 omega
def oN (n:Int) (c:aF):List Int:=eZ (dV n) [c.dst] [c.src]
def cA (n:Int) (l:List aF):eD:=⟨eZ (dV n) [dV n] [],cE n++l.map (oN n),List.replicate (cE n).length 0++l.map (·.bits)⟩
def dY (l:List aF) (n:Int):eD × Bool:=if (1≤n∧n≤4)∧l.all (okC n)=true∧eM (cA n l)=true then (cA n l,true) else (oC,false)
theorem aMT {l:List aF} {n:Int} (h1:1≤n∧n≤4) (h2:l.all (okC n)=true) (h3:eM (cA n l)=true):dY l n=(cA n l,true):=by rw [dY,if_pos ⟨h1,h2,h3⟩]
theorem cZ {l:List aF} {n:Int} (h1: ¬(1≤n∧n≤4)):dY l n=(oC,false):=by rw [dY,if_neg (fun h=>h1 h.1)]
theorem dA {l:List aF} {n:Int} {k:Nat} {c:aF} (h:l[k]? =some c) (hc:okC n c=false):dY l n=(oC,false):=by
 rw [dY,if_neg (fun q=>by have:=bU h hc;rw [q.2.1] at this;cases this)]
theorem aN4 {l:List aF} {n:Int} (h:eM (cA n l)=false):dY l n=(oC,false):=by
 rw [dY,if_neg (fun q=>by rw [q.2.2] at h;cases h)]
theorem bI {l:List aF} {n:Int} (h:64<l.length):dY l n=(oC,false):=aN4 (eW (fun q=>by
 have:(cA n l).rows.length=(cE n).length+l.length:=by simp [cA]
 omega))
theorem aSR (al:Int) (p m:List Int):(eZ al p m).length=al.toNat:=by
 have h: ∀(v:Int) (q:List Int) (r:List Int),(q.foldl (oO v) r).length=r.length:=by
  intro v q
  induction q with
  | nil=>intro r;rfl
  | cons s q ih=>
    intro r
    rw [List.foldl_cons,ih]
    unfold oO
    split
    ·simp
    ·rfl
 rw [eZ,h,h,List.length_replicate]
theorem aHj {n:Int} {c:aF} (hd:0<c.dst) (hs:0<c.src):oN n c=((List.replicate (dV n).toNat (0:Int)).set (c.dst - 1).toNat 1).set (c.src - 1).toNat (-1):=by
 show oO (-1) (oO 1 _ c.dst) c.src=_
 rw [qR hd,qR hs]
theorem aHk {n:Int} {c:aF} (hd:0<c.dst) (hs: ¬0<c.src):oN n c=(List.replicate (dV n).toNat (0:Int)).set (c.dst - 1).toNat 1:=by
 show oO (-1) (oO 1 _ c.dst) c.src=_
 rw [qR hd,aDL hs]
theorem eT {n:Int} (h:0<dV n):eZ (dV n) [dV n] []=(List.replicate (dV n).toNat (0:Int)).set (dV n - 1).toNat 1:=by
 show oO 1 _ (dV n)=_
 rw [qR h]
theorem aJk (n:Int):(cE n).length≤1000:=by
 have h:=aHi n
 have h2:=fD (xM n)
 rw [←aK6];omega
theorem aEv {α:Type} {ct:α→Nat} {m:Nat}: ∀{l:List α},(∀x∈l,ct x≤m)→bR ct l≤l.length*m
 | [],_=>by simp [bR]
 | a::l,h=>by
   have h1:=h a (by simp)
   have h2:=aEv (l:=l) fun x hx=>h x (by simp [hx])
   simp only [bR,List.map_cons,List.sum_cons,List.length_cons,Nat.add_mul,Nat.one_mul] at*
   omega
theorem aKb {p:eD} (h:eM p=true):sK p≤2000:=by
 obtain ⟨h1,h2,h3,h4,h5⟩:=aNY h
 have hs:bR bS p.rows≤p.rows.length*15:=aEv fun r hr=>by
  have:=(h4 r (by simp [hr])).1
  have e:bS r=r.length:=rfl
  omega
 have e1:sK p=bS p.objective+cM p.rows+bS p.limits:=rfl
 have e2:bS p.objective=p.objective.length:=rfl
 have e3:bS p.limits=p.limits.length:=rfl
 have e4:cM p.rows=p.rows.length+bR bS p.rows:=rfl
 omega
theorem aN5 (l:List aF) (n:Int):sK (dY l n).1≤2000:=by
 unfold dY
 split
 ·rename_i h;exact aKb h.2.2
 ·decide
theorem aSS {n:Int} {l:List aF} (hn:1≤n∧n≤4): ∀r∈cE n++l.map (oN n),r.length≤1048576:=by
 intro r hr
 rcases List.mem_append.1 hr with h | h
 ·have h1:=aHi n
  rw [aK6] at h1
  obtain ⟨k,hk⟩:=List.getElem?_of_mem h
  have h2:=nG hk
  have e:bS r=r.length:=rfl
  omega
 ·obtain ⟨c,_,rfl⟩:=List.mem_map.1 h
  rw [oN,aSR]
  obtain ⟨b1,b2,b3⟩:=aAx hn
  have hal:dV n=(1:Int)*2^n.toNat - 1:=rfl
  omega
def uM (r:RationalD):Bool:=fP r&& !decide (r.num<0)
def gO (l:List RationalD) (n:Int):Bool:=decide ((l.length:Int)=n)&&l.all uM
theorem rO (l:List RationalD) (n:Int):gO l n=((decide ((l.length:Int)=n)&&l.all fP)&&l.all fun r=> !decide (r.num<0)):=by
 have:l.all uM=(l.all fP&&l.all fun r=> !decide (r.num<0)):=by
  induction l with
  | nil=>rfl
  | cons a l ih=>simp only [List.all_cons,ih,uM];cases fP a<;>cases (!decide (a.num<0))<;>cases l.all fP<;>simp
 rw [gO,this,Bool.and_assoc]
theorem aHl (m:Int) (l:List Int): ∀k,∃p,kI m l k=m4 p
 | 0=>⟨fun _=>false,by simp [kI,m4,b4]⟩
 | k+1=>by
   obtain ⟨p,hp⟩:=aHl m l k
   rw [kI]
   split
   ·rename_i h
    exact ⟨_,by rw [hp,aRi h.1.1]⟩
   ·exact ⟨p,hp⟩
theorem aEw (m:Int) (l:List Int):0≤gN m l∧gN m l≤15:=by
 obtain ⟨p,hp⟩:=aHl m l l.length
 rw [gN,hp]
 exact aRh p
theorem aEx: ∀(f b:Nat) (n:Int),0≤kM f b n∧kM f b n≤((b+f:Nat):Int)
 | 0,b,_=>by rw [kM];omega
 | f+1,b,n=>by
   have:=aEx f (b+1) n
   rw [kM]
   split<;>omega
theorem aN6 (n:Int): -1≤nS n∧nS n≤12:=by
 have:=aEx 12 0 n
 unfold nS
 split<;>omega
theorem aN7 {s:StoreD} {q:QueryD} {m:Int} {x:aF} (h:x∈bT s q m): -1≤x.bits∧x.bits≤12:=by
 unfold bT at h
 split at h
 ·rw [qcL,List.mem_flatMap] at h
  obtain ⟨y,_,h⟩:=h
  rw [qcA] at h
  unfold lP at h
  split at h
  ·obtain ⟨z,_,rfl⟩:=List.mem_map.1 h
   exact aN6 _
  ·simp at h
 ·simp at h
theorem aMU {s:StoreD} {q:QueryD} {m:Int} (v:List Int):pA ((bT s q m).map (mT v)):=by
 intro x hx
 obtain ⟨y,hy,rfl⟩:=List.mem_map.1 hx
 have h1:=aEw y.src v
 have h2:=aEw y.dst v
 have h3:=aN7 hy
 refine ⟨⟨?_,?_⟩,⟨?_,?_⟩,⟨?_,?_⟩⟩<;>(simp only [mT];omega)
def dX (s:StoreD) (q:QueryD) (m:Int):eD × Bool:=if (bT s q m).length=0 then (oC,false) else dY ((bT s q m).map (mT (cJ q m))) ((cJ q m).length:Nat)
theorem jW {s:StoreD} {q:QueryD} {m:Int} (h:(bT s q m).length=0):dX s q m=(oC,false):=by rw [dX,if_pos h]
theorem iC {s:StoreD} {q:QueryD} {m:Int} (h: ¬(bT s q m).length=0):dX s q m=dY ((bT s q m).map (mT (cJ q m))) ((cJ q m).length:Nat):=by rw [dX,if_neg h]
theorem aCG (s:StoreD) (q:QueryD) (m:Int):sK (dX s q m).1≤2000:=by
 unfold dX
 split
 ·decide
 ·exact aN5 _ _
theorem aJl {s:StoreD} {q:QueryD} {m:Int} (h:(dX s q m).2=true):(dX s q m).1.rows.length=(cE ((cJ q m).length:Nat)).length+(bT s q m).length:=by
 unfold dX at*
 split at h
 ·cases h
 ·rename_i h1
  rw [if_neg h1]
  unfold dY at*
  split at h
  ·rename_i h2
   rw [if_pos h2]
   simp [cA]
  ·cases h
def yC (ws:List RationalD) (f i:Nat):Bool:=decide (0<(ws.getD (f+i) iV).num)
def kS (s:StoreD) (q:QueryD) (m:Int) (ws:List RationalD):List Int:=if ((dX s q m).2&&gO ws (dX s q m).1.rows.length)=true then fX (yC ws (cE ((cJ q m).length:Nat)).length) (bT s q m).length else []
theorem tC {s:StoreD} {q:QueryD} {m:Int} {ws:List RationalD} (h:((dX s q m).2&&gO ws (dX s q m).1.rows.length)=true):kS s q m ws=fX (yC ws (cE ((cJ q m).length:Nat)).length) (bT s q m).length:=by rw [kS,if_pos h]
theorem xB {s:StoreD} {q:QueryD} {m:Int} {ws:List RationalD} (h:((dX s q m).2&&gO ws (dX s q m).1.rows.length)=false):kS s q m ws= []:=by rw [kS,if_neg (by rw [h];decide)]
theorem aST (s:StoreD) (q:QueryD) (m:Int) (ws:List RationalD):(kS s q m ws).length≤28:=by
 unfold kS
 split
 ·exact Nat.le_trans (qO _ _) (vK s q m)
 ·exact Nat.zero_le _
abbrev aCH (l:List aF) (n:Int):AV × List (Nat × Rs):=(.tup [.agg [.own 0,.own 1,.own 2],vB ((dY l n).2)],[(0,.arr 3 1 true ((((dY l n).1).objective).map intD)),(1,.arr 39 1 true ((((dY l n).1).rows).map aC)),(2,.arr 3 1 true ((((dY l n).1).limits).map intD))])
abbrev aHm (l:List aF) (n:Int):Prop:=cX Tryz.prog 80 [.one (.sl 164 3 (l.map aE)),.one (.int .i64 n)] (aCH l n).1 (aCH l n).2
theorem aSU (l:List aF) (n:Int) (hl:l.length≤1048576) (hf:pA l):aHm l n:=by
 refine aX bG aR Tryz.func80 (by kernel_rfl) (.call (vB (decide ((1:Int)≤n∧n≤(4:Int)))) []<| .br (.fin []) (.mk ((((1:Int)*2^(Int.toNat n)) - (1:Int)).toNat) [.int .i64 (0:Int)] ((List.replicate ((((1:Int)*2^(Int.toNat n)) - (1:Int)).toNat) (0:Int)).map intD)<| .call (.own 0) [(0,.arr 39 1 true ((cE n).map aC))]<| .len ((List.replicate ((((1:Int)*2^(Int.toNat n)) - (1:Int)).toNat) (0:Int)).length)<| .set Int intD (List.replicate ((((1:Int)*2^(Int.toNat n)) - (1:Int)).toNat) (0:Int)) (fun s5_5=>(1:Int)) (fun s5_5=> .len ((cE n).length)<| .mk ((cE n).length) [.int .i64 (0:Int)] ((List.replicate ((cE n).length) (0:Int)).map intD)<| .len l.length<| .loop (Nat × (List (List Int)) × (List Int)) (Q3 Nat (List (List Int)) (List Int)) [9,10,21,22,29,31,35,36,37,38,39,40,41,42,43,44,45,46,47,48,49,50,51,52,53,54,55,56,57,58,59,60,61,62,63,64,65,67,68,69,70,71,72,73,74,75,76,77,78,79,80,81,82,83,84,85,86,87,88,89,90,91,92,93,94,95] [700,900,2100,3100,6800,8500,8600,9200,9300] (fun yy0=>[(35,vI (yy0.1:Int))]) (fun yy0=>[(700,some (.box 80 [.own 1900,.own 2100,.own 3100])),(2100,some (.arr 39 1 true (yy0.2.1.map aC))),(3100,some (.arr 3 1 true (yy0.2.2.map intD)))]) (fun yy0=>yy0.1≤l.length∧yy0.2.1=cE n++(l.take yy0.1).map (oN n)∧yy0.2.2=List.replicate (cE n).length 0++(l.take yy0.1).map (·.bits)∧(l.take yy0.1).all (okC n)=true) (fun yy0=>l.length - yy0.1) (fun yy0=> .br (.elem _ aE l (fun e37=> .call (vB (decide ((1:Int)≤e37.dst∧e37.dst≤(((1:Int)*2^(Int.toNat n)) - (1:Int))))) []<| .br (.fin []) (.lit<| .lit<| .lit<| .br (.fin []) (.lit<| .lit<| .lit<| .lit<| .lit<| .lit<| .lit<| .lit<| .br (.fin []) (.lit<| .lit<| .lit<| .lit<| .lit<| .br (.fin []) (.mk ((((1:Int)*2^(Int.toNat n)) - (1:Int)).toNat) [.int .i64 (0:Int)] ((List.replicate ((((1:Int)*2^(Int.toNat n)) - (1:Int)).toNat) (0:Int)).map intD)<| .len ((List.replicate ((((1:Int)*2^(Int.toNat n)) - (1:Int)).toNat) (0:Int)).length)<| .set Int intD (List.replicate ((((1:Int)*2^(Int.toNat n)) - (1:Int)).toNat) (0:Int)) (fun s13_5=>(1:Int)) (fun s13_5=> .br (.len (((List.replicate ((((1:Int)*2^(Int.toNat n)) - (1:Int)).toNat) (0:Int)).set ((e37.dst - (1:Int)).toNat) (1:Int)).length)<| .set Int intD ((List.replicate ((((1:Int)*2^(Int.toNat n)) - (1:Int)).toNat) (0:Int)).set ((e37.dst - (1:Int)).toNat) (1:Int)) (fun s15_5=>(-1:Int)) (fun s15_5=> .appx (List Int) aC yy0.2.1 (((List.replicate ((((1:Int)*2^(Int.toNat n)) - (1:Int)).toNat) (0:Int)).set ((e37.dst - (1:Int)).toNat) (1:Int)).set ((e37.src - (1:Int)).toNat) (-1:Int))<| .app Int intD yy0.2.2 ([e37.bits]:List Int)<| .back [(700,700),(2100,8600),(3100,9300)])) (.appx (List Int) aC yy0.2.1 ((List.replicate ((((1:Int)*2^(Int.toNat n)) - (1:Int)).toNat) (0:Int)).set ((e37.dst - (1:Int)).toNat) (1:Int))<| .app Int intD yy0.2.2 ([e37.bits]:List Int)<| .back [(700,700),(2100,8600),(3100,9300)])))))))) (.call (vB (eM (⟨(List.replicate ((((1:Int)*2^(Int.toNat n)) - (1:Int)).toNat) (0:Int)).set (((((1:Int)*2^(Int.toNat n)) - (1:Int)) - (1:Int)).toNat) (1:Int),yy0.2.1,yy0.2.2⟩:eD))) []<| .br (.fin []) (.fin [(0,1900),(1,2100),(2,3100)])))))) (p:=(l.map aE).length≤9223372036854775807→kE n (1:Int) (4:Int)∧(((!(decide ((1:Int)≤n∧n≤(4:Int))))=true→(false)=((dY l n).2)∧[]=(((dY l n).1).objective).map intD∧[]=(((dY l n).1).rows).map aC∧[]=(((dY l n).1).limits).map intD∧True)∧((!(decide ((1:Int)≤n∧n≤(4:Int))))=false→(0≤n∧n≤64)∧(cC ((1:Int)*2^(Int.toNat n))∧(cC (((1:Int)*2^(Int.toNat n)) - (1:Int))∧((((1:Int)*2^(Int.toNat n)) - (1:Int))=(((((1:Int)*2^(Int.toNat n)) - (1:Int)).toNat:Nat):Int)∧(((1:Int)*2^(Int.toNat n)) - (1:Int))=(((((1:Int)*2^(Int.toNat n)) - (1:Int)).toNat:Nat):Int)∧8*((((1:Int)*2^(Int.toNat n)) - (1:Int)).toNat)≤281474976710656∧((((1:Int)*2^(Int.toNat n)) - (1:Int)).toNat)≤9223372036854775807∧List.replicate ((((1:Int)*2^(Int.toNat n)) - (1:Int)).toNat) [.int .i64 (0:Int)]=(List.replicate ((((1:Int)*2^(Int.toNat n)) - (1:Int)).toNat) (0:Int)).map intD∧(cX Tryz.prog 120 [.one (.int .i64 n)] (.own 0) [(0,.arr 39 1 true ((cE n).map aC))]∧(cC ((((1:Int)*2^(Int.toNat n)) - (1:Int)) - (1:Int))∧(0≤((((1:Int)*2^(Int.toNat n)) - (1:Int)) - (1:Int))∧Lm intD (List.replicate ((((1:Int)*2^(Int.toNat n)) - (1:Int)).toNat) (0:Int))∧((((1:Int)*2^(Int.toNat n)) - (1:Int)) - (1:Int))<(((List.replicate ((((1:Int)*2^(Int.toNat n)) - (1:Int)).toNat) (0:Int)).length:Nat):Int)∧((List.replicate ((((1:Int)*2^(Int.toNat n)) - (1:Int)).toNat) (0:Int)).map intD=(List.replicate ((((1:Int)*2^(Int.toNat n)) - (1:Int)).toNat) (0:Int)).map intD∧((((1:Int)*2^(Int.toNat n)) - (1:Int)) - (1:Int)).toNat<(List.replicate ((((1:Int)*2^(Int.toNat n)) - (1:Int)).toNat) (0:Int)).length∧ ∀s5_5,(List.replicate ((((1:Int)*2^(Int.toNat n)) - (1:Int)).toNat) (0:Int))[((((1:Int)*2^(Int.toNat n)) - (1:Int)) - (1:Int)).toNat]? =some s5_5→dT (intD s5_5)=true∧0+1≤(intD s5_5).length∧(intD s5_5).take 0++[.int .i64 (1:Int)]++(intD s5_5).drop (0+1)=intD (1:Int)∧(Lm aC (cE n)∧((((cE n).length:Nat):Int)=(((cE n).length:Nat):Int)∧(((cE n).length:Nat):Int)=(((cE n).length:Nat):Int)∧8*((cE n).length)≤281474976710656∧((cE n).length)≤9223372036854775807∧List.replicate ((cE n).length) [.int .i64 (0:Int)]=(List.replicate ((cE n).length) (0:Int)).map intD∧(Lm aE l∧((∃(k:Nat) (R:List (List Int)) (M:List Int),(0:Int)=(k:Int)∧(cE n).map aC=R.map aC∧(List.replicate ((cE n).length) (0:Int)).map intD=M.map intD∧k≤l.length∧R=cE n++(l.take k).map (oN n)∧M=List.replicate (cE n).length 0++(l.take k).map (·.bits)∧(l.take k).all (okC n)=true)∧ ∀(k:Nat) (R:List (List Int)) (M:List Int),(k≤l.length∧R=cE n++(l.take k).map (oN n)∧M=List.replicate (cE n).length 0++(l.take k).map (·.bits)∧(l.take k).all (okC n)=true)→((decide ((k:Int)<((l.length:Nat):Int)))=true→0≤(k:Int)∧Em aE l k fun e37=>kE e37.dst (1:Int) (((1:Int)*2^(Int.toNat n)) - (1:Int))∧(((!(decide ((1:Int)≤e37.dst∧e37.dst≤(((1:Int)*2^(Int.toNat n)) - (1:Int)))))=true→(false)=((dY l n).2)∧[]=(((dY l n).1).objective).map intD∧[]=(((dY l n).1).rows).map aC∧[]=(((dY l n).1).limits).map intD∧True)∧((!(decide ((1:Int)≤e37.dst∧e37.dst≤(((1:Int)*2^(Int.toNat n)) - (1:Int)))))=false→((decide (e37.src<(0:Int)))=true→(false)=((dY l n).2)∧[]=(((dY l n).1).objective).map intD∧[]=(((dY l n).1).rows).map aC∧[]=(((dY l n).1).limits).map intD∧True)∧((decide (e37.src<(0:Int)))=false→((!(decide ((cH .and .i64 e37.src e37.dst)=e37.src)))=true→(false)=((dY l n).2)∧[]=(((dY l n).1).objective).map intD∧[]=(((dY l n).1).rows).map aC∧[]=(((dY l n).1).limits).map intD∧True)∧((!(decide ((cH .and .i64 e37.src e37.dst)=e37.src)))=false→((decide (e37.src=e37.dst))=true→(false)=((dY l n).2)∧[]=(((dY l n).1).objective).map intD∧[]=(((dY l n).1).rows).map aC∧[]=(((dY l n).1).limits).map intD∧True)∧((decide (e37.src=e37.dst))=false→(((1:Int)*2^(Int.toNat n)) - (1:Int))=(((((1:Int)*2^(Int.toNat n)) - (1:Int)).toNat:Nat):Int)∧(((1:Int)*2^(Int.toNat n)) - (1:Int))=(((((1:Int)*2^(Int.toNat n)) - (1:Int)).toNat:Nat):Int)∧8*((((1:Int)*2^(Int.toNat n)) - (1:Int)).toNat)≤281474976710656∧((((1:Int)*2^(Int.toNat n)) - (1:Int)).toNat)≤9223372036854775807∧List.replicate ((((1:Int)*2^(Int.toNat n)) - (1:Int)).toNat) [.int .i64 (0:Int)]=(List.replicate ((((1:Int)*2^(Int.toNat n)) - (1:Int)).toNat) (0:Int)).map intD∧(cC (e37.dst - (1:Int))∧(0≤(e37.dst - (1:Int))∧Lm intD (List.replicate ((((1:Int)*2^(Int.toNat n)) - (1:Int)).toNat) (0:Int))∧(e37.dst - (1:Int))<(((List.replicate ((((1:Int)*2^(Int.toNat n)) - (1:Int)).toNat) (0:Int)).length:Nat):Int)∧((List.replicate ((((1:Int)*2^(Int.toNat n)) - (1:Int)).toNat) (0:Int)).map intD=(List.replicate ((((1:Int)*2^(Int.toNat n)) - (1:Int)).toNat) (0:Int)).map intD∧(e37.dst - (1:Int)).toNat<(List.replicate ((((1:Int)*2^(Int.toNat n)) - (1:Int)).toNat) (0:Int)).length∧ ∀s13_5,(List.replicate ((((1:Int)*2^(Int.toNat n)) - (1:Int)).toNat) (0:Int))[(e37.dst - (1:Int)).toNat]? =some s13_5→dT (intD s13_5)=true∧0+1≤(intD s13_5).length∧(intD s13_5).take 0++[.int .i64 (1:Int)]++(intD s13_5).drop (0+1)=intD (1:Int)∧(((decide ((0:Int)<e37.src))=true→cC (e37.src - (1:Int))∧(0≤(e37.src - (1:Int))∧Lm intD ((List.replicate ((((1:Int)*2^(Int.toNat n)) - (1:Int)).toNat) (0:Int)).set ((e37.dst - (1:Int)).toNat) (1:Int))∧(e37.src - (1:Int))<((((List.replicate ((((1:Int)*2^(Int.toNat n)) - (1:Int)).toNat) (0:Int)).set ((e37.dst - (1:Int)).toNat) (1:Int)).length:Nat):Int)∧(((List.replicate ((((1:Int)*2^(Int.toNat n)) - (1:Int)).toNat) (0:Int)).set ((e37.dst - (1:Int)).toNat) (1:Int)).map intD=((List.replicate ((((1:Int)*2^(Int.toNat n)) - (1:Int)).toNat) (0:Int)).set ((e37.dst - (1:Int)).toNat) (1:Int)).map intD∧(e37.src - (1:Int)).toNat<((List.replicate ((((1:Int)*2^(Int.toNat n)) - (1:Int)).toNat) (0:Int)).set ((e37.dst - (1:Int)).toNat) (1:Int)).length∧ ∀s15_5,((List.replicate ((((1:Int)*2^(Int.toNat n)) - (1:Int)).toNat) (0:Int)).set ((e37.dst - (1:Int)).toNat) (1:Int))[(e37.src - (1:Int)).toNat]? =some s15_5→dT (intD s15_5)=true∧0+1≤(intD s15_5).length∧(intD s15_5).take 0++[.int .i64 (-1:Int)]++(intD s15_5).drop (0+1)=intD (-1:Int)∧R.map aC=R.map aC∧(((List.replicate ((((1:Int)*2^(Int.toNat n)) - (1:Int)).toNat) (0:Int)).set ((e37.dst - (1:Int)).toNat) (1:Int)).set ((e37.src - (1:Int)).toNat) (-1:Int)).map intD=(((List.replicate ((((1:Int)*2^(Int.toNat n)) - (1:Int)).toNat) (0:Int)).set ((e37.dst - (1:Int)).toNat) (1:Int)).set ((e37.src - (1:Int)).toNat) (-1:Int)).map intD∧(R.length+1)*24≤140737488355328∧M.map intD=M.map intD∧[[.int .i64 e37.bits]]=([e37.bits]:List Int).map intD∧(∀x,dT (intD x)=true)∧(M.length+([e37.bits]:List Int).length)*8≤140737488355328∧cC ((k:Int)+(1:Int))∧ ∃(k' :Nat) (R' :List (List Int)) (M' :List Int),((k:Int)+(1:Int))=(k' :Int)∧(R++[((List.replicate ((((1:Int)*2^(Int.toNat n)) - (1:Int)).toNat) (0:Int)).set ((e37.dst - (1:Int)).toNat) (1:Int)).set ((e37.src - (1:Int)).toNat) (-1:Int)]).map aC=R'.map aC∧(M++[e37.bits]).map intD=M'.map intD∧(k' ≤l.length∧R' =cE n++(l.take k').map (oN n)∧M' =List.replicate (cE n).length 0++(l.take k').map (·.bits)∧(l.take k').all (okC n)=true)∧l.length - k' <l.length - k)))∧((decide ((0:Int)<e37.src))=false→R.map aC=R.map aC∧((List.replicate ((((1:Int)*2^(Int.toNat n)) - (1:Int)).toNat) (0:Int)).set ((e37.dst - (1:Int)).toNat) (1:Int)).map intD=((List.replicate ((((1:Int)*2^(Int.toNat n)) - (1:Int)).toNat) (0:Int)).set ((e37.dst - (1:Int)).toNat) (1:Int)).map intD∧(R.length+1)*24≤140737488355328∧M.map intD=M.map intD∧[[.int .i64 e37.bits]]=([e37.bits]:List Int).map intD∧(∀x,dT (intD x)=true)∧(M.length+([e37.bits]:List Int).length)*8≤140737488355328∧cC ((k:Int)+(1:Int))∧ ∃(k' :Nat) (R' :List (List Int)) (M' :List Int),((k:Int)+(1:Int))=(k' :Int)∧(R++[(List.replicate ((((1:Int)*2^(Int.toNat n)) - (1:Int)).toNat) (0:Int)).set ((e37.dst - (1:Int)).toNat) (1:Int)]).map aC=R'.map aC∧(M++[e37.bits]).map intD=M'.map intD∧(k' ≤l.length∧R' =cE n++(l.take k').map (oN n)∧M' =List.replicate (cE n).length 0++(l.take k').map (·.bits)∧(l.take k').all (okC n)=true)∧l.length - k' <l.length - k)))))))))))∧((decide ((k:Int)<((l.length:Nat):Int)))=false→aEr (⟨(List.replicate ((((1:Int)*2^(Int.toNat n)) - (1:Int)).toNat) (0:Int)).set (((((1:Int)*2^(Int.toNat n)) - (1:Int)) - (1:Int)).toNat) (1:Int),R,M⟩:eD)∧(((!(eM (⟨(List.replicate ((((1:Int)*2^(Int.toNat n)) - (1:Int)).toNat) (0:Int)).set (((((1:Int)*2^(Int.toNat n)) - (1:Int)) - (1:Int)).toNat) (1:Int),R,M⟩:eD)))=true→(false)=((dY l n).2)∧[]=(((dY l n).1).objective).map intD∧[]=(((dY l n).1).rows).map aC∧[]=(((dY l n).1).limits).map intD∧True)∧((!(eM (⟨(List.replicate ((((1:Int)*2^(Int.toNat n)) - (1:Int)).toNat) (0:Int)).set (((((1:Int)*2^(Int.toNat n)) - (1:Int)) - (1:Int)).toNat) (1:Int),R,M⟩:eD)))=false→(true)=((dY l n).2)∧((List.replicate ((((1:Int)*2^(Int.toNat n)) - (1:Int)).toNat) (0:Int)).set (((((1:Int)*2^(Int.toNat n)) - (1:Int)) - (1:Int)).toNat) (1:Int)).map intD=(((dY l n).1).objective).map intD∧R.map aC=(((dY l n).1).rows).map aC∧M.map intD=(((dY l n).1).limits).map intD∧True))))))))))))))))) (by kernel_rfl) ?_
 intro n0
 simp only [List.length_map] at n0
 refine ⟨oI _ _ _,fun c0=>?_,fun c0=>?_⟩
 ·replace c0:=nq (nt c0)
  refine ⟨?_,?_,?_,?_,trivial⟩
  ·first | (rw [cZ (by omega)]<;>rfl) | (rw [dA hk2 hbad]<;>rfl) | (rw [bI (by omega)]<;>rfl) | (rw [hfin]<;>rfl) | (rw [hfin,cA,hR]<;>rfl) | (rw [hfin,cA,hM]<;>rfl) | (rw [hfin,cA,eT (by omega)]<;>rfl)
  ·first | (rw [cZ (by omega)]<;>rfl) | (rw [dA hk2 hbad]<;>rfl) | (rw [bI (by omega)]<;>rfl) | (rw [hfin]<;>rfl) | (rw [hfin,cA,hR]<;>rfl) | (rw [hfin,cA,hM]<;>rfl) | (rw [hfin,cA,eT (by omega)]<;>rfl)
  ·first | (rw [cZ (by omega)]<;>rfl) | (rw [dA hk2 hbad]<;>rfl) | (rw [bI (by omega)]<;>rfl) | (rw [hfin]<;>rfl) | (rw [hfin,cA,hR]<;>rfl) | (rw [hfin,cA,hM]<;>rfl) | (rw [hfin,cA,eT (by omega)]<;>rfl)
  ·first | (rw [cZ (by omega)]<;>rfl) | (rw [dA hk2 hbad]<;>rfl) | (rw [bI (by omega)]<;>rfl) | (rw [hfin]<;>rfl) | (rw [hfin,cA,hR]<;>rfl) | (rw [hfin,cA,hM]<;>rfl) | (rw [hfin,cA,eT (by omega)]<;>rfl)
 ·replace c0:=yq (nf c0)
  obtain ⟨b1,b2,b3⟩:=aAx (n:=n) (by omega)
  have hal:dV n=(1:Int)*2^n.toNat - 1:=rfl
  have hel:=aJk n
  refine ⟨⟨by omega,by omega⟩,by first | exact bK (by omega) | exact ⟨by omega,by omega⟩,by first | exact bK (by omega) | exact ⟨by omega,by omega⟩,by omega,by omega,by first | omega | (simp [hR,hM];omega) | (simp;omega),by first | omega | (simp [hR,hM];omega) | (simp;omega),by first | (rw [List.map_replicate];done) | (rw [List.map_replicate];rfl),by rw [←aK6];exact aPp _,by first | exact bK (by omega) | exact ⟨by omega,by omega⟩,by omega,List.length_map _,by first | omega | (simp;omega),rfl,by first | omega | (simp;omega),fun s5_5 hs5_5=>⟨rfl,Nat.le_of_ble_eq_true rfl,rfl,?_⟩⟩
  refine ⟨List.length_map _,rfl,rfl,by first | omega | (simp [hR,hM];omega) | (simp;omega),by first | omega | (simp [hR,hM];omega) | (simp;omega),by first | (rw [List.map_replicate];done) | (rw [List.map_replicate];rfl),List.length_map _,⟨0,cE n,List.replicate ((cE n).length) (0:Int),rfl,rfl,rfl,Nat.zero_le _,by simp,by simp,rfl⟩,fun k R M ⟨hk,hR,hM,ha⟩=>?_⟩
  refine ⟨fun c1=>?_,fun c1=>?_⟩
  ·replace c1:=yq c1
   refine ⟨by omega,rfl,by first | omega | (simp;omega),fun e37 h37=>?_⟩
   have hk2:=h37
   have hfc:=hf _ (List.mem_of_getElem? h37)
   have hfs:e37.src≤9223372036854775807:=hfc.1.2
   have hfd:e37.dst≤9223372036854775807:=hfc.2.1.2
   refine ⟨oI _ _ _,fun g44=>?_,fun g44=>?_⟩
   ·replace g44:=nq (nt g44)
    have hbad:okC n e37=false:=xA (by rintro ⟨q1,q2,q3,q4⟩;omega)
    refine ⟨?_,?_,?_,?_,trivial⟩
    ·first | (rw [cZ (by omega)]<;>rfl) | (rw [dA hk2 hbad]<;>rfl) | (rw [bI (by omega)]<;>rfl) | (rw [hfin]<;>rfl) | (rw [hfin,cA,hR]<;>rfl) | (rw [hfin,cA,hM]<;>rfl) | (rw [hfin,cA,eT (by omega)]<;>rfl)
    ·first | (rw [cZ (by omega)]<;>rfl) | (rw [dA hk2 hbad]<;>rfl) | (rw [bI (by omega)]<;>rfl) | (rw [hfin]<;>rfl) | (rw [hfin,cA,hR]<;>rfl) | (rw [hfin,cA,hM]<;>rfl) | (rw [hfin,cA,eT (by omega)]<;>rfl)
    ·first | (rw [cZ (by omega)]<;>rfl) | (rw [dA hk2 hbad]<;>rfl) | (rw [bI (by omega)]<;>rfl) | (rw [hfin]<;>rfl) | (rw [hfin,cA,hR]<;>rfl) | (rw [hfin,cA,hM]<;>rfl) | (rw [hfin,cA,eT (by omega)]<;>rfl)
    ·first | (rw [cZ (by omega)]<;>rfl) | (rw [dA hk2 hbad]<;>rfl) | (rw [bI (by omega)]<;>rfl) | (rw [hfin]<;>rfl) | (rw [hfin,cA,hR]<;>rfl) | (rw [hfin,cA,hM]<;>rfl) | (rw [hfin,cA,eT (by omega)]<;>rfl)
   ·replace g44:=yq (nf g44)
    refine ⟨fun g49=>?_,fun g49=>?_⟩
    ·replace g49:=yq g49
     have hbad:okC n e37=false:=xA (by rintro ⟨q1,q2,q3,q4⟩;omega)
     refine ⟨?_,?_,?_,?_,trivial⟩
     ·first | (rw [cZ (by omega)]<;>rfl) | (rw [dA hk2 hbad]<;>rfl) | (rw [bI (by omega)]<;>rfl) | (rw [hfin]<;>rfl) | (rw [hfin,cA,hR]<;>rfl) | (rw [hfin,cA,hM]<;>rfl) | (rw [hfin,cA,eT (by omega)]<;>rfl)
     ·first | (rw [cZ (by omega)]<;>rfl) | (rw [dA hk2 hbad]<;>rfl) | (rw [bI (by omega)]<;>rfl) | (rw [hfin]<;>rfl) | (rw [hfin,cA,hR]<;>rfl) | (rw [hfin,cA,hM]<;>rfl) | (rw [hfin,cA,eT (by omega)]<;>rfl)
     ·first | (rw [cZ (by omega)]<;>rfl) | (rw [dA hk2 hbad]<;>rfl) | (rw [bI (by omega)]<;>rfl) | (rw [hfin]<;>rfl) | (rw [hfin,cA,hR]<;>rfl) | (rw [hfin,cA,hM]<;>rfl) | (rw [hfin,cA,eT (by omega)]<;>rfl)
     ·first | (rw [cZ (by omega)]<;>rfl) | (rw [dA hk2 hbad]<;>rfl) | (rw [bI (by omega)]<;>rfl) | (rw [hfin]<;>rfl) | (rw [hfin,cA,hR]<;>rfl) | (rw [hfin,cA,hM]<;>rfl) | (rw [hfin,cA,eT (by omega)]<;>rfl)
    ·replace g49:=nq g49
     refine ⟨fun g59=>?_,fun g59=>?_⟩
     ·replace g59:=nq (nt g59)
      have hbad:okC n e37=false:=xA (by rintro ⟨q1,q2,q3,q4⟩;omega)
      refine ⟨?_,?_,?_,?_,trivial⟩
      ·first | (rw [cZ (by omega)]<;>rfl) | (rw [dA hk2 hbad]<;>rfl) | (rw [bI (by omega)]<;>rfl) | (rw [hfin]<;>rfl) | (rw [hfin,cA,hR]<;>rfl) | (rw [hfin,cA,hM]<;>rfl) | (rw [hfin,cA,eT (by omega)]<;>rfl)
      ·first | (rw [cZ (by omega)]<;>rfl) | (rw [dA hk2 hbad]<;>rfl) | (rw [bI (by omega)]<;>rfl) | (rw [hfin]<;>rfl) | (rw [hfin,cA,hR]<;>rfl) | (rw [hfin,cA,hM]<;>rfl) | (rw [hfin,cA,eT (by omega)]<;>rfl)
      ·first | (rw [cZ (by omega)]<;>rfl) | (rw [dA hk2 hbad]<;>rfl) | (rw [bI (by omega)]<;>rfl) | (rw [hfin]<;>rfl) | (rw [hfin,cA,hR]<;>rfl) | (rw [hfin,cA,hM]<;>rfl) | (rw [hfin,cA,eT (by omega)]<;>rfl)
      ·first | (rw [cZ (by omega)]<;>rfl) | (rw [dA hk2 hbad]<;>rfl) | (rw [bI (by omega)]<;>rfl) | (rw [hfin]<;>rfl) | (rw [hfin,cA,hR]<;>rfl) | (rw [hfin,cA,hM]<;>rfl) | (rw [hfin,cA,eT (by omega)]<;>rfl)
     ·replace g59:=yq (nf g59)
      refine ⟨fun c2=>?_,fun c2=>?_⟩
      ·replace c2:=yq c2
       have hbad:okC n e37=false:=xA (by rintro ⟨q1,q2,q3,q4⟩;omega)
       refine ⟨?_,?_,?_,?_,trivial⟩
       ·first | (rw [cZ (by omega)]<;>rfl) | (rw [dA hk2 hbad]<;>rfl) | (rw [bI (by omega)]<;>rfl) | (rw [hfin]<;>rfl) | (rw [hfin,cA,hR]<;>rfl) | (rw [hfin,cA,hM]<;>rfl) | (rw [hfin,cA,eT (by omega)]<;>rfl)
       ·first | (rw [cZ (by omega)]<;>rfl) | (rw [dA hk2 hbad]<;>rfl) | (rw [bI (by omega)]<;>rfl) | (rw [hfin]<;>rfl) | (rw [hfin,cA,hR]<;>rfl) | (rw [hfin,cA,hM]<;>rfl) | (rw [hfin,cA,eT (by omega)]<;>rfl)
       ·first | (rw [cZ (by omega)]<;>rfl) | (rw [dA hk2 hbad]<;>rfl) | (rw [bI (by omega)]<;>rfl) | (rw [hfin]<;>rfl) | (rw [hfin,cA,hR]<;>rfl) | (rw [hfin,cA,hM]<;>rfl) | (rw [hfin,cA,eT (by omega)]<;>rfl)
       ·first | (rw [cZ (by omega)]<;>rfl) | (rw [dA hk2 hbad]<;>rfl) | (rw [bI (by omega)]<;>rfl) | (rw [hfin]<;>rfl) | (rw [hfin,cA,hR]<;>rfl) | (rw [hfin,cA,hM]<;>rfl) | (rw [hfin,cA,eT (by omega)]<;>rfl)
      ·replace c2:=nq c2
       have hle:=aCF (a:=e37.src) (c:=e37.dst) (by omega) (by omega) (by omega) (by omega)
       refine ⟨by omega,by omega,by first | omega | (simp [hR,hM];omega) | (simp;omega),by first | omega | (simp [hR,hM];omega) | (simp;omega),by first | (rw [List.map_replicate];done) | (rw [List.map_replicate];rfl),by first | exact bK (by omega) | exact ⟨by omega,by omega⟩,by omega,List.length_map _,by first | omega | (simp;omega),rfl,by first | omega | (simp;omega),fun s13_5 hs13_5=>⟨rfl,Nat.le_of_ble_eq_true rfl,rfl,?_⟩⟩
       refine ⟨fun c3=>?_,fun c3=>?_⟩
       ·replace c3:=yq c3
        refine ⟨by first | exact bK (by omega) | exact ⟨by omega,by omega⟩,by omega,List.length_map _,by first | omega | (simp;omega),rfl,by first | omega | (simp;omega),fun s15_5 hs15_5=>⟨rfl,Nat.le_of_ble_eq_true rfl,rfl,?_⟩⟩
        refine ⟨rfl,rfl,by first | omega | (simp [hR,hM];omega) | (simp;omega),rfl,rfl,fun _=>rfl,by first | omega | (simp [hR,hM];omega) | (simp;omega),?_⟩
        refine ⟨by first | exact bK (by omega) | exact ⟨by omega,by omega⟩,?_⟩
        exact ⟨k+1,_,_,rfl,rfl,rfl,⟨by omega,by first | (rw [hR,bP hk2,List.map_append,List.append_assoc,List.map_cons,List.map_nil,aHj (by omega) c3];done) | (rw [hR,bP hk2,List.map_append,List.append_assoc,List.map_cons,List.map_nil,aHk (by omega) c3];done),by rw [hM,bP hk2,List.map_append,List.append_assoc];rfl,cS hk2 ha (aN3 ⟨by omega,by omega,by omega,by omega⟩)⟩,by omega⟩
       ·replace c3:=nq c3
        refine ⟨rfl,rfl,by first | omega | (simp [hR,hM];omega) | (simp;omega),rfl,rfl,fun _=>rfl,by first | omega | (simp [hR,hM];omega) | (simp;omega),?_⟩
        refine ⟨by first | exact bK (by omega) | exact ⟨by omega,by omega⟩,?_⟩
        exact ⟨k+1,_,_,rfl,rfl,rfl,⟨by omega,by first | (rw [hR,bP hk2,List.map_append,List.append_assoc,List.map_cons,List.map_nil,aHj (by omega) c3];done) | (rw [hR,bP hk2,List.map_append,List.append_assoc,List.map_cons,List.map_nil,aHk (by omega) c3];done),by rw [hM,bP hk2,List.map_append,List.append_assoc];rfl,cS hk2 ha (aN3 ⟨by omega,by omega,by omega,by omega⟩)⟩,by omega⟩
  ·replace c1:=nq c1
   have hkl:k=l.length:=by omega
   subst hkl
   rw [List.take_length] at hR hM ha
   have hrs: ∀r∈R,r.length≤1048576:=by rw [hR];exact aSS (by omega)
   refine ⟨aPn (⟨(List.replicate ((((1:Int)*2^(Int.toNat n)) - (1:Int)).toNat) (0:Int)).set (((((1:Int)*2^(Int.toNat n)) - (1:Int)) - (1:Int)).toNat) (1:Int),R,M⟩:eD) (by first | assumption | exact hrs),fun c4=>?_,fun c4=>?_⟩
   ·replace c4:=nt c4
    have hfin:dY l n=(oC,false):=aN4 (by rw [←c4,cA,eT (by omega),hR,hM])
    refine ⟨?_,?_,?_,?_,trivial⟩
    ·first | (rw [cZ (by omega)]<;>rfl) | (rw [dA hk2 hbad]<;>rfl) | (rw [bI (by omega)]<;>rfl) | (rw [hfin]<;>rfl) | (rw [hfin,cA,hR]<;>rfl) | (rw [hfin,cA,hM]<;>rfl) | (rw [hfin,cA,eT (by omega)]<;>rfl)
    ·first | (rw [cZ (by omega)]<;>rfl) | (rw [dA hk2 hbad]<;>rfl) | (rw [bI (by omega)]<;>rfl) | (rw [hfin]<;>rfl) | (rw [hfin,cA,hR]<;>rfl) | (rw [hfin,cA,hM]<;>rfl) | (rw [hfin,cA,eT (by omega)]<;>rfl)
    ·first | (rw [cZ (by omega)]<;>rfl) | (rw [dA hk2 hbad]<;>rfl) | (rw [bI (by omega)]<;>rfl) | (rw [hfin]<;>rfl) | (rw [hfin,cA,hR]<;>rfl) | (rw [hfin,cA,hM]<;>rfl) | (rw [hfin,cA,eT (by omega)]<;>rfl)
    ·first | (rw [cZ (by omega)]<;>rfl) | (rw [dA hk2 hbad]<;>rfl) | (rw [bI (by omega)]<;>rfl) | (rw [hfin]<;>rfl) | (rw [hfin,cA,hR]<;>rfl) | (rw [hfin,cA,hM]<;>rfl) | (rw [hfin,cA,eT (by omega)]<;>rfl)
   ·replace c4:=nf c4
    have hfin:dY l n=(cA n l,true):=aMT (by omega) ha (by rw [←c4,cA,eT (by omega),hR,hM])
    refine ⟨?_,?_,?_,?_,trivial⟩
    ·first | (rw [cZ (by omega)]<;>rfl) | (rw [dA hk2 hbad]<;>rfl) | (rw [bI (by omega)]<;>rfl) | (rw [hfin]<;>rfl) | (rw [hfin,cA,hR]<;>rfl) | (rw [hfin,cA,hM]<;>rfl) | (rw [hfin,cA,eT (by omega)]<;>rfl)
    ·first | (rw [cZ (by omega)]<;>rfl) | (rw [dA hk2 hbad]<;>rfl) | (rw [bI (by omega)]<;>rfl) | (rw [hfin]<;>rfl) | (rw [hfin,cA,hR]<;>rfl) | (rw [hfin,cA,hM]<;>rfl) | (rw [hfin,cA,eT (by omega)]<;>rfl)
    ·first | (rw [cZ (by omega)]<;>rfl) | (rw [dA hk2 hbad]<;>rfl) | (rw [bI (by omega)]<;>rfl) | (rw [hfin]<;>rfl) | (rw [hfin,cA,hR]<;>rfl) | (rw [hfin,cA,hM]<;>rfl) | (rw [hfin,cA,eT (by omega)]<;>rfl)
    ·first | (rw [cZ (by omega)]<;>rfl) | (rw [dA hk2 hbad]<;>rfl) | (rw [bI (by omega)]<;>rfl) | (rw [hfin]<;>rfl) | (rw [hfin,cA,hR]<;>rfl) | (rw [hfin,cA,hM]<;>rfl) | (rw [hfin,cA,eT (by omega)]<;>rfl)
end Go.Proofs.YtdfebigfnjfgpaaGreat
