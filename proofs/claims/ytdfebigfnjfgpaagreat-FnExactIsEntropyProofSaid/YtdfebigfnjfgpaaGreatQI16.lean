/-
  Contracts and plain laws, joined: part 17.
-/
import Derived.Test.YtdfebigfnjfgpaaGreatQI15
namespace Go.Proofs.YtdfebigfnjfgpaaGreat
open Go.ChangeShapes Go.WideShapes Go.ChangeAt Go.RowKit
set_option linter.unusedVariables false
set_option linter.unusedSimpArgs false
set_option maxRecDepth 100000
set_option maxHeartbeats 4000000
def aBT (r:List Int) (s:Int):List Int:=if 0<s then r.set (s - 1).toNat (IntKind.i64.wrap (r.getD (s - 1).toNat 0+1)) else r
def aHl (r:List Int) (s:Int):List Int:=if 0<s then r.set (s - 1).toNat (IntKind.i64.wrap (r.getD (s - 1).toNat 0 - 1)) else r
def iM (al:Int) (p m:List Int):List Int:=m.foldl aHl (p.foldl aBT (List.replicate al.toNat 0))
def oG (v:Int) (r:List Int) (s:Int):List Int:=if 0<s then r.set (s - 1).toNat v else r
def fF (al:Int) (p m:List Int):List Int:=m.foldl (oG (-1)) (p.foldl (oG 1) (List.replicate al.toNat 0))
abbrev eA (n:Int):Int:=(1:Int)*2^n.toNat - (1:Int)
abbrev orB (s:Nat) (i:Nat):Int:=cF .or .i64 (s:Int) ((1:Int)*2^i)
abbrev or2 (s i j:Nat):Int:=cF .or .i64 (orB s i) ((1:Int)*2^j)
def wE (row:List Int→List Int→List Int) (hd:Nat→Int) (al:Int):Nat→List (List Int)
 | 0=>[]
 | k+1=>wE row hd al k++[row [hd k] [al]]
def aEO (s i:Nat):Bool:=decide (cF .and .i64 ((s:Int)/2^i) (1:Int)=(0:Int))
def elS (row:List Int→List Int→List Int) (i j:Nat):Nat→List (List Int)
 | 0=>[]
 | s+1=>elS row i j s++(if aEO s i=true∧aEO s j=true then [row [(s:Int),or2 s i j] [orB s i,orB s j]] else [])
def elJ (row:List Int→List Int→List Int) (T i:Nat):Nat→List (List Int)
 | 0=>[]
 | m+1=>elJ row T i m++elS row i (i+1+m) T
def elI (row:List Int→List Int→List Int) (T n:Nat):Nat→List (List Int)
 | 0=>[]
 | i+1=>elI row T n i++elJ row T i (n - (i+1))
def aR1 (row:List Int→List Int→List Int) (hd:Nat→Int) (al:Int) (n:Nat):List (List Int):=wE row hd al n++elI row (2^n) n n
def hdI (n:Int) (i:Nat):Int:=cF .andNot .i64 (eA n) ((1:Int)*2^i)
def hdS (n:Int) (i:Nat):Int:=eA n - (1:Int)*2^i
def wF (n:Int):List (List Int):=if 1≤n∧n≤4 then aR1 (iM (eA n)) (hdI n) (eA n) n.toNat else []
def dX (n:Int):List (List Int):=if 1≤n∧n≤4 then aR1 (fF (eA n)) (hdS n) (eA n) n.toNat else []
theorem aJk (n:Int):wF n=dX n:=by
 by_cases h:1≤n∧n≤4
 ·have:n=1∨n=2∨n=3∨n=4:=by omega
  rcases this with rfl | rfl | rfl | rfl<;>decide+kernel
 ·rw [wF,dX,if_neg h,if_neg h]
theorem aLY {α:Type} {l:List α} {k:Nat} {x y:α} (h:l[k]? =some x):l.getD k y=x:=by simp [List.getD_eq_getElem?_getD,h]
theorem fV {α β:Type} {f:β→α→β} {l:List α} {k:Nat} {x:α} {z:β} (h:l[k]? =some x):(l.take (k+1)).foldl f z=f ((l.take k).foldl f z) x:=by rw [bO h,List.foldl_append];rfl
theorem aLZ {r:List Int} {s y:Int} (h:0<s) (hy:r[(s - 1).toNat]? =some y):aBT r s=r.set (s - 1).toNat (IntKind.i64.wrap (y+1)):=by rw [aBT,if_pos h,aLY hy]
theorem aL0 {r:List Int} {s y:Int} (h:0<s) (hy:r[(s - 1).toNat]? =some y):aHl r s=r.set (s - 1).toNat (IntKind.i64.wrap (y - 1)):=by rw [aHl,if_pos h,aLY hy]
theorem aN5 {r:List Int} {s:Int} (h: ¬0<s):aBT r s=r:=by rw [aBT,if_neg h]
theorem aN6 {r:List Int} {s:Int} (h: ¬0<s):aHl r s=r:=by rw [aHl,if_neg h]
theorem qC {r:List Int} {s v:Int} (h:0<s):oG v r s=r.set (s - 1).toNat v:=by rw [oG,if_pos h]
theorem aCa {r:List Int} {s v:Int} (h: ¬0<s):oG v r s=r:=by rw [oG,if_neg h]
theorem aL1 {b:Int}: ∀s∈([]:List Int),s≤b:=by simp
theorem aEi {a b:Int} (h:a≤b): ∀s∈[a],s≤b:=by simpa using h
theorem aEj {a c b:Int} (h:a≤b) (h' :c≤b): ∀s∈[a,c],s≤b:=by simpa using ⟨h,h'⟩
theorem aUg: ∀(n:_root_.Fin 5) (i j:_root_.Fin 4) (s:_root_.Fin 16),i.1<n.1→j.1<n.1→s.1<2^n.1→orB s.1 i.1≤(1:Int)*2^n.1 - 1∧or2 s.1 i.1 j.1≤(1:Int)*2^n.1 - 1:=by decide+kernel
theorem aJl {n i j s:Nat} (hn:n≤4) (hi:i<n) (hj:j<n) (hs:s<2^n):orB s i≤(1:Int)*2^n - 1∧or2 s i j≤(1:Int)*2^n - 1:=by
 have h16:2^n≤2^4:=Nat.pow_le_pow_right (by omega) hn
 exact aUg ⟨n,by omega⟩ ⟨i,by omega⟩ ⟨j,by omega⟩ ⟨s,by omega⟩ hi hj hs
theorem aSu: ∀(n:_root_.Fin 5) (i:_root_.Fin 4),i.1<n.1→hdI (n.1:Int) i.1≤(1:Int)*2^n.1 - 1:=by decide+kernel
theorem aUR {n:Int} {i:Nat} (h:1≤n∧n≤4) (hi:(i:Int)<n):hdI n i≤eA n:=by
 have:=aSu ⟨n.toNat,by omega⟩ ⟨i,by omega⟩ (by show i<n.toNat;omega)
 rw [show (((⟨n.toNat,by omega⟩:_root_.Fin 5).1:Nat):Int)=n from by show ((n.toNat:Nat):Int)=n;omega] at this
 exact this
theorem aAU {n:Int} (h:1≤n∧n≤4):((2^n.toNat:Nat):Int)=(1:Int)*2^n.toNat∧2≤2^n.toNat∧2^n.toNat≤16:=by
 refine ⟨by simp,?_,?_⟩
 ·have:2^1≤2^n.toNat:=Nat.pow_le_pow_right (by decide) (by omega)
  exact this
 ·have:2^n.toNat≤2^4:=Nat.pow_le_pow_right (by decide) (by omega)
  exact this
theorem aN7 {n:Int} {i:Nat} (h:n≤4) (hi:(i:Int)<n):(1:Int)≤2^i∧(2:Int)^i≤2^n.toNat:=⟨yY (by omega) i,aIx (by omega) (by omega)⟩
abbrev nJ (al:Int) (p:List Int) (m:List Int) (out:List (List Int)):List AV × List (Nat × Rs) × AV × List (Nat × Rs):=([.p none (.sl 3 1 (p.map intD)),.p none (.sl 3 1 (m.map intD)),.rp none [.int .i64 al],.ptr 0 0],[(0,.box 78 [.own 1]),(1,.arr 39 1 true (out.map aA))],.tup [],[(0,.box 78 [.own 2]),(2,.arr 39 1 true ((out++[iM al p m]).map aA))])
abbrev zA (al:Int) (p:List Int) (m:List Int) (out:List (List Int)):Prop:=wQ Tryz.prog 159 (nJ al p m out).1 (nJ al p m out).2.1 (nJ al p m out).2.2.1 (nJ al p m out).2.2.2
theorem aIy (al:Int) (p m:List Int) (out:List (List Int)) (hal:0≤al∧al≤15) (hp: ∀s∈p,s≤al) (hm: ∀s∈m,s≤al) (ho:out.length≤1000) (hpl:p.length≤100) (hml:m.length≤100):zA al p m out:=by
 refine aUF bE aL Tryz.func159 (by kernel_rfl) (by kernel_rfl) (.mk ((al).toNat) [.int .i64 (0:Int)] ((List.replicate ((al).toNat) (0:Int)).map intD)<| .len p.length<| .loop (Nat × (List Int)) (Q2 Nat (List Int)) [6,8,15,16,17,18,19,20,21,22,23,24,25,26,27,28] [1200] (fun yy0=>[(15,vI (yy0.1:Int)),(6,.own 1200)]) (fun yy0=>[(1200,some (.arr 3 1 true (yy0.2.map intD)))]) (fun yy0=>yy0.1≤p.length∧yy0.2=(p.take yy0.1).foldl aBT (List.replicate al.toNat 0)∧yy0.2.length=al.toNat) (fun yy0=>p.length - yy0.1) (fun yy0=> .br (.elem _ intD p (fun e17=> .br (.len yy0.2.length<| .elem _ intD yy0.2 (fun e25=> .raw<| .len yy0.2.length<| .set Int intD yy0.2 (fun s5_7=>IntKind.i64.wrap (e25+(1:Int))) (fun s5_7=> .back [(1200,1200)]))) (.back [(1200,1200)]))) (.len m.length<| .loop (Nat × (List Int)) (Q2 Nat (List Int)) [6,10,31,32,33,34,35,36,37,38,39,40,41,42,43,44] [1200] (fun yy1=>[(31,vI (yy1.1:Int)),(6,.own 1200)]) (fun yy1=>[(1200,some (.arr 3 1 true (yy1.2.map intD)))]) (fun yy1=>yy1.1≤m.length∧yy1.2=(m.take yy1.1).foldl aHl (p.foldl aBT (List.replicate al.toNat 0))∧yy1.2.length=al.toNat) (fun yy1=>m.length - yy1.1) (fun yy1=> .br (.elem _ intD m (fun e33=> .br (.len yy1.2.length<| .elem _ intD yy1.2 (fun e41=> .raw<| .len yy1.2.length<| .set Int intD yy1.2 (fun s11_7=>IntKind.i64.wrap (e41 - (1:Int))) (fun s11_7=> .back [(1200,1200)]))) (.back [(1200,1200)]))) (.appx (List Int) aA out yy1.2<| .fin [(0,0),(2,4800)]))))) (p:=al=(((al).toNat:Nat):Int)∧al=(((al).toNat:Nat):Int)∧8*((al).toNat)≤281474976710656∧((al).toNat)≤9223372036854775807∧List.replicate ((al).toNat) [.int .i64 (0:Int)]=(List.replicate ((al).toNat) (0:Int)).map intD∧(Lm intD p∧((∃(k:Nat) (r:List Int),(0:Int)=(k:Int)∧(List.replicate ((al).toNat) (0:Int)).map intD=r.map intD∧k≤p.length∧r=(p.take k).foldl aBT (List.replicate al.toNat 0)∧r.length=al.toNat)∧ ∀(k:Nat) (r:List Int),(k≤p.length∧r=(p.take k).foldl aBT (List.replicate al.toNat 0)∧r.length=al.toNat)→((decide ((k:Int)<((p.length:Nat):Int)))=true→0≤(k:Int)∧Em intD p k fun e17=>((decide ((0:Int)<e17))=true→cC (e17 - (1:Int))∧(0≤(e17 - (1:Int))∧Lm intD r∧(e17 - (1:Int))<((r.length:Nat):Int)∧Em intD r ((e17 - (1:Int)).toNat) fun e25=>0≤(e17 - (1:Int))∧Lm intD r∧(e17 - (1:Int))<((r.length:Nat):Int)∧(r.map intD=r.map intD∧(e17 - (1:Int)).toNat<r.length∧ ∀s5_7,r[(e17 - (1:Int)).toNat]? =some s5_7→eL (intD s5_7)=true∧0+1≤(intD s5_7).length∧(intD s5_7).take 0++[.int .i64 (IntKind.i64.wrap (e25+(1:Int)))]++(intD s5_7).drop (0+1)=intD (IntKind.i64.wrap (e25+(1:Int)))∧cC ((k:Int)+(1:Int))∧ ∃(k' :Nat) (r' :List Int),((k:Int)+(1:Int))=(k' :Int)∧(r.set ((e17 - (1:Int)).toNat) (IntKind.i64.wrap (e25+(1:Int)))).map intD=r'.map intD∧(k' ≤p.length∧r' =(p.take k').foldl aBT (List.replicate al.toNat 0)∧r'.length=al.toNat)∧p.length - k' <p.length - k)))∧((decide ((0:Int)<e17))=false→cC ((k:Int)+(1:Int))∧ ∃(k' :Nat) (r' :List Int),((k:Int)+(1:Int))=(k' :Int)∧r.map intD=r'.map intD∧(k' ≤p.length∧r' =(p.take k').foldl aBT (List.replicate al.toNat 0)∧r'.length=al.toNat)∧p.length - k' <p.length - k))∧((decide ((k:Int)<((p.length:Nat):Int)))=false→Lm intD m∧((∃(k2:Nat) (r2:List Int),(0:Int)=(k2:Int)∧r.map intD=r2.map intD∧k2≤m.length∧r2=(m.take k2).foldl aHl (p.foldl aBT (List.replicate al.toNat 0))∧r2.length=al.toNat)∧ ∀(k2:Nat) (r2:List Int),(k2≤m.length∧r2=(m.take k2).foldl aHl (p.foldl aBT (List.replicate al.toNat 0))∧r2.length=al.toNat)→((decide ((k2:Int)<((m.length:Nat):Int)))=true→0≤(k2:Int)∧Em intD m k2 fun e33=>((decide ((0:Int)<e33))=true→cC (e33 - (1:Int))∧(0≤(e33 - (1:Int))∧Lm intD r2∧(e33 - (1:Int))<((r2.length:Nat):Int)∧Em intD r2 ((e33 - (1:Int)).toNat) fun e41=>0≤(e33 - (1:Int))∧Lm intD r2∧(e33 - (1:Int))<((r2.length:Nat):Int)∧(r2.map intD=r2.map intD∧(e33 - (1:Int)).toNat<r2.length∧ ∀s11_7,r2[(e33 - (1:Int)).toNat]? =some s11_7→eL (intD s11_7)=true∧0+1≤(intD s11_7).length∧(intD s11_7).take 0++[.int .i64 (IntKind.i64.wrap (e41 - (1:Int)))]++(intD s11_7).drop (0+1)=intD (IntKind.i64.wrap (e41 - (1:Int)))∧cC ((k2:Int)+(1:Int))∧ ∃(k2' :Nat) (r2' :List Int),((k2:Int)+(1:Int))=(k2' :Int)∧(r2.set ((e33 - (1:Int)).toNat) (IntKind.i64.wrap (e41 - (1:Int)))).map intD=r2'.map intD∧(k2' ≤m.length∧r2' =(m.take k2').foldl aHl (p.foldl aBT (List.replicate al.toNat 0))∧r2'.length=al.toNat)∧m.length - k2' <m.length - k2)))∧((decide ((0:Int)<e33))=false→cC ((k2:Int)+(1:Int))∧ ∃(k2' :Nat) (r2' :List Int),((k2:Int)+(1:Int))=(k2' :Int)∧r2.map intD=r2'.map intD∧(k2' ≤m.length∧r2' =(m.take k2').foldl aHl (p.foldl aBT (List.replicate al.toNat 0))∧r2'.length=al.toNat)∧m.length - k2' <m.length - k2))∧((decide ((k2:Int)<((m.length:Nat):Int)))=false→out.map aA=out.map aA∧r2.map intD=r2.map intD∧(out.length+1)*24≤140737488355328∧(out++[r2]).map aA=(out++[iM al p m]).map aA∧True)))))) (by kernel_rfl) ?_
 refine ⟨by omega,by omega,by omega,by omega,by first | (rw [List.map_replicate];done) | (rw [List.map_replicate];rfl),List.length_map _,⟨0,List.replicate ((al).toNat) (0:Int),rfl,rfl,Nat.zero_le _,rfl,List.length_replicate⟩,fun k r ⟨hk,hr,hl⟩=>?_⟩
 refine ⟨fun c0=>?_,fun c0=>?_⟩
 ·replace c0:=yq c0
  refine ⟨by omega,rfl,by first | omega | (rw [hl2];omega) | (rw [hl];omega),fun e17 h17=>?_⟩
  have hx:=hp _ (List.mem_of_getElem? h17)
  refine ⟨fun c1=>?_,fun c1=>?_⟩
  ·replace c1:=yq c1
   refine ⟨⟨by omega,by omega⟩,by omega,List.length_map _,by first | omega | (rw [hl2];omega) | (rw [hl];omega),rfl,by first | omega | (rw [hl2];omega) | (rw [hl];omega),fun e25 h25=>?_⟩
   refine ⟨by omega,List.length_map _,by first | omega | (rw [hl2];omega) | (rw [hl];omega),rfl,by first | omega | (rw [hl2];omega) | (rw [hl];omega),fun s5_7 hs5_7=>⟨rfl,Nat.le_of_ble_eq_true rfl,rfl,?_⟩⟩
   refine ⟨⟨by omega,by omega⟩,?_⟩
   exact ⟨k+1,_,rfl,rfl,⟨by omega,by first | (rw [fV h17,←hr,aN5 c1];done) | (rw [fV h17,←hr,aLZ c1 h25]),by first | exact hl | (rw [List.length_set];exact hl)⟩,by omega⟩
  ·replace c1:=nq c1
   refine ⟨⟨by omega,by omega⟩,?_⟩
   exact ⟨k+1,_,rfl,rfl,⟨by omega,by first | (rw [fV h17,←hr,aN5 c1];done) | (rw [fV h17,←hr,aLZ c1 h25]),by first | exact hl | (rw [List.length_set];exact hl)⟩,by omega⟩
 ·replace c0:=nq c0
  refine ⟨List.length_map _,⟨0,r,rfl,rfl,Nat.zero_le _,by rw [hr,List.take_of_length_le (by omega)];rfl,hl⟩,fun k2 r2 ⟨hk2,hr2,hl2⟩=>?_⟩
  refine ⟨fun c2=>?_,fun c2=>?_⟩
  ·replace c2:=yq c2
   refine ⟨by omega,rfl,by first | omega | (rw [hl2];omega) | (rw [hl];omega),fun e33 h33=>?_⟩
   have hx:=hm _ (List.mem_of_getElem? h33)
   refine ⟨fun c3=>?_,fun c3=>?_⟩
   ·replace c3:=yq c3
    refine ⟨⟨by omega,by omega⟩,by omega,List.length_map _,by first | omega | (rw [hl2];omega) | (rw [hl];omega),rfl,by first | omega | (rw [hl2];omega) | (rw [hl];omega),fun e41 h41=>?_⟩
    refine ⟨by omega,List.length_map _,by first | omega | (rw [hl2];omega) | (rw [hl];omega),rfl,by first | omega | (rw [hl2];omega) | (rw [hl];omega),fun s11_7 hs11_7=>⟨rfl,Nat.le_of_ble_eq_true rfl,rfl,?_⟩⟩
    refine ⟨⟨by omega,by omega⟩,?_⟩
    exact ⟨k2+1,_,rfl,rfl,⟨by omega,by first | (rw [fV h33,←hr2,aN6 c3];done) | (rw [fV h33,←hr2,aL0 c3 h41]),by first | exact hl2 | (rw [List.length_set];exact hl2)⟩,by omega⟩
   ·replace c3:=nq c3
    refine ⟨⟨by omega,by omega⟩,?_⟩
    exact ⟨k2+1,_,rfl,rfl,⟨by omega,by first | (rw [fV h33,←hr2,aN6 c3];done) | (rw [fV h33,←hr2,aL0 c3 h41]),by first | exact hl2 | (rw [List.length_set];exact hl2)⟩,by omega⟩
  ·replace c2:=nq c2
   refine ⟨rfl,rfl,by omega,?_,trivial⟩
   ·rw [hr2,List.take_of_length_le (by omega)];rfl
abbrev nK (n:Int) (p:List Int) (m:List Int):AV × List (Nat × Rs):=(.own 0,[(0,.arr 3 1 true ((fF (eA n) p m).map intD))])
abbrev qD (n:Int) (p:List Int) (m:List Int):Prop:=cT Tryz.prog 69 [.one (.int .i64 n),.one (.sl 3 1 (p.map intD)),.one (.sl 3 1 (m.map intD))] (nK n p m).1 (nK n p m).2
theorem aAV (n:Int) (p m:List Int) (hn:1≤n∧n≤4) (hp: ∀s∈p,s≤eA n) (hm: ∀s∈m,s≤eA n) (hpl:p.length≤100) (hml:m.length≤100):qD n p m:=by
 refine aT bE aL Tryz.func69 (by kernel_rfl) (.mk ((((1:Int)*2^(Int.toNat n)) - (1:Int)).toNat) [.int .i64 (0:Int)] ((List.replicate ((((1:Int)*2^(Int.toNat n)) - (1:Int)).toNat) (0:Int)).map intD)<| .loop (Nat × (List Int)) (Q2 Nat (List Int)) [7,8,14,15,16,17,18,19,20,21,22,23,24,25,26,27,28,29,30,31] [1300] (fun yy0=>[(8,vI (yy0.1:Int)),(7,.own 1300)]) (fun yy0=>[(1300,some (.arr 3 1 true (yy0.2.map intD)))]) (fun yy0=>yy0.1≤p.length∧yy0.2=(p.take yy0.1).foldl (oG 1) (List.replicate (eA n).toNat 0)∧yy0.2.length=(eA n).toNat) (fun yy0=>p.length - yy0.1) (fun yy0=> .len p.length<| .br (.elem _ intD p (fun e22=> .br (.elem _ intD p (fun e28=> .len yy0.2.length<| .set Int intD yy0.2 (fun s6_7=>(1:Int)) (fun s6_7=> .back [(1300,1300)]))) (.back [(1300,1300)]))) (.loop (Nat × (List Int)) (Q2 Nat (List Int)) [7,9,32,33,34,35,36,37,38,39,40,41,42,43,44,45,46,47,48,49] [1300] (fun yy1=>[(9,vI (yy1.1:Int)),(7,.own 1300)]) (fun yy1=>[(1300,some (.arr 3 1 true (yy1.2.map intD)))]) (fun yy1=>yy1.1≤m.length∧yy1.2=(m.take yy1.1).foldl (oG (-1)) (p.foldl (oG 1) (List.replicate (eA n).toNat 0))∧yy1.2.length=(eA n).toNat) (fun yy1=>m.length - yy1.1) (fun yy1=> .len m.length<| .br (.elem _ intD m (fun e40=> .br (.elem _ intD m (fun e46=> .len yy1.2.length<| .set Int intD yy1.2 (fun s11_7=>(-1:Int)) (fun s11_7=> .back [(1300,1300)]))) (.back [(1300,1300)]))) (.fin [(0,1300)]))))) (p:=(p.map intD).length≤9223372036854775807→(m.map intD).length≤9223372036854775807→(0≤n∧n≤64)∧(cC ((1:Int)*2^(Int.toNat n))∧(cC (((1:Int)*2^(Int.toNat n)) - (1:Int))∧((((1:Int)*2^(Int.toNat n)) - (1:Int))=(((((1:Int)*2^(Int.toNat n)) - (1:Int)).toNat:Nat):Int)∧(((1:Int)*2^(Int.toNat n)) - (1:Int))=(((((1:Int)*2^(Int.toNat n)) - (1:Int)).toNat:Nat):Int)∧8*((((1:Int)*2^(Int.toNat n)) - (1:Int)).toNat)≤281474976710656∧((((1:Int)*2^(Int.toNat n)) - (1:Int)).toNat)≤9223372036854775807∧List.replicate ((((1:Int)*2^(Int.toNat n)) - (1:Int)).toNat) [.int .i64 (0:Int)]=(List.replicate ((((1:Int)*2^(Int.toNat n)) - (1:Int)).toNat) (0:Int)).map intD∧((∃(k:Nat) (r:List Int),(0:Int)=(k:Int)∧(List.replicate ((((1:Int)*2^(Int.toNat n)) - (1:Int)).toNat) (0:Int)).map intD=r.map intD∧k≤p.length∧r=(p.take k).foldl (oG 1) (List.replicate (eA n).toNat 0)∧r.length=(eA n).toNat)∧ ∀(k:Nat) (r:List Int),(k≤p.length∧r=(p.take k).foldl (oG 1) (List.replicate (eA n).toNat 0)∧r.length=(eA n).toNat)→Lm intD p∧(((decide ((k:Int)<((p.length:Nat):Int)))=true→0≤(k:Int)∧Em intD p k fun e22=>((decide ((0:Int)<e22))=true→0≤(k:Int)∧Em intD p k fun e28=>cC (e28 - (1:Int))∧(0≤(e28 - (1:Int))∧Lm intD r∧(e28 - (1:Int))<((r.length:Nat):Int)∧(r.map intD=r.map intD∧(e28 - (1:Int)).toNat<r.length∧ ∀s6_7,r[(e28 - (1:Int)).toNat]? =some s6_7→eL (intD s6_7)=true∧0+1≤(intD s6_7).length∧(intD s6_7).take 0++[.int .i64 (1:Int)]++(intD s6_7).drop (0+1)=intD (1:Int)∧cC ((k:Int)+(1:Int))∧ ∃(k' :Nat) (r' :List Int),((k:Int)+(1:Int))=(k' :Int)∧(r.set ((e28 - (1:Int)).toNat) (1:Int)).map intD=r'.map intD∧(k' ≤p.length∧r' =(p.take k').foldl (oG 1) (List.replicate (eA n).toNat 0)∧r'.length=(eA n).toNat)∧p.length - k' <p.length - k)))∧((decide ((0:Int)<e22))=false→cC ((k:Int)+(1:Int))∧ ∃(k' :Nat) (r' :List Int),((k:Int)+(1:Int))=(k' :Int)∧r.map intD=r'.map intD∧(k' ≤p.length∧r' =(p.take k').foldl (oG 1) (List.replicate (eA n).toNat 0)∧r'.length=(eA n).toNat)∧p.length - k' <p.length - k))∧((decide ((k:Int)<((p.length:Nat):Int)))=false→(∃(k2:Nat) (r2:List Int),(0:Int)=(k2:Int)∧r.map intD=r2.map intD∧k2≤m.length∧r2=(m.take k2).foldl (oG (-1)) (p.foldl (oG 1) (List.replicate (eA n).toNat 0))∧r2.length=(eA n).toNat)∧ ∀(k2:Nat) (r2:List Int),(k2≤m.length∧r2=(m.take k2).foldl (oG (-1)) (p.foldl (oG 1) (List.replicate (eA n).toNat 0))∧r2.length=(eA n).toNat)→Lm intD m∧(((decide ((k2:Int)<((m.length:Nat):Int)))=true→0≤(k2:Int)∧Em intD m k2 fun e40=>((decide ((0:Int)<e40))=true→0≤(k2:Int)∧Em intD m k2 fun e46=>cC (e46 - (1:Int))∧(0≤(e46 - (1:Int))∧Lm intD r2∧(e46 - (1:Int))<((r2.length:Nat):Int)∧(r2.map intD=r2.map intD∧(e46 - (1:Int)).toNat<r2.length∧ ∀s11_7,r2[(e46 - (1:Int)).toNat]? =some s11_7→eL (intD s11_7)=true∧0+1≤(intD s11_7).length∧(intD s11_7).take 0++[.int .i64 (-1:Int)]++(intD s11_7).drop (0+1)=intD (-1:Int)∧cC ((k2:Int)+(1:Int))∧ ∃(k2' :Nat) (r2' :List Int),((k2:Int)+(1:Int))=(k2' :Int)∧(r2.set ((e46 - (1:Int)).toNat) (-1:Int)).map intD=r2'.map intD∧(k2' ≤m.length∧r2' =(m.take k2').foldl (oG (-1)) (p.foldl (oG 1) (List.replicate (eA n).toNat 0))∧r2'.length=(eA n).toNat)∧m.length - k2' <m.length - k2)))∧((decide ((0:Int)<e40))=false→cC ((k2:Int)+(1:Int))∧ ∃(k2' :Nat) (r2' :List Int),((k2:Int)+(1:Int))=(k2' :Int)∧r2.map intD=r2'.map intD∧(k2' ≤m.length∧r2' =(m.take k2').foldl (oG (-1)) (p.foldl (oG 1) (List.replicate (eA n).toNat 0))∧r2'.length=(eA n).toNat)∧m.length - k2' <m.length - k2))∧((decide ((k2:Int)<((m.length:Nat):Int)))=false→r2.map intD=(fF (eA n) p m).map intD∧True))))))))) (by kernel_rfl) ?_
 intro n0 n1
 simp only [List.length_map] at n0 n1
 obtain ⟨b1,b2,b3⟩:=aAU hn
 have hal:eA n=(1:Int)*2^n.toNat - 1:=rfl
 refine ⟨⟨by omega,by omega⟩,by first | exact bK (by omega) | exact ⟨by omega,by omega⟩,by first | exact bK (by omega) | exact ⟨by omega,by omega⟩,by omega,by omega,by omega,by omega,by first | (rw [List.map_replicate];done) | (rw [List.map_replicate];rfl),⟨0,List.replicate ((((1:Int)*2^(Int.toNat n)) - (1:Int)).toNat) (0:Int),rfl,rfl,Nat.zero_le _,rfl,List.length_replicate⟩,fun k r ⟨hk,hr,hl⟩=>?_⟩
 refine ⟨List.length_map _,fun c0=>?_,fun c0=>?_⟩
 ·replace c0:=yq c0
  refine ⟨by omega,rfl,by first | omega | (rw [hl2];omega) | (rw [hl];omega),fun e22 h22=>?_⟩
  have hx:=hp _ (List.mem_of_getElem? h22)
  refine ⟨fun c1=>?_,fun c1=>?_⟩
  ·replace c1:=yq c1
   refine ⟨by omega,rfl,by first | omega | (rw [hl2];omega) | (rw [hl];omega),fun e28 h28=>?_⟩
   obtain rfl:=(aY h22 h28).symm
   refine ⟨by first | exact bK (by omega) | exact ⟨by omega,by omega⟩,by omega,List.length_map _,by first | omega | (rw [hl2];omega) | (rw [hl];omega),rfl,by first | omega | (rw [hl2];omega) | (rw [hl];omega),fun s6_7 hs6_7=>⟨rfl,Nat.le_of_ble_eq_true rfl,rfl,?_⟩⟩
   refine ⟨by first | exact bK (by omega) | exact ⟨by omega,by omega⟩,?_⟩
   exact ⟨k+1,_,rfl,rfl,⟨by omega,by first | (rw [fV h22,←hr,aCa c1];done) | (rw [fV h22,←hr,qC c1]),by first | exact hl | (rw [List.length_set];exact hl)⟩,by omega⟩
  ·replace c1:=nq c1
   refine ⟨by first | exact bK (by omega) | exact ⟨by omega,by omega⟩,?_⟩
   exact ⟨k+1,_,rfl,rfl,⟨by omega,by first | (rw [fV h22,←hr,aCa c1];done) | (rw [fV h22,←hr,qC c1]),by first | exact hl | (rw [List.length_set];exact hl)⟩,by omega⟩
 ·replace c0:=nq c0
  refine ⟨⟨0,r,rfl,rfl,Nat.zero_le _,by rw [hr,List.take_of_length_le (by omega)];rfl,hl⟩,fun k2 r2 ⟨hk2,hr2,hl2⟩=>?_⟩
  refine ⟨List.length_map _,fun c2=>?_,fun c2=>?_⟩
  ·replace c2:=yq c2
   refine ⟨by omega,rfl,by first | omega | (rw [hl2];omega) | (rw [hl];omega),fun e40 h40=>?_⟩
   have hx:=hm _ (List.mem_of_getElem? h40)
   refine ⟨fun c3=>?_,fun c3=>?_⟩
   ·replace c3:=yq c3
    refine ⟨by omega,rfl,by first | omega | (rw [hl2];omega) | (rw [hl];omega),fun e46 h46=>?_⟩
    obtain rfl:=(aY h40 h46).symm
    refine ⟨by first | exact bK (by omega) | exact ⟨by omega,by omega⟩,by omega,List.length_map _,by first | omega | (rw [hl2];omega) | (rw [hl];omega),rfl,by first | omega | (rw [hl2];omega) | (rw [hl];omega),fun s11_7 hs11_7=>⟨rfl,Nat.le_of_ble_eq_true rfl,rfl,?_⟩⟩
    refine ⟨by first | exact bK (by omega) | exact ⟨by omega,by omega⟩,?_⟩
    exact ⟨k2+1,_,rfl,rfl,⟨by omega,by first | (rw [fV h40,←hr2,aCa c3];done) | (rw [fV h40,←hr2,qC c3]),by first | exact hl2 | (rw [List.length_set];exact hl2)⟩,by omega⟩
   ·replace c3:=nq c3
    refine ⟨by first | exact bK (by omega) | exact ⟨by omega,by omega⟩,?_⟩
    exact ⟨k2+1,_,rfl,rfl,⟨by omega,by first | (rw [fV h40,←hr2,aCa c3];done) | (rw [fV h40,←hr2,qC c3]),by first | exact hl2 | (rw [List.length_set];exact hl2)⟩,by omega⟩
  ·replace c2:=nq c2
   refine ⟨?_,trivial⟩
   ·rw [hr2,List.take_of_length_le (by omega)];rfl
abbrev zB (n:Int):AV × List (Nat × Rs):=(.own 0,[(0,.arr 39 1 true ((dX n).map aA))])
abbrev aEQ (n:Int):Prop:=cT Tryz.prog 32 [.one (.int .i64 n)] (zB n).1 (zB n).2
theorem aPD (n:Int):aEQ n:=by
 refine aT bE aL Tryz.func32 (by kernel_rfl) (.call (vB (decide ((1:Int)≤n∧n≤(4:Int)))) []<| .br (.fin [(0,900)]) (.loop (Nat × (List (List Int))) (Q2 Nat (List (List Int))) [3,5,9,17,18,19,20,21,22,23,24,25,26,27,28,29,30,31,32,33] [900,2800,3000,3100,3200,3300] (fun yy0=>[(3,.own 900),(5,vI (yy0.1:Int))]) (fun yy0=>[(900,some (.arr 39 1 true (yy0.2.map aA)))]) (fun yy0=>(yy0.1:Int)≤n∧yy0.2=wE (fF (eA n)) (hdS n) (eA n) yy0.1∧yy0.2.length≤yy0.1) (fun yy0=>n.toNat - yy0.1) (fun yy0=> .br (bV (nK n ([(((1:Int)*2^(Int.toNat n)) - (1:Int)) - ((1:Int)*2^yy0.1)]:List Int) ([((1:Int)*2^(Int.toNat n)) - (1:Int)]:List Int))<| .appx (List Int) aA yy0.2 (fF (eA n) ([(((1:Int)*2^(Int.toNat n)) - (1:Int)) - ((1:Int)*2^yy0.1)]:List Int) ([((1:Int)*2^(Int.toNat n)) - (1:Int)]:List Int))<| .back [(900,3300)]) (.loop (Nat × (List (List Int))) (Q2 Nat (List (List Int))) [3,6,7,8,34,35,36,37,38,39,40,41,42,43,44,45,46,47,48,49,50,51,52,53,54,55,56,57,58,59,60,61,62,63,64,65,66,67,68,69,70,71,72,73,74,75,76,77,78,79,80,81,82,83,84,85] [900,7300,8200,8300,8400,8500] (fun yy1=>[(3,.own 900),(6,vI (yy1.1:Int))]) (fun yy1=>[(900,some (.arr 39 1 true (yy1.2.map aA)))]) (fun yy1=>(yy1.1:Int)≤n∧yy1.2=wE (fF (eA n)) (hdS n) (eA n) n.toNat++elI (fF (eA n)) (2^n.toNat) n.toNat yy1.1∧yy1.2.length≤4+yy1.1*64) (fun yy1=>n.toNat - yy1.1) (fun yy1=> .br (.loop (Nat × (List (List Int))) (Q2 Nat (List (List Int))) [3,7,8,41,42,43,44,45,46,47,48,49,50,51,52,53,54,55,56,57,58,59,60,61,62,63,64,65,66,67,68,69,70,71,72,73,74,75,76,77,78,79,80,81,82,83,84,85] [900,7300,8200,8300,8400,8500] (fun yy2=>[(3,.own 900),(7,vI ((yy1.1+1+yy2.1:Nat):Int))]) (fun yy2=>[(900,some (.arr 39 1 true (yy2.2.map aA)))]) (fun yy2=>((yy1.1+1+yy2.1:Nat):Int)≤n∧yy2.2=wE (fF (eA n)) (hdS n) (eA n) n.toNat++elI (fF (eA n)) (2^n.toNat) n.toNat yy1.1++elJ (fF (eA n)) (2^n.toNat) yy1.1 yy2.1∧yy2.2.length≤4+yy1.1*64+yy2.1*16) (fun yy2=>n.toNat - (yy1.1+1+yy2.1)) (fun yy2=> .br (.loop (Nat × (List (List Int))) (Q2 Nat (List (List Int))) [3,8,46,47,48,49,50,51,52,53,54,55,56,57,58,59,60,61,62,63,64,65,66,67,68,69,70,71,72,73,74,75,76,77,78,79,80,81,82,83,84,85] [900,7300,8200,8300,8400,8500] (fun yy3=>[(3,.own 900),(8,vI (yy3.1:Int))]) (fun yy3=>[(900,some (.arr 39 1 true (yy3.2.map aA)))]) (fun yy3=>yy3.1≤2^n.toNat∧yy3.2=wE (fF (eA n)) (hdS n) (eA n) n.toNat++elI (fF (eA n)) (2^n.toNat) n.toNat yy1.1++elJ (fF (eA n)) (2^n.toNat) yy1.1 yy2.1++elS (fF (eA n)) yy1.1 (yy1.1+1+yy2.1) yy3.1∧yy3.2.length≤4+yy1.1*64+yy2.1*16+yy3.1) (fun yy3=>2^n.toNat - yy3.1) (fun yy3=> .br (.br (.lit<| .lit<| .lit<| .lit<| .lit<| .br (bV (nK n ([(yy3.1:Int),cF .or .i64 (cF .or .i64 (yy3.1:Int) ((1:Int)*2^yy1.1)) ((1:Int)*2^(yy1.1+1+yy2.1))]:List Int) ([cF .or .i64 (yy3.1:Int) ((1:Int)*2^yy1.1),cF .or .i64 (yy3.1:Int) ((1:Int)*2^(yy1.1+1+yy2.1))]:List Int))<| .appx (List Int) aA yy3.2 (fF (eA n) ([(yy3.1:Int),cF .or .i64 (cF .or .i64 (yy3.1:Int) ((1:Int)*2^yy1.1)) ((1:Int)*2^(yy1.1+1+yy2.1))]:List Int) ([cF .or .i64 (yy3.1:Int) ((1:Int)*2^yy1.1),cF .or .i64 (yy3.1:Int) ((1:Int)*2^(yy1.1+1+yy2.1))]:List Int))<| .back [(900,8500)]) (.back [(900,900)])) (.back [(900,900)])) (.back [(900,900)]))) (.back [(900,900)]))) (.fin [(0,900)])))))) (p:=iV n (1:Int) (4:Int)∧(((!(decide ((1:Int)≤n∧n≤(4:Int))))=true→[]=(dX n).map aA∧True)∧((!(decide ((1:Int)≤n∧n≤(4:Int))))=false→(0≤n∧n≤64)∧(cC ((1:Int)*2^(Int.toNat n))∧(cC (((1:Int)*2^(Int.toNat n)) - (1:Int))∧((∃(i:Nat) (o0:List (List Int)),(0:Int)=(i:Int)∧[]=o0.map aA∧(i:Int)≤n∧o0=wE (fF (eA n)) (hdS n) (eA n) i∧o0.length≤i)∧ ∀(i:Nat) (o0:List (List Int)),((i:Int)≤n∧o0=wE (fF (eA n)) (hdS n) (eA n) i∧o0.length≤i)→((decide ((i:Int)<n))=true→(0≤(i:Int)∧(i:Int)≤64)∧cC ((1:Int)*2^i)∧cC ((((1:Int)*2^(Int.toNat n)) - (1:Int)) - ((1:Int)*2^i))∧qD n ([(((1:Int)*2^(Int.toNat n)) - (1:Int)) - ((1:Int)*2^i)]:List Int) ([((1:Int)*2^(Int.toNat n)) - (1:Int)]:List Int)∧o0.map aA=o0.map aA∧(fF (eA n) ([(((1:Int)*2^(Int.toNat n)) - (1:Int)) - ((1:Int)*2^i)]:List Int) ([((1:Int)*2^(Int.toNat n)) - (1:Int)]:List Int)).map intD=(fF (eA n) ([(((1:Int)*2^(Int.toNat n)) - (1:Int)) - ((1:Int)*2^i)]:List Int) ([((1:Int)*2^(Int.toNat n)) - (1:Int)]:List Int)).map intD∧(o0.length+1)*24≤140737488355328∧cC ((i:Int)+(1:Int))∧ ∃(i' :Nat) (o0' :List (List Int)),((i:Int)+(1:Int))=(i' :Int)∧(o0++[fF (eA n) ([(((1:Int)*2^(Int.toNat n)) - (1:Int)) - ((1:Int)*2^i)]:List Int) ([((1:Int)*2^(Int.toNat n)) - (1:Int)]:List Int)]).map aA=o0'.map aA∧((i' :Int)≤n∧o0' =wE (fF (eA n)) (hdS n) (eA n) i' ∧o0'.length≤i')∧n.toNat - i' <n.toNat - i)∧((decide ((i:Int)<n))=false→(∃(i:Nat) (o1:List (List Int)),(0:Int)=(i:Int)∧o0.map aA=o1.map aA∧(i:Int)≤n∧o1=wE (fF (eA n)) (hdS n) (eA n) n.toNat++elI (fF (eA n)) (2^n.toNat) n.toNat i∧o1.length≤4+i*64)∧ ∀(i:Nat) (o1:List (List Int)),((i:Int)≤n∧o1=wE (fF (eA n)) (hdS n) (eA n) n.toNat++elI (fF (eA n)) (2^n.toNat) n.toNat i∧o1.length≤4+i*64)→((decide ((i:Int)<n))=true→cC ((i:Int)+(1:Int))∧((∃(j:Nat) (o2:List (List Int)),((i:Int)+(1:Int))=((i+1+j:Nat):Int)∧o1.map aA=o2.map aA∧((i+1+j:Nat):Int)≤n∧o2=wE (fF (eA n)) (hdS n) (eA n) n.toNat++elI (fF (eA n)) (2^n.toNat) n.toNat i++elJ (fF (eA n)) (2^n.toNat) i j∧o2.length≤4+i*64+j*16)∧ ∀(j:Nat) (o2:List (List Int)),(((i+1+j:Nat):Int)≤n∧o2=wE (fF (eA n)) (hdS n) (eA n) n.toNat++elI (fF (eA n)) (2^n.toNat) n.toNat i++elJ (fF (eA n)) (2^n.toNat) i j∧o2.length≤4+i*64+j*16)→((decide (((i+1+j:Nat):Int)<n))=true→(∃(s:Nat) (o3:List (List Int)),(0:Int)=(s:Int)∧o2.map aA=o3.map aA∧s≤2^n.toNat∧o3=wE (fF (eA n)) (hdS n) (eA n) n.toNat++elI (fF (eA n)) (2^n.toNat) n.toNat i++elJ (fF (eA n)) (2^n.toNat) i j++elS (fF (eA n)) i (i+1+j) s∧o3.length≤4+i*64+j*16+s)∧ ∀(s:Nat) (o3:List (List Int)),(s≤2^n.toNat∧o3=wE (fF (eA n)) (hdS n) (eA n) n.toNat++elI (fF (eA n)) (2^n.toNat) n.toNat i++elJ (fF (eA n)) (2^n.toNat) i j++elS (fF (eA n)) i (i+1+j) s∧o3.length≤4+i*64+j*16+s)→((decide ((s:Int)≤(((1:Int)*2^(Int.toNat n)) - (1:Int))))=true→(0≤(i:Int)∧(i:Int)≤64)∧(((decide ((cF .and .i64 ((s:Int)/2^i) (1:Int))=(0:Int)))=true→(0≤((i+1+j:Nat):Int)∧((i+1+j:Nat):Int)≤64)∧(((decide ((cF .and .i64 ((s:Int)/2^(i+1+j)) (1:Int))=(0:Int)))=true→(0≤(i:Int)∧(i:Int)≤64)∧cC ((1:Int)*2^i)∧(0≤((i+1+j:Nat):Int)∧((i+1+j:Nat):Int)≤64)∧cC ((1:Int)*2^(i+1+j))∧(0≤(i:Int)∧(i:Int)≤64)∧cC ((1:Int)*2^i)∧(0≤((i+1+j:Nat):Int)∧((i+1+j:Nat):Int)≤64)∧cC ((1:Int)*2^(i+1+j))∧qD n ([(s:Int),cF .or .i64 (cF .or .i64 (s:Int) ((1:Int)*2^i)) ((1:Int)*2^(i+1+j))]:List Int) ([cF .or .i64 (s:Int) ((1:Int)*2^i),cF .or .i64 (s:Int) ((1:Int)*2^(i+1+j))]:List Int)∧o3.map aA=o3.map aA∧(fF (eA n) ([(s:Int),cF .or .i64 (cF .or .i64 (s:Int) ((1:Int)*2^i)) ((1:Int)*2^(i+1+j))]:List Int) ([cF .or .i64 (s:Int) ((1:Int)*2^i),cF .or .i64 (s:Int) ((1:Int)*2^(i+1+j))]:List Int)).map intD=(fF (eA n) ([(s:Int),cF .or .i64 (cF .or .i64 (s:Int) ((1:Int)*2^i)) ((1:Int)*2^(i+1+j))]:List Int) ([cF .or .i64 (s:Int) ((1:Int)*2^i),cF .or .i64 (s:Int) ((1:Int)*2^(i+1+j))]:List Int)).map intD∧(o3.length+1)*24≤140737488355328∧cC ((s:Int)+(1:Int))∧ ∃(s' :Nat) (o3' :List (List Int)),((s:Int)+(1:Int))=(s' :Int)∧(o3++[fF (eA n) ([(s:Int),cF .or .i64 (cF .or .i64 (s:Int) ((1:Int)*2^i)) ((1:Int)*2^(i+1+j))]:List Int) ([cF .or .i64 (s:Int) ((1:Int)*2^i),cF .or .i64 (s:Int) ((1:Int)*2^(i+1+j))]:List Int)]).map aA=o3'.map aA∧(s' ≤2^n.toNat∧o3' =wE (fF (eA n)) (hdS n) (eA n) n.toNat++elI (fF (eA n)) (2^n.toNat) n.toNat i++elJ (fF (eA n)) (2^n.toNat) i j++elS (fF (eA n)) i (i+1+j) s' ∧o3'.length≤4+i*64+j*16+s')∧2^n.toNat - s' <2^n.toNat - s)∧((decide ((cF .and .i64 ((s:Int)/2^(i+1+j)) (1:Int))=(0:Int)))=false→cC ((s:Int)+(1:Int))∧ ∃(s' :Nat) (o3' :List (List Int)),((s:Int)+(1:Int))=(s' :Int)∧o3.map aA=o3'.map aA∧(s' ≤2^n.toNat∧o3' =wE (fF (eA n)) (hdS n) (eA n) n.toNat++elI (fF (eA n)) (2^n.toNat) n.toNat i++elJ (fF (eA n)) (2^n.toNat) i j++elS (fF (eA n)) i (i+1+j) s' ∧o3'.length≤4+i*64+j*16+s')∧2^n.toNat - s' <2^n.toNat - s)))∧((decide ((cF .and .i64 ((s:Int)/2^i) (1:Int))=(0:Int)))=false→cC ((s:Int)+(1:Int))∧ ∃(s' :Nat) (o3' :List (List Int)),((s:Int)+(1:Int))=(s' :Int)∧o3.map aA=o3'.map aA∧(s' ≤2^n.toNat∧o3' =wE (fF (eA n)) (hdS n) (eA n) n.toNat++elI (fF (eA n)) (2^n.toNat) n.toNat i++elJ (fF (eA n)) (2^n.toNat) i j++elS (fF (eA n)) i (i+1+j) s' ∧o3'.length≤4+i*64+j*16+s')∧2^n.toNat - s' <2^n.toNat - s)))∧((decide ((s:Int)≤(((1:Int)*2^(Int.toNat n)) - (1:Int))))=false→cC (((i+1+j:Nat):Int)+(1:Int))∧ ∃(j' :Nat) (o2' :List (List Int)),(((i+1+j:Nat):Int)+(1:Int))=((i+1+j' :Nat):Int)∧o3.map aA=o2'.map aA∧(((i+1+j' :Nat):Int)≤n∧o2' =wE (fF (eA n)) (hdS n) (eA n) n.toNat++elI (fF (eA n)) (2^n.toNat) n.toNat i++elJ (fF (eA n)) (2^n.toNat) i j' ∧o2'.length≤4+i*64+j' *16)∧n.toNat - (i+1+j')<n.toNat - (i+1+j)))∧((decide (((i+1+j:Nat):Int)<n))=false→cC ((i:Int)+(1:Int))∧ ∃(i' :Nat) (o1' :List (List Int)),((i:Int)+(1:Int))=(i' :Int)∧o2.map aA=o1'.map aA∧((i' :Int)≤n∧o1' =wE (fF (eA n)) (hdS n) (eA n) n.toNat++elI (fF (eA n)) (2^n.toNat) n.toNat i' ∧o1'.length≤4+i' *64)∧n.toNat - i' <n.toNat - i)))∧((decide ((i:Int)<n))=false→o1.map aA=(dX n).map aA∧True)))))))) (by kernel_rfl) ?_
 refine ⟨lX _ _ _,fun c0=>?_,fun c0=>?_⟩
 ·replace c0:=nq (nt c0)
  refine ⟨?_,trivial⟩
  ·first | (rw [dX,if_neg (by omega)]<;>rfl) | (rw [ho1,show i=n.toNat by omega,dX,if_pos (by omega)];rfl)
 ·replace c0:=yq (nf c0)
  obtain ⟨b1,b2,b3⟩:=aAU (n:=n) (by omega)
  have hal:eA n=(1:Int)*2^n.toNat - 1:=rfl
  refine ⟨⟨by omega,by omega⟩,by first | exact bK (by omega) | exact ⟨by omega,by omega⟩,by first | exact bK (by omega) | exact ⟨by omega,by omega⟩,⟨0,([]:List (List Int)),rfl,rfl,by omega,rfl,Nat.zero_le _⟩,fun i o0 ⟨hi,ho,hL⟩=>?_⟩
  refine ⟨fun c1=>?_,fun c1=>?_⟩
  ·replace c1:=yq c1
   have hw:=aN7 (n:=n) (i:=i) (by omega) (by omega)
   refine ⟨⟨by omega,by omega⟩,by first | exact bK (by omega) | exact ⟨by omega,by omega⟩,by first | exact bK (by omega) | exact ⟨by omega,by omega⟩,aAV _ ([(((1:Int)*2^(Int.toNat n)) - (1:Int)) - ((1:Int)*2^i)]:List Int) ([((1:Int)*2^(Int.toNat n)) - (1:Int)]:List Int) (by omega) (by first | exact aEi (by omega) | exact aEj (by omega) (by omega) | exact aL1) (by first | exact aEi (by omega) | exact aEj (by omega) (by omega) | exact aL1) (by simp) (by simp),rfl,rfl,by first | omega | (simp;omega),by first | exact bK (by omega) | exact ⟨by omega,by omega⟩,?_⟩
   exact ⟨i+1,_,rfl,rfl,⟨by omega,by rw [ho];rfl,by simp;omega⟩,by omega⟩
  ·replace c1:=nq c1
   refine ⟨⟨0,o0,rfl,rfl,by omega,by rw [ho,show i=n.toNat by omega];simp [elI],by omega⟩,fun i o1 ⟨hi1,ho1,hL1⟩=>?_⟩
   refine ⟨fun c2=>?_,fun c2=>?_⟩
   ·replace c2:=yq c2
    refine ⟨by first | exact bK (by omega) | exact ⟨by omega,by omega⟩,⟨0,o1,by first | rfl | omega,by first | rfl | omega,by omega,by rw [ho1];simp [elJ],by omega⟩,fun j o2 ⟨hj,ho2,hL2⟩=>?_⟩
    refine ⟨fun c3=>?_,fun c3=>?_⟩
    ·replace c3:=yq c3
     refine ⟨⟨0,o2,rfl,rfl,Nat.zero_le _,by rw [ho2];simp [elS],by omega⟩,fun s o3 ⟨hs,ho3,hL3⟩=>?_⟩
     refine ⟨fun c4=>?_,fun c4=>?_⟩
     ·replace c4:=yq c4
      refine ⟨⟨by omega,by omega⟩,fun g56=>?_,fun g56=>?_⟩
      ·replace g56:=yq g56
       refine ⟨⟨by omega,by omega⟩,fun c5=>?_,fun c5=>?_⟩
       ·replace c5:=yq c5
        obtain ⟨v1,v2⟩:=aJl (n:=n.toNat) (i:=i) (j:=i+1+j) (s:=s) (by omega) (by omega) (by omega) (by omega)
        obtain ⟨v3,v4⟩:=aJl (n:=n.toNat) (i:=i+1+j) (j:=i) (s:=s) (by omega) (by omega) (by omega) (by omega)
        refine ⟨⟨by omega,by omega⟩,by first | exact bK (by omega) | exact ⟨by omega,by omega⟩,⟨by omega,by omega⟩,by first | exact bK (by omega) | exact ⟨by omega,by omega⟩,⟨by omega,by omega⟩,by first | exact bK (by omega) | exact ⟨by omega,by omega⟩,⟨by omega,by omega⟩,by first | exact bK (by omega) | exact ⟨by omega,by omega⟩,aAV _ ([(s:Int),cF .or .i64 (cF .or .i64 (s:Int) ((1:Int)*2^i)) ((1:Int)*2^(i+1+j))]:List Int) ([cF .or .i64 (s:Int) ((1:Int)*2^i),cF .or .i64 (s:Int) ((1:Int)*2^(i+1+j))]:List Int) (by omega) (by first | exact aEi (by omega) | exact aEj (by omega) (by omega) | exact aL1) (by first | exact aEi (by omega) | exact aEj (by omega) (by omega) | exact aL1) (by simp) (by simp),rfl,rfl,by first | omega | (simp;omega),by first | exact bK (by omega) | exact ⟨by omega,by omega⟩,?_⟩
        exact ⟨s+1,_,rfl,rfl,⟨by omega,by first | (rw [ho3,elS,if_pos ⟨decide_eq_true g56,decide_eq_true c5⟩];simp only [List.append_assoc];done) | (rw [ho3,elS,if_neg (by rintro ⟨q1,q2⟩;simp only [aEO,decide_eq_true_eq] at q1 q2;contradiction),List.append_nil]),by first | omega | (simp;omega)⟩,by omega⟩
       ·replace c5:=nq c5
        refine ⟨by first | exact bK (by omega) | exact ⟨by omega,by omega⟩,?_⟩
        exact ⟨s+1,_,rfl,rfl,⟨by omega,by first | (rw [ho3,elS,if_pos ⟨decide_eq_true g56,decide_eq_true c5⟩];simp only [List.append_assoc];done) | (rw [ho3,elS,if_neg (by rintro ⟨q1,q2⟩;simp only [aEO,decide_eq_true_eq] at q1 q2;contradiction),List.append_nil]),by first | omega | (simp;omega)⟩,by omega⟩
      ·replace g56:=nq g56
       refine ⟨by first | exact bK (by omega) | exact ⟨by omega,by omega⟩,?_⟩
       exact ⟨s+1,_,rfl,rfl,⟨by omega,by first | (rw [ho3,elS,if_pos ⟨decide_eq_true g56,decide_eq_true c5⟩];simp only [List.append_assoc];done) | (rw [ho3,elS,if_neg (by rintro ⟨q1,q2⟩;simp only [aEO,decide_eq_true_eq] at q1 q2;contradiction),List.append_nil]),by first | omega | (simp;omega)⟩,by omega⟩
     ·replace c4:=nq c4
      refine ⟨by first | exact bK (by omega) | exact ⟨by omega,by omega⟩,?_⟩
      exact ⟨j+1,_,by first | rfl | omega,by first | rfl | omega,⟨by omega,by rw [ho3,show s=2^n.toNat by omega,elJ,←List.append_assoc],by omega⟩,by omega⟩
    ·replace c3:=nq c3
     refine ⟨by first | exact bK (by omega) | exact ⟨by omega,by omega⟩,?_⟩
     exact ⟨i+1,_,rfl,rfl,⟨by omega,by rw [ho2,show j=n.toNat - (i+1) by omega,elI,List.append_assoc],by omega⟩,by omega⟩
   ·replace c2:=nq c2
    refine ⟨?_,trivial⟩
    ·first | (rw [dX,if_neg (by omega)]<;>rfl) | (rw [ho1,show i=n.toNat by omega,dX,if_pos (by omega)];rfl)
end Go.Proofs.YtdfebigfnjfgpaaGreat
