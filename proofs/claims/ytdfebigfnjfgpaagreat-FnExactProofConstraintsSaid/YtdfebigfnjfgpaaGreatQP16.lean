/-
  Contracts and plain laws, joined: part 17.
-/
import Derived.Test.YtdfebigfnjfgpaaGreatQP15
namespace Go.Proofs.YtdfebigfnjfgpaaGreat
open Go.ChangeShapes Go.WideShapes Go.ChangeAt Go.RowKit
set_option linter.unusedVariables false
set_option linter.unusedSimpArgs false
set_option maxRecDepth 100000
set_option maxHeartbeats 4000000
def aBz (r:List Int) (s:Int):List Int:=if 0<s then r.set (s - 1).toNat (IntKind.i64.wrap (r.getD (s - 1).toNat 0+1)) else r
def aI1 (r:List Int) (s:Int):List Int:=if 0<s then r.set (s - 1).toNat (IntKind.i64.wrap (r.getD (s - 1).toNat 0 - 1)) else r
def iB (al:Int) (p m:List Int):List Int:=m.foldl aI1 (p.foldl aBz (List.replicate al.toNat 0))
def oO (v:Int) (r:List Int) (s:Int):List Int:=if 0<s then r.set (s - 1).toNat v else r
def eZ (al:Int) (p m:List Int):List Int:=m.foldl (oO (-1)) (p.foldl (oO 1) (List.replicate al.toNat 0))
abbrev dV (n:Int):Int:=(1:Int)*2^n.toNat - (1:Int)
abbrev orB (s:Nat) (i:Nat):Int:=cH .or .i64 (s:Int) ((1:Int)*2^i)
abbrev or2 (s i j:Nat):Int:=cH .or .i64 (orB s i) ((1:Int)*2^j)
def xL (row:List Int→List Int→List Int) (hd:Nat→Int) (al:Int):Nat→List (List Int)
 | 0=>[]
 | k+1=>xL row hd al k++[row [hd k] [al]]
def aEp (s i:Nat):Bool:=decide (cH .and .i64 ((s:Int)/2^i) (1:Int)=(0:Int))
def elS (row:List Int→List Int→List Int) (i j:Nat):Nat→List (List Int)
 | 0=>[]
 | s+1=>elS row i j s++(if aEp s i=true∧aEp s j=true then [row [(s:Int),or2 s i j] [orB s i,orB s j]] else [])
def elJ (row:List Int→List Int→List Int) (T i:Nat):Nat→List (List Int)
 | 0=>[]
 | m+1=>elJ row T i m++elS row i (i+1+m) T
def elI (row:List Int→List Int→List Int) (T n:Nat):Nat→List (List Int)
 | 0=>[]
 | i+1=>elI row T n i++elJ row T i (n - (i+1))
def aSL (row:List Int→List Int→List Int) (hd:Nat→Int) (al:Int) (n:Nat):List (List Int):=xL row hd al n++elI row (2^n) n n
def hdI (n:Int) (i:Nat):Int:=cH .andNot .i64 (dV n) ((1:Int)*2^i)
def hdS (n:Int) (i:Nat):Int:=dV n - (1:Int)*2^i
def xM (n:Int):List (List Int):=if 1≤n∧n≤4 then aSL (iB (dV n)) (hdI n) (dV n) n.toNat else []
def cE (n:Int):List (List Int):=if 1≤n∧n≤4 then aSL (eZ (dV n)) (hdS n) (dV n) n.toNat else []
theorem aK6 (n:Int):xM n=cE n:=by
 by_cases h:1≤n∧n≤4
 ·have:n=1∨n=2∨n=3∨n=4:=by omega
  rcases this with rfl | rfl | rfl | rfl<;>decide+kernel
 ·rw [xM,cE,if_neg h,if_neg h]
theorem aML {α:Type} {l:List α} {k:Nat} {x y:α} (h:l[k]? =some x):l.getD k y=x:=by simp [List.getD_eq_getElem?_getD,h]
theorem fS {α β:Type} {f:β→α→β} {l:List α} {k:Nat} {x:α} {z:β} (h:l[k]? =some x):(l.take (k+1)).foldl f z=f ((l.take k).foldl f z) x:=by rw [bP h,List.foldl_append];rfl
theorem aMM {r:List Int} {s y:Int} (h:0<s) (hy:r[(s - 1).toNat]? =some y):aBz r s=r.set (s - 1).toNat (IntKind.i64.wrap (y+1)):=by rw [aBz,if_pos h,aML hy]
theorem aMN {r:List Int} {s y:Int} (h:0<s) (hy:r[(s - 1).toNat]? =some y):aI1 r s=r.set (s - 1).toNat (IntKind.i64.wrap (y - 1)):=by rw [aI1,if_pos h,aML hy]
theorem aOT {r:List Int} {s:Int} (h: ¬0<s):aBz r s=r:=by rw [aBz,if_neg h]
theorem aOU {r:List Int} {s:Int} (h: ¬0<s):aI1 r s=r:=by rw [aI1,if_neg h]
theorem qR {r:List Int} {s v:Int} (h:0<s):oO v r s=r.set (s - 1).toNat v:=by rw [oO,if_pos h]
theorem aDL {r:List Int} {s v:Int} (h: ¬0<s):oO v r s=r:=by rw [oO,if_neg h]
theorem aMO {b:Int}: ∀s∈([]:List Int),s≤b:=by simp
theorem aFR {a b:Int} (h:a≤b): ∀s∈[a],s≤b:=by simpa using h
theorem aFS {a c b:Int} (h:a≤b) (h' :c≤b): ∀s∈[a,c],s≤b:=by simpa using ⟨h,h'⟩
theorem aVW: ∀(n:_root_.Fin 5) (i j:_root_.Fin 4) (s:_root_.Fin 16),i.1<n.1→j.1<n.1→s.1<2^n.1→orB s.1 i.1≤(1:Int)*2^n.1 - 1∧or2 s.1 i.1 j.1≤(1:Int)*2^n.1 - 1:=by decide+kernel
theorem aK7 {n i j s:Nat} (hn:n≤4) (hi:i<n) (hj:j<n) (hs:s<2^n):orB s i≤(1:Int)*2^n - 1∧or2 s i j≤(1:Int)*2^n - 1:=by
 have h16:2^n≤2^4:=Nat.pow_le_pow_right (by omega) hn
 exact aVW ⟨n,by omega⟩ ⟨i,by omega⟩ ⟨j,by omega⟩ ⟨s,by omega⟩ hi hj hs
theorem aTb: ∀(n:_root_.Fin 5) (i:_root_.Fin 4),i.1<n.1→hdI (n.1:Int) i.1≤(1:Int)*2^n.1 - 1:=by decide+kernel
theorem aUw {n:Int} {i:Nat} (h:1≤n∧n≤4) (hi:(i:Int)<n):hdI n i≤dV n:=by
 have:=aTb ⟨n.toNat,by omega⟩ ⟨i,by omega⟩ (by show i<n.toNat;omega)
 rw [show (((⟨n.toNat,by omega⟩:_root_.Fin 5).1:Nat):Int)=n from by show ((n.toNat:Nat):Int)=n;omega] at this
 exact this
theorem aAx {n:Int} (h:1≤n∧n≤4):((2^n.toNat:Nat):Int)=(1:Int)*2^n.toNat∧2≤2^n.toNat∧2^n.toNat≤16:=by
 refine ⟨by simp,?_,?_⟩
 ·have:2^1≤2^n.toNat:=Nat.pow_le_pow_right (by decide) (by omega)
  exact this
 ·have:2^n.toNat≤2^4:=Nat.pow_le_pow_right (by decide) (by omega)
  exact this
theorem aOV {n:Int} {i:Nat} (h:n≤4) (hi:(i:Int)<n):(1:Int)≤2^i∧(2:Int)^i≤2^n.toNat:=⟨aAI (by omega) i,aJf (by omega) (by omega)⟩
abbrev nN (al:Int) (p:List Int) (m:List Int) (out:List (List Int)):List AV × List (Nat × Rs) × AV × List (Nat × Rs):=([.p none (.sl 3 1 (p.map intD)),.p none (.sl 3 1 (m.map intD)),.rp none [.int .i64 al],.ptr 0 0],[(0,.box 78 [.own 1]),(1,.arr 39 1 true (out.map aC))],.tup [],[(0,.box 78 [.own 2]),(2,.arr 39 1 true ((out++[iB al p m]).map aC))])
abbrev aAJ (al:Int) (p:List Int) (m:List Int) (out:List (List Int)):Prop:=nA Tryz.prog 159 (nN al p m out).1 (nN al p m out).2.1 (nN al p m out).2.2.1 (nN al p m out).2.2.2
theorem aJg (al:Int) (p m:List Int) (out:List (List Int)) (hal:0≤al∧al≤15) (hp: ∀s∈p,s≤al) (hm: ∀s∈m,s≤al) (ho:out.length≤1000) (hpl:p.length≤100) (hml:m.length≤100):aAJ al p m out:=by
 refine oA bG aR Tryz.func159 (by kernel_rfl) (by kernel_rfl) (.mk ((al).toNat) [.int .i64 (0:Int)] ((List.replicate ((al).toNat) (0:Int)).map intD)<| .len p.length<| .loop (Nat × (List Int)) (Q2 Nat (List Int)) [6,8,15,16,17,18,19,20,21,22,23,24,25,26,27,28] [1200] (fun yy0=>[(15,vI (yy0.1:Int)),(6,.own 1200)]) (fun yy0=>[(1200,some (.arr 3 1 true (yy0.2.map intD)))]) (fun yy0=>yy0.1≤p.length∧yy0.2=(p.take yy0.1).foldl aBz (List.replicate al.toNat 0)∧yy0.2.length=al.toNat) (fun yy0=>p.length - yy0.1) (fun yy0=> .br (.elem _ intD p (fun e17=> .br (.len yy0.2.length<| .elem _ intD yy0.2 (fun e25=> .raw<| .len yy0.2.length<| .set Int intD yy0.2 (fun s5_7=>IntKind.i64.wrap (e25+(1:Int))) (fun s5_7=> .back [(1200,1200)]))) (.back [(1200,1200)]))) (.len m.length<| .loop (Nat × (List Int)) (Q2 Nat (List Int)) [6,10,31,32,33,34,35,36,37,38,39,40,41,42,43,44] [1200] (fun yy1=>[(31,vI (yy1.1:Int)),(6,.own 1200)]) (fun yy1=>[(1200,some (.arr 3 1 true (yy1.2.map intD)))]) (fun yy1=>yy1.1≤m.length∧yy1.2=(m.take yy1.1).foldl aI1 (p.foldl aBz (List.replicate al.toNat 0))∧yy1.2.length=al.toNat) (fun yy1=>m.length - yy1.1) (fun yy1=> .br (.elem _ intD m (fun e33=> .br (.len yy1.2.length<| .elem _ intD yy1.2 (fun e41=> .raw<| .len yy1.2.length<| .set Int intD yy1.2 (fun s11_7=>IntKind.i64.wrap (e41 - (1:Int))) (fun s11_7=> .back [(1200,1200)]))) (.back [(1200,1200)]))) (.appx (List Int) aC out yy1.2<| .fin [(0,0),(2,4800)]))))) (p:=al=(((al).toNat:Nat):Int)∧al=(((al).toNat:Nat):Int)∧8*((al).toNat)≤281474976710656∧((al).toNat)≤9223372036854775807∧List.replicate ((al).toNat) [.int .i64 (0:Int)]=(List.replicate ((al).toNat) (0:Int)).map intD∧(Lm intD p∧((∃(k:Nat) (r:List Int),(0:Int)=(k:Int)∧(List.replicate ((al).toNat) (0:Int)).map intD=r.map intD∧k≤p.length∧r=(p.take k).foldl aBz (List.replicate al.toNat 0)∧r.length=al.toNat)∧ ∀(k:Nat) (r:List Int),(k≤p.length∧r=(p.take k).foldl aBz (List.replicate al.toNat 0)∧r.length=al.toNat)→((decide ((k:Int)<((p.length:Nat):Int)))=true→0≤(k:Int)∧Em intD p k fun e17=>((decide ((0:Int)<e17))=true→cC (e17 - (1:Int))∧(0≤(e17 - (1:Int))∧Lm intD r∧(e17 - (1:Int))<((r.length:Nat):Int)∧Em intD r ((e17 - (1:Int)).toNat) fun e25=>0≤(e17 - (1:Int))∧Lm intD r∧(e17 - (1:Int))<((r.length:Nat):Int)∧(r.map intD=r.map intD∧(e17 - (1:Int)).toNat<r.length∧ ∀s5_7,r[(e17 - (1:Int)).toNat]? =some s5_7→dT (intD s5_7)=true∧0+1≤(intD s5_7).length∧(intD s5_7).take 0++[.int .i64 (IntKind.i64.wrap (e25+(1:Int)))]++(intD s5_7).drop (0+1)=intD (IntKind.i64.wrap (e25+(1:Int)))∧cC ((k:Int)+(1:Int))∧ ∃(k' :Nat) (r' :List Int),((k:Int)+(1:Int))=(k' :Int)∧(r.set ((e17 - (1:Int)).toNat) (IntKind.i64.wrap (e25+(1:Int)))).map intD=r'.map intD∧(k' ≤p.length∧r' =(p.take k').foldl aBz (List.replicate al.toNat 0)∧r'.length=al.toNat)∧p.length - k' <p.length - k)))∧((decide ((0:Int)<e17))=false→cC ((k:Int)+(1:Int))∧ ∃(k' :Nat) (r' :List Int),((k:Int)+(1:Int))=(k' :Int)∧r.map intD=r'.map intD∧(k' ≤p.length∧r' =(p.take k').foldl aBz (List.replicate al.toNat 0)∧r'.length=al.toNat)∧p.length - k' <p.length - k))∧((decide ((k:Int)<((p.length:Nat):Int)))=false→Lm intD m∧((∃(k2:Nat) (r2:List Int),(0:Int)=(k2:Int)∧r.map intD=r2.map intD∧k2≤m.length∧r2=(m.take k2).foldl aI1 (p.foldl aBz (List.replicate al.toNat 0))∧r2.length=al.toNat)∧ ∀(k2:Nat) (r2:List Int),(k2≤m.length∧r2=(m.take k2).foldl aI1 (p.foldl aBz (List.replicate al.toNat 0))∧r2.length=al.toNat)→((decide ((k2:Int)<((m.length:Nat):Int)))=true→0≤(k2:Int)∧Em intD m k2 fun e33=>((decide ((0:Int)<e33))=true→cC (e33 - (1:Int))∧(0≤(e33 - (1:Int))∧Lm intD r2∧(e33 - (1:Int))<((r2.length:Nat):Int)∧Em intD r2 ((e33 - (1:Int)).toNat) fun e41=>0≤(e33 - (1:Int))∧Lm intD r2∧(e33 - (1:Int))<((r2.length:Nat):Int)∧(r2.map intD=r2.map intD∧(e33 - (1:Int)).toNat<r2.length∧ ∀s11_7,r2[(e33 - (1:Int)).toNat]? =some s11_7→dT (intD s11_7)=true∧0+1≤(intD s11_7).length∧(intD s11_7).take 0++[.int .i64 (IntKind.i64.wrap (e41 - (1:Int)))]++(intD s11_7).drop (0+1)=intD (IntKind.i64.wrap (e41 - (1:Int)))∧cC ((k2:Int)+(1:Int))∧ ∃(k2' :Nat) (r2' :List Int),((k2:Int)+(1:Int))=(k2' :Int)∧(r2.set ((e33 - (1:Int)).toNat) (IntKind.i64.wrap (e41 - (1:Int)))).map intD=r2'.map intD∧(k2' ≤m.length∧r2' =(m.take k2').foldl aI1 (p.foldl aBz (List.replicate al.toNat 0))∧r2'.length=al.toNat)∧m.length - k2' <m.length - k2)))∧((decide ((0:Int)<e33))=false→cC ((k2:Int)+(1:Int))∧ ∃(k2' :Nat) (r2' :List Int),((k2:Int)+(1:Int))=(k2' :Int)∧r2.map intD=r2'.map intD∧(k2' ≤m.length∧r2' =(m.take k2').foldl aI1 (p.foldl aBz (List.replicate al.toNat 0))∧r2'.length=al.toNat)∧m.length - k2' <m.length - k2))∧((decide ((k2:Int)<((m.length:Nat):Int)))=false→out.map aC=out.map aC∧r2.map intD=r2.map intD∧(out.length+1)*24≤140737488355328∧(out++[r2]).map aC=(out++[iB al p m]).map aC∧True)))))) (by kernel_rfl) ?_
 refine ⟨by omega,by omega,by omega,by omega,by first | (rw [List.map_replicate];done) | (rw [List.map_replicate];rfl),List.length_map _,⟨0,List.replicate ((al).toNat) (0:Int),rfl,rfl,Nat.zero_le _,rfl,List.length_replicate⟩,fun k r ⟨hk,hr,hl⟩=>?_⟩
 refine ⟨fun c0=>?_,fun c0=>?_⟩
 ·replace c0:=yq c0
  refine ⟨by omega,rfl,by first | omega | (rw [hl2];omega) | (rw [hl];omega),fun e17 h17=>?_⟩
  have hx:=hp _ (List.mem_of_getElem? h17)
  refine ⟨fun c1=>?_,fun c1=>?_⟩
  ·replace c1:=yq c1
   refine ⟨⟨by omega,by omega⟩,by omega,List.length_map _,by first | omega | (rw [hl2];omega) | (rw [hl];omega),rfl,by first | omega | (rw [hl2];omega) | (rw [hl];omega),fun e25 h25=>?_⟩
   refine ⟨by omega,List.length_map _,by first | omega | (rw [hl2];omega) | (rw [hl];omega),rfl,by first | omega | (rw [hl2];omega) | (rw [hl];omega),fun s5_7 hs5_7=>⟨rfl,Nat.le_of_ble_eq_true rfl,rfl,?_⟩⟩
   refine ⟨⟨by omega,by omega⟩,?_⟩
   exact ⟨k+1,_,rfl,rfl,⟨by omega,by first | (rw [fS h17,←hr,aOT c1];done) | (rw [fS h17,←hr,aMM c1 h25]),by first | exact hl | (rw [List.length_set];exact hl)⟩,by omega⟩
  ·replace c1:=nq c1
   refine ⟨⟨by omega,by omega⟩,?_⟩
   exact ⟨k+1,_,rfl,rfl,⟨by omega,by first | (rw [fS h17,←hr,aOT c1];done) | (rw [fS h17,←hr,aMM c1 h25]),by first | exact hl | (rw [List.length_set];exact hl)⟩,by omega⟩
 ·replace c0:=nq c0
  refine ⟨List.length_map _,⟨0,r,rfl,rfl,Nat.zero_le _,by rw [hr,List.take_of_length_le (by omega)];rfl,hl⟩,fun k2 r2 ⟨hk2,hr2,hl2⟩=>?_⟩
  refine ⟨fun c2=>?_,fun c2=>?_⟩
  ·replace c2:=yq c2
   refine ⟨by omega,rfl,by first | omega | (rw [hl2];omega) | (rw [hl];omega),fun e33 h33=>?_⟩
   have hx:=hm _ (List.mem_of_getElem? h33)
   refine ⟨fun c3=>?_,fun c3=>?_⟩
   ·replace c3:=yq c3
    refine ⟨⟨by omega,by omega⟩,by omega,List.length_map _,by first | omega | (rw [hl2];omega) | (rw [hl];omega),rfl,by first | omega | (rw [hl2];omega) | (rw [hl];omega),fun e41 h41=>?_⟩
    refine ⟨by omega,List.length_map _,by first | omega | (rw [hl2];omega) | (rw [hl];omega),rfl,by first | omega | (rw [hl2];omega) | (rw [hl];omega),fun s11_7 hs11_7=>⟨rfl,Nat.le_of_ble_eq_true rfl,rfl,?_⟩⟩
    refine ⟨⟨by omega,by omega⟩,?_⟩
    exact ⟨k2+1,_,rfl,rfl,⟨by omega,by first | (rw [fS h33,←hr2,aOU c3];done) | (rw [fS h33,←hr2,aMN c3 h41]),by first | exact hl2 | (rw [List.length_set];exact hl2)⟩,by omega⟩
   ·replace c3:=nq c3
    refine ⟨⟨by omega,by omega⟩,?_⟩
    exact ⟨k2+1,_,rfl,rfl,⟨by omega,by first | (rw [fS h33,←hr2,aOU c3];done) | (rw [fS h33,←hr2,aMN c3 h41]),by first | exact hl2 | (rw [List.length_set];exact hl2)⟩,by omega⟩
  ·replace c2:=nq c2
   refine ⟨rfl,rfl,by omega,?_,trivial⟩
   ·rw [hr2,List.take_of_length_le (by omega)];rfl
abbrev nO (n:Int) (p:List Int) (m:List Int):AV × List (Nat × Rs):=(.own 0,[(0,.arr 3 1 true ((eZ (dV n) p m).map intD))])
abbrev qS (n:Int) (p:List Int) (m:List Int):Prop:=cX Tryz.prog 69 [.one (.int .i64 n),.one (.sl 3 1 (p.map intD)),.one (.sl 3 1 (m.map intD))] (nO n p m).1 (nO n p m).2
theorem aAy (n:Int) (p m:List Int) (hn:1≤n∧n≤4) (hp: ∀s∈p,s≤dV n) (hm: ∀s∈m,s≤dV n) (hpl:p.length≤100) (hml:m.length≤100):qS n p m:=by
 refine aX bG aR Tryz.func69 (by kernel_rfl) (.mk ((((1:Int)*2^(Int.toNat n)) - (1:Int)).toNat) [.int .i64 (0:Int)] ((List.replicate ((((1:Int)*2^(Int.toNat n)) - (1:Int)).toNat) (0:Int)).map intD)<| .loop (Nat × (List Int)) (Q2 Nat (List Int)) [7,8,14,15,16,17,18,19,20,21,22,23,24,25,26,27,28,29,30,31] [1300] (fun yy0=>[(8,vI (yy0.1:Int)),(7,.own 1300)]) (fun yy0=>[(1300,some (.arr 3 1 true (yy0.2.map intD)))]) (fun yy0=>yy0.1≤p.length∧yy0.2=(p.take yy0.1).foldl (oO 1) (List.replicate (dV n).toNat 0)∧yy0.2.length=(dV n).toNat) (fun yy0=>p.length - yy0.1) (fun yy0=> .len p.length<| .br (.elem _ intD p (fun e22=> .br (.elem _ intD p (fun e28=> .len yy0.2.length<| .set Int intD yy0.2 (fun s6_7=>(1:Int)) (fun s6_7=> .back [(1300,1300)]))) (.back [(1300,1300)]))) (.loop (Nat × (List Int)) (Q2 Nat (List Int)) [7,9,32,33,34,35,36,37,38,39,40,41,42,43,44,45,46,47,48,49] [1300] (fun yy1=>[(9,vI (yy1.1:Int)),(7,.own 1300)]) (fun yy1=>[(1300,some (.arr 3 1 true (yy1.2.map intD)))]) (fun yy1=>yy1.1≤m.length∧yy1.2=(m.take yy1.1).foldl (oO (-1)) (p.foldl (oO 1) (List.replicate (dV n).toNat 0))∧yy1.2.length=(dV n).toNat) (fun yy1=>m.length - yy1.1) (fun yy1=> .len m.length<| .br (.elem _ intD m (fun e40=> .br (.elem _ intD m (fun e46=> .len yy1.2.length<| .set Int intD yy1.2 (fun s11_7=>(-1:Int)) (fun s11_7=> .back [(1300,1300)]))) (.back [(1300,1300)]))) (.fin [(0,1300)]))))) (p:=(p.map intD).length≤9223372036854775807→(m.map intD).length≤9223372036854775807→(0≤n∧n≤64)∧(cC ((1:Int)*2^(Int.toNat n))∧(cC (((1:Int)*2^(Int.toNat n)) - (1:Int))∧((((1:Int)*2^(Int.toNat n)) - (1:Int))=(((((1:Int)*2^(Int.toNat n)) - (1:Int)).toNat:Nat):Int)∧(((1:Int)*2^(Int.toNat n)) - (1:Int))=(((((1:Int)*2^(Int.toNat n)) - (1:Int)).toNat:Nat):Int)∧8*((((1:Int)*2^(Int.toNat n)) - (1:Int)).toNat)≤281474976710656∧((((1:Int)*2^(Int.toNat n)) - (1:Int)).toNat)≤9223372036854775807∧List.replicate ((((1:Int)*2^(Int.toNat n)) - (1:Int)).toNat) [.int .i64 (0:Int)]=(List.replicate ((((1:Int)*2^(Int.toNat n)) - (1:Int)).toNat) (0:Int)).map intD∧((∃(k:Nat) (r:List Int),(0:Int)=(k:Int)∧(List.replicate ((((1:Int)*2^(Int.toNat n)) - (1:Int)).toNat) (0:Int)).map intD=r.map intD∧k≤p.length∧r=(p.take k).foldl (oO 1) (List.replicate (dV n).toNat 0)∧r.length=(dV n).toNat)∧ ∀(k:Nat) (r:List Int),(k≤p.length∧r=(p.take k).foldl (oO 1) (List.replicate (dV n).toNat 0)∧r.length=(dV n).toNat)→Lm intD p∧(((decide ((k:Int)<((p.length:Nat):Int)))=true→0≤(k:Int)∧Em intD p k fun e22=>((decide ((0:Int)<e22))=true→0≤(k:Int)∧Em intD p k fun e28=>cC (e28 - (1:Int))∧(0≤(e28 - (1:Int))∧Lm intD r∧(e28 - (1:Int))<((r.length:Nat):Int)∧(r.map intD=r.map intD∧(e28 - (1:Int)).toNat<r.length∧ ∀s6_7,r[(e28 - (1:Int)).toNat]? =some s6_7→dT (intD s6_7)=true∧0+1≤(intD s6_7).length∧(intD s6_7).take 0++[.int .i64 (1:Int)]++(intD s6_7).drop (0+1)=intD (1:Int)∧cC ((k:Int)+(1:Int))∧ ∃(k' :Nat) (r' :List Int),((k:Int)+(1:Int))=(k' :Int)∧(r.set ((e28 - (1:Int)).toNat) (1:Int)).map intD=r'.map intD∧(k' ≤p.length∧r' =(p.take k').foldl (oO 1) (List.replicate (dV n).toNat 0)∧r'.length=(dV n).toNat)∧p.length - k' <p.length - k)))∧((decide ((0:Int)<e22))=false→cC ((k:Int)+(1:Int))∧ ∃(k' :Nat) (r' :List Int),((k:Int)+(1:Int))=(k' :Int)∧r.map intD=r'.map intD∧(k' ≤p.length∧r' =(p.take k').foldl (oO 1) (List.replicate (dV n).toNat 0)∧r'.length=(dV n).toNat)∧p.length - k' <p.length - k))∧((decide ((k:Int)<((p.length:Nat):Int)))=false→(∃(k2:Nat) (r2:List Int),(0:Int)=(k2:Int)∧r.map intD=r2.map intD∧k2≤m.length∧r2=(m.take k2).foldl (oO (-1)) (p.foldl (oO 1) (List.replicate (dV n).toNat 0))∧r2.length=(dV n).toNat)∧ ∀(k2:Nat) (r2:List Int),(k2≤m.length∧r2=(m.take k2).foldl (oO (-1)) (p.foldl (oO 1) (List.replicate (dV n).toNat 0))∧r2.length=(dV n).toNat)→Lm intD m∧(((decide ((k2:Int)<((m.length:Nat):Int)))=true→0≤(k2:Int)∧Em intD m k2 fun e40=>((decide ((0:Int)<e40))=true→0≤(k2:Int)∧Em intD m k2 fun e46=>cC (e46 - (1:Int))∧(0≤(e46 - (1:Int))∧Lm intD r2∧(e46 - (1:Int))<((r2.length:Nat):Int)∧(r2.map intD=r2.map intD∧(e46 - (1:Int)).toNat<r2.length∧ ∀s11_7,r2[(e46 - (1:Int)).toNat]? =some s11_7→dT (intD s11_7)=true∧0+1≤(intD s11_7).length∧(intD s11_7).take 0++[.int .i64 (-1:Int)]++(intD s11_7).drop (0+1)=intD (-1:Int)∧cC ((k2:Int)+(1:Int))∧ ∃(k2' :Nat) (r2' :List Int),((k2:Int)+(1:Int))=(k2' :Int)∧(r2.set ((e46 - (1:Int)).toNat) (-1:Int)).map intD=r2'.map intD∧(k2' ≤m.length∧r2' =(m.take k2').foldl (oO (-1)) (p.foldl (oO 1) (List.replicate (dV n).toNat 0))∧r2'.length=(dV n).toNat)∧m.length - k2' <m.length - k2)))∧((decide ((0:Int)<e40))=false→cC ((k2:Int)+(1:Int))∧ ∃(k2' :Nat) (r2' :List Int),((k2:Int)+(1:Int))=(k2' :Int)∧r2.map intD=r2'.map intD∧(k2' ≤m.length∧r2' =(m.take k2').foldl (oO (-1)) (p.foldl (oO 1) (List.replicate (dV n).toNat 0))∧r2'.length=(dV n).toNat)∧m.length - k2' <m.length - k2))∧((decide ((k2:Int)<((m.length:Nat):Int)))=false→r2.map intD=(eZ (dV n) p m).map intD∧True))))))))) (by kernel_rfl) ?_
 intro n0 n1
 simp only [List.length_map] at n0 n1
 obtain ⟨b1,b2,b3⟩:=aAx hn
 have hal:dV n=(1:Int)*2^n.toNat - 1:=rfl
 refine ⟨⟨by omega,by omega⟩,by first | exact bK (by omega) | exact ⟨by omega,by omega⟩,by first | exact bK (by omega) | exact ⟨by omega,by omega⟩,by omega,by omega,by omega,by omega,by first | (rw [List.map_replicate];done) | (rw [List.map_replicate];rfl),⟨0,List.replicate ((((1:Int)*2^(Int.toNat n)) - (1:Int)).toNat) (0:Int),rfl,rfl,Nat.zero_le _,rfl,List.length_replicate⟩,fun k r ⟨hk,hr,hl⟩=>?_⟩
 refine ⟨List.length_map _,fun c0=>?_,fun c0=>?_⟩
 ·replace c0:=yq c0
  refine ⟨by omega,rfl,by first | omega | (rw [hl2];omega) | (rw [hl];omega),fun e22 h22=>?_⟩
  have hx:=hp _ (List.mem_of_getElem? h22)
  refine ⟨fun c1=>?_,fun c1=>?_⟩
  ·replace c1:=yq c1
   refine ⟨by omega,rfl,by first | omega | (rw [hl2];omega) | (rw [hl];omega),fun e28 h28=>?_⟩
   obtain rfl:=(aY h22 h28).symm
   refine ⟨by first | exact bK (by omega) | exact ⟨by omega,by omega⟩,by omega,List.length_map _,by first | omega | (rw [hl2];omega) | (rw [hl];omega),rfl,by first | omega | (rw [hl2];omega) | (rw [hl];omega),fun s6_7 hs6_7=>⟨rfl,Nat.le_of_ble_eq_true rfl,rfl,?_⟩⟩
   refine ⟨by first | exact bK (by omega) | exact ⟨by omega,by omega⟩,?_⟩
   exact ⟨k+1,_,rfl,rfl,⟨by omega,by first | (rw [fS h22,←hr,aDL c1];done) | (rw [fS h22,←hr,qR c1]),by first | exact hl | (rw [List.length_set];exact hl)⟩,by omega⟩
  ·replace c1:=nq c1
   refine ⟨by first | exact bK (by omega) | exact ⟨by omega,by omega⟩,?_⟩
   exact ⟨k+1,_,rfl,rfl,⟨by omega,by first | (rw [fS h22,←hr,aDL c1];done) | (rw [fS h22,←hr,qR c1]),by first | exact hl | (rw [List.length_set];exact hl)⟩,by omega⟩
 ·replace c0:=nq c0
  refine ⟨⟨0,r,rfl,rfl,Nat.zero_le _,by rw [hr,List.take_of_length_le (by omega)];rfl,hl⟩,fun k2 r2 ⟨hk2,hr2,hl2⟩=>?_⟩
  refine ⟨List.length_map _,fun c2=>?_,fun c2=>?_⟩
  ·replace c2:=yq c2
   refine ⟨by omega,rfl,by first | omega | (rw [hl2];omega) | (rw [hl];omega),fun e40 h40=>?_⟩
   have hx:=hm _ (List.mem_of_getElem? h40)
   refine ⟨fun c3=>?_,fun c3=>?_⟩
   ·replace c3:=yq c3
    refine ⟨by omega,rfl,by first | omega | (rw [hl2];omega) | (rw [hl];omega),fun e46 h46=>?_⟩
    obtain rfl:=(aY h40 h46).symm
    refine ⟨by first | exact bK (by omega) | exact ⟨by omega,by omega⟩,by omega,List.length_map _,by first | omega | (rw [hl2];omega) | (rw [hl];omega),rfl,by first | omega | (rw [hl2];omega) | (rw [hl];omega),fun s11_7 hs11_7=>⟨rfl,Nat.le_of_ble_eq_true rfl,rfl,?_⟩⟩
    refine ⟨by first | exact bK (by omega) | exact ⟨by omega,by omega⟩,?_⟩
    exact ⟨k2+1,_,rfl,rfl,⟨by omega,by first | (rw [fS h40,←hr2,aDL c3];done) | (rw [fS h40,←hr2,qR c3]),by first | exact hl2 | (rw [List.length_set];exact hl2)⟩,by omega⟩
   ·replace c3:=nq c3
    refine ⟨by first | exact bK (by omega) | exact ⟨by omega,by omega⟩,?_⟩
    exact ⟨k2+1,_,rfl,rfl,⟨by omega,by first | (rw [fS h40,←hr2,aDL c3];done) | (rw [fS h40,←hr2,qR c3]),by first | exact hl2 | (rw [List.length_set];exact hl2)⟩,by omega⟩
  ·replace c2:=nq c2
   refine ⟨?_,trivial⟩
   ·rw [hr2,List.take_of_length_le (by omega)];rfl
abbrev uB (n:Int):AV × List (Nat × Rs):=(.own 0,[(0,.arr 39 1 true ((cE n).map aC))])
abbrev aAK (n:Int):Prop:=cX Tryz.prog 32 [.one (.int .i64 n)] (uB n).1 (uB n).2
theorem aJh (n:Int):aAK n:=by
 refine aX bG aR Tryz.func32 (by kernel_rfl) (.call (vB (decide ((1:Int)≤n∧n≤(4:Int)))) []<| .br (.fin [(0,900)]) (.loop (Nat × (List (List Int))) (Q2 Nat (List (List Int))) [3,5,9,17,18,19,20,21,22,23,24,25,26,27,28,29,30,31,32,33] [900,2800,3000,3100,3200,3300] (fun yy0=>[(3,.own 900),(5,vI (yy0.1:Int))]) (fun yy0=>[(900,some (.arr 39 1 true (yy0.2.map aC)))]) (fun yy0=>(yy0.1:Int)≤n∧yy0.2=xL (eZ (dV n)) (hdS n) (dV n) yy0.1∧yy0.2.length≤yy0.1) (fun yy0=>n.toNat - yy0.1) (fun yy0=> .br (cB (nO n ([(((1:Int)*2^(Int.toNat n)) - (1:Int)) - ((1:Int)*2^yy0.1)]:List Int) ([((1:Int)*2^(Int.toNat n)) - (1:Int)]:List Int))<| .appx (List Int) aC yy0.2 (eZ (dV n) ([(((1:Int)*2^(Int.toNat n)) - (1:Int)) - ((1:Int)*2^yy0.1)]:List Int) ([((1:Int)*2^(Int.toNat n)) - (1:Int)]:List Int))<| .back [(900,3300)]) (.loop (Nat × (List (List Int))) (Q2 Nat (List (List Int))) [3,6,7,8,34,35,36,37,38,39,40,41,42,43,44,45,46,47,48,49,50,51,52,53,54,55,56,57,58,59,60,61,62,63,64,65,66,67,68,69,70,71,72,73,74,75,76,77,78,79,80,81,82,83,84,85] [900,7300,8200,8300,8400,8500] (fun yy1=>[(3,.own 900),(6,vI (yy1.1:Int))]) (fun yy1=>[(900,some (.arr 39 1 true (yy1.2.map aC)))]) (fun yy1=>(yy1.1:Int)≤n∧yy1.2=xL (eZ (dV n)) (hdS n) (dV n) n.toNat++elI (eZ (dV n)) (2^n.toNat) n.toNat yy1.1∧yy1.2.length≤4+yy1.1*64) (fun yy1=>n.toNat - yy1.1) (fun yy1=> .br (.loop (Nat × (List (List Int))) (Q2 Nat (List (List Int))) [3,7,8,41,42,43,44,45,46,47,48,49,50,51,52,53,54,55,56,57,58,59,60,61,62,63,64,65,66,67,68,69,70,71,72,73,74,75,76,77,78,79,80,81,82,83,84,85] [900,7300,8200,8300,8400,8500] (fun yy2=>[(3,.own 900),(7,vI ((yy1.1+1+yy2.1:Nat):Int))]) (fun yy2=>[(900,some (.arr 39 1 true (yy2.2.map aC)))]) (fun yy2=>((yy1.1+1+yy2.1:Nat):Int)≤n∧yy2.2=xL (eZ (dV n)) (hdS n) (dV n) n.toNat++elI (eZ (dV n)) (2^n.toNat) n.toNat yy1.1++elJ (eZ (dV n)) (2^n.toNat) yy1.1 yy2.1∧yy2.2.length≤4+yy1.1*64+yy2.1*16) (fun yy2=>n.toNat - (yy1.1+1+yy2.1)) (fun yy2=> .br (.loop (Nat × (List (List Int))) (Q2 Nat (List (List Int))) [3,8,46,47,48,49,50,51,52,53,54,55,56,57,58,59,60,61,62,63,64,65,66,67,68,69,70,71,72,73,74,75,76,77,78,79,80,81,82,83,84,85] [900,7300,8200,8300,8400,8500] (fun yy3=>[(3,.own 900),(8,vI (yy3.1:Int))]) (fun yy3=>[(900,some (.arr 39 1 true (yy3.2.map aC)))]) (fun yy3=>yy3.1≤2^n.toNat∧yy3.2=xL (eZ (dV n)) (hdS n) (dV n) n.toNat++elI (eZ (dV n)) (2^n.toNat) n.toNat yy1.1++elJ (eZ (dV n)) (2^n.toNat) yy1.1 yy2.1++elS (eZ (dV n)) yy1.1 (yy1.1+1+yy2.1) yy3.1∧yy3.2.length≤4+yy1.1*64+yy2.1*16+yy3.1) (fun yy3=>2^n.toNat - yy3.1) (fun yy3=> .br (.br (.lit<| .lit<| .lit<| .lit<| .lit<| .br (cB (nO n ([(yy3.1:Int),cH .or .i64 (cH .or .i64 (yy3.1:Int) ((1:Int)*2^yy1.1)) ((1:Int)*2^(yy1.1+1+yy2.1))]:List Int) ([cH .or .i64 (yy3.1:Int) ((1:Int)*2^yy1.1),cH .or .i64 (yy3.1:Int) ((1:Int)*2^(yy1.1+1+yy2.1))]:List Int))<| .appx (List Int) aC yy3.2 (eZ (dV n) ([(yy3.1:Int),cH .or .i64 (cH .or .i64 (yy3.1:Int) ((1:Int)*2^yy1.1)) ((1:Int)*2^(yy1.1+1+yy2.1))]:List Int) ([cH .or .i64 (yy3.1:Int) ((1:Int)*2^yy1.1),cH .or .i64 (yy3.1:Int) ((1:Int)*2^(yy1.1+1+yy2.1))]:List Int))<| .back [(900,8500)]) (.back [(900,900)])) (.back [(900,900)])) (.back [(900,900)]))) (.back [(900,900)]))) (.fin [(0,900)])))))) (p:=iH n (1:Int) (4:Int)∧(((!(decide ((1:Int)≤n∧n≤(4:Int))))=true→[]=(cE n).map aC∧True)∧((!(decide ((1:Int)≤n∧n≤(4:Int))))=false→(0≤n∧n≤64)∧(cC ((1:Int)*2^(Int.toNat n))∧(cC (((1:Int)*2^(Int.toNat n)) - (1:Int))∧((∃(i:Nat) (o0:List (List Int)),(0:Int)=(i:Int)∧[]=o0.map aC∧(i:Int)≤n∧o0=xL (eZ (dV n)) (hdS n) (dV n) i∧o0.length≤i)∧ ∀(i:Nat) (o0:List (List Int)),((i:Int)≤n∧o0=xL (eZ (dV n)) (hdS n) (dV n) i∧o0.length≤i)→((decide ((i:Int)<n))=true→(0≤(i:Int)∧(i:Int)≤64)∧cC ((1:Int)*2^i)∧cC ((((1:Int)*2^(Int.toNat n)) - (1:Int)) - ((1:Int)*2^i))∧qS n ([(((1:Int)*2^(Int.toNat n)) - (1:Int)) - ((1:Int)*2^i)]:List Int) ([((1:Int)*2^(Int.toNat n)) - (1:Int)]:List Int)∧o0.map aC=o0.map aC∧(eZ (dV n) ([(((1:Int)*2^(Int.toNat n)) - (1:Int)) - ((1:Int)*2^i)]:List Int) ([((1:Int)*2^(Int.toNat n)) - (1:Int)]:List Int)).map intD=(eZ (dV n) ([(((1:Int)*2^(Int.toNat n)) - (1:Int)) - ((1:Int)*2^i)]:List Int) ([((1:Int)*2^(Int.toNat n)) - (1:Int)]:List Int)).map intD∧(o0.length+1)*24≤140737488355328∧cC ((i:Int)+(1:Int))∧ ∃(i' :Nat) (o0' :List (List Int)),((i:Int)+(1:Int))=(i' :Int)∧(o0++[eZ (dV n) ([(((1:Int)*2^(Int.toNat n)) - (1:Int)) - ((1:Int)*2^i)]:List Int) ([((1:Int)*2^(Int.toNat n)) - (1:Int)]:List Int)]).map aC=o0'.map aC∧((i' :Int)≤n∧o0' =xL (eZ (dV n)) (hdS n) (dV n) i' ∧o0'.length≤i')∧n.toNat - i' <n.toNat - i)∧((decide ((i:Int)<n))=false→(∃(i:Nat) (o1:List (List Int)),(0:Int)=(i:Int)∧o0.map aC=o1.map aC∧(i:Int)≤n∧o1=xL (eZ (dV n)) (hdS n) (dV n) n.toNat++elI (eZ (dV n)) (2^n.toNat) n.toNat i∧o1.length≤4+i*64)∧ ∀(i:Nat) (o1:List (List Int)),((i:Int)≤n∧o1=xL (eZ (dV n)) (hdS n) (dV n) n.toNat++elI (eZ (dV n)) (2^n.toNat) n.toNat i∧o1.length≤4+i*64)→((decide ((i:Int)<n))=true→cC ((i:Int)+(1:Int))∧((∃(j:Nat) (o2:List (List Int)),((i:Int)+(1:Int))=((i+1+j:Nat):Int)∧o1.map aC=o2.map aC∧((i+1+j:Nat):Int)≤n∧o2=xL (eZ (dV n)) (hdS n) (dV n) n.toNat++elI (eZ (dV n)) (2^n.toNat) n.toNat i++elJ (eZ (dV n)) (2^n.toNat) i j∧o2.length≤4+i*64+j*16)∧ ∀(j:Nat) (o2:List (List Int)),(((i+1+j:Nat):Int)≤n∧o2=xL (eZ (dV n)) (hdS n) (dV n) n.toNat++elI (eZ (dV n)) (2^n.toNat) n.toNat i++elJ (eZ (dV n)) (2^n.toNat) i j∧o2.length≤4+i*64+j*16)→((decide (((i+1+j:Nat):Int)<n))=true→(∃(s:Nat) (o3:List (List Int)),(0:Int)=(s:Int)∧o2.map aC=o3.map aC∧s≤2^n.toNat∧o3=xL (eZ (dV n)) (hdS n) (dV n) n.toNat++elI (eZ (dV n)) (2^n.toNat) n.toNat i++elJ (eZ (dV n)) (2^n.toNat) i j++elS (eZ (dV n)) i (i+1+j) s∧o3.length≤4+i*64+j*16+s)∧ ∀(s:Nat) (o3:List (List Int)),(s≤2^n.toNat∧o3=xL (eZ (dV n)) (hdS n) (dV n) n.toNat++elI (eZ (dV n)) (2^n.toNat) n.toNat i++elJ (eZ (dV n)) (2^n.toNat) i j++elS (eZ (dV n)) i (i+1+j) s∧o3.length≤4+i*64+j*16+s)→((decide ((s:Int)≤(((1:Int)*2^(Int.toNat n)) - (1:Int))))=true→(0≤(i:Int)∧(i:Int)≤64)∧(((decide ((cH .and .i64 ((s:Int)/2^i) (1:Int))=(0:Int)))=true→(0≤((i+1+j:Nat):Int)∧((i+1+j:Nat):Int)≤64)∧(((decide ((cH .and .i64 ((s:Int)/2^(i+1+j)) (1:Int))=(0:Int)))=true→(0≤(i:Int)∧(i:Int)≤64)∧cC ((1:Int)*2^i)∧(0≤((i+1+j:Nat):Int)∧((i+1+j:Nat):Int)≤64)∧cC ((1:Int)*2^(i+1+j))∧(0≤(i:Int)∧(i:Int)≤64)∧cC ((1:Int)*2^i)∧(0≤((i+1+j:Nat):Int)∧((i+1+j:Nat):Int)≤64)∧cC ((1:Int)*2^(i+1+j))∧qS n ([(s:Int),cH .or .i64 (cH .or .i64 (s:Int) ((1:Int)*2^i)) ((1:Int)*2^(i+1+j))]:List Int) ([cH .or .i64 (s:Int) ((1:Int)*2^i),cH .or .i64 (s:Int) ((1:Int)*2^(i+1+j))]:List Int)∧o3.map aC=o3.map aC∧(eZ (dV n) ([(s:Int),cH .or .i64 (cH .or .i64 (s:Int) ((1:Int)*2^i)) ((1:Int)*2^(i+1+j))]:List Int) ([cH .or .i64 (s:Int) ((1:Int)*2^i),cH .or .i64 (s:Int) ((1:Int)*2^(i+1+j))]:List Int)).map intD=(eZ (dV n) ([(s:Int),cH .or .i64 (cH .or .i64 (s:Int) ((1:Int)*2^i)) ((1:Int)*2^(i+1+j))]:List Int) ([cH .or .i64 (s:Int) ((1:Int)*2^i),cH .or .i64 (s:Int) ((1:Int)*2^(i+1+j))]:List Int)).map intD∧(o3.length+1)*24≤140737488355328∧cC ((s:Int)+(1:Int))∧ ∃(s' :Nat) (o3' :List (List Int)),((s:Int)+(1:Int))=(s' :Int)∧(o3++[eZ (dV n) ([(s:Int),cH .or .i64 (cH .or .i64 (s:Int) ((1:Int)*2^i)) ((1:Int)*2^(i+1+j))]:List Int) ([cH .or .i64 (s:Int) ((1:Int)*2^i),cH .or .i64 (s:Int) ((1:Int)*2^(i+1+j))]:List Int)]).map aC=o3'.map aC∧(s' ≤2^n.toNat∧o3' =xL (eZ (dV n)) (hdS n) (dV n) n.toNat++elI (eZ (dV n)) (2^n.toNat) n.toNat i++elJ (eZ (dV n)) (2^n.toNat) i j++elS (eZ (dV n)) i (i+1+j) s' ∧o3'.length≤4+i*64+j*16+s')∧2^n.toNat - s' <2^n.toNat - s)∧((decide ((cH .and .i64 ((s:Int)/2^(i+1+j)) (1:Int))=(0:Int)))=false→cC ((s:Int)+(1:Int))∧ ∃(s' :Nat) (o3' :List (List Int)),((s:Int)+(1:Int))=(s' :Int)∧o3.map aC=o3'.map aC∧(s' ≤2^n.toNat∧o3' =xL (eZ (dV n)) (hdS n) (dV n) n.toNat++elI (eZ (dV n)) (2^n.toNat) n.toNat i++elJ (eZ (dV n)) (2^n.toNat) i j++elS (eZ (dV n)) i (i+1+j) s' ∧o3'.length≤4+i*64+j*16+s')∧2^n.toNat - s' <2^n.toNat - s)))∧((decide ((cH .and .i64 ((s:Int)/2^i) (1:Int))=(0:Int)))=false→cC ((s:Int)+(1:Int))∧ ∃(s' :Nat) (o3' :List (List Int)),((s:Int)+(1:Int))=(s' :Int)∧o3.map aC=o3'.map aC∧(s' ≤2^n.toNat∧o3' =xL (eZ (dV n)) (hdS n) (dV n) n.toNat++elI (eZ (dV n)) (2^n.toNat) n.toNat i++elJ (eZ (dV n)) (2^n.toNat) i j++elS (eZ (dV n)) i (i+1+j) s' ∧o3'.length≤4+i*64+j*16+s')∧2^n.toNat - s' <2^n.toNat - s)))∧((decide ((s:Int)≤(((1:Int)*2^(Int.toNat n)) - (1:Int))))=false→cC (((i+1+j:Nat):Int)+(1:Int))∧ ∃(j' :Nat) (o2' :List (List Int)),(((i+1+j:Nat):Int)+(1:Int))=((i+1+j' :Nat):Int)∧o3.map aC=o2'.map aC∧(((i+1+j' :Nat):Int)≤n∧o2' =xL (eZ (dV n)) (hdS n) (dV n) n.toNat++elI (eZ (dV n)) (2^n.toNat) n.toNat i++elJ (eZ (dV n)) (2^n.toNat) i j' ∧o2'.length≤4+i*64+j' *16)∧n.toNat - (i+1+j')<n.toNat - (i+1+j)))∧((decide (((i+1+j:Nat):Int)<n))=false→cC ((i:Int)+(1:Int))∧ ∃(i' :Nat) (o1' :List (List Int)),((i:Int)+(1:Int))=(i' :Int)∧o2.map aC=o1'.map aC∧((i' :Int)≤n∧o1' =xL (eZ (dV n)) (hdS n) (dV n) n.toNat++elI (eZ (dV n)) (2^n.toNat) n.toNat i' ∧o1'.length≤4+i' *64)∧n.toNat - i' <n.toNat - i)))∧((decide ((i:Int)<n))=false→o1.map aC=(cE n).map aC∧True)))))))) (by kernel_rfl) ?_
 refine ⟨lZ _ _ _,fun c0=>?_,fun c0=>?_⟩
 ·replace c0:=nq (nt c0)
  refine ⟨?_,trivial⟩
  ·first | (rw [cE,if_neg (by omega)]<;>rfl) | (rw [ho1,show i=n.toNat by omega,cE,if_pos (by omega)];rfl)
 ·replace c0:=yq (nf c0)
  obtain ⟨b1,b2,b3⟩:=aAx (n:=n) (by omega)
  have hal:dV n=(1:Int)*2^n.toNat - 1:=rfl
  refine ⟨⟨by omega,by omega⟩,by first | exact bK (by omega) | exact ⟨by omega,by omega⟩,by first | exact bK (by omega) | exact ⟨by omega,by omega⟩,⟨0,([]:List (List Int)),rfl,rfl,by omega,rfl,Nat.zero_le _⟩,fun i o0 ⟨hi,ho,hL⟩=>?_⟩
  refine ⟨fun c1=>?_,fun c1=>?_⟩
  ·replace c1:=yq c1
   have hw:=aOV (n:=n) (i:=i) (by omega) (by omega)
   refine ⟨⟨by omega,by omega⟩,by first | exact bK (by omega) | exact ⟨by omega,by omega⟩,by first | exact bK (by omega) | exact ⟨by omega,by omega⟩,aAy _ ([(((1:Int)*2^(Int.toNat n)) - (1:Int)) - ((1:Int)*2^i)]:List Int) ([((1:Int)*2^(Int.toNat n)) - (1:Int)]:List Int) (by omega) (by first | exact aFR (by omega) | exact aFS (by omega) (by omega) | exact aMO) (by first | exact aFR (by omega) | exact aFS (by omega) (by omega) | exact aMO) (by simp) (by simp),rfl,rfl,by first | omega | (simp;omega),by first | exact bK (by omega) | exact ⟨by omega,by omega⟩,?_⟩
   exact ⟨i+1,_,rfl,rfl,⟨by omega,by rw [ho];rfl,by simp;omega⟩,by omega⟩
  ·replace c1:=nq c1
   refine ⟨⟨0,o0,rfl,rfl,by omega,by rw [ho,show i=n.toNat by omega];simp [elI],by omega⟩,fun i o1 ⟨hi1,ho1,hL1⟩=>?_⟩
   refine ⟨fun c2=>?_,fun c2=>?_⟩
   ·replace c2:=yq c2
    refine ⟨by first | exact bK (by omega) | exact ⟨by omega,by omega⟩,⟨0,o1,by first | rfl | omega,by first | rfl | omega,by omega,by rw [ho1];simp [elJ],by omega⟩,fun j o2 ⟨hj,ho2,hL2⟩=>?_⟩
    refine ⟨fun c3=>?_,fun c3=>?_⟩
    ·replace c3:=yq c3
     refine ⟨⟨0,o2,rfl,rfl,Nat.zero_le _,by rw [ho2];simp [elS],by omega⟩,fun s o3 ⟨hs,ho3,hL3⟩=>?_⟩
     refine ⟨fun c4=>?_,fun c4=>?_⟩
     ·replace c4:=yq c4
      refine ⟨⟨by omega,by omega⟩,fun g56=>?_,fun g56=>?_⟩
      ·replace g56:=yq g56
       refine ⟨⟨by omega,by omega⟩,fun c5=>?_,fun c5=>?_⟩
       ·replace c5:=yq c5
        obtain ⟨v1,v2⟩:=aK7 (n:=n.toNat) (i:=i) (j:=i+1+j) (s:=s) (by omega) (by omega) (by omega) (by omega)
        obtain ⟨v3,v4⟩:=aK7 (n:=n.toNat) (i:=i+1+j) (j:=i) (s:=s) (by omega) (by omega) (by omega) (by omega)
        refine ⟨⟨by omega,by omega⟩,by first | exact bK (by omega) | exact ⟨by omega,by omega⟩,⟨by omega,by omega⟩,by first | exact bK (by omega) | exact ⟨by omega,by omega⟩,⟨by omega,by omega⟩,by first | exact bK (by omega) | exact ⟨by omega,by omega⟩,⟨by omega,by omega⟩,by first | exact bK (by omega) | exact ⟨by omega,by omega⟩,aAy _ ([(s:Int),cH .or .i64 (cH .or .i64 (s:Int) ((1:Int)*2^i)) ((1:Int)*2^(i+1+j))]:List Int) ([cH .or .i64 (s:Int) ((1:Int)*2^i),cH .or .i64 (s:Int) ((1:Int)*2^(i+1+j))]:List Int) (by omega) (by first | exact aFR (by omega) | exact aFS (by omega) (by omega) | exact aMO) (by first | exact aFR (by omega) | exact aFS (by omega) (by omega) | exact aMO) (by simp) (by simp),rfl,rfl,by first | omega | (simp;omega),by first | exact bK (by omega) | exact ⟨by omega,by omega⟩,?_⟩
        exact ⟨s+1,_,rfl,rfl,⟨by omega,by first | (rw [ho3,elS,if_pos ⟨decide_eq_true g56,decide_eq_true c5⟩];simp only [List.append_assoc];done) | (rw [ho3,elS,if_neg (by rintro ⟨q1,q2⟩;simp only [aEp,decide_eq_true_eq] at q1 q2;contradiction),List.append_nil]),by first | omega | (simp;omega)⟩,by omega⟩
       ·replace c5:=nq c5
        refine ⟨by first | exact bK (by omega) | exact ⟨by omega,by omega⟩,?_⟩
        exact ⟨s+1,_,rfl,rfl,⟨by omega,by first | (rw [ho3,elS,if_pos ⟨decide_eq_true g56,decide_eq_true c5⟩];simp only [List.append_assoc];done) | (rw [ho3,elS,if_neg (by rintro ⟨q1,q2⟩;simp only [aEp,decide_eq_true_eq] at q1 q2;contradiction),List.append_nil]),by first | omega | (simp;omega)⟩,by omega⟩
      ·replace g56:=nq g56
       refine ⟨by first | exact bK (by omega) | exact ⟨by omega,by omega⟩,?_⟩
       exact ⟨s+1,_,rfl,rfl,⟨by omega,by first | (rw [ho3,elS,if_pos ⟨decide_eq_true g56,decide_eq_true c5⟩];simp only [List.append_assoc];done) | (rw [ho3,elS,if_neg (by rintro ⟨q1,q2⟩;simp only [aEp,decide_eq_true_eq] at q1 q2;contradiction),List.append_nil]),by first | omega | (simp;omega)⟩,by omega⟩
     ·replace c4:=nq c4
      refine ⟨by first | exact bK (by omega) | exact ⟨by omega,by omega⟩,?_⟩
      exact ⟨j+1,_,by first | rfl | omega,by first | rfl | omega,⟨by omega,by rw [ho3,show s=2^n.toNat by omega,elJ,←List.append_assoc],by omega⟩,by omega⟩
    ·replace c3:=nq c3
     refine ⟨by first | exact bK (by omega) | exact ⟨by omega,by omega⟩,?_⟩
     exact ⟨i+1,_,rfl,rfl,⟨by omega,by rw [ho2,show j=n.toNat - (i+1) by omega,elI,List.append_assoc],by omega⟩,by omega⟩
   ·replace c2:=nq c2
    refine ⟨?_,trivial⟩
    ·first | (rw [cE,if_neg (by omega)]<;>rfl) | (rw [ho1,show i=n.toNat by omega,cE,if_pos (by omega)];rfl)
end Go.Proofs.YtdfebigfnjfgpaaGreat
