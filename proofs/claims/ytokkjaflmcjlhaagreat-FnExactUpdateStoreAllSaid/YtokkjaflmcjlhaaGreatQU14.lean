/-
  Contracts and plain laws, joined: part 15.
-/
import Derived.Test.YtokkjaflmcjlhaaGreatQU13
import Derived.Test.YtokkjaflmcjlhaaGreatQU3
namespace Go.Proofs.YtokkjaflmcjlhaaGreat
open Go.ChangeShapes Go.WideShapes Go.ChangeAt Go.RowKit
set_option linter.unusedVariables false
set_option linter.unusedSimpArgs false
set_option maxRecDepth 100000
set_option maxHeartbeats 4000000
theorem aJR {s:StoreD} {u:UpdateD} (h:(bQ s u).2=false):(bQ s u).1=s:=by
 cases e:fL s u with
 | false=>rw [bJ e]
 | true=>rw [bA e] at h;cases h
theorem aAI {d:aP} {n:ByteArray} (h:(aM d n).2=true):n.size=1:=by
 unfold aM at h
 split at h
 ·rename_i hd
  cases e:d.tables.find? (yG n) with
  | none=>rw [e] at h;cases h
  | some t=>
    have h1:=List.find?_some e
    have h2:=tN (List.all_eq_true.1 (aEA hd) t (List.mem_of_find?_eq_some e))
    have h3:t.name=n:=by
     unfold yG at h1
     simpa [jH] using h1
    rw [←h3];exact h2
 ·cases h
theorem aJS {d:aP} {l:List aJ} {m:List aL} (h:dY d l m=true):bH l≤100∧cG m≤100:=by
 simp only [dY,Bool.and_eq_true,decide_eq_true_eq] at h
 obtain ⟨h1,h2,h3,h4⟩:=h
 have q1:=qI (c:=bI) (m:=4) (l:=l) fun f hf=>by
  have:=List.all_eq_true.1 h1 f hf
  simp only [gL,eC,Bool.and_eq_true] at this
  have a1:=aAI this.1.1
  have a2:=cD (jN this.1.1).1
  have a3:=aAr this.1.2.1 (by omega)
  have e:bI f=f.name.size+bZ f.src:=rfl
  have e2:bZ f.src=f.src.length:=rfl
  omega
 have q2:=qI (c:=bU) (m:=2) (l:=m) fun f hf=>by
  have:=List.all_eq_true.1 h2 f hf
  simp only [gN,eA,Bool.and_eq_true] at this
  have a1:=aAI this.1.1
  have a2:=aAI this.1.2.1
  have e:bU f=f.name.size+f.into.size:=rfl
  omega
 have e1:bH l=rO bI l:=rfl
 have e2:cG m=rO bU m:=rfl
 omega
def rK (p:StoreD × Int) (u:UpdateD):StoreD × Int:=((bQ p.1 u).1,if (bQ p.1 u).2=true then p.2+1 else p.2)
def dW (s:StoreD) (l:List UpdateD):StoreD × Int:=l.foldl rK (s,0)
theorem yF {s:StoreD} {l:List UpdateD} {k:Nat} {u:UpdateD} (h:l[k]? =some u):dW s (l.take (k+1))=rK (dW s (l.take k)) u:=by
 rw [dW,cU h,List.foldl_append];rfl
theorem aIQ (s:StoreD) (u:UpdateD):(bQ s u).1=s∨dQ (bQ s u).1≤25000:=by
 cases h:fL s u with
 | false=>left;rw [bJ h]
 | true=>
   right
   rw [bA h]
   simp only [fL,Bool.and_eq_true] at h
   have h1:=(aAH h.2.2.1).1
   have h2:=aBn (dZ s.database u).1 (s.catalogue.version+1)
   have h3:=aJS h.2.2.2
   show aW (dZ s.database u).1+bK (eK (dZ s.database u).1 (s.catalogue.version+1)).1+bH s.dependencies+cG s.inclusions≤25000
   omega
theorem aES (s:StoreD) (l:List UpdateD):(dW s l).1=s∨dQ (dW s l).1≤25000:=by
 have key: ∀(l:List UpdateD) (p:StoreD × Int),(p.1=s∨dQ p.1≤25000)→((l.foldl rK p).1=s∨dQ (l.foldl rK p).1≤25000):=by
  intro l
  induction l with
  | nil=>intro p h;exact h
  | cons u l ih=>
    intro p h
    rw [List.foldl_cons]
    refine ih _ ?_
    show (bQ p.1 u).1=s∨dQ (bQ p.1 u).1≤25000
    rcases aIQ p.1 u with q | q
    ·rw [q];exact h
    ·exact .inr q
 exact key l (s,0) (.inl rfl)
theorem aGF {s x:StoreD} {l:List UpdateD} {n:Int} (hc:dQ s≤1048576) (h:dW s l=(x,n)):dQ x≤1048576:=by
 rcases aES s l with q | q
 ·rw [h] at q;rw [show x=s from q];exact hc
 ·rw [h] at q;have:dQ x≤25000:=q;omega
theorem aET (s:StoreD): ∀(l:List UpdateD) (p:StoreD × Int),0≤p.2→0≤(l.foldl rK p).2∧(l.foldl rK p).2≤p.2+(l.length:Int)
 | [],p,h=>by simpa using h
 | u::l,p,h=>by
   have e:(rK p u).2=p.2+1∨(rK p u).2=p.2:=by
    show (if (bQ p.1 u).2=true then p.2+1 else p.2)=p.2+1∨(if (bQ p.1 u).2=true then p.2+1 else p.2)=p.2
    split
    ·exact .inl rfl
    ·exact .inr rfl
   have:=aET s l (rK p u) (by omega)
   rw [List.foldl_cons,List.length_cons]
   omega
theorem aIR {s x:StoreD} {l:List UpdateD} {n:Int} (h:dW s l=(x,n)):0≤n∧n≤(l.length:Int):=by
 have:=aET s l (s,0) (Int.le_refl _)
 rw [show l.foldl rK (s,0)=(x,n) from h] at this
 simpa using this
theorem aGG {x:StoreD} {u:UpdateD} {n:Int} (h:(bQ x u).2=true):rK (x,n) u=((bQ x u).1,n+1):=by rw [rK,if_pos h]
theorem aIS {x:StoreD} {u:UpdateD} {n:Int} (h:(bQ x u).2=false):rK (x,n) u=((bQ x u).1,n):=by rw [rK,if_neg (by rw [h];decide)]
abbrev rL (s:StoreD) (l:List UpdateD):AV × List (Nat × Rs):=(.tup [.agg [.own 0,vI ((((dW s l).1).catalogue).version),.own 1,.own 2,.own 3],vI ((dW s l).2)],[(0,.arr 162 3 true (((((dW s l).1).database).tables).map aD)),(1,.arr 121 4 true (((((dW s l).1).catalogue).tables).map aA)),(2,.arr 168 3 true ((((dW s l).1).dependencies).map aB)),(3,.arr 170 4 true ((((dW s l).1).inclusions).map aE))])
abbrev wW (s:StoreD) (l:List UpdateD):Prop:=dJ Tryz.prog 27 [.agg [.sl 162 3 (s.database.tables.map aD),.int .i64 s.catalogue.version,.sl 121 4 (s.catalogue.tables.map aA),.sl 168 3 (s.dependencies.map aB),.sl 170 4 (s.inclusions.map aE)],.one (.sl 50 3 (l.map aX))] (rL s l).1 (rL s l).2
theorem aGH (s:StoreD) (l:List UpdateD) (hc:dQ s≤1048576) (hu:gE l≤1048576):wW s l:=by
 refine aZ bR aT Tryz.func27 (by kernel_rfl) (bG (rH s)<| .len l.length<| .loop (Nat × StoreD × Int) (Q3 Nat StoreD Int) [7,9,10,11,13,16,17,18,19,20,21,22,23,24,25,26,27,28,29,30] [600,900,1000,1300,1301,1302,1303,2300,2301,2302,2303] (fun yy0=>[(16,vI (yy0.1:Int)),(7,vI yy0.2.2)]) (fun yy0=>[(600,some (.box 46 [.own 1300,vI yy0.2.1.catalogue.version,.own 1301,.own 1302,.own 1303])),(1300,some (.arr 162 3 true (yy0.2.1.database.tables.map aD))),(1301,some (.arr 121 4 true (yy0.2.1.catalogue.tables.map aA))),(1302,some (.arr 168 3 true (yy0.2.1.dependencies.map aB))),(1303,some (.arr 170 4 true (yy0.2.1.inclusions.map aE)))]) (fun yy0=>yy0.1≤l.length∧dW s (l.take yy0.1)=(yy0.2.1,yy0.2.2)) (fun yy0=>l.length - yy0.1) (fun yy0=> .br (.elem _ aX l (fun e18=>bG (tU yy0.2.1 e18)<| .br (.back [(600,600),(1300,2300),(1301,2301),(1302,2302),(1303,2303)]) (.back [(600,600),(1300,1300),(1301,1301),(1302,1302),(1303,1303)]))) (.fin [(0,1300),(1,1301),(2,1302),(3,1303)]))) (p:=(s.database.tables.map aD).length≤9223372036854775807→(s.catalogue.tables.map aA).length≤9223372036854775807→(s.dependencies.map aB).length≤9223372036854775807→(s.inclusions.map aE).length≤9223372036854775807→(l.map aX).length≤9223372036854775807→wR s∧(Lm aX l∧((∃(k:Nat) (x:StoreD) (n:Int),(0:Int)=(k:Int)∧(0:Int)=n∧s.catalogue.version=x.catalogue.version∧s.database.tables.map aD=x.database.tables.map aD∧s.catalogue.tables.map aA=x.catalogue.tables.map aA∧s.dependencies.map aB=x.dependencies.map aB∧s.inclusions.map aE=x.inclusions.map aE∧k≤l.length∧dW s (l.take k)=(x,n))∧ ∀(k:Nat) (x:StoreD) (n:Int),(k≤l.length∧dW s (l.take k)=(x,n))→((decide ((k:Int)<((l.length:Nat):Int)))=true→0≤(k:Int)∧Em aX l k fun e18=>aBE x e18∧((((bQ x e18).2)=true→dO (n+(1:Int))∧dO ((k:Int)+(1:Int))∧ ∃(k' :Nat) (x' :StoreD) (n' :Int),((k:Int)+(1:Int))=(k' :Int)∧(n+(1:Int))=n' ∧((((bQ x e18).1).catalogue).version)=x'.catalogue.version∧((((bQ x e18).1).database).tables).map aD=x'.database.tables.map aD∧((((bQ x e18).1).catalogue).tables).map aA=x'.catalogue.tables.map aA∧(((bQ x e18).1).dependencies).map aB=x'.dependencies.map aB∧(((bQ x e18).1).inclusions).map aE=x'.inclusions.map aE∧(k' ≤l.length∧dW s (l.take k')=(x',n'))∧l.length - k' <l.length - k)∧(((bQ x e18).2)=false→dO ((k:Int)+(1:Int))∧ ∃(k' :Nat) (x' :StoreD) (n' :Int),((k:Int)+(1:Int))=(k' :Int)∧n=n' ∧x.catalogue.version=x'.catalogue.version∧x.database.tables.map aD=x'.database.tables.map aD∧x.catalogue.tables.map aA=x'.catalogue.tables.map aA∧x.dependencies.map aB=x'.dependencies.map aB∧x.inclusions.map aE=x'.inclusions.map aE∧(k' ≤l.length∧dW s (l.take k')=(x',n'))∧l.length - k' <l.length - k)))∧((decide ((k:Int)<((l.length:Nat):Int)))=false→x.catalogue.version=((((dW s l).1).catalogue).version)∧n=((dW s l).2)∧x.database.tables.map aD=((((dW s l).1).database).tables).map aD∧x.catalogue.tables.map aA=((((dW s l).1).catalogue).tables).map aA∧x.dependencies.map aB=(((dW s l).1).dependencies).map aB∧x.inclusions.map aE=(((dW s l).1).inclusions).map aE∧True)))) (by kernel_rfl) ?_
 intro n0 n1 n2 n3 n4
 simp only [List.length_map] at n0 n1 n2 n3 n4
 have hS:dQ s=aW s.database+bK s.catalogue+bH s.dependencies+cG s.inclusions:=rfl
 have hI:=iA s.inclusions
 refine ⟨aGB _ (by first | omega | (dsimp only;omega)) (by first | omega | (dsimp only;omega)) (by first | omega | (dsimp only;omega)) (by first | omega | (dsimp only;omega)),List.length_map _,⟨0,s,(0:Int),rfl,rfl,rfl,rfl,rfl,rfl,rfl,Nat.zero_le _,rfl⟩,fun k x n ⟨hk,hx⟩=>?_⟩
 have hxs:=aGF hc hx
 have hxn:=aIR hx
 rw [List.length_take] at hxn
 refine ⟨fun c0=>?_,fun c0=>?_⟩
 ·replace c0:=yq c0
  refine ⟨by omega,rfl,by omega,fun e18 h18=>?_⟩
  have hue:=vP h18
  refine ⟨aJP _ _ (by omega) (by omega),fun c1=>?_,fun c1=>?_⟩
  ·have hnx:dW s (l.take (k+1))=((bQ x e18).1,n+1):=by rw [yF h18,hx,aGG c1]
   refine ⟨⟨by omega,by omega⟩,⟨by omega,by omega⟩,?_⟩
   exact ⟨k+1,(bQ x e18).1,_,rfl,rfl,rfl,rfl,rfl,rfl,rfl,⟨by omega,hnx⟩,by omega⟩
  ·have hnx:dW s (l.take (k+1))=((bQ x e18).1,n):=by rw [yF h18,hx,aIS c1]
   rw [aJR c1] at hnx
   refine ⟨⟨by omega,by omega⟩,?_⟩
   exact ⟨k+1,x,_,rfl,rfl,rfl,rfl,rfl,rfl,rfl,⟨by omega,hnx⟩,by omega⟩
 ·replace c0:=nq c0
  refine ⟨?_,?_,?_,?_,?_,?_,trivial⟩
  ·(rw [List.take_of_length_le (by omega)] at hx;rw [hx])
  ·(rw [List.take_of_length_le (by omega)] at hx;rw [hx])
  ·(rw [List.take_of_length_le (by omega)] at hx;rw [hx])
  ·(rw [List.take_of_length_le (by omega)] at hx;rw [hx])
  ·(rw [List.take_of_length_le (by omega)] at hx;rw [hx])
  ·(rw [List.take_of_length_le (by omega)] at hx;rw [hx])
abbrev wX (s:StoreD) (l:List UpdateD):AV × List (Nat × Rs):=(.tup [.agg [.own 0,vI ((((dW s l).1).catalogue).version),.own 1,.own 2,.own 3],vI ((dW s l).2)],[(0,.arr 162 3 true (((((dW s l).1).database).tables).map aD)),(1,.arr 121 4 true (((((dW s l).1).catalogue).tables).map aA)),(2,.arr 168 3 true ((((dW s l).1).dependencies).map aB)),(3,.arr 170 4 true ((((dW s l).1).inclusions).map aE))])
abbrev aCY (s:StoreD) (l:List UpdateD):Prop:=dJ Tryz.prog 25 [.agg [.sl 162 3 (s.database.tables.map aD),.int .i64 s.catalogue.version,.sl 121 4 (s.catalogue.tables.map aA),.sl 168 3 (s.dependencies.map aB),.sl 170 4 (s.inclusions.map aE)],.one (.sl 50 3 (l.map aX))] (wX s l).1 (wX s l).2
theorem aLN (s:StoreD) (l:List UpdateD) (hc:dQ s≤1048576) (hu:gE l≤1048576):aCY s l:=by
 refine aZ bR aT Tryz.func25 (by kernel_rfl) (bG (kG s)<| .loop (Nat × StoreD × Int) (Q3 Nat StoreD Int) [7,8,9,10,12,13,14,15,16,17,18,19,20,21,22,23,24,25,26,27,28,29,30,31] [600,900,1200,1201,1202,1203,2500,2501,2502,2503] (fun yy0=>[(8,vI (yy0.1:Int)),(7,vI yy0.2.2)]) (fun yy0=>[(600,some (.box 46 [.own 1200,vI yy0.2.1.catalogue.version,.own 1201,.own 1202,.own 1203])),(1200,some (.arr 162 3 true (yy0.2.1.database.tables.map aD))),(1201,some (.arr 121 4 true (yy0.2.1.catalogue.tables.map aA))),(1202,some (.arr 168 3 true (yy0.2.1.dependencies.map aB))),(1203,some (.arr 170 4 true (yy0.2.1.inclusions.map aE)))]) (fun yy0=>yy0.1≤l.length∧dW s (l.take yy0.1)=(yy0.2.1,yy0.2.2)) (fun yy0=>l.length - yy0.1) (fun yy0=> .len l.length<| .br (.elem _ aX l (fun e23=>bG (tV yy0.2.1 e23)<| .br (.back [(600,600),(1200,2500),(1201,2501),(1202,2502),(1203,2503)]) (.back [(600,600),(1200,2500),(1201,2501),(1202,2502),(1203,2503)]))) (.fin [(0,1200),(1,1201),(2,1202),(3,1203)]))) (p:=(s.database.tables.map aD).length≤9223372036854775807→(s.catalogue.tables.map aA).length≤9223372036854775807→(s.dependencies.map aB).length≤9223372036854775807→(s.inclusions.map aE).length≤9223372036854775807→(l.map aX).length≤9223372036854775807→lZ s∧((∃(k:Nat) (x:StoreD) (n:Int),(0:Int)=(k:Int)∧(0:Int)=n∧s.catalogue.version=x.catalogue.version∧s.database.tables.map aD=x.database.tables.map aD∧s.catalogue.tables.map aA=x.catalogue.tables.map aA∧s.dependencies.map aB=x.dependencies.map aB∧s.inclusions.map aE=x.inclusions.map aE∧k≤l.length∧dW s (l.take k)=(x,n))∧ ∀(k:Nat) (x:StoreD) (n:Int),(k≤l.length∧dW s (l.take k)=(x,n))→Lm aX l∧(((decide ((k:Int)<((l.length:Nat):Int)))=true→0≤(k:Int)∧Em aX l k fun e23=>aBF x e23∧((((bQ x e23).2)=true→dO (n+(1:Int))∧dO ((k:Int)+(1:Int))∧ ∃(k' :Nat) (x' :StoreD) (n' :Int),((k:Int)+(1:Int))=(k' :Int)∧(n+(1:Int))=n' ∧((((bQ x e23).1).catalogue).version)=x'.catalogue.version∧((((bQ x e23).1).database).tables).map aD=x'.database.tables.map aD∧((((bQ x e23).1).catalogue).tables).map aA=x'.catalogue.tables.map aA∧(((bQ x e23).1).dependencies).map aB=x'.dependencies.map aB∧(((bQ x e23).1).inclusions).map aE=x'.inclusions.map aE∧(k' ≤l.length∧dW s (l.take k')=(x',n'))∧l.length - k' <l.length - k)∧(((bQ x e23).2)=false→dO ((k:Int)+(1:Int))∧ ∃(k' :Nat) (x' :StoreD) (n' :Int),((k:Int)+(1:Int))=(k' :Int)∧n=n' ∧((((bQ x e23).1).catalogue).version)=x'.catalogue.version∧((((bQ x e23).1).database).tables).map aD=x'.database.tables.map aD∧((((bQ x e23).1).catalogue).tables).map aA=x'.catalogue.tables.map aA∧(((bQ x e23).1).dependencies).map aB=x'.dependencies.map aB∧(((bQ x e23).1).inclusions).map aE=x'.inclusions.map aE∧(k' ≤l.length∧dW s (l.take k')=(x',n'))∧l.length - k' <l.length - k)))∧((decide ((k:Int)<((l.length:Nat):Int)))=false→x.catalogue.version=((((dW s l).1).catalogue).version)∧n=((dW s l).2)∧x.database.tables.map aD=((((dW s l).1).database).tables).map aD∧x.catalogue.tables.map aA=((((dW s l).1).catalogue).tables).map aA∧x.dependencies.map aB=(((dW s l).1).dependencies).map aB∧x.inclusions.map aE=(((dW s l).1).inclusions).map aE∧True)))) (by kernel_rfl) ?_
 intro n0 n1 n2 n3 n4
 simp only [List.length_map] at n0 n1 n2 n3 n4
 have hS:dQ s=aW s.database+bK s.catalogue+bH s.dependencies+cG s.inclusions:=rfl
 have hI:=iA s.inclusions
 refine ⟨sO _ (by first | omega | (dsimp only;omega)) (by first | omega | (dsimp only;omega)) (by first | omega | (dsimp only;omega)) (by first | omega | (dsimp only;omega)),⟨0,s,(0:Int),rfl,rfl,rfl,rfl,rfl,rfl,rfl,Nat.zero_le _,rfl⟩,fun k x n ⟨hk,hx⟩=>?_⟩
 have hxs:=aGF hc hx
 have hxn:=aIR hx
 rw [List.length_take] at hxn
 refine ⟨List.length_map _,fun c0=>?_,fun c0=>?_⟩
 ·replace c0:=yq c0
  refine ⟨by omega,rfl,by omega,fun e23 h23=>?_⟩
  have hue:=vP h23
  refine ⟨aJQ _ _ (by omega) (by omega),fun c1=>?_,fun c1=>?_⟩
  ·have hnx:dW s (l.take (k+1))=((bQ x e23).1,n+1):=by rw [yF h23,hx,aGG c1]
   refine ⟨⟨by omega,by omega⟩,⟨by omega,by omega⟩,?_⟩
   exact ⟨k+1,(bQ x e23).1,_,rfl,rfl,rfl,rfl,rfl,rfl,rfl,⟨by omega,hnx⟩,by omega⟩
  ·have hnx:dW s (l.take (k+1))=((bQ x e23).1,n):=by rw [yF h23,hx,aIS c1]
   refine ⟨⟨by omega,by omega⟩,?_⟩
   exact ⟨k+1,(bQ x e23).1,_,rfl,rfl,rfl,rfl,rfl,rfl,rfl,⟨by omega,hnx⟩,by omega⟩
 ·replace c0:=nq c0
  refine ⟨?_,?_,?_,?_,?_,?_,trivial⟩
  ·(rw [List.take_of_length_le (by omega)] at hx;rw [hx])
  ·(rw [List.take_of_length_le (by omega)] at hx;rw [hx])
  ·(rw [List.take_of_length_le (by omega)] at hx;rw [hx])
  ·(rw [List.take_of_length_le (by omega)] at hx;rw [hx])
  ·(rw [List.take_of_length_le (by omega)] at hx;rw [hx])
  ·(rw [List.take_of_length_le (by omega)] at hx;rw [hx])
def aAJ (n:Nat) (s:ByteArray):ByteArray:=if h:n=0 then s else aAJ (n/10) (uB [IntKind.u8.wrap (48+Int.tmod (n:Int) 10)]++s)
 termination_by n
 decreasing_by omega
def aU (k:Int):ByteArray:=if k≤0 then ⟨#[109,48]⟩ else (⟨#[109]⟩:ByteArray)++aAJ k.toNat ⟨#[]⟩
theorem aGI (s:ByteArray):aAJ 0 s=s:=by rw [aAJ];simp
theorem aNI {n:Nat} (h:0<n) (s:ByteArray):aAJ n s=aAJ (n/10) (uB [IntKind.u8.wrap (48+Int.tmod (n:Int) 10)]++s):=by rw [aAJ,dif_neg (by omega)]
theorem aAK (l:List Int):(uB l).size=l.length:=by simp [uB,ByteArray.size]
def aJT (k:Int) (_:Int):Int:=k
def nG (_:Int):Nat:=1
theorem mL {α:Type} {s c:α→Nat} (h: ∀x,s x≤4+5*c x): ∀l:List α,bB s l≤5*rO c l
 | []=>by simp [bB,rO]
 | a::l=>by
   have h1:=h a
   have h2:=mL h l
   simp only [bB,rO,List.map_cons,List.sum_cons,List.length_cons] at*
   omega
theorem aEU {α:Type} {s:α→Nat} (h: ∀x,s x≤4): ∀l:List α,bB s l≤5*l.length
 | []=>by simp [bB]
 | a::l=>by
   have h1:=h a
   have h2:=aEU h l
   simp only [bB,List.map_cons,List.sum_cons,List.length_cons] at*
   omega
theorem aBq {α:Type} {s c:α→Nat} (h: ∀x,s x≤4+5*c x) (l:List α) (k:Nat) (hk:k≤l.length):bB s (l.take k)≤5*(k+bB c (l.take k)):=by
 have:=mL h (l.take k)
 unfold rO at this
 rw [List.length_take,Nat.min_eq_left hk] at this
 exact this
theorem aPm {α:Type} {s:α→Nat} (h: ∀x,s x≤4) (l:List α) (k:Nat) (hk:k≤l.length):bB s (l.take k)≤5*k:=by
 have:=aEU h (l.take k)
 rw [List.length_take,Nat.min_eq_left hk] at this
 exact this
abbrev iB (k:Int):Prop:=dJ Tryz.prog 89 [.one (.int .i64 k)] (.p none (.str (aU k))) []
theorem mM (k:Int) (hk:k≤4611686018427387904):iB k:=by
 refine aZ bR aT Tryz.func89 (by kernel_rfl) (.br (.fin []) (.loop (Nat × ByteArray) (Q2 Nat ByteArray) [0,3,6,7,8,9,10,11,12,13,14,15,16,17] [1200] (fun yy0=>[(0,vI (yy0.1:Int)),(3,.p none (.str yy0.2))]) (fun yy0=>[]) (fun yy0=>yy0.1≤4611686018427387904∧yy0.2.size+yy0.1≤4611686018427387904∧aAJ yy0.1 yy0.2=aAJ k.toNat ⟨#[]⟩) (fun yy0=>yy0.1) (fun yy0=> .br (.bytes [IntKind.u8.wrap ((48:Int)+(Int.tmod (yy0.1:Int) (10:Int)))]<| .back []) (.fin [])))) (p:=((decide (k≤(0:Int)))=true→(⟨#[109,48]⟩:ByteArray)=(aU k)∧True)∧((decide (k≤(0:Int)))=false→(∃(n:Nat) (s:ByteArray),k=(n:Int)∧(⟨#[]⟩:ByteArray)=s∧n≤4611686018427387904∧s.size+n≤4611686018427387904∧aAJ n s=aAJ k.toNat ⟨#[]⟩)∧ ∀(n:Nat) (s:ByteArray),(n≤4611686018427387904∧s.size+n≤4611686018427387904∧aAJ n s=aAJ k.toNat ⟨#[]⟩)→((decide ((0:Int)<(n:Int)))=true→(10:Int)≠0∧dO ((48:Int)+(Int.tmod (n:Int) (10:Int)))∧[[.int .u8 (IntKind.u8.wrap ((48:Int)+(Int.tmod (n:Int) (10:Int))))]]= [IntKind.u8.wrap ((48:Int)+(Int.tmod (n:Int) (10:Int)))].map byD∧(uB [IntKind.u8.wrap ((48:Int)+(Int.tmod (n:Int) (10:Int)))]).size+s.size≤9223372036854775807∧(10:Int)≠0∧dO (Int.tdiv (n:Int) (10:Int))∧ ∃(n' :Nat) (s' :ByteArray),(Int.tdiv (n:Int) (10:Int))=(n' :Int)∧((uB [IntKind.u8.wrap ((48:Int)+(Int.tmod (n:Int) (10:Int)))])++s)=s' ∧(n' ≤4611686018427387904∧s'.size+n' ≤4611686018427387904∧aAJ n' s' =aAJ k.toNat ⟨#[]⟩)∧n' <n)∧((decide ((0:Int)<(n:Int)))=false→(⟨#[109]⟩:ByteArray).size+s.size≤9223372036854775807∧((⟨#[109]⟩:ByteArray)++s)=(aU k)∧True))) (by kernel_rfl) ?_
 refine ⟨fun c0=>?_,fun c0=>?_⟩
 ·replace c0:=yq c0
  refine ⟨?_,trivial⟩
  ·first | (rw [aU,if_pos c0];done) | (rw [aU,if_neg c0];rw [show n=0 from by omega,aGI] at hm;rw [hm])
 ·replace c0:=nq c0
  obtain ⟨n0,rfl⟩:=Int.eq_ofNat_of_zero_le (show 0≤k by omega)
  refine ⟨⟨n0,(⟨#[]⟩:ByteArray),rfl,rfl,by omega,by simp [ByteArray.size];omega,by simp⟩,fun n s ⟨hn,hs,hm⟩=>?_⟩
  refine ⟨fun c1=>?_,fun c1=>?_⟩
  ·replace c1:=yq c1
   have hd:=aNI (n:=n) (by omega) s
   have htm:Int.tmod (n:Int) 10=((n%10:Nat):Int):=rfl
   have htd:Int.tdiv (n:Int) 10=((n/10:Nat):Int):=rfl
   refine ⟨by omega,⟨by omega,by omega⟩,rfl,by first | (simp only [aAK,List.length_cons,List.length_nil];omega) | (show 1+s.size≤_;omega),by omega,⟨by omega,by omega⟩,?_⟩
   exact ⟨n/10,(uB [IntKind.u8.wrap ((48:Int)+(Int.tmod (n:Int) (10:Int)))])++s,rfl,rfl,⟨by omega,by rw [ByteArray.size_append,aAK];simp;omega,by rw [←hd];exact hm⟩,by omega⟩
  ·replace c1:=nq c1
   refine ⟨by first | (simp only [aAK,List.length_cons,List.length_nil];omega) | (show 1+s.size≤_;omega),?_,trivial⟩
   ·first | (rw [aU,if_pos c0];done) | (rw [aU,if_neg c0];rw [show n=0 from by omega,aGI] at hm;rw [hm])
def cW (k:Int) (l:List Int):List Int:=oW aJT nG k l
def bS (l:List Int):Nat:=bB nG l
theorem fU (l:List Int):bS l≤5*bZ l:=aEU (fun _=>by simp [nG]) l
def eR (k:Int) (l:List (List Int)):List (List Int):=oW cW bS k l
def eM (l:List (List Int)):Nat:=bB bS l
theorem mA (l:List (List Int)):eM l≤5*cP l:=mL (fun y=>by have:=fU y;omega) l
def rM (k:Int) (x:aN):aN:=⟨aU (k),k+1,eR (k+1+1) x.rows⟩
def eX (x:aN):Nat:=1+1+eM x.rows
theorem aAL (x:aN):eX x≤4+5*dF x:=by
 have:=mA x.rows
 unfold eX dF;omega
def hJ (k:Int) (l:List aN):List aN:=oW rM eX k l
def jK (l:List aN):Nat:=bB eX l
theorem qL (l:List aN):jK l≤5*eW l:=mL aAL l
def lR (k:Int) (x:aP):aP:=⟨hJ (k) x.tables⟩
def bL (x:aP):Nat:=jK x.tables
theorem rV (x:aP):bL x≤5*aW x:=by
 have:=qL x.tables
 unfold bL aW;omega
def wY (k:Int) (x:UpdateD):UpdateD:=⟨aU (k),decide (Int.tmod (k+1) 3=0),cW (k+1+1) x.row⟩
def gA (x:UpdateD):Nat:=1+1+bS x.row
theorem aCZ (x:UpdateD):gA x≤4+5*dR x:=by
 have:=fU x.row
 unfold gA dR;omega
def aIT (k:Int) (l:List UpdateD):List UpdateD:=oW wY gA k l
def wZ (l:List UpdateD):Nat:=bB gA l
theorem aC0 (l:List UpdateD):wZ l≤5*gE l:=mL aCZ l
def kQ (k:Int) (x:aH):aH:=⟨cW (k) x.columns,eR (k+((bS x.columns:Nat):Int)) x.values,cW (k+((bS x.columns:Nat):Int)+((eM x.values:Nat):Int)) x.counts⟩
def cH (x:aH):Nat:=bS x.columns+eM x.values+bS x.counts
theorem oP (x:aH):cH x≤4+5*bD x:=by
 have:=fU x.columns
 have:=mA x.values
 have:=fU x.counts
 unfold cH bD;omega
def dB (k:Int) (l:List aH):List aH:=oW kQ cH k l
def eG (l:List aH):Nat:=bB cH l
theorem jP (l:List aH):eG l≤5*cS l:=mL oP l
def gJ (k:Int) (x:aG):aG:=⟨aU (k),k+1,k+1+1,dB (k+1+1+1) x.groups⟩
def cI (x:aG):Nat:=1+1+1+eG x.groups
theorem oQ (x:aG):cI x≤4+5*bC x:=by
 have:=jP x.groups
 unfold cI bC;omega
def dI (k:Int) (l:List aG):List aG:=oW gJ cI k l
def eH (l:List aG):Nat:=bB cI l
theorem jQ (l:List aG):eH l≤5*cT l:=mL oQ l
def jE (k:Int) (x:cA):cA:=⟨x.version,dI (k) x.tables⟩
def bT (x:cA):Nat:=eH x.tables
theorem qM (x:cA):bT x≤5*bK x:=by
 have:=jQ x.tables
 unfold bT bK;omega
def iJ (k:Int) (x:aJ):aJ:=⟨aU (k),cW (k+1) x.src,k+1+((bS x.src:Nat):Int)⟩
def cJ (x:aJ):Nat:=1+bS x.src+1
theorem oR (x:aJ):cJ x≤4+5*bI x:=by
 have:=fU x.src
 unfold cJ bI;omega
def dS (k:Int) (l:List aJ):List aJ:=oW iJ cJ k l
def cN (l:List aJ):Nat:=bB cJ l
theorem jR (l:List aJ):cN l≤5*bH l:=mL oR l
def gO (k:Int) (x:aL):aL:=⟨aU (k),k+1,aU (k+1+1),k+1+1+1⟩
def cR (x:aL):Nat:=1+1+1+1
theorem qN (x:aL):cR x≤4+5*bU x:=by
 unfold cR bU;omega
def dV (k:Int) (l:List aL):List aL:=oW gO cR k l
def eS (l:List aL):Nat:=bB cR l
theorem kH (l:List aL):eS l≤5*cG l:=mL qN l
def eJ (k:Int) (x:StoreD):StoreD:=⟨lR (k) x.database,jE (k+((bL x.database:Nat):Int)) x.catalogue,dS (k+((bL x.database:Nat):Int)+((bT x.catalogue:Nat):Int)) x.dependencies,dV (k+((bL x.database:Nat):Int)+((bT x.catalogue:Nat):Int)+((cN x.dependencies:Nat):Int)) x.inclusions⟩
def fQ (x:StoreD):Nat:=bL x.database+bT x.catalogue+cN x.dependencies+eS x.inclusions
theorem aEV (x:StoreD):fQ x≤5*dQ x:=by
 have:=rV x.database
 have:=qM x.catalogue
 have:=jR x.dependencies
 have:=kH x.inclusions
 unfold fQ dQ;omega
end Go.Proofs.YtokkjaflmcjlhaaGreat
