/-
  Contracts and plain laws, joined: part 5.
-/
import Derived.Test.YtdfebigfnjfgpaaQE3
namespace Go.Proofs.Ytdfebigfnjfgpaa
open Go.ChangeShapes Go.WideShapes Go.ChangeAt Go.RowKit
set_option linter.unusedVariables false
set_option linter.unusedSimpArgs false
set_option maxRecDepth 100000
set_option maxHeartbeats 4000000
def mB (x:Int):Bool:=decide (-9≤x∧x≤9)
def kJ (x:Int):Bool:=decide (0≤x∧x≤99)
def dE (n:Int) (r:List Int):Bool:=r.all mB&&decide ((r.length:Int)=n)
def bK (p:aQ):Bool:=decide (1≤(p.objective.length:Int)∧(p.objective.length:Int)≤15)&&(decide ((p.rows.length:Int)≤64)&&(decide ((p.limits.length:Int)=p.rows.length)&&((p.rows++[p.objective]).all (dE p.objective.length)&&p.limits.all kJ)))
theorem bO {p:aQ} (h: ¬((1≤(p.objective.length:Int)∧(p.objective.length:Int)≤15)∧(p.rows.length:Int)≤64∧(p.limits.length:Int)=p.rows.length)):bK p=false:=by
 cases e:bK p with
 | false=>rfl
 | true=>
   simp only [bK,Bool.and_eq_true,decide_eq_true_eq] at e
   exact absurd ⟨e.1,e.2.1,e.2.2.1⟩ h
theorem xC {p:aQ} (h:(p.rows++[p.objective]).all (dE p.objective.length)=false):bK p=false:=by simp only [bK,h,Bool.false_and,Bool.and_false]
theorem bX {p:aQ} {k:Nat} {r:List Int} (h:(p.rows++[p.objective])[k]? =some r) (hr:dE p.objective.length r=false):bK p=false:=xC (mZ h hr)
theorem bP {p:aQ} {k:Nat} {r:List Int} (h:p.rows[k]? =some r) (hr:dE p.objective.length r=false):bK p=false:=by
 refine bX (k:=k) (r:=r) ?_ hr
 rw [List.getElem?_append_left (List.getElem?_eq_some_iff.1 h).1];exact h
theorem eA {p:aQ} (hr:dE p.objective.length p.objective=false):bK p=false:=bX (k:=p.rows.length) (r:=p.objective) (by simp) hr
theorem cB {p:aQ} {k:Nat} {x:Int} (h:p.limits[k]? =some x) (hx:kJ x=false):bK p=false:=by
 simp only [bK,mZ h hx,Bool.and_false]
theorem cJ {p:aQ} (h:(1≤(p.objective.length:Int)∧(p.objective.length:Int)≤15)∧(p.rows.length:Int)≤64∧(p.limits.length:Int)=p.rows.length) (h1:(p.rows++[p.objective]).all (dE p.objective.length)=true) (h2:p.limits.all kJ=true):bK p=true:=by
 simp only [bK,h1,h2,Bool.and_true,Bool.and_eq_true,decide_eq_true_eq];exact h
theorem bS {n:Int} {r:List Int} {k:Nat} {x:Int} (h:r[k]? =some x) (hx:mB x=false):dE n r=false:=by simp only [dE,mZ h hx,Bool.false_and]
theorem cK {n:Int} {r:List Int} (h: ¬(r.length:Int)=n):dE n r=false:=by simp only [dE,decide_eq_false h,Bool.and_false]
theorem rT {n:Int} {r:List Int} (h:r.all mB=true) (hl:(r.length:Int)=n):dE n r=true:=by simp only [dE,h,decide_eq_true hl,Bool.and_true]
theorem yK {p:aQ} (h:bK p=true):(1≤p.objective.length∧p.objective.length≤15)∧p.rows.length≤64∧p.limits.length=p.rows.length∧(∀r∈p.rows++[p.objective],r.length=p.objective.length∧ ∀x∈r,-9≤x∧x≤9)∧ ∀x∈p.limits,0≤x∧x≤99:=by
 simp only [bK,Bool.and_eq_true,decide_eq_true_eq,List.all_eq_true] at h
 obtain ⟨h1,h2,h3,h4,h5⟩:=h
 refine ⟨by omega,by omega,by omega,fun r hr=>?_,fun x hx=>?_⟩
 ·have:=h4 r hr
  simp only [dE,Bool.and_eq_true,decide_eq_true_eq,List.all_eq_true] at this
  refine ⟨by omega,fun x hx=>?_⟩
  have:=this.1 x hx
  simpa [mB] using this
 ·have:=h5 x hx
  simpa [kJ] using this
theorem aCq {p:aQ} (hp: ∀r∈p.rows,r.length≤1048576) (ho:p.objective.length≤1048576) {k:Nat} {r:List Int} (h:((([]:List (List Int))++p.rows)++[p.objective])[k]? =some r):r.length≤1048576:=by
 have:=List.mem_of_getElem? h
 simp only [List.nil_append,List.mem_append,List.mem_singleton] at this
 rcases this with h | rfl
 ·exact hp _ h
 ·exact ho
abbrev pO (p:aQ):Prop:=jP Try.prog 20 [.agg [.sl 3 1 (p.objective.map aD),.sl 24 1 (p.rows.map aE),.sl 3 1 (p.limits.map aD)]] (vB (bK p)) []
theorem aAb (p:aQ) (hp: ∀r∈p.rows,r.length≤1048576):pO p:=by
 refine eM gL cO Try.func20 (by kernel_rfl) (.len p.objective.length<| .call (vB (decide ((1:Int)≤((p.objective.length:Nat):Int)∧((p.objective.length:Nat):Int)≤(15:Int)))) []<| .br (.fin []) (.len p.rows.length<| .lit<| .lit<| .br (.fin []) (.len p.limits.length<| .len p.rows.length<| .lit<| .lit<| .br (.fin []) (.appr (List Int) aE ([]:List (List Int)) p.rows<| .appr (List Int) aE (([]:List (List Int))++p.rows) ([p.objective]:List (List Int))<| .len (((([]:List (List Int))++p.rows)++[p.objective]).length)<| .loop Nat (Q1 Nat) [5,7,40,41,42,43,44,45,46,47,48,49,50,51,52,53,54,55,56,57,58] [] (fun k=>[(40,vI (k:Int))]) (fun k=>[]) (fun k=>k≤((([]:List (List Int))++p.rows)++[p.objective]).length∧(((([]:List (List Int))++p.rows)++[p.objective]).take k).all (dE p.objective.length)=true) (fun k=>((([]:List (List Int))++p.rows)++[p.objective]).length - k) (fun k=> .br (.len (((([]:List (List Int))++p.rows)++[p.objective]).length)<| .elem _ aE ((([]:List (List Int))++p.rows)++[p.objective]) (fun e43=> .len e43.length<| .loop Nat (Q1 Nat) [7,46,47,48,49,50,51,52,53] [] (fun j=>[(46,vI (j:Int))]) (fun j=>[]) (fun j=>j≤e43.length∧(e43.take j).all mB=true) (fun j=>e43.length - j) (fun j=> .br (.elem _ aD e43 (fun e48=> .call (vB (decide ((-9:Int)≤e48∧e48≤(9:Int)))) []<| .br (.fin []) (.back []))) (.len e43.length<| .br (.fin []) (.back []))))) (.len p.limits.length<| .loop Nat (Q1 Nat) [9,62,63,64,65,66,67,68,69] [] (fun i=>[(62,vI (i:Int))]) (fun i=>[]) (fun i=>i≤p.limits.length∧(p.limits.take i).all kJ=true) (fun i=>p.limits.length - i) (fun i=> .br (.elem _ aD p.limits (fun e64=> .call (vB (decide ((0:Int)≤e64∧e64≤(99:Int)))) []<| .br (.fin []) (.back []))) (.fin [])))))))) (p:=(p.objective.map aD).length≤9223372036854775807→(p.rows.map aE).length≤9223372036854775807→(p.limits.map aD).length≤9223372036854775807→Lm aD p.objective∧(fR ((p.objective.length:Nat):Int) (1:Int) (15:Int)∧(((!(decide ((1:Int)≤((p.objective.length:Nat):Int)∧((p.objective.length:Nat):Int)≤(15:Int))))=true→(false)=(bK p)∧True)∧((!(decide ((1:Int)≤((p.objective.length:Nat):Int)∧((p.objective.length:Nat):Int)≤(15:Int))))=false→Lm aE p.rows∧(((decide ((64:Int)<((p.rows.length:Nat):Int)))=true→(false)=(bK p)∧True)∧((decide ((64:Int)<((p.rows.length:Nat):Int)))=false→Lm aD p.limits∧(Lm aE p.rows∧(((!(decide (((p.limits.length:Nat):Int)=((p.rows.length:Nat):Int))))=true→(false)=(bK p)∧True)∧((!(decide (((p.limits.length:Nat):Int)=((p.rows.length:Nat):Int))))=false→[]=([]:List (List Int)).map aE∧p.rows.map aE=p.rows.map aE∧(([]:List (List Int)).length+p.rows.length)*24≤140737488355328∧((([]:List (List Int))++p.rows).map aE=(([]:List (List Int))++p.rows).map aE∧[[.sl 3 1 (p.objective.map aD)]]=([p.objective]:List (List Int)).map aE∧((([]:List (List Int))++p.rows).length+([p.objective]:List (List Int)).length)*24≤140737488355328∧(Lm aE ((([]:List (List Int))++p.rows)++[p.objective])∧((∃(k:Nat),(0:Int)=(k:Int)∧k≤((([]:List (List Int))++p.rows)++[p.objective]).length∧(((([]:List (List Int))++p.rows)++[p.objective]).take k).all (dE p.objective.length)=true)∧ ∀(k:Nat),(k≤((([]:List (List Int))++p.rows)++[p.objective]).length∧(((([]:List (List Int))++p.rows)++[p.objective]).take k).all (dE p.objective.length)=true)→((decide ((k:Int)<((((([]:List (List Int))++p.rows)++[p.objective]).length:Nat):Int)))=true→0≤(k:Int)∧Lm aE ((([]:List (List Int))++p.rows)++[p.objective])∧(k:Int)<((((([]:List (List Int))++p.rows)++[p.objective]).length:Nat):Int)∧Em aE ((([]:List (List Int))++p.rows)++[p.objective]) k fun e43=>Lm aD e43∧((∃(j:Nat),(0:Int)=(j:Int)∧j≤e43.length∧(e43.take j).all mB=true)∧ ∀(j:Nat),(j≤e43.length∧(e43.take j).all mB=true)→((decide ((j:Int)<((e43.length:Nat):Int)))=true→0≤(j:Int)∧Em aD e43 j fun e48=>fR e48 (-9:Int) (9:Int)∧(((!(decide ((-9:Int)≤e48∧e48≤(9:Int))))=true→(false)=(bK p)∧True)∧((!(decide ((-9:Int)≤e48∧e48≤(9:Int))))=false→dV ((j:Int)+(1:Int))∧ ∃(j' :Nat),((j:Int)+(1:Int))=(j' :Int)∧(j' ≤e43.length∧(e43.take j').all mB=true)∧e43.length - j' <e43.length - j)))∧((decide ((j:Int)<((e43.length:Nat):Int)))=false→Lm aD e43∧(((!(decide (((e43.length:Nat):Int)=((p.objective.length:Nat):Int))))=true→(false)=(bK p)∧True)∧((!(decide (((e43.length:Nat):Int)=((p.objective.length:Nat):Int))))=false→dV ((k:Int)+(1:Int))∧ ∃(k' :Nat),((k:Int)+(1:Int))=(k' :Int)∧(k' ≤((([]:List (List Int))++p.rows)++[p.objective]).length∧(((([]:List (List Int))++p.rows)++[p.objective]).take k').all (dE p.objective.length)=true)∧((([]:List (List Int))++p.rows)++[p.objective]).length - k' <((([]:List (List Int))++p.rows)++[p.objective]).length - k)))))∧((decide ((k:Int)<((((([]:List (List Int))++p.rows)++[p.objective]).length:Nat):Int)))=false→Lm aD p.limits∧((∃(i:Nat),(0:Int)=(i:Int)∧i≤p.limits.length∧(p.limits.take i).all kJ=true)∧ ∀(i:Nat),(i≤p.limits.length∧(p.limits.take i).all kJ=true)→((decide ((i:Int)<((p.limits.length:Nat):Int)))=true→0≤(i:Int)∧Em aD p.limits i fun e64=>fR e64 (0:Int) (99:Int)∧(((!(decide ((0:Int)≤e64∧e64≤(99:Int))))=true→(false)=(bK p)∧True)∧((!(decide ((0:Int)≤e64∧e64≤(99:Int))))=false→dV ((i:Int)+(1:Int))∧ ∃(i' :Nat),((i:Int)+(1:Int))=(i' :Int)∧(i' ≤p.limits.length∧(p.limits.take i').all kJ=true)∧p.limits.length - i' <p.limits.length - i)))∧((decide ((i:Int)<((p.limits.length:Nat):Int)))=false→(true)=(bK p)∧True))))))))))))))) (by kernel_rfl) ?_
 intro n0 n1 n2
 simp only [List.length_map] at n0 n1 n2
 refine ⟨List.length_map _,lW _ _ _,fun g16=>?_,fun g16=>?_⟩
 ·replace g16:=nq (nt g16)
  refine ⟨?_,trivial⟩
  ·first | (exact (bO (by omega)).symm) | (exact (bX h43 (bS h48 (decide_eq_false c3))).symm) | (exact (bX h43 (cK c4)).symm) | (exact (cB h64 (decide_eq_false c6)).symm) | (exact (cJ (by omega) hrows (cC (by omega) hc)).symm)
 ·replace g16:=yq (nf g16)
  refine ⟨List.length_map _,fun g22=>?_,fun g22=>?_⟩
  ·replace g22:=yq g22
   refine ⟨?_,trivial⟩
   ·first | (exact (bO (by omega)).symm) | (exact (bX h43 (bS h48 (decide_eq_false c3))).symm) | (exact (bX h43 (cK c4)).symm) | (exact (cB h64 (decide_eq_false c6)).symm) | (exact (cJ (by omega) hrows (cC (by omega) hc)).symm)
  ·replace g22:=nq g22
   refine ⟨List.length_map _,List.length_map _,fun c0=>?_,fun c0=>?_⟩
   ·replace c0:=nq (nt c0)
    refine ⟨?_,trivial⟩
    ·first | (exact (bO (by omega)).symm) | (exact (bX h43 (bS h48 (decide_eq_false c3))).symm) | (exact (bX h43 (cK c4)).symm) | (exact (cB h64 (decide_eq_false c6)).symm) | (exact (cJ (by omega) hrows (cC (by omega) hc)).symm)
   ·replace c0:=yq (nf c0)
    refine ⟨rfl,rfl,by simp;omega,rfl,rfl,by simp;omega,List.length_map _,⟨0,rfl,Nat.zero_le _,rfl⟩,fun k ⟨hk,ha⟩=>?_⟩
    refine ⟨fun c1=>?_,fun c1=>?_⟩
    ·replace c1:=yq c1
     have hLk:k<65:=by simp at c1;omega
     refine ⟨by omega,List.length_map _,by first | omega | (simp at*;omega),rfl,by first | omega | (simp at*;omega),fun e43 h43=>?_⟩
     have he43:=aCq hp (by omega) h43
     refine ⟨List.length_map _,⟨0,rfl,Nat.zero_le _,rfl⟩,fun j ⟨hj,hb⟩=>?_⟩
     refine ⟨fun c2=>?_,fun c2=>?_⟩
     ·replace c2:=yq c2
      refine ⟨by omega,rfl,by first | omega | (simp at*;omega),fun e48 h48=>?_⟩
      refine ⟨lW _ _ _,fun c3=>?_,fun c3=>?_⟩
      ·replace c3:=nq (nt c3)
       refine ⟨?_,trivial⟩
       ·first | (exact (bO (by omega)).symm) | (exact (bX h43 (bS h48 (decide_eq_false c3))).symm) | (exact (bX h43 (cK c4)).symm) | (exact (cB h64 (decide_eq_false c6)).symm) | (exact (cJ (by omega) hrows (cC (by omega) hc)).symm)
      ·replace c3:=yq (nf c3)
       refine ⟨⟨by omega,by omega⟩,?_⟩
       exact ⟨j+1,rfl,⟨by omega,eG h48 hb (decide_eq_true c3)⟩,by omega⟩
     ·replace c2:=nq c2
      refine ⟨List.length_map _,fun c4=>?_,fun c4=>?_⟩
      ·replace c4:=nq (nt c4)
       refine ⟨?_,trivial⟩
       ·first | (exact (bO (by omega)).symm) | (exact (bX h43 (bS h48 (decide_eq_false c3))).symm) | (exact (bX h43 (cK c4)).symm) | (exact (cB h64 (decide_eq_false c6)).symm) | (exact (cJ (by omega) hrows (cC (by omega) hc)).symm)
      ·replace c4:=yq (nf c4)
       refine ⟨⟨by omega,by omega⟩,?_⟩
       exact ⟨k+1,rfl,⟨by omega,eG h43 ha (rT (cC (by omega) hb) (by omega))⟩,by omega⟩
    ·replace c1:=nq c1
     have hrows:=cC (by omega) ha
     refine ⟨List.length_map _,⟨0,rfl,Nat.zero_le _,rfl⟩,fun i ⟨hi,hc⟩=>?_⟩
     refine ⟨fun c5=>?_,fun c5=>?_⟩
     ·replace c5:=yq c5
      refine ⟨by omega,rfl,by first | omega | (simp at*;omega),fun e64 h64=>?_⟩
      refine ⟨lW _ _ _,fun c6=>?_,fun c6=>?_⟩
      ·replace c6:=nq (nt c6)
       refine ⟨?_,trivial⟩
       ·first | (exact (bO (by omega)).symm) | (exact (bX h43 (bS h48 (decide_eq_false c3))).symm) | (exact (bX h43 (cK c4)).symm) | (exact (cB h64 (decide_eq_false c6)).symm) | (exact (cJ (by omega) hrows (cC (by omega) hc)).symm)
      ·replace c6:=yq (nf c6)
       refine ⟨⟨by omega,by omega⟩,?_⟩
       exact ⟨i+1,rfl,⟨by omega,eG h64 hc (decide_eq_true c6)⟩,by omega⟩
     ·replace c5:=nq c5
      refine ⟨?_,trivial⟩
      ·first | (exact (bO (by omega)).symm) | (exact (bX h43 (bS h48 (decide_eq_false c3))).symm) | (exact (bX h43 (cK c4)).symm) | (exact (cB h64 (decide_eq_false c6)).symm) | (exact (cJ (by omega) hrows (cC (by omega) hc)).symm)
abbrev pP (p:aQ):Prop:=jP Try.prog 16 [.agg [.sl 3 1 (p.objective.map aD),.sl 24 1 (p.rows.map aE),.sl 3 1 (p.limits.map aD)]] (vB (bK p)) []
theorem aAc (p:aQ):pP p:=by
 refine eM gL cO Try.func16 (by kernel_rfl) (.len p.objective.length<| .call (vB (decide ((1:Int)≤((p.objective.length:Nat):Int)∧((p.objective.length:Nat):Int)≤(15:Int)))) []<| .br (.fin []) (.len p.rows.length<| .lit<| .lit<| .br (.fin []) (.len p.rows.length<| .len p.limits.length<| .lit<| .lit<| .br (.fin []) (.loop Nat (Q1 Nat) [4,28,29,30,31,32,33,34,35,36,37,38,39] [] (fun k=>[(4,vI (k:Int))]) (fun k=>[]) (fun k=>k≤p.objective.length∧(p.objective.take k).all mB=true) (fun k=>p.objective.length - k) (fun k=> .br (.elem _ aD p.objective (fun e36=> .call (vB (decide ((-9:Int)≤e36∧e36≤(9:Int)))) []<| .br (.fin []) (.back []))) (.loop Nat (Q1 Nat) [5,6,40,41,42,43,44,45,46,47,48,49,50,51,52,53,54,55,56,57,58,59,60,61,62,63,64,65,66,67,68,69,70,71,72,73,74,75,76,77,78] [] (fun i=>[(5,vI (i:Int))]) (fun i=>[]) (fun i=>i≤p.rows.length∧(p.rows.take i).all (dE p.objective.length)=true∧(p.limits.take i).all kJ=true) (fun i=>p.rows.length - i) (fun i=> .len p.rows.length<| .br (.elem _ aE p.rows (fun e50=> .len e50.length<| .br (.fin []) (.elem _ aD p.limits (fun e59=> .call (vB (decide ((0:Int)≤e59∧e59≤(99:Int)))) []<| .lit<| .lit<| .br (.fin []) (.loop Nat (Q1 Nat) [6,64,65,66,67,68,69,70,71,72,73,74,75,76,77,78] [] (fun j=>[(6,vI (j:Int))]) (fun j=>[]) (fun j=>j≤p.objective.length∧(e50.take j).all mB=true) (fun j=>p.objective.length - j) (fun j=> .br (.elem _ aE p.rows (fun e72=> .elem _ aD e72 (fun e75=> .call (vB (decide ((-9:Int)≤e75∧e75≤(9:Int)))) []<| .br (.fin []) (.back [])))) (.back []))))))) (.fin [])))))))) (p:=(p.objective.map aD).length≤9223372036854775807→(p.rows.map aE).length≤9223372036854775807→(p.limits.map aD).length≤9223372036854775807→Lm aD p.objective∧(eE ((p.objective.length:Nat):Int) (1:Int) (15:Int)∧(((!(decide ((1:Int)≤((p.objective.length:Nat):Int)∧((p.objective.length:Nat):Int)≤(15:Int))))=true→(false)=(bK p)∧True)∧((!(decide ((1:Int)≤((p.objective.length:Nat):Int)∧((p.objective.length:Nat):Int)≤(15:Int))))=false→Lm aE p.rows∧(((decide ((64:Int)<((p.rows.length:Nat):Int)))=true→(false)=(bK p)∧True)∧((decide ((64:Int)<((p.rows.length:Nat):Int)))=false→Lm aE p.rows∧(Lm aD p.limits∧(((!(decide (((p.rows.length:Nat):Int)=((p.limits.length:Nat):Int))))=true→(false)=(bK p)∧True)∧((!(decide (((p.rows.length:Nat):Int)=((p.limits.length:Nat):Int))))=false→(∃(k:Nat),(0:Int)=(k:Int)∧k≤p.objective.length∧(p.objective.take k).all mB=true)∧ ∀(k:Nat),(k≤p.objective.length∧(p.objective.take k).all mB=true)→((decide ((k:Int)<((p.objective.length:Nat):Int)))=true→0≤(k:Int)∧Em aD p.objective k fun e36=>eE e36 (-9:Int) (9:Int)∧(((!(decide ((-9:Int)≤e36∧e36≤(9:Int))))=true→(false)=(bK p)∧True)∧((!(decide ((-9:Int)≤e36∧e36≤(9:Int))))=false→dV ((k:Int)+(1:Int))∧ ∃(k' :Nat),((k:Int)+(1:Int))=(k' :Int)∧(k' ≤p.objective.length∧(p.objective.take k').all mB=true)∧p.objective.length - k' <p.objective.length - k)))∧((decide ((k:Int)<((p.objective.length:Nat):Int)))=false→(∃(i:Nat),(0:Int)=(i:Int)∧i≤p.rows.length∧(p.rows.take i).all (dE p.objective.length)=true∧(p.limits.take i).all kJ=true)∧ ∀(i:Nat),(i≤p.rows.length∧(p.rows.take i).all (dE p.objective.length)=true∧(p.limits.take i).all kJ=true)→Lm aE p.rows∧(((decide ((i:Int)<((p.rows.length:Nat):Int)))=true→0≤(i:Int)∧Em aE p.rows i fun e50=>Lm aD e50∧(((!(decide (((e50.length:Nat):Int)=((p.objective.length:Nat):Int))))=true→(false)=(bK p)∧True)∧((!(decide (((e50.length:Nat):Int)=((p.objective.length:Nat):Int))))=false→0≤(i:Int)∧Em aD p.limits i fun e59=>eE e59 (0:Int) (99:Int)∧(((!(decide ((0:Int)≤e59∧e59≤(99:Int))))=true→(false)=(bK p)∧True)∧((!(decide ((0:Int)≤e59∧e59≤(99:Int))))=false→(∃(j:Nat),(0:Int)=(j:Int)∧j≤p.objective.length∧(e50.take j).all mB=true)∧ ∀(j:Nat),(j≤p.objective.length∧(e50.take j).all mB=true)→((decide ((j:Int)<((p.objective.length:Nat):Int)))=true→0≤(i:Int)∧Em aE p.rows i fun e72=>0≤(j:Int)∧Em aD e72 j fun e75=>eE e75 (-9:Int) (9:Int)∧(((!(decide ((-9:Int)≤e75∧e75≤(9:Int))))=true→(false)=(bK p)∧True)∧((!(decide ((-9:Int)≤e75∧e75≤(9:Int))))=false→dV ((j:Int)+(1:Int))∧ ∃(j' :Nat),((j:Int)+(1:Int))=(j' :Int)∧(j' ≤p.objective.length∧(e50.take j').all mB=true)∧p.objective.length - j' <p.objective.length - j)))∧((decide ((j:Int)<((p.objective.length:Nat):Int)))=false→dV ((i:Int)+(1:Int))∧ ∃(i' :Nat),((i:Int)+(1:Int))=(i' :Int)∧(i' ≤p.rows.length∧(p.rows.take i').all (dE p.objective.length)=true∧(p.limits.take i').all kJ=true)∧p.rows.length - i' <p.rows.length - i))))))∧((decide ((i:Int)<((p.rows.length:Nat):Int)))=false→(true)=(bK p)∧True)))))))))))) (by kernel_rfl) ?_
 intro n0 n1 n2
 simp only [List.length_map] at n0 n1 n2
 refine ⟨List.length_map _,iU _ _ _,fun g13=>?_,fun g13=>?_⟩
 ·replace g13:=nq (nt g13)
  refine ⟨?_,trivial⟩
  ·first | (exact (bO (by omega)).symm) | (exact (eA (bS h36 (decide_eq_false c2))).symm) | (exact (bP h50 (cK g55)).symm) | (exact (cB h59 (decide_eq_false c4)).symm) | (exact (bP h50 (bS h75 (decide_eq_false c6))).symm) | (exact (cJ (by omega) hrows (cC (by omega) hl)).symm)
 ·replace g13:=yq (nf g13)
  refine ⟨List.length_map _,fun g19=>?_,fun g19=>?_⟩
  ·replace g19:=yq g19
   refine ⟨?_,trivial⟩
   ·first | (exact (bO (by omega)).symm) | (exact (eA (bS h36 (decide_eq_false c2))).symm) | (exact (bP h50 (cK g55)).symm) | (exact (cB h59 (decide_eq_false c4)).symm) | (exact (bP h50 (bS h75 (decide_eq_false c6))).symm) | (exact (cJ (by omega) hrows (cC (by omega) hl)).symm)
  ·replace g19:=nq g19
   refine ⟨List.length_map _,List.length_map _,fun c0=>?_,fun c0=>?_⟩
   ·replace c0:=nq (nt c0)
    refine ⟨?_,trivial⟩
    ·first | (exact (bO (by omega)).symm) | (exact (eA (bS h36 (decide_eq_false c2))).symm) | (exact (bP h50 (cK g55)).symm) | (exact (cB h59 (decide_eq_false c4)).symm) | (exact (bP h50 (bS h75 (decide_eq_false c6))).symm) | (exact (cJ (by omega) hrows (cC (by omega) hl)).symm)
   ·replace c0:=yq (nf c0)
    refine ⟨⟨0,rfl,Nat.zero_le _,rfl⟩,fun k ⟨hk,ha⟩=>?_⟩
    refine ⟨fun c1=>?_,fun c1=>?_⟩
    ·replace c1:=yq c1
     refine ⟨by omega,rfl,by omega,fun e36 h36=>?_⟩
     refine ⟨iU _ _ _,fun c2=>?_,fun c2=>?_⟩
     ·replace c2:=nq (nt c2)
      refine ⟨?_,trivial⟩
      ·first | (exact (bO (by omega)).symm) | (exact (eA (bS h36 (decide_eq_false c2))).symm) | (exact (bP h50 (cK g55)).symm) | (exact (cB h59 (decide_eq_false c4)).symm) | (exact (bP h50 (bS h75 (decide_eq_false c6))).symm) | (exact (cJ (by omega) hrows (cC (by omega) hl)).symm)
     ·replace c2:=yq (nf c2)
      refine ⟨⟨by omega,by omega⟩,?_⟩
      exact ⟨k+1,rfl,⟨by omega,eG h36 ha (decide_eq_true c2)⟩,by omega⟩
    ·replace c1:=nq c1
     have hobj:=cC (by omega) ha
     refine ⟨⟨0,rfl,Nat.zero_le _,rfl,rfl⟩,fun i ⟨hi,hr,hl⟩=>?_⟩
     refine ⟨List.length_map _,fun c3=>?_,fun c3=>?_⟩
     ·replace c3:=yq c3
      refine ⟨by omega,rfl,by omega,fun e50 h50=>?_⟩
      refine ⟨List.length_map _,fun g55=>?_,fun g55=>?_⟩
      ·replace g55:=nq (nt g55)
       refine ⟨?_,trivial⟩
       ·first | (exact (bO (by omega)).symm) | (exact (eA (bS h36 (decide_eq_false c2))).symm) | (exact (bP h50 (cK g55)).symm) | (exact (cB h59 (decide_eq_false c4)).symm) | (exact (bP h50 (bS h75 (decide_eq_false c6))).symm) | (exact (cJ (by omega) hrows (cC (by omega) hl)).symm)
      ·replace g55:=yq (nf g55)
       refine ⟨by omega,rfl,by omega,fun e59 h59=>?_⟩
       refine ⟨iU _ _ _,fun c4=>?_,fun c4=>?_⟩
       ·replace c4:=nq (nt c4)
        refine ⟨?_,trivial⟩
        ·first | (exact (bO (by omega)).symm) | (exact (eA (bS h36 (decide_eq_false c2))).symm) | (exact (bP h50 (cK g55)).symm) | (exact (cB h59 (decide_eq_false c4)).symm) | (exact (bP h50 (bS h75 (decide_eq_false c6))).symm) | (exact (cJ (by omega) hrows (cC (by omega) hl)).symm)
       ·replace c4:=yq (nf c4)
        refine ⟨⟨0,rfl,Nat.zero_le _,rfl⟩,fun j ⟨hj,hb⟩=>?_⟩
        refine ⟨fun c5=>?_,fun c5=>?_⟩
        ·replace c5:=yq c5
         refine ⟨by omega,rfl,by omega,fun e72 h72=>?_⟩
         obtain rfl:=(cF h50 h72).symm
         refine ⟨by omega,rfl,by omega,fun e75 h75=>?_⟩
         refine ⟨iU _ _ _,fun c6=>?_,fun c6=>?_⟩
         ·replace c6:=nq (nt c6)
          refine ⟨?_,trivial⟩
          ·first | (exact (bO (by omega)).symm) | (exact (eA (bS h36 (decide_eq_false c2))).symm) | (exact (bP h50 (cK g55)).symm) | (exact (cB h59 (decide_eq_false c4)).symm) | (exact (bP h50 (bS h75 (decide_eq_false c6))).symm) | (exact (cJ (by omega) hrows (cC (by omega) hl)).symm)
         ·replace c6:=yq (nf c6)
          refine ⟨⟨by omega,by omega⟩,?_⟩
          exact ⟨j+1,rfl,⟨by omega,eG h75 hb (decide_eq_true c6)⟩,by omega⟩
        ·replace c5:=nq c5
         refine ⟨⟨by omega,by omega⟩,?_⟩
         exact ⟨i+1,rfl,⟨by omega,eG h50 hr (rT (cC (by omega) hb) (by omega)),eG h59 hl (decide_eq_true c4)⟩,by omega⟩
     ·replace c3:=nq c3
      have hrows:(p.rows++[p.objective]).all (dE p.objective.length)=true:=by rw [List.all_append,cC (by omega) hr,List.all_cons,rT hobj rfl];rfl
      refine ⟨?_,trivial⟩
      ·first | (exact (bO (by omega)).symm) | (exact (eA (bS h36 (decide_eq_false c2))).symm) | (exact (bP h50 (cK g55)).symm) | (exact (cB h59 (decide_eq_false c4)).symm) | (exact (bP h50 (bS h75 (decide_eq_false c6))).symm) | (exact (cJ (by omega) hrows (cC (by omega) hl)).symm)
abbrev pQ (n:Int):AV × List (Nat × Rs):=(.own 0,[(0,.arr 24 1 true ((kI n).map aE))])
abbrev xD (n:Int):Prop:=jP Try.prog 19 [.one (.int .i64 n)] (pQ n).1 (pQ n).2
theorem aAd (n:Int):xD n:=by
 refine eM gL cO Try.func19 (by kernel_rfl) (.call (vB (decide ((1:Int)≤n∧n≤(4:Int)))) []<| .br (.fin []) (.loop (Nat × (List (List Int))) (Q2 Nat (List (List Int))) [6,16,18,19,20,21,22,23,24,25,26,27,28,29,30,31] [400,1600,2800,3000,3102] (fun yy0=>[(6,vI (yy0.1:Int))]) (fun yy0=>[(400,some (.box 25 [.own 1600])),(1600,some (.arr 24 1 true (yy0.2.map aE)))]) (fun yy0=>(yy0.1:Int)≤n∧yy0.2=kH (cP (bE n)) (sE n) (bE n) yy0.1∧yy0.2.length≤yy0.1) (fun yy0=>n.toNat - yy0.1) (fun yy0=> .br (lL (fS (((1:Int)*2^(Int.toNat n)) - (1:Int)) ([bI .andNot .i64 (((1:Int)*2^(Int.toNat n)) - (1:Int)) ((1:Int)*2^yy0.1)]:List Int) ([((1:Int)*2^(Int.toNat n)) - (1:Int)]:List Int) yy0.2) [(0,400),(1,1600)]<| .back [(400,400),(1600,3102)]) (.loop (Nat × (List (List Int))) (Q2 Nat (List (List Int))) [7,8,9,32,33,34,35,36,37,38,39,40,41,42,43,44,45,46,47,48,49,50,51,52,53,54,55,56,57,58,59,60,61,62,63,64,65,66,67,68,69,70,71,72,73,74,75,76,77,78,79,80] [400,1600,7000,7900,8002] (fun yy1=>[(7,vI (yy1.1:Int))]) (fun yy1=>[(400,some (.box 25 [.own 1600])),(1600,some (.arr 24 1 true (yy1.2.map aE)))]) (fun yy1=>(yy1.1:Int)≤n∧yy1.2=kH (cP (bE n)) (sE n) (bE n) n.toNat++lX (cP (bE n)) (2^n.toNat) n.toNat yy1.1∧yy1.2.length≤4+yy1.1*64) (fun yy1=>n.toNat - yy1.1) (fun yy1=> .br (.loop (Nat × (List (List Int))) (Q2 Nat (List (List Int))) [8,9,39,40,41,42,43,44,45,46,47,48,49,50,51,52,53,54,55,56,57,58,59,60,61,62,63,64,65,66,67,68,69,70,71,72,73,74,75,76,77,78,79,80] [400,1600,7000,7900,8002] (fun yy2=>[(8,vI ((yy1.1+1+yy2.1:Nat):Int))]) (fun yy2=>[(400,some (.box 25 [.own 1600])),(1600,some (.arr 24 1 true (yy2.2.map aE)))]) (fun yy2=>((yy1.1+1+yy2.1:Nat):Int)≤n∧yy2.2=kH (cP (bE n)) (sE n) (bE n) n.toNat++lX (cP (bE n)) (2^n.toNat) n.toNat yy1.1++pM (cP (bE n)) (2^n.toNat) yy1.1 yy2.1∧yy2.2.length≤4+yy1.1*64+yy2.1*16) (fun yy2=>n.toNat - (yy1.1+1+yy2.1)) (fun yy2=> .br (.loop (Nat × (List (List Int))) (Q2 Nat (List (List Int))) [9,44,45,46,47,48,49,50,51,52,53,54,55,56,57,58,59,60,61,62,63,64,65,66,67,68,69,70,71,72,73,74,75,76,77,78,79,80] [400,1600,7000,7900,8002] (fun yy3=>[(9,vI (yy3.1:Int))]) (fun yy3=>[(400,some (.box 25 [.own 1600])),(1600,some (.arr 24 1 true (yy3.2.map aE)))]) (fun yy3=>yy3.1≤2^n.toNat∧yy3.2=kH (cP (bE n)) (sE n) (bE n) n.toNat++lX (cP (bE n)) (2^n.toNat) n.toNat yy1.1++pM (cP (bE n)) (2^n.toNat) yy1.1 yy2.1++oG (cP (bE n)) yy1.1 (yy1.1+1+yy2.1) yy3.1∧yy3.2.length≤4+yy1.1*64+yy2.1*16+yy3.1) (fun yy3=>2^n.toNat - yy3.1) (fun yy3=> .br (.br (.lit<| .lit<| .lit<| .lit<| .lit<| .br (lL (fS (((1:Int)*2^(Int.toNat n)) - (1:Int)) ([(yy3.1:Int),bI .or .i64 (bI .or .i64 (yy3.1:Int) ((1:Int)*2^yy1.1)) ((1:Int)*2^(yy1.1+1+yy2.1))]:List Int) ([bI .or .i64 (yy3.1:Int) ((1:Int)*2^yy1.1),bI .or .i64 (yy3.1:Int) ((1:Int)*2^(yy1.1+1+yy2.1))]:List Int) yy3.2) [(0,400),(1,1600)]<| .back [(400,400),(1600,8002)]) (.back [(400,400),(1600,1600)])) (.back [(400,400),(1600,1600)])) (.back [(400,400),(1600,1600)]))) (.back [(400,400),(1600,1600)]))) (.fin [(0,1600)])))))) (p:=fR n (1:Int) (4:Int)∧(((!(decide ((1:Int)≤n∧n≤(4:Int))))=true→[]=(kI n).map aE∧True)∧((!(decide ((1:Int)≤n∧n≤(4:Int))))=false→(0≤n∧n≤64)∧(dV ((1:Int)*2^(Int.toNat n))∧(dV (((1:Int)*2^(Int.toNat n)) - (1:Int))∧((∃(i:Nat) (o0:List (List Int)),(0:Int)=(i:Int)∧[]=o0.map aE∧(i:Int)≤n∧o0=kH (cP (bE n)) (sE n) (bE n) i∧o0.length≤i)∧ ∀(i:Nat) (o0:List (List Int)),((i:Int)≤n∧o0=kH (cP (bE n)) (sE n) (bE n) i∧o0.length≤i)→((decide ((i:Int)<n))=true→(0≤(i:Int)∧(i:Int)≤64)∧dV ((1:Int)*2^i)∧mS (((1:Int)*2^(Int.toNat n)) - (1:Int)) ([bI .andNot .i64 (((1:Int)*2^(Int.toNat n)) - (1:Int)) ((1:Int)*2^i)]:List Int) ([((1:Int)*2^(Int.toNat n)) - (1:Int)]:List Int) o0∧[[.int .i64 (bI .andNot .i64 (((1:Int)*2^(Int.toNat n)) - (1:Int)) ((1:Int)*2^i))]]=([bI .andNot .i64 (((1:Int)*2^(Int.toNat n)) - (1:Int)) ((1:Int)*2^i)]:List Int).map aD∧[[.int .i64 (((1:Int)*2^(Int.toNat n)) - (1:Int))]]=([((1:Int)*2^(Int.toNat n)) - (1:Int)]:List Int).map aD∧(((1:Int)*2^(Int.toNat n)) - (1:Int))=(((1:Int)*2^(Int.toNat n)) - (1:Int))∧o0.map aE=o0.map aE∧dV ((i:Int)+(1:Int))∧ ∃(i' :Nat) (o0' :List (List Int)),((i:Int)+(1:Int))=(i' :Int)∧(o0++[cP (((1:Int)*2^(Int.toNat n)) - (1:Int)) ([bI .andNot .i64 (((1:Int)*2^(Int.toNat n)) - (1:Int)) ((1:Int)*2^i)]:List Int) ([((1:Int)*2^(Int.toNat n)) - (1:Int)]:List Int)]).map aE=o0'.map aE∧((i' :Int)≤n∧o0' =kH (cP (bE n)) (sE n) (bE n) i' ∧o0'.length≤i')∧n.toNat - i' <n.toNat - i)∧((decide ((i:Int)<n))=false→(∃(i:Nat) (o1:List (List Int)),(0:Int)=(i:Int)∧o0.map aE=o1.map aE∧(i:Int)≤n∧o1=kH (cP (bE n)) (sE n) (bE n) n.toNat++lX (cP (bE n)) (2^n.toNat) n.toNat i∧o1.length≤4+i*64)∧ ∀(i:Nat) (o1:List (List Int)),((i:Int)≤n∧o1=kH (cP (bE n)) (sE n) (bE n) n.toNat++lX (cP (bE n)) (2^n.toNat) n.toNat i∧o1.length≤4+i*64)→((decide ((i:Int)<n))=true→dV ((i:Int)+(1:Int))∧((∃(j:Nat) (o2:List (List Int)),((i:Int)+(1:Int))=((i+1+j:Nat):Int)∧o1.map aE=o2.map aE∧((i+1+j:Nat):Int)≤n∧o2=kH (cP (bE n)) (sE n) (bE n) n.toNat++lX (cP (bE n)) (2^n.toNat) n.toNat i++pM (cP (bE n)) (2^n.toNat) i j∧o2.length≤4+i*64+j*16)∧ ∀(j:Nat) (o2:List (List Int)),(((i+1+j:Nat):Int)≤n∧o2=kH (cP (bE n)) (sE n) (bE n) n.toNat++lX (cP (bE n)) (2^n.toNat) n.toNat i++pM (cP (bE n)) (2^n.toNat) i j∧o2.length≤4+i*64+j*16)→((decide (((i+1+j:Nat):Int)<n))=true→(∃(s:Nat) (o3:List (List Int)),(0:Int)=(s:Int)∧o2.map aE=o3.map aE∧s≤2^n.toNat∧o3=kH (cP (bE n)) (sE n) (bE n) n.toNat++lX (cP (bE n)) (2^n.toNat) n.toNat i++pM (cP (bE n)) (2^n.toNat) i j++oG (cP (bE n)) i (i+1+j) s∧o3.length≤4+i*64+j*16+s)∧ ∀(s:Nat) (o3:List (List Int)),(s≤2^n.toNat∧o3=kH (cP (bE n)) (sE n) (bE n) n.toNat++lX (cP (bE n)) (2^n.toNat) n.toNat i++pM (cP (bE n)) (2^n.toNat) i j++oG (cP (bE n)) i (i+1+j) s∧o3.length≤4+i*64+j*16+s)→((decide ((s:Int)≤(((1:Int)*2^(Int.toNat n)) - (1:Int))))=true→(0≤(i:Int)∧(i:Int)≤64)∧(((decide ((bI .and .i64 ((s:Int)/2^i) (1:Int))=(0:Int)))=true→(0≤((i+1+j:Nat):Int)∧((i+1+j:Nat):Int)≤64)∧(((decide ((bI .and .i64 ((s:Int)/2^(i+1+j)) (1:Int))=(0:Int)))=true→(0≤(i:Int)∧(i:Int)≤64)∧dV ((1:Int)*2^i)∧(0≤((i+1+j:Nat):Int)∧((i+1+j:Nat):Int)≤64)∧dV ((1:Int)*2^(i+1+j))∧(0≤(i:Int)∧(i:Int)≤64)∧dV ((1:Int)*2^i)∧(0≤((i+1+j:Nat):Int)∧((i+1+j:Nat):Int)≤64)∧dV ((1:Int)*2^(i+1+j))∧mS (((1:Int)*2^(Int.toNat n)) - (1:Int)) ([(s:Int),bI .or .i64 (bI .or .i64 (s:Int) ((1:Int)*2^i)) ((1:Int)*2^(i+1+j))]:List Int) ([bI .or .i64 (s:Int) ((1:Int)*2^i),bI .or .i64 (s:Int) ((1:Int)*2^(i+1+j))]:List Int) o3∧[[.int .i64 (s:Int)],[.int .i64 (bI .or .i64 (bI .or .i64 (s:Int) ((1:Int)*2^i)) ((1:Int)*2^(i+1+j)))]]=([(s:Int),bI .or .i64 (bI .or .i64 (s:Int) ((1:Int)*2^i)) ((1:Int)*2^(i+1+j))]:List Int).map aD∧[[.int .i64 (bI .or .i64 (s:Int) ((1:Int)*2^i))],[.int .i64 (bI .or .i64 (s:Int) ((1:Int)*2^(i+1+j)))]]=([bI .or .i64 (s:Int) ((1:Int)*2^i),bI .or .i64 (s:Int) ((1:Int)*2^(i+1+j))]:List Int).map aD∧(((1:Int)*2^(Int.toNat n)) - (1:Int))=(((1:Int)*2^(Int.toNat n)) - (1:Int))∧o3.map aE=o3.map aE∧dV ((s:Int)+(1:Int))∧ ∃(s' :Nat) (o3' :List (List Int)),((s:Int)+(1:Int))=(s' :Int)∧(o3++[cP (((1:Int)*2^(Int.toNat n)) - (1:Int)) ([(s:Int),bI .or .i64 (bI .or .i64 (s:Int) ((1:Int)*2^i)) ((1:Int)*2^(i+1+j))]:List Int) ([bI .or .i64 (s:Int) ((1:Int)*2^i),bI .or .i64 (s:Int) ((1:Int)*2^(i+1+j))]:List Int)]).map aE=o3'.map aE∧(s' ≤2^n.toNat∧o3' =kH (cP (bE n)) (sE n) (bE n) n.toNat++lX (cP (bE n)) (2^n.toNat) n.toNat i++pM (cP (bE n)) (2^n.toNat) i j++oG (cP (bE n)) i (i+1+j) s' ∧o3'.length≤4+i*64+j*16+s')∧2^n.toNat - s' <2^n.toNat - s)∧((decide ((bI .and .i64 ((s:Int)/2^(i+1+j)) (1:Int))=(0:Int)))=false→dV ((s:Int)+(1:Int))∧ ∃(s' :Nat) (o3' :List (List Int)),((s:Int)+(1:Int))=(s' :Int)∧o3.map aE=o3'.map aE∧(s' ≤2^n.toNat∧o3' =kH (cP (bE n)) (sE n) (bE n) n.toNat++lX (cP (bE n)) (2^n.toNat) n.toNat i++pM (cP (bE n)) (2^n.toNat) i j++oG (cP (bE n)) i (i+1+j) s' ∧o3'.length≤4+i*64+j*16+s')∧2^n.toNat - s' <2^n.toNat - s)))∧((decide ((bI .and .i64 ((s:Int)/2^i) (1:Int))=(0:Int)))=false→dV ((s:Int)+(1:Int))∧ ∃(s' :Nat) (o3' :List (List Int)),((s:Int)+(1:Int))=(s' :Int)∧o3.map aE=o3'.map aE∧(s' ≤2^n.toNat∧o3' =kH (cP (bE n)) (sE n) (bE n) n.toNat++lX (cP (bE n)) (2^n.toNat) n.toNat i++pM (cP (bE n)) (2^n.toNat) i j++oG (cP (bE n)) i (i+1+j) s' ∧o3'.length≤4+i*64+j*16+s')∧2^n.toNat - s' <2^n.toNat - s)))∧((decide ((s:Int)≤(((1:Int)*2^(Int.toNat n)) - (1:Int))))=false→dV (((i+1+j:Nat):Int)+(1:Int))∧ ∃(j' :Nat) (o2' :List (List Int)),(((i+1+j:Nat):Int)+(1:Int))=((i+1+j' :Nat):Int)∧o3.map aE=o2'.map aE∧(((i+1+j' :Nat):Int)≤n∧o2' =kH (cP (bE n)) (sE n) (bE n) n.toNat++lX (cP (bE n)) (2^n.toNat) n.toNat i++pM (cP (bE n)) (2^n.toNat) i j' ∧o2'.length≤4+i*64+j' *16)∧n.toNat - (i+1+j')<n.toNat - (i+1+j)))∧((decide (((i+1+j:Nat):Int)<n))=false→dV ((i:Int)+(1:Int))∧ ∃(i' :Nat) (o1' :List (List Int)),((i:Int)+(1:Int))=(i' :Int)∧o2.map aE=o1'.map aE∧((i' :Int)≤n∧o1' =kH (cP (bE n)) (sE n) (bE n) n.toNat++lX (cP (bE n)) (2^n.toNat) n.toNat i' ∧o1'.length≤4+i' *64)∧n.toNat - i' <n.toNat - i)))∧((decide ((i:Int)<n))=false→o1.map aE=(kI n).map aE∧True)))))))) (by kernel_rfl) ?_
 refine ⟨lW _ _ _,fun c0=>?_,fun c0=>?_⟩
 ·replace c0:=nq (nt c0)
  refine ⟨?_,trivial⟩
  ·first | (rw [kI,if_neg (by omega)]<;>rfl) | (rw [ho1,show i=n.toNat by omega,kI,if_pos (by omega)];rfl)
 ·replace c0:=yq (nf c0)
  obtain ⟨b1,b2,b3⟩:=lY (n:=n) (by omega)
  have hal:bE n=(1:Int)*2^n.toNat - 1:=rfl
  refine ⟨⟨by omega,by omega⟩,by first | exact aJ (by omega) | exact ⟨by omega,by omega⟩,by first | exact aJ (by omega) | exact ⟨by omega,by omega⟩,⟨0,([]:List (List Int)),rfl,rfl,by omega,rfl,Nat.zero_le _⟩,fun i o0 ⟨hi,ho,hL⟩=>?_⟩
  refine ⟨fun c1=>?_,fun c1=>?_⟩
  ·replace c1:=yq c1
   have hh:=aDq (i:=i) (n:=n) (by omega) (by omega)
   have hw:=zW (n:=n) (i:=i) (by omega) (by omega)
   unfold sE at hh
   refine ⟨⟨by omega,by omega⟩,by first | exact aJ (by omega) | exact ⟨by omega,by omega⟩,xB _ ([bI .andNot .i64 (((1:Int)*2^(Int.toNat n)) - (1:Int)) ((1:Int)*2^i)]:List Int) ([((1:Int)*2^(Int.toNat n)) - (1:Int)]:List Int) _ (by omega) (by first | exact pW (by omega) | exact pX (by omega) (by omega)) (by first | exact pW (by omega) | exact pX (by omega) (by omega)) (by omega) (by simp) (by simp),rfl,rfl,rfl,rfl,by first | exact aJ (by omega) | exact ⟨by omega,by omega⟩,?_⟩
   exact ⟨i+1,_,rfl,rfl,⟨by omega,by rw [ho];rfl,by simp;omega⟩,by omega⟩
  ·replace c1:=nq c1
   refine ⟨⟨0,o0,rfl,rfl,by omega,by rw [ho,show i=n.toNat by omega];simp [lX],by omega⟩,fun i o1 ⟨hi1,ho1,hL1⟩=>?_⟩
   refine ⟨fun c2=>?_,fun c2=>?_⟩
   ·replace c2:=yq c2
    refine ⟨by first | exact aJ (by omega) | exact ⟨by omega,by omega⟩,⟨0,o1,by first | rfl | omega,by first | rfl | omega,by omega,by rw [ho1];simp [pM],by omega⟩,fun j o2 ⟨hj,ho2,hL2⟩=>?_⟩
    refine ⟨fun c3=>?_,fun c3=>?_⟩
    ·replace c3:=yq c3
     refine ⟨⟨0,o2,rfl,rfl,Nat.zero_le _,by rw [ho2];simp [oG],by omega⟩,fun s o3 ⟨hs,ho3,hL3⟩=>?_⟩
     refine ⟨fun c4=>?_,fun c4=>?_⟩
     ·replace c4:=yq c4
      refine ⟨⟨by omega,by omega⟩,fun g54=>?_,fun g54=>?_⟩
      ·replace g54:=yq g54
       refine ⟨⟨by omega,by omega⟩,fun c5=>?_,fun c5=>?_⟩
       ·replace c5:=yq c5
        obtain ⟨v1,v2⟩:=uZ (n:=n.toNat) (i:=i) (j:=i+1+j) (s:=s) (by omega) (by omega) (by omega) (by omega)
        obtain ⟨v3,v4⟩:=uZ (n:=n.toNat) (i:=i+1+j) (j:=i) (s:=s) (by omega) (by omega) (by omega) (by omega)
        refine ⟨⟨by omega,by omega⟩,by first | exact aJ (by omega) | exact ⟨by omega,by omega⟩,⟨by omega,by omega⟩,by first | exact aJ (by omega) | exact ⟨by omega,by omega⟩,⟨by omega,by omega⟩,by first | exact aJ (by omega) | exact ⟨by omega,by omega⟩,⟨by omega,by omega⟩,by first | exact aJ (by omega) | exact ⟨by omega,by omega⟩,xB _ ([(s:Int),bI .or .i64 (bI .or .i64 (s:Int) ((1:Int)*2^i)) ((1:Int)*2^(i+1+j))]:List Int) ([bI .or .i64 (s:Int) ((1:Int)*2^i),bI .or .i64 (s:Int) ((1:Int)*2^(i+1+j))]:List Int) _ (by omega) (by first | exact pW (by omega) | exact pX (by omega) (by omega)) (by first | exact pW (by omega) | exact pX (by omega) (by omega)) (by omega) (by simp) (by simp),rfl,rfl,rfl,rfl,by first | exact aJ (by omega) | exact ⟨by omega,by omega⟩,?_⟩
        exact ⟨s+1,_,rfl,rfl,⟨by omega,by first | (rw [ho3,oG,if_pos ⟨decide_eq_true g54,decide_eq_true c5⟩];simp only [List.append_assoc];done) | (rw [ho3,oG,if_neg (by rintro ⟨q1,q2⟩;simp only [pL,decide_eq_true_eq] at q1 q2;contradiction),List.append_nil]),by first | omega | (simp;omega)⟩,by omega⟩
       ·replace c5:=nq c5
        refine ⟨by first | exact aJ (by omega) | exact ⟨by omega,by omega⟩,?_⟩
        exact ⟨s+1,_,rfl,rfl,⟨by omega,by first | (rw [ho3,oG,if_pos ⟨decide_eq_true g54,decide_eq_true c5⟩];simp only [List.append_assoc];done) | (rw [ho3,oG,if_neg (by rintro ⟨q1,q2⟩;simp only [pL,decide_eq_true_eq] at q1 q2;contradiction),List.append_nil]),by first | omega | (simp;omega)⟩,by omega⟩
      ·replace g54:=nq g54
       refine ⟨by first | exact aJ (by omega) | exact ⟨by omega,by omega⟩,?_⟩
       exact ⟨s+1,_,rfl,rfl,⟨by omega,by first | (rw [ho3,oG,if_pos ⟨decide_eq_true g54,decide_eq_true c5⟩];simp only [List.append_assoc];done) | (rw [ho3,oG,if_neg (by rintro ⟨q1,q2⟩;simp only [pL,decide_eq_true_eq] at q1 q2;contradiction),List.append_nil]),by first | omega | (simp;omega)⟩,by omega⟩
     ·replace c4:=nq c4
      refine ⟨by first | exact aJ (by omega) | exact ⟨by omega,by omega⟩,?_⟩
      exact ⟨j+1,_,by first | rfl | omega,by first | rfl | omega,⟨by omega,by rw [ho3,show s=2^n.toNat by omega,pM,←List.append_assoc],by omega⟩,by omega⟩
    ·replace c3:=nq c3
     refine ⟨by first | exact aJ (by omega) | exact ⟨by omega,by omega⟩,?_⟩
     exact ⟨i+1,_,rfl,rfl,⟨by omega,by rw [ho2,show j=n.toNat - (i+1) by omega,lX,List.append_assoc],by omega⟩,by omega⟩
   ·replace c2:=nq c2
    refine ⟨?_,trivial⟩
    ·first | (rw [kI,if_neg (by omega)]<;>rfl) | (rw [ho1,show i=n.toNat by omega,kI,if_pos (by omega)];rfl)
def yL (k:Int) (_:Int):Int:=k
def fU (_:Int):Nat:=1
theorem rU {α:Type} {s c:α→Nat} (h: ∀x,s x≤4+5*c x): ∀l:List α,bR s l≤5*xJ c l
 | []=>by simp [bR,xJ]
 | a::l=>by
   have h1:=h a
   have h2:=rU h l
   simp only [bR,xJ,List.map_cons,List.sum_cons,List.length_cons] at*
   omega
theorem oD {α:Type} {s:α→Nat} (h: ∀x,s x≤4): ∀l:List α,bR s l≤5*l.length
 | []=>by simp [bR]
 | a::l=>by
   have h1:=h a
   have h2:=oD h l
   simp only [bR,List.map_cons,List.sum_cons,List.length_cons] at*
   omega
theorem aEO {α:Type} {s c:α→Nat} (h: ∀x,s x≤4+5*c x) (l:List α) (k:Nat) (hk:k≤l.length):bR s (l.take k)≤5*(k+bR c (l.take k)):=by
 have:=rU h (l.take k)
 unfold xJ at this
 rw [List.length_take,Nat.min_eq_left hk] at this
 exact this
theorem aDr {α:Type} {s:α→Nat} (h: ∀x,s x≤4) (l:List α) (k:Nat) (hk:k≤l.length):bR s (l.take k)≤5*k:=by
 have:=oD h (l.take k)
 rw [List.length_take,Nat.min_eq_left hk] at this
 exact this
def dP (k:Int) (l:List Int):List Int:=kL yL fU k l
def aZ (l:List Int):Nat:=bR fU l
theorem dL (l:List Int):aZ l≤5*dC l:=oD (fun _=>by simp [fU]) l
def fA (k:Int) (l:List (List Int)):List (List Int):=kL dP aZ k l
def cT (l:List (List Int)):Nat:=bR aZ l
theorem jN (l:List (List Int)):cT l≤5*fQ l:=rU (fun y=>by have:=dL y;omega) l
def dM (k:Int) (x:SizeConstraintD):SizeConstraintD:=⟨k,k+1,k+1+1⟩
def aP (x:SizeConstraintD):Nat:=1+1+1
theorem gU (x:SizeConstraintD):aP x≤4+5*eO x:=by
 unfold aP eO;omega
def jO (k:Int) (l:List SizeConstraintD):List SizeConstraintD:=kL dM aP k l
def dN (l:List SizeConstraintD):Nat:=bR aP l
theorem eF (l:List SizeConstraintD):dN l≤5*aY l:=oD (fun x=>by have:=gU x;simpa [eO] using this) l
def bN (k:Int) (x:aQ):aQ:=⟨dP (k) x.objective,fA (k+((aZ x.objective:Nat):Int)) x.rows,dP (k+((aZ x.objective:Nat):Int)+((cT x.rows:Nat):Int)) x.limits⟩
def bY (x:aQ):Nat:=aZ x.objective+cT x.rows+aZ x.limits
theorem vA (x:aQ):bY x≤5*eZ x:=by
 have:=dL x.objective
 have:=jN x.rows
 have:=dL x.limits
 unfold bY eZ;omega
end Go.Proofs.Ytdfebigfnjfgpaa
