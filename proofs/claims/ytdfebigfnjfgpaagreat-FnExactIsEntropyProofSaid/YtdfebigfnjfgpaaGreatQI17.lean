/-
  Contracts and plain laws, joined: part 18.
-/
import Derived.Test.YtdfebigfnjfgpaaGreatQI15
import Derived.Test.YtdfebigfnjfgpaaGreatQI16
import Derived.Test.YtdfebigfnjfgpaaGreatQI3
namespace Go.Proofs.YtdfebigfnjfgpaaGreat
open Go.ChangeShapes Go.WideShapes Go.ChangeAt Go.RowKit
set_option linter.unusedVariables false
set_option linter.unusedSimpArgs false
set_option maxRecDepth 100000
set_option maxHeartbeats 4000000
def aA1 (x:Int):Bool:=decide (-9≤x∧x≤9)
def wG (x:Int):Bool:=decide (0≤x∧x≤99)
def jV (n:Int) (r:List Int):Bool:=r.all aA1&&decide ((r.length:Int)=n)
def dD (p:cM):Bool:=decide (1≤(p.objective.length:Int)∧(p.objective.length:Int)≤15)&&(decide ((p.rows.length:Int)≤64)&&(decide ((p.limits.length:Int)=p.rows.length)&&((p.rows++[p.objective]).all (jV p.objective.length)&&p.limits.all wG)))
theorem fD {p:cM} (h: ¬((1≤(p.objective.length:Int)∧(p.objective.length:Int)≤15)∧(p.rows.length:Int)≤64∧(p.limits.length:Int)=p.rows.length)):dD p=false:=by
 cases e:dD p with
 | false=>rfl
 | true=>
   simp only [dD,Bool.and_eq_true,decide_eq_true_eq] at e
   exact absurd ⟨e.1,e.2.1,e.2.2.1⟩ h
theorem aL2 {p:cM} (h:(p.rows++[p.objective]).all (jV p.objective.length)=false):dD p=false:=by simp only [dD,h,Bool.false_and,Bool.and_false]
theorem fW {p:cM} {k:Nat} {r:List Int} (h:(p.rows++[p.objective])[k]? =some r) (hr:jV p.objective.length r=false):dD p=false:=aL2 (bU h hr)
theorem fE {p:cM} {k:Nat} {r:List Int} (h:p.rows[k]? =some r) (hr:jV p.objective.length r=false):dD p=false:=by
 refine fW (k:=k) (r:=r) ?_ hr
 rw [List.getElem?_append_left (List.getElem?_eq_some_iff.1 h).1];exact h
theorem lY {p:cM} (hr:jV p.objective.length p.objective=false):dD p=false:=fW (k:=p.rows.length) (r:=p.objective) (by simp) hr
theorem gI {p:cM} {k:Nat} {x:Int} (h:p.limits[k]? =some x) (hx:wG x=false):dD p=false:=by
 simp only [dD,bU h hx,Bool.and_false]
theorem iD {p:cM} (h:(1≤(p.objective.length:Int)∧(p.objective.length:Int)≤15)∧(p.rows.length:Int)≤64∧(p.limits.length:Int)=p.rows.length) (h1:(p.rows++[p.objective]).all (jV p.objective.length)=true) (h2:p.limits.all wG=true):dD p=true:=by
 simp only [dD,h1,h2,Bool.and_true,Bool.and_eq_true,decide_eq_true_eq];exact h
theorem fN {n:Int} {r:List Int} {k:Nat} {x:Int} (h:r[k]? =some x) (hx:aA1 x=false):jV n r=false:=by simp only [jV,bU h hx,Bool.false_and]
theorem iE {n:Int} {r:List Int} (h: ¬(r.length:Int)=n):jV n r=false:=by simp only [jV,decide_eq_false h,Bool.and_false]
theorem aGu {n:Int} {r:List Int} (h:r.all aA1=true) (hl:(r.length:Int)=n):jV n r=true:=by simp only [jV,h,decide_eq_true hl,Bool.and_true]
theorem aBU {p:cM} (h:dD p=true):(1≤p.objective.length∧p.objective.length≤15)∧p.rows.length≤64∧p.limits.length=p.rows.length∧(∀r∈p.rows++[p.objective],r.length=p.objective.length∧ ∀x∈r,-9≤x∧x≤9)∧ ∀x∈p.limits,0≤x∧x≤99:=by
 simp only [dD,Bool.and_eq_true,decide_eq_true_eq,List.all_eq_true] at h
 obtain ⟨h1,h2,h3,h4,h5⟩:=h
 refine ⟨by omega,by omega,by omega,fun r hr=>?_,fun x hx=>?_⟩
 ·have:=h4 r hr
  simp only [jV,Bool.and_eq_true,decide_eq_true_eq,List.all_eq_true] at this
  refine ⟨by omega,fun x hx=>?_⟩
  have:=this.1 x hx
  simpa [aA1] using this
 ·have:=h5 x hx
  simpa [wG] using this
theorem aSv {p:cM} (hp: ∀r∈p.rows,r.length≤1048576) (ho:p.objective.length≤1048576) {k:Nat} {r:List Int} (h:((([]:List (List Int))++p.rows)++[p.objective])[k]? =some r):r.length≤1048576:=by
 have:=List.mem_of_getElem? h
 simp only [List.nil_append,List.mem_append,List.mem_singleton] at this
 rcases this with h | rfl
 ·exact hp _ h
 ·exact ho
abbrev sW (p:cM):Prop:=cT Tryz.prog 98 [.agg [.sl 3 1 (p.objective.map intD),.sl 39 1 (p.rows.map aA),.sl 3 1 (p.limits.map intD)]] (vB (dD p)) []
theorem aDX (p:cM) (hp: ∀r∈p.rows,r.length≤1048576):sW p:=by
 refine aT bE aL Tryz.func98 (by kernel_rfl) (.len p.objective.length<| .call (vB (decide ((1:Int)≤((p.objective.length:Nat):Int)∧((p.objective.length:Nat):Int)≤(15:Int)))) []<| .br (.fin []) (.len p.rows.length<| .lit<| .lit<| .br (.fin []) (.len p.limits.length<| .len p.rows.length<| .lit<| .lit<| .br (.fin []) (.appr (List Int) aA ([]:List (List Int)) p.rows<| .appr (List Int) aA (([]:List (List Int))++p.rows) ([p.objective]:List (List Int))<| .len (((([]:List (List Int))++p.rows)++[p.objective]).length)<| .loop Nat (Q1 Nat) [5,7,40,41,42,43,44,45,46,47,48,49,50,51,52,53,54,55,56,57,58] [] (fun k=>[(40,vI (k:Int))]) (fun k=>[]) (fun k=>k≤((([]:List (List Int))++p.rows)++[p.objective]).length∧(((([]:List (List Int))++p.rows)++[p.objective]).take k).all (jV p.objective.length)=true) (fun k=>((([]:List (List Int))++p.rows)++[p.objective]).length - k) (fun k=> .br (.len (((([]:List (List Int))++p.rows)++[p.objective]).length)<| .elem _ aA ((([]:List (List Int))++p.rows)++[p.objective]) (fun e43=> .len e43.length<| .loop Nat (Q1 Nat) [7,46,47,48,49,50,51,52,53] [] (fun j=>[(46,vI (j:Int))]) (fun j=>[]) (fun j=>j≤e43.length∧(e43.take j).all aA1=true) (fun j=>e43.length - j) (fun j=> .br (.elem _ intD e43 (fun e48=> .call (vB (decide ((-9:Int)≤e48∧e48≤(9:Int)))) []<| .br (.fin []) (.back []))) (.len e43.length<| .br (.fin []) (.back []))))) (.len p.limits.length<| .loop Nat (Q1 Nat) [9,62,63,64,65,66,67,68,69] [] (fun i=>[(62,vI (i:Int))]) (fun i=>[]) (fun i=>i≤p.limits.length∧(p.limits.take i).all wG=true) (fun i=>p.limits.length - i) (fun i=> .br (.elem _ intD p.limits (fun e64=> .call (vB (decide ((0:Int)≤e64∧e64≤(99:Int)))) []<| .br (.fin []) (.back []))) (.fin [])))))))) (p:=(p.objective.map intD).length≤9223372036854775807→(p.rows.map aA).length≤9223372036854775807→(p.limits.map intD).length≤9223372036854775807→Lm intD p.objective∧(kI ((p.objective.length:Nat):Int) (1:Int) (15:Int)∧(((!(decide ((1:Int)≤((p.objective.length:Nat):Int)∧((p.objective.length:Nat):Int)≤(15:Int))))=true→(false)=(dD p)∧True)∧((!(decide ((1:Int)≤((p.objective.length:Nat):Int)∧((p.objective.length:Nat):Int)≤(15:Int))))=false→Lm aA p.rows∧(((decide ((64:Int)<((p.rows.length:Nat):Int)))=true→(false)=(dD p)∧True)∧((decide ((64:Int)<((p.rows.length:Nat):Int)))=false→Lm intD p.limits∧(Lm aA p.rows∧(((!(decide (((p.limits.length:Nat):Int)=((p.rows.length:Nat):Int))))=true→(false)=(dD p)∧True)∧((!(decide (((p.limits.length:Nat):Int)=((p.rows.length:Nat):Int))))=false→[]=([]:List (List Int)).map aA∧p.rows.map aA=p.rows.map aA∧(([]:List (List Int)).length+p.rows.length)*24≤140737488355328∧((([]:List (List Int))++p.rows).map aA=(([]:List (List Int))++p.rows).map aA∧[[.sl 3 1 (p.objective.map intD)]]=([p.objective]:List (List Int)).map aA∧((([]:List (List Int))++p.rows).length+([p.objective]:List (List Int)).length)*24≤140737488355328∧(Lm aA ((([]:List (List Int))++p.rows)++[p.objective])∧((∃(k:Nat),(0:Int)=(k:Int)∧k≤((([]:List (List Int))++p.rows)++[p.objective]).length∧(((([]:List (List Int))++p.rows)++[p.objective]).take k).all (jV p.objective.length)=true)∧ ∀(k:Nat),(k≤((([]:List (List Int))++p.rows)++[p.objective]).length∧(((([]:List (List Int))++p.rows)++[p.objective]).take k).all (jV p.objective.length)=true)→((decide ((k:Int)<((((([]:List (List Int))++p.rows)++[p.objective]).length:Nat):Int)))=true→0≤(k:Int)∧Lm aA ((([]:List (List Int))++p.rows)++[p.objective])∧(k:Int)<((((([]:List (List Int))++p.rows)++[p.objective]).length:Nat):Int)∧Em aA ((([]:List (List Int))++p.rows)++[p.objective]) k fun e43=>Lm intD e43∧((∃(j:Nat),(0:Int)=(j:Int)∧j≤e43.length∧(e43.take j).all aA1=true)∧ ∀(j:Nat),(j≤e43.length∧(e43.take j).all aA1=true)→((decide ((j:Int)<((e43.length:Nat):Int)))=true→0≤(j:Int)∧Em intD e43 j fun e48=>kI e48 (-9:Int) (9:Int)∧(((!(decide ((-9:Int)≤e48∧e48≤(9:Int))))=true→(false)=(dD p)∧True)∧((!(decide ((-9:Int)≤e48∧e48≤(9:Int))))=false→cC ((j:Int)+(1:Int))∧ ∃(j' :Nat),((j:Int)+(1:Int))=(j' :Int)∧(j' ≤e43.length∧(e43.take j').all aA1=true)∧e43.length - j' <e43.length - j)))∧((decide ((j:Int)<((e43.length:Nat):Int)))=false→Lm intD e43∧(((!(decide (((e43.length:Nat):Int)=((p.objective.length:Nat):Int))))=true→(false)=(dD p)∧True)∧((!(decide (((e43.length:Nat):Int)=((p.objective.length:Nat):Int))))=false→cC ((k:Int)+(1:Int))∧ ∃(k' :Nat),((k:Int)+(1:Int))=(k' :Int)∧(k' ≤((([]:List (List Int))++p.rows)++[p.objective]).length∧(((([]:List (List Int))++p.rows)++[p.objective]).take k').all (jV p.objective.length)=true)∧((([]:List (List Int))++p.rows)++[p.objective]).length - k' <((([]:List (List Int))++p.rows)++[p.objective]).length - k)))))∧((decide ((k:Int)<((((([]:List (List Int))++p.rows)++[p.objective]).length:Nat):Int)))=false→Lm intD p.limits∧((∃(i:Nat),(0:Int)=(i:Int)∧i≤p.limits.length∧(p.limits.take i).all wG=true)∧ ∀(i:Nat),(i≤p.limits.length∧(p.limits.take i).all wG=true)→((decide ((i:Int)<((p.limits.length:Nat):Int)))=true→0≤(i:Int)∧Em intD p.limits i fun e64=>kI e64 (0:Int) (99:Int)∧(((!(decide ((0:Int)≤e64∧e64≤(99:Int))))=true→(false)=(dD p)∧True)∧((!(decide ((0:Int)≤e64∧e64≤(99:Int))))=false→cC ((i:Int)+(1:Int))∧ ∃(i' :Nat),((i:Int)+(1:Int))=(i' :Int)∧(i' ≤p.limits.length∧(p.limits.take i').all wG=true)∧p.limits.length - i' <p.limits.length - i)))∧((decide ((i:Int)<((p.limits.length:Nat):Int)))=false→(true)=(dD p)∧True))))))))))))))) (by kernel_rfl) ?_
 intro n0 n1 n2
 simp only [List.length_map] at n0 n1 n2
 refine ⟨List.length_map _,oD _ _ _,fun g16=>?_,fun g16=>?_⟩
 ·replace g16:=nq (nt g16)
  refine ⟨?_,trivial⟩
  ·first | (exact (fD (by omega)).symm) | (exact (fW h43 (fN h48 (decide_eq_false c3))).symm) | (exact (fW h43 (iE c4)).symm) | (exact (gI h64 (decide_eq_false c6)).symm) | (exact (iD (by omega) hrows (bB (by omega) hc)).symm)
 ·replace g16:=yq (nf g16)
  refine ⟨List.length_map _,fun g22=>?_,fun g22=>?_⟩
  ·replace g22:=yq g22
   refine ⟨?_,trivial⟩
   ·first | (exact (fD (by omega)).symm) | (exact (fW h43 (fN h48 (decide_eq_false c3))).symm) | (exact (fW h43 (iE c4)).symm) | (exact (gI h64 (decide_eq_false c6)).symm) | (exact (iD (by omega) hrows (bB (by omega) hc)).symm)
  ·replace g22:=nq g22
   refine ⟨List.length_map _,List.length_map _,fun c0=>?_,fun c0=>?_⟩
   ·replace c0:=nq (nt c0)
    refine ⟨?_,trivial⟩
    ·first | (exact (fD (by omega)).symm) | (exact (fW h43 (fN h48 (decide_eq_false c3))).symm) | (exact (fW h43 (iE c4)).symm) | (exact (gI h64 (decide_eq_false c6)).symm) | (exact (iD (by omega) hrows (bB (by omega) hc)).symm)
   ·replace c0:=yq (nf c0)
    refine ⟨rfl,rfl,by simp;omega,rfl,rfl,by simp;omega,List.length_map _,⟨0,rfl,Nat.zero_le _,rfl⟩,fun k ⟨hk,ha⟩=>?_⟩
    refine ⟨fun c1=>?_,fun c1=>?_⟩
    ·replace c1:=yq c1
     have hLk:k<65:=by simp at c1;omega
     refine ⟨by omega,List.length_map _,by first | omega | (simp at*;omega),rfl,by first | omega | (simp at*;omega),fun e43 h43=>?_⟩
     have he43:=aSv hp (by omega) h43
     refine ⟨List.length_map _,⟨0,rfl,Nat.zero_le _,rfl⟩,fun j ⟨hj,hb⟩=>?_⟩
     refine ⟨fun c2=>?_,fun c2=>?_⟩
     ·replace c2:=yq c2
      refine ⟨by omega,rfl,by first | omega | (simp at*;omega),fun e48 h48=>?_⟩
      refine ⟨oD _ _ _,fun c3=>?_,fun c3=>?_⟩
      ·replace c3:=nq (nt c3)
       refine ⟨?_,trivial⟩
       ·first | (exact (fD (by omega)).symm) | (exact (fW h43 (fN h48 (decide_eq_false c3))).symm) | (exact (fW h43 (iE c4)).symm) | (exact (gI h64 (decide_eq_false c6)).symm) | (exact (iD (by omega) hrows (bB (by omega) hc)).symm)
      ·replace c3:=yq (nf c3)
       refine ⟨⟨by omega,by omega⟩,?_⟩
       exact ⟨j+1,rfl,⟨by omega,cR h48 hb (decide_eq_true c3)⟩,by omega⟩
     ·replace c2:=nq c2
      refine ⟨List.length_map _,fun c4=>?_,fun c4=>?_⟩
      ·replace c4:=nq (nt c4)
       refine ⟨?_,trivial⟩
       ·first | (exact (fD (by omega)).symm) | (exact (fW h43 (fN h48 (decide_eq_false c3))).symm) | (exact (fW h43 (iE c4)).symm) | (exact (gI h64 (decide_eq_false c6)).symm) | (exact (iD (by omega) hrows (bB (by omega) hc)).symm)
      ·replace c4:=yq (nf c4)
       refine ⟨⟨by omega,by omega⟩,?_⟩
       exact ⟨k+1,rfl,⟨by omega,cR h43 ha (aGu (bB (by omega) hb) (by omega))⟩,by omega⟩
    ·replace c1:=nq c1
     have hrows:=bB (by omega) ha
     refine ⟨List.length_map _,⟨0,rfl,Nat.zero_le _,rfl⟩,fun i ⟨hi,hc⟩=>?_⟩
     refine ⟨fun c5=>?_,fun c5=>?_⟩
     ·replace c5:=yq c5
      refine ⟨by omega,rfl,by first | omega | (simp at*;omega),fun e64 h64=>?_⟩
      refine ⟨oD _ _ _,fun c6=>?_,fun c6=>?_⟩
      ·replace c6:=nq (nt c6)
       refine ⟨?_,trivial⟩
       ·first | (exact (fD (by omega)).symm) | (exact (fW h43 (fN h48 (decide_eq_false c3))).symm) | (exact (fW h43 (iE c4)).symm) | (exact (gI h64 (decide_eq_false c6)).symm) | (exact (iD (by omega) hrows (bB (by omega) hc)).symm)
      ·replace c6:=yq (nf c6)
       refine ⟨⟨by omega,by omega⟩,?_⟩
       exact ⟨i+1,rfl,⟨by omega,cR h64 hc (decide_eq_true c6)⟩,by omega⟩
     ·replace c5:=nq c5
      refine ⟨?_,trivial⟩
      ·first | (exact (fD (by omega)).symm) | (exact (fW h43 (fN h48 (decide_eq_false c3))).symm) | (exact (fW h43 (iE c4)).symm) | (exact (gI h64 (decide_eq_false c6)).symm) | (exact (iD (by omega) hrows (bB (by omega) hc)).symm)
abbrev sX (p:cM):Prop:=cT Tryz.prog 91 [.agg [.sl 3 1 (p.objective.map intD),.sl 39 1 (p.rows.map aA),.sl 3 1 (p.limits.map intD)]] (vB (dD p)) []
theorem aDY (p:cM):sX p:=by
 refine aT bE aL Tryz.func91 (by kernel_rfl) (.len p.objective.length<| .call (vB (decide ((1:Int)≤((p.objective.length:Nat):Int)∧((p.objective.length:Nat):Int)≤(15:Int)))) []<| .br (.fin []) (.len p.rows.length<| .lit<| .lit<| .br (.fin []) (.len p.rows.length<| .len p.limits.length<| .lit<| .lit<| .br (.fin []) (.loop Nat (Q1 Nat) [4,28,29,30,31,32,33,34,35,36,37,38,39] [] (fun k=>[(4,vI (k:Int))]) (fun k=>[]) (fun k=>k≤p.objective.length∧(p.objective.take k).all aA1=true) (fun k=>p.objective.length - k) (fun k=> .br (.elem _ intD p.objective (fun e36=> .call (vB (decide ((-9:Int)≤e36∧e36≤(9:Int)))) []<| .br (.fin []) (.back []))) (.loop Nat (Q1 Nat) [5,6,40,41,42,43,44,45,46,47,48,49,50,51,52,53,54,55,56,57,58,59,60,61,62,63,64,65,66,67,68,69,70,71,72,73,74,75,76,77,78] [] (fun i=>[(5,vI (i:Int))]) (fun i=>[]) (fun i=>i≤p.rows.length∧(p.rows.take i).all (jV p.objective.length)=true∧(p.limits.take i).all wG=true) (fun i=>p.rows.length - i) (fun i=> .len p.rows.length<| .br (.elem _ aA p.rows (fun e50=> .len e50.length<| .br (.fin []) (.elem _ intD p.limits (fun e59=> .call (vB (decide ((0:Int)≤e59∧e59≤(99:Int)))) []<| .lit<| .lit<| .br (.fin []) (.loop Nat (Q1 Nat) [6,64,65,66,67,68,69,70,71,72,73,74,75,76,77,78] [] (fun j=>[(6,vI (j:Int))]) (fun j=>[]) (fun j=>j≤p.objective.length∧(e50.take j).all aA1=true) (fun j=>p.objective.length - j) (fun j=> .br (.elem _ aA p.rows (fun e72=> .elem _ intD e72 (fun e75=> .call (vB (decide ((-9:Int)≤e75∧e75≤(9:Int)))) []<| .br (.fin []) (.back [])))) (.back []))))))) (.fin [])))))))) (p:=(p.objective.map intD).length≤9223372036854775807→(p.rows.map aA).length≤9223372036854775807→(p.limits.map intD).length≤9223372036854775807→Lm intD p.objective∧(iV ((p.objective.length:Nat):Int) (1:Int) (15:Int)∧(((!(decide ((1:Int)≤((p.objective.length:Nat):Int)∧((p.objective.length:Nat):Int)≤(15:Int))))=true→(false)=(dD p)∧True)∧((!(decide ((1:Int)≤((p.objective.length:Nat):Int)∧((p.objective.length:Nat):Int)≤(15:Int))))=false→Lm aA p.rows∧(((decide ((64:Int)<((p.rows.length:Nat):Int)))=true→(false)=(dD p)∧True)∧((decide ((64:Int)<((p.rows.length:Nat):Int)))=false→Lm aA p.rows∧(Lm intD p.limits∧(((!(decide (((p.rows.length:Nat):Int)=((p.limits.length:Nat):Int))))=true→(false)=(dD p)∧True)∧((!(decide (((p.rows.length:Nat):Int)=((p.limits.length:Nat):Int))))=false→(∃(k:Nat),(0:Int)=(k:Int)∧k≤p.objective.length∧(p.objective.take k).all aA1=true)∧ ∀(k:Nat),(k≤p.objective.length∧(p.objective.take k).all aA1=true)→((decide ((k:Int)<((p.objective.length:Nat):Int)))=true→0≤(k:Int)∧Em intD p.objective k fun e36=>iV e36 (-9:Int) (9:Int)∧(((!(decide ((-9:Int)≤e36∧e36≤(9:Int))))=true→(false)=(dD p)∧True)∧((!(decide ((-9:Int)≤e36∧e36≤(9:Int))))=false→cC ((k:Int)+(1:Int))∧ ∃(k' :Nat),((k:Int)+(1:Int))=(k' :Int)∧(k' ≤p.objective.length∧(p.objective.take k').all aA1=true)∧p.objective.length - k' <p.objective.length - k)))∧((decide ((k:Int)<((p.objective.length:Nat):Int)))=false→(∃(i:Nat),(0:Int)=(i:Int)∧i≤p.rows.length∧(p.rows.take i).all (jV p.objective.length)=true∧(p.limits.take i).all wG=true)∧ ∀(i:Nat),(i≤p.rows.length∧(p.rows.take i).all (jV p.objective.length)=true∧(p.limits.take i).all wG=true)→Lm aA p.rows∧(((decide ((i:Int)<((p.rows.length:Nat):Int)))=true→0≤(i:Int)∧Em aA p.rows i fun e50=>Lm intD e50∧(((!(decide (((e50.length:Nat):Int)=((p.objective.length:Nat):Int))))=true→(false)=(dD p)∧True)∧((!(decide (((e50.length:Nat):Int)=((p.objective.length:Nat):Int))))=false→0≤(i:Int)∧Em intD p.limits i fun e59=>iV e59 (0:Int) (99:Int)∧(((!(decide ((0:Int)≤e59∧e59≤(99:Int))))=true→(false)=(dD p)∧True)∧((!(decide ((0:Int)≤e59∧e59≤(99:Int))))=false→(∃(j:Nat),(0:Int)=(j:Int)∧j≤p.objective.length∧(e50.take j).all aA1=true)∧ ∀(j:Nat),(j≤p.objective.length∧(e50.take j).all aA1=true)→((decide ((j:Int)<((p.objective.length:Nat):Int)))=true→0≤(i:Int)∧Em aA p.rows i fun e72=>0≤(j:Int)∧Em intD e72 j fun e75=>iV e75 (-9:Int) (9:Int)∧(((!(decide ((-9:Int)≤e75∧e75≤(9:Int))))=true→(false)=(dD p)∧True)∧((!(decide ((-9:Int)≤e75∧e75≤(9:Int))))=false→cC ((j:Int)+(1:Int))∧ ∃(j' :Nat),((j:Int)+(1:Int))=(j' :Int)∧(j' ≤p.objective.length∧(e50.take j').all aA1=true)∧p.objective.length - j' <p.objective.length - j)))∧((decide ((j:Int)<((p.objective.length:Nat):Int)))=false→cC ((i:Int)+(1:Int))∧ ∃(i' :Nat),((i:Int)+(1:Int))=(i' :Int)∧(i' ≤p.rows.length∧(p.rows.take i').all (jV p.objective.length)=true∧(p.limits.take i').all wG=true)∧p.rows.length - i' <p.rows.length - i))))))∧((decide ((i:Int)<((p.rows.length:Nat):Int)))=false→(true)=(dD p)∧True)))))))))))) (by kernel_rfl) ?_
 intro n0 n1 n2
 simp only [List.length_map] at n0 n1 n2
 refine ⟨List.length_map _,lX _ _ _,fun g13=>?_,fun g13=>?_⟩
 ·replace g13:=nq (nt g13)
  refine ⟨?_,trivial⟩
  ·first | (exact (fD (by omega)).symm) | (exact (lY (fN h36 (decide_eq_false c2))).symm) | (exact (fE h50 (iE g55)).symm) | (exact (gI h59 (decide_eq_false c4)).symm) | (exact (fE h50 (fN h75 (decide_eq_false c6))).symm) | (exact (iD (by omega) hrows (bB (by omega) hl)).symm)
 ·replace g13:=yq (nf g13)
  refine ⟨List.length_map _,fun g19=>?_,fun g19=>?_⟩
  ·replace g19:=yq g19
   refine ⟨?_,trivial⟩
   ·first | (exact (fD (by omega)).symm) | (exact (lY (fN h36 (decide_eq_false c2))).symm) | (exact (fE h50 (iE g55)).symm) | (exact (gI h59 (decide_eq_false c4)).symm) | (exact (fE h50 (fN h75 (decide_eq_false c6))).symm) | (exact (iD (by omega) hrows (bB (by omega) hl)).symm)
  ·replace g19:=nq g19
   refine ⟨List.length_map _,List.length_map _,fun c0=>?_,fun c0=>?_⟩
   ·replace c0:=nq (nt c0)
    refine ⟨?_,trivial⟩
    ·first | (exact (fD (by omega)).symm) | (exact (lY (fN h36 (decide_eq_false c2))).symm) | (exact (fE h50 (iE g55)).symm) | (exact (gI h59 (decide_eq_false c4)).symm) | (exact (fE h50 (fN h75 (decide_eq_false c6))).symm) | (exact (iD (by omega) hrows (bB (by omega) hl)).symm)
   ·replace c0:=yq (nf c0)
    refine ⟨⟨0,rfl,Nat.zero_le _,rfl⟩,fun k ⟨hk,ha⟩=>?_⟩
    refine ⟨fun c1=>?_,fun c1=>?_⟩
    ·replace c1:=yq c1
     refine ⟨by omega,rfl,by omega,fun e36 h36=>?_⟩
     refine ⟨lX _ _ _,fun c2=>?_,fun c2=>?_⟩
     ·replace c2:=nq (nt c2)
      refine ⟨?_,trivial⟩
      ·first | (exact (fD (by omega)).symm) | (exact (lY (fN h36 (decide_eq_false c2))).symm) | (exact (fE h50 (iE g55)).symm) | (exact (gI h59 (decide_eq_false c4)).symm) | (exact (fE h50 (fN h75 (decide_eq_false c6))).symm) | (exact (iD (by omega) hrows (bB (by omega) hl)).symm)
     ·replace c2:=yq (nf c2)
      refine ⟨⟨by omega,by omega⟩,?_⟩
      exact ⟨k+1,rfl,⟨by omega,cR h36 ha (decide_eq_true c2)⟩,by omega⟩
    ·replace c1:=nq c1
     have hobj:=bB (by omega) ha
     refine ⟨⟨0,rfl,Nat.zero_le _,rfl,rfl⟩,fun i ⟨hi,hr,hl⟩=>?_⟩
     refine ⟨List.length_map _,fun c3=>?_,fun c3=>?_⟩
     ·replace c3:=yq c3
      refine ⟨by omega,rfl,by omega,fun e50 h50=>?_⟩
      refine ⟨List.length_map _,fun g55=>?_,fun g55=>?_⟩
      ·replace g55:=nq (nt g55)
       refine ⟨?_,trivial⟩
       ·first | (exact (fD (by omega)).symm) | (exact (lY (fN h36 (decide_eq_false c2))).symm) | (exact (fE h50 (iE g55)).symm) | (exact (gI h59 (decide_eq_false c4)).symm) | (exact (fE h50 (fN h75 (decide_eq_false c6))).symm) | (exact (iD (by omega) hrows (bB (by omega) hl)).symm)
      ·replace g55:=yq (nf g55)
       refine ⟨by omega,rfl,by omega,fun e59 h59=>?_⟩
       refine ⟨lX _ _ _,fun c4=>?_,fun c4=>?_⟩
       ·replace c4:=nq (nt c4)
        refine ⟨?_,trivial⟩
        ·first | (exact (fD (by omega)).symm) | (exact (lY (fN h36 (decide_eq_false c2))).symm) | (exact (fE h50 (iE g55)).symm) | (exact (gI h59 (decide_eq_false c4)).symm) | (exact (fE h50 (fN h75 (decide_eq_false c6))).symm) | (exact (iD (by omega) hrows (bB (by omega) hl)).symm)
       ·replace c4:=yq (nf c4)
        refine ⟨⟨0,rfl,Nat.zero_le _,rfl⟩,fun j ⟨hj,hb⟩=>?_⟩
        refine ⟨fun c5=>?_,fun c5=>?_⟩
        ·replace c5:=yq c5
         refine ⟨by omega,rfl,by omega,fun e72 h72=>?_⟩
         obtain rfl:=(aY h50 h72).symm
         refine ⟨by omega,rfl,by omega,fun e75 h75=>?_⟩
         refine ⟨lX _ _ _,fun c6=>?_,fun c6=>?_⟩
         ·replace c6:=nq (nt c6)
          refine ⟨?_,trivial⟩
          ·first | (exact (fD (by omega)).symm) | (exact (lY (fN h36 (decide_eq_false c2))).symm) | (exact (fE h50 (iE g55)).symm) | (exact (gI h59 (decide_eq_false c4)).symm) | (exact (fE h50 (fN h75 (decide_eq_false c6))).symm) | (exact (iD (by omega) hrows (bB (by omega) hl)).symm)
         ·replace c6:=yq (nf c6)
          refine ⟨⟨by omega,by omega⟩,?_⟩
          exact ⟨j+1,rfl,⟨by omega,cR h75 hb (decide_eq_true c6)⟩,by omega⟩
        ·replace c5:=nq c5
         refine ⟨⟨by omega,by omega⟩,?_⟩
         exact ⟨i+1,rfl,⟨by omega,cR h50 hr (aGu (bB (by omega) hb) (by omega)),cR h59 hl (decide_eq_true c4)⟩,by omega⟩
     ·replace c3:=nq c3
      have hrows:(p.rows++[p.objective]).all (jV p.objective.length)=true:=by rw [List.all_append,bB (by omega) hr,List.all_cons,aGu hobj rfl];rfl
      refine ⟨?_,trivial⟩
      ·first | (exact (fD (by omega)).symm) | (exact (lY (fN h36 (decide_eq_false c2))).symm) | (exact (fE h50 (iE g55)).symm) | (exact (gI h59 (decide_eq_false c4)).symm) | (exact (fE h50 (fN h75 (decide_eq_false c6))).symm) | (exact (iD (by omega) hrows (bB (by omega) hl)).symm)
abbrev aER (n:Int):AV × List (Nat × Rs):=(.own 0,[(0,.arr 39 1 true ((wF n).map aA))])
abbrev aL3 (n:Int):Prop:=cT Tryz.prog 120 [.one (.int .i64 n)] (aER n).1 (aER n).2
theorem aPE (n:Int):aL3 n:=by
 refine aT bE aL Tryz.func120 (by kernel_rfl) (.call (vB (decide ((1:Int)≤n∧n≤(4:Int)))) []<| .br (.fin []) (.loop (Nat × (List (List Int))) (Q2 Nat (List (List Int))) [6,16,18,19,20,21,22,23,24,25,26,27,28,29,30,31] [400,1600,2800,3000,3102] (fun yy0=>[(6,vI (yy0.1:Int))]) (fun yy0=>[(400,some (.box 78 [.own 1600])),(1600,some (.arr 39 1 true (yy0.2.map aA)))]) (fun yy0=>(yy0.1:Int)≤n∧yy0.2=wE (iM (eA n)) (hdI n) (eA n) yy0.1∧yy0.2.length≤yy0.1) (fun yy0=>n.toNat - yy0.1) (fun yy0=> .br (aQ0 (nJ (((1:Int)*2^(Int.toNat n)) - (1:Int)) ([cF .andNot .i64 (((1:Int)*2^(Int.toNat n)) - (1:Int)) ((1:Int)*2^yy0.1)]:List Int) ([((1:Int)*2^(Int.toNat n)) - (1:Int)]:List Int) yy0.2) [(0,400),(1,1600)]<| .back [(400,400),(1600,3102)]) (.loop (Nat × (List (List Int))) (Q2 Nat (List (List Int))) [7,8,9,32,33,34,35,36,37,38,39,40,41,42,43,44,45,46,47,48,49,50,51,52,53,54,55,56,57,58,59,60,61,62,63,64,65,66,67,68,69,70,71,72,73,74,75,76,77,78,79,80] [400,1600,7000,7900,8002] (fun yy1=>[(7,vI (yy1.1:Int))]) (fun yy1=>[(400,some (.box 78 [.own 1600])),(1600,some (.arr 39 1 true (yy1.2.map aA)))]) (fun yy1=>(yy1.1:Int)≤n∧yy1.2=wE (iM (eA n)) (hdI n) (eA n) n.toNat++elI (iM (eA n)) (2^n.toNat) n.toNat yy1.1∧yy1.2.length≤4+yy1.1*64) (fun yy1=>n.toNat - yy1.1) (fun yy1=> .br (.loop (Nat × (List (List Int))) (Q2 Nat (List (List Int))) [8,9,39,40,41,42,43,44,45,46,47,48,49,50,51,52,53,54,55,56,57,58,59,60,61,62,63,64,65,66,67,68,69,70,71,72,73,74,75,76,77,78,79,80] [400,1600,7000,7900,8002] (fun yy2=>[(8,vI ((yy1.1+1+yy2.1:Nat):Int))]) (fun yy2=>[(400,some (.box 78 [.own 1600])),(1600,some (.arr 39 1 true (yy2.2.map aA)))]) (fun yy2=>((yy1.1+1+yy2.1:Nat):Int)≤n∧yy2.2=wE (iM (eA n)) (hdI n) (eA n) n.toNat++elI (iM (eA n)) (2^n.toNat) n.toNat yy1.1++elJ (iM (eA n)) (2^n.toNat) yy1.1 yy2.1∧yy2.2.length≤4+yy1.1*64+yy2.1*16) (fun yy2=>n.toNat - (yy1.1+1+yy2.1)) (fun yy2=> .br (.loop (Nat × (List (List Int))) (Q2 Nat (List (List Int))) [9,44,45,46,47,48,49,50,51,52,53,54,55,56,57,58,59,60,61,62,63,64,65,66,67,68,69,70,71,72,73,74,75,76,77,78,79,80] [400,1600,7000,7900,8002] (fun yy3=>[(9,vI (yy3.1:Int))]) (fun yy3=>[(400,some (.box 78 [.own 1600])),(1600,some (.arr 39 1 true (yy3.2.map aA)))]) (fun yy3=>yy3.1≤2^n.toNat∧yy3.2=wE (iM (eA n)) (hdI n) (eA n) n.toNat++elI (iM (eA n)) (2^n.toNat) n.toNat yy1.1++elJ (iM (eA n)) (2^n.toNat) yy1.1 yy2.1++elS (iM (eA n)) yy1.1 (yy1.1+1+yy2.1) yy3.1∧yy3.2.length≤4+yy1.1*64+yy2.1*16+yy3.1) (fun yy3=>2^n.toNat - yy3.1) (fun yy3=> .br (.br (.lit<| .lit<| .lit<| .lit<| .lit<| .br (aQ0 (nJ (((1:Int)*2^(Int.toNat n)) - (1:Int)) ([(yy3.1:Int),cF .or .i64 (cF .or .i64 (yy3.1:Int) ((1:Int)*2^yy1.1)) ((1:Int)*2^(yy1.1+1+yy2.1))]:List Int) ([cF .or .i64 (yy3.1:Int) ((1:Int)*2^yy1.1),cF .or .i64 (yy3.1:Int) ((1:Int)*2^(yy1.1+1+yy2.1))]:List Int) yy3.2) [(0,400),(1,1600)]<| .back [(400,400),(1600,8002)]) (.back [(400,400),(1600,1600)])) (.back [(400,400),(1600,1600)])) (.back [(400,400),(1600,1600)]))) (.back [(400,400),(1600,1600)]))) (.fin [(0,1600)])))))) (p:=kI n (1:Int) (4:Int)∧(((!(decide ((1:Int)≤n∧n≤(4:Int))))=true→[]=(wF n).map aA∧True)∧((!(decide ((1:Int)≤n∧n≤(4:Int))))=false→(0≤n∧n≤64)∧(cC ((1:Int)*2^(Int.toNat n))∧(cC (((1:Int)*2^(Int.toNat n)) - (1:Int))∧((∃(i:Nat) (o0:List (List Int)),(0:Int)=(i:Int)∧[]=o0.map aA∧(i:Int)≤n∧o0=wE (iM (eA n)) (hdI n) (eA n) i∧o0.length≤i)∧ ∀(i:Nat) (o0:List (List Int)),((i:Int)≤n∧o0=wE (iM (eA n)) (hdI n) (eA n) i∧o0.length≤i)→((decide ((i:Int)<n))=true→(0≤(i:Int)∧(i:Int)≤64)∧cC ((1:Int)*2^i)∧zA (((1:Int)*2^(Int.toNat n)) - (1:Int)) ([cF .andNot .i64 (((1:Int)*2^(Int.toNat n)) - (1:Int)) ((1:Int)*2^i)]:List Int) ([((1:Int)*2^(Int.toNat n)) - (1:Int)]:List Int) o0∧[[.int .i64 (cF .andNot .i64 (((1:Int)*2^(Int.toNat n)) - (1:Int)) ((1:Int)*2^i))]]=([cF .andNot .i64 (((1:Int)*2^(Int.toNat n)) - (1:Int)) ((1:Int)*2^i)]:List Int).map intD∧[[.int .i64 (((1:Int)*2^(Int.toNat n)) - (1:Int))]]=([((1:Int)*2^(Int.toNat n)) - (1:Int)]:List Int).map intD∧(((1:Int)*2^(Int.toNat n)) - (1:Int))=(((1:Int)*2^(Int.toNat n)) - (1:Int))∧o0.map aA=o0.map aA∧cC ((i:Int)+(1:Int))∧ ∃(i' :Nat) (o0' :List (List Int)),((i:Int)+(1:Int))=(i' :Int)∧(o0++[iM (((1:Int)*2^(Int.toNat n)) - (1:Int)) ([cF .andNot .i64 (((1:Int)*2^(Int.toNat n)) - (1:Int)) ((1:Int)*2^i)]:List Int) ([((1:Int)*2^(Int.toNat n)) - (1:Int)]:List Int)]).map aA=o0'.map aA∧((i' :Int)≤n∧o0' =wE (iM (eA n)) (hdI n) (eA n) i' ∧o0'.length≤i')∧n.toNat - i' <n.toNat - i)∧((decide ((i:Int)<n))=false→(∃(i:Nat) (o1:List (List Int)),(0:Int)=(i:Int)∧o0.map aA=o1.map aA∧(i:Int)≤n∧o1=wE (iM (eA n)) (hdI n) (eA n) n.toNat++elI (iM (eA n)) (2^n.toNat) n.toNat i∧o1.length≤4+i*64)∧ ∀(i:Nat) (o1:List (List Int)),((i:Int)≤n∧o1=wE (iM (eA n)) (hdI n) (eA n) n.toNat++elI (iM (eA n)) (2^n.toNat) n.toNat i∧o1.length≤4+i*64)→((decide ((i:Int)<n))=true→cC ((i:Int)+(1:Int))∧((∃(j:Nat) (o2:List (List Int)),((i:Int)+(1:Int))=((i+1+j:Nat):Int)∧o1.map aA=o2.map aA∧((i+1+j:Nat):Int)≤n∧o2=wE (iM (eA n)) (hdI n) (eA n) n.toNat++elI (iM (eA n)) (2^n.toNat) n.toNat i++elJ (iM (eA n)) (2^n.toNat) i j∧o2.length≤4+i*64+j*16)∧ ∀(j:Nat) (o2:List (List Int)),(((i+1+j:Nat):Int)≤n∧o2=wE (iM (eA n)) (hdI n) (eA n) n.toNat++elI (iM (eA n)) (2^n.toNat) n.toNat i++elJ (iM (eA n)) (2^n.toNat) i j∧o2.length≤4+i*64+j*16)→((decide (((i+1+j:Nat):Int)<n))=true→(∃(s:Nat) (o3:List (List Int)),(0:Int)=(s:Int)∧o2.map aA=o3.map aA∧s≤2^n.toNat∧o3=wE (iM (eA n)) (hdI n) (eA n) n.toNat++elI (iM (eA n)) (2^n.toNat) n.toNat i++elJ (iM (eA n)) (2^n.toNat) i j++elS (iM (eA n)) i (i+1+j) s∧o3.length≤4+i*64+j*16+s)∧ ∀(s:Nat) (o3:List (List Int)),(s≤2^n.toNat∧o3=wE (iM (eA n)) (hdI n) (eA n) n.toNat++elI (iM (eA n)) (2^n.toNat) n.toNat i++elJ (iM (eA n)) (2^n.toNat) i j++elS (iM (eA n)) i (i+1+j) s∧o3.length≤4+i*64+j*16+s)→((decide ((s:Int)≤(((1:Int)*2^(Int.toNat n)) - (1:Int))))=true→(0≤(i:Int)∧(i:Int)≤64)∧(((decide ((cF .and .i64 ((s:Int)/2^i) (1:Int))=(0:Int)))=true→(0≤((i+1+j:Nat):Int)∧((i+1+j:Nat):Int)≤64)∧(((decide ((cF .and .i64 ((s:Int)/2^(i+1+j)) (1:Int))=(0:Int)))=true→(0≤(i:Int)∧(i:Int)≤64)∧cC ((1:Int)*2^i)∧(0≤((i+1+j:Nat):Int)∧((i+1+j:Nat):Int)≤64)∧cC ((1:Int)*2^(i+1+j))∧(0≤(i:Int)∧(i:Int)≤64)∧cC ((1:Int)*2^i)∧(0≤((i+1+j:Nat):Int)∧((i+1+j:Nat):Int)≤64)∧cC ((1:Int)*2^(i+1+j))∧zA (((1:Int)*2^(Int.toNat n)) - (1:Int)) ([(s:Int),cF .or .i64 (cF .or .i64 (s:Int) ((1:Int)*2^i)) ((1:Int)*2^(i+1+j))]:List Int) ([cF .or .i64 (s:Int) ((1:Int)*2^i),cF .or .i64 (s:Int) ((1:Int)*2^(i+1+j))]:List Int) o3∧[[.int .i64 (s:Int)],[.int .i64 (cF .or .i64 (cF .or .i64 (s:Int) ((1:Int)*2^i)) ((1:Int)*2^(i+1+j)))]]=([(s:Int),cF .or .i64 (cF .or .i64 (s:Int) ((1:Int)*2^i)) ((1:Int)*2^(i+1+j))]:List Int).map intD∧[[.int .i64 (cF .or .i64 (s:Int) ((1:Int)*2^i))],[.int .i64 (cF .or .i64 (s:Int) ((1:Int)*2^(i+1+j)))]]=([cF .or .i64 (s:Int) ((1:Int)*2^i),cF .or .i64 (s:Int) ((1:Int)*2^(i+1+j))]:List Int).map intD∧(((1:Int)*2^(Int.toNat n)) - (1:Int))=(((1:Int)*2^(Int.toNat n)) - (1:Int))∧o3.map aA=o3.map aA∧cC ((s:Int)+(1:Int))∧ ∃(s' :Nat) (o3' :List (List Int)),((s:Int)+(1:Int))=(s' :Int)∧(o3++[iM (((1:Int)*2^(Int.toNat n)) - (1:Int)) ([(s:Int),cF .or .i64 (cF .or .i64 (s:Int) ((1:Int)*2^i)) ((1:Int)*2^(i+1+j))]:List Int) ([cF .or .i64 (s:Int) ((1:Int)*2^i),cF .or .i64 (s:Int) ((1:Int)*2^(i+1+j))]:List Int)]).map aA=o3'.map aA∧(s' ≤2^n.toNat∧o3' =wE (iM (eA n)) (hdI n) (eA n) n.toNat++elI (iM (eA n)) (2^n.toNat) n.toNat i++elJ (iM (eA n)) (2^n.toNat) i j++elS (iM (eA n)) i (i+1+j) s' ∧o3'.length≤4+i*64+j*16+s')∧2^n.toNat - s' <2^n.toNat - s)∧((decide ((cF .and .i64 ((s:Int)/2^(i+1+j)) (1:Int))=(0:Int)))=false→cC ((s:Int)+(1:Int))∧ ∃(s' :Nat) (o3' :List (List Int)),((s:Int)+(1:Int))=(s' :Int)∧o3.map aA=o3'.map aA∧(s' ≤2^n.toNat∧o3' =wE (iM (eA n)) (hdI n) (eA n) n.toNat++elI (iM (eA n)) (2^n.toNat) n.toNat i++elJ (iM (eA n)) (2^n.toNat) i j++elS (iM (eA n)) i (i+1+j) s' ∧o3'.length≤4+i*64+j*16+s')∧2^n.toNat - s' <2^n.toNat - s)))∧((decide ((cF .and .i64 ((s:Int)/2^i) (1:Int))=(0:Int)))=false→cC ((s:Int)+(1:Int))∧ ∃(s' :Nat) (o3' :List (List Int)),((s:Int)+(1:Int))=(s' :Int)∧o3.map aA=o3'.map aA∧(s' ≤2^n.toNat∧o3' =wE (iM (eA n)) (hdI n) (eA n) n.toNat++elI (iM (eA n)) (2^n.toNat) n.toNat i++elJ (iM (eA n)) (2^n.toNat) i j++elS (iM (eA n)) i (i+1+j) s' ∧o3'.length≤4+i*64+j*16+s')∧2^n.toNat - s' <2^n.toNat - s)))∧((decide ((s:Int)≤(((1:Int)*2^(Int.toNat n)) - (1:Int))))=false→cC (((i+1+j:Nat):Int)+(1:Int))∧ ∃(j' :Nat) (o2' :List (List Int)),(((i+1+j:Nat):Int)+(1:Int))=((i+1+j' :Nat):Int)∧o3.map aA=o2'.map aA∧(((i+1+j' :Nat):Int)≤n∧o2' =wE (iM (eA n)) (hdI n) (eA n) n.toNat++elI (iM (eA n)) (2^n.toNat) n.toNat i++elJ (iM (eA n)) (2^n.toNat) i j' ∧o2'.length≤4+i*64+j' *16)∧n.toNat - (i+1+j')<n.toNat - (i+1+j)))∧((decide (((i+1+j:Nat):Int)<n))=false→cC ((i:Int)+(1:Int))∧ ∃(i' :Nat) (o1' :List (List Int)),((i:Int)+(1:Int))=(i' :Int)∧o2.map aA=o1'.map aA∧((i' :Int)≤n∧o1' =wE (iM (eA n)) (hdI n) (eA n) n.toNat++elI (iM (eA n)) (2^n.toNat) n.toNat i' ∧o1'.length≤4+i' *64)∧n.toNat - i' <n.toNat - i)))∧((decide ((i:Int)<n))=false→o1.map aA=(wF n).map aA∧True)))))))) (by kernel_rfl) ?_
 refine ⟨oD _ _ _,fun c0=>?_,fun c0=>?_⟩
 ·replace c0:=nq (nt c0)
  refine ⟨?_,trivial⟩
  ·first | (rw [wF,if_neg (by omega)]<;>rfl) | (rw [ho1,show i=n.toNat by omega,wF,if_pos (by omega)];rfl)
 ·replace c0:=yq (nf c0)
  obtain ⟨b1,b2,b3⟩:=aAU (n:=n) (by omega)
  have hal:eA n=(1:Int)*2^n.toNat - 1:=rfl
  refine ⟨⟨by omega,by omega⟩,by first | exact bK (by omega) | exact ⟨by omega,by omega⟩,by first | exact bK (by omega) | exact ⟨by omega,by omega⟩,⟨0,([]:List (List Int)),rfl,rfl,by omega,rfl,Nat.zero_le _⟩,fun i o0 ⟨hi,ho,hL⟩=>?_⟩
  refine ⟨fun c1=>?_,fun c1=>?_⟩
  ·replace c1:=yq c1
   have hh:=aUR (i:=i) (n:=n) (by omega) (by omega)
   have hw:=aN7 (n:=n) (i:=i) (by omega) (by omega)
   unfold hdI at hh
   refine ⟨⟨by omega,by omega⟩,by first | exact bK (by omega) | exact ⟨by omega,by omega⟩,aIy _ ([cF .andNot .i64 (((1:Int)*2^(Int.toNat n)) - (1:Int)) ((1:Int)*2^i)]:List Int) ([((1:Int)*2^(Int.toNat n)) - (1:Int)]:List Int) _ (by omega) (by first | exact aEi (by omega) | exact aEj (by omega) (by omega)) (by first | exact aEi (by omega) | exact aEj (by omega) (by omega)) (by omega) (by simp) (by simp),rfl,rfl,rfl,rfl,by first | exact bK (by omega) | exact ⟨by omega,by omega⟩,?_⟩
   exact ⟨i+1,_,rfl,rfl,⟨by omega,by rw [ho];rfl,by simp;omega⟩,by omega⟩
  ·replace c1:=nq c1
   refine ⟨⟨0,o0,rfl,rfl,by omega,by rw [ho,show i=n.toNat by omega];simp [elI],by omega⟩,fun i o1 ⟨hi1,ho1,hL1⟩=>?_⟩
   refine ⟨fun c2=>?_,fun c2=>?_⟩
   ·replace c2:=yq c2
    refine ⟨by first | exact bK (by omega) | exact ⟨by omega,by omega⟩,⟨0,o1,by first | rfl | omega,by first | rfl | omega,by omega,by rw [ho1];simp [elJ],by omega⟩,fun j o2 ⟨hj,ho2,hL2⟩=>?_⟩
    refine ⟨fun c3=>?_,fun c3=>?_⟩
    ·replace c3:=yq c3
     refine ⟨⟨0,o2,rfl,rfl,Nat.zero_le _,by rw [ho2];simp [elS],by omega⟩,fun s o3 ⟨hs,ho3,hL3⟩=>?_⟩
     refine ⟨fun c4=>?_,fun c4=>?_⟩
     ·replace c4:=yq c4
      refine ⟨⟨by omega,by omega⟩,fun g54=>?_,fun g54=>?_⟩
      ·replace g54:=yq g54
       refine ⟨⟨by omega,by omega⟩,fun c5=>?_,fun c5=>?_⟩
       ·replace c5:=yq c5
        obtain ⟨v1,v2⟩:=aJl (n:=n.toNat) (i:=i) (j:=i+1+j) (s:=s) (by omega) (by omega) (by omega) (by omega)
        obtain ⟨v3,v4⟩:=aJl (n:=n.toNat) (i:=i+1+j) (j:=i) (s:=s) (by omega) (by omega) (by omega) (by omega)
        refine ⟨⟨by omega,by omega⟩,by first | exact bK (by omega) | exact ⟨by omega,by omega⟩,⟨by omega,by omega⟩,by first | exact bK (by omega) | exact ⟨by omega,by omega⟩,⟨by omega,by omega⟩,by first | exact bK (by omega) | exact ⟨by omega,by omega⟩,⟨by omega,by omega⟩,by first | exact bK (by omega) | exact ⟨by omega,by omega⟩,aIy _ ([(s:Int),cF .or .i64 (cF .or .i64 (s:Int) ((1:Int)*2^i)) ((1:Int)*2^(i+1+j))]:List Int) ([cF .or .i64 (s:Int) ((1:Int)*2^i),cF .or .i64 (s:Int) ((1:Int)*2^(i+1+j))]:List Int) _ (by omega) (by first | exact aEi (by omega) | exact aEj (by omega) (by omega)) (by first | exact aEi (by omega) | exact aEj (by omega) (by omega)) (by omega) (by simp) (by simp),rfl,rfl,rfl,rfl,by first | exact bK (by omega) | exact ⟨by omega,by omega⟩,?_⟩
        exact ⟨s+1,_,rfl,rfl,⟨by omega,by first | (rw [ho3,elS,if_pos ⟨decide_eq_true g54,decide_eq_true c5⟩];simp only [List.append_assoc];done) | (rw [ho3,elS,if_neg (by rintro ⟨q1,q2⟩;simp only [aEO,decide_eq_true_eq] at q1 q2;contradiction),List.append_nil]),by first | omega | (simp;omega)⟩,by omega⟩
       ·replace c5:=nq c5
        refine ⟨by first | exact bK (by omega) | exact ⟨by omega,by omega⟩,?_⟩
        exact ⟨s+1,_,rfl,rfl,⟨by omega,by first | (rw [ho3,elS,if_pos ⟨decide_eq_true g54,decide_eq_true c5⟩];simp only [List.append_assoc];done) | (rw [ho3,elS,if_neg (by rintro ⟨q1,q2⟩;simp only [aEO,decide_eq_true_eq] at q1 q2;contradiction),List.append_nil]),by first | omega | (simp;omega)⟩,by omega⟩
      ·replace g54:=nq g54
       refine ⟨by first | exact bK (by omega) | exact ⟨by omega,by omega⟩,?_⟩
       exact ⟨s+1,_,rfl,rfl,⟨by omega,by first | (rw [ho3,elS,if_pos ⟨decide_eq_true g54,decide_eq_true c5⟩];simp only [List.append_assoc];done) | (rw [ho3,elS,if_neg (by rintro ⟨q1,q2⟩;simp only [aEO,decide_eq_true_eq] at q1 q2;contradiction),List.append_nil]),by first | omega | (simp;omega)⟩,by omega⟩
     ·replace c4:=nq c4
      refine ⟨by first | exact bK (by omega) | exact ⟨by omega,by omega⟩,?_⟩
      exact ⟨j+1,_,by first | rfl | omega,by first | rfl | omega,⟨by omega,by rw [ho3,show s=2^n.toNat by omega,elJ,←List.append_assoc],by omega⟩,by omega⟩
    ·replace c3:=nq c3
     refine ⟨by first | exact bK (by omega) | exact ⟨by omega,by omega⟩,?_⟩
     exact ⟨i+1,_,rfl,rfl,⟨by omega,by rw [ho2,show j=n.toNat - (i+1) by omega,elI,List.append_assoc],by omega⟩,by omega⟩
   ·replace c2:=nq c2
    refine ⟨?_,trivial⟩
    ·first | (rw [wF,if_neg (by omega)]<;>rfl) | (rw [ho1,show i=n.toNat by omega,wF,if_pos (by omega)];rfl)
theorem aGv (n:Int):cX (wF n)≤1000:=by
 by_cases h:1≤n∧n≤4
 ·have:n=1∨n=2∨n=3∨n=4:=by omega
  rcases this with rfl | rfl | rfl | rfl<;>decide+kernel
 ·rw [wF,if_neg h];decide
def okC (n:Int) (c:aD):Bool:=decide (1≤c.dst∧c.dst≤(1:Int)*2^n.toNat - 1)&&(decide (0≤c.src)&&(decide (cF .and .i64 c.src c.dst=c.src)&&decide (¬c.src=c.dst)))
theorem aR2 {n:Int} {c:aD} (h:okC n c=true):(1≤c.dst∧c.dst≤(1:Int)*2^n.toNat - 1)∧0≤c.src∧cF .and .i64 c.src c.dst=c.src∧ ¬c.src=c.dst:=by
 simpa only [okC,Bool.and_eq_true,decide_eq_true_eq] using h
theorem aMd {n:Int} {c:aD} (h:(1≤c.dst∧c.dst≤(1:Int)*2^n.toNat - 1)∧0≤c.src∧cF .and .i64 c.src c.dst=c.src∧ ¬c.src=c.dst):okC n c=true:=by
 simpa only [okC,Bool.and_eq_true,decide_eq_true_eq] using h
theorem vR {n:Int} {c:aD} (h: ¬((1≤c.dst∧c.dst≤(1:Int)*2^n.toNat - 1)∧0≤c.src∧cF .and .i64 c.src c.dst=c.src∧ ¬c.src=c.dst)):okC n c=false:=by
 cases e:okC n c with
 | false=>rfl
 | true=>exact absurd (aR2 e) h
theorem aBV {a c:Int} (h0:0≤a) (hc:0≤c) (ha:a≤9223372036854775807) (hc2:c≤9223372036854775807):cF .and .i64 a c≤c:=by
 obtain ⟨m,rfl⟩:=Int.eq_ofNat_of_zero_le h0
 obtain ⟨k,rfl⟩:=Int.eq_ofNat_of_zero_le hc
 have e1:(BitVec.ofInt 64 (m:Int)).toNat=m:=by simp;omega
 have e2:(BitVec.ofInt 64 (k:Int)).toNat=k:=by simp;omega
 have hle:m&&&k≤k:=Nat.and_le_right
 unfold cF
 show IntKind.i64.wrap ((BitVec.ofInt 64 (m:Int)&&&BitVec.ofInt 64 (k:Int)).toNat:Nat)≤_
 rw [BitVec.toNat_and,e1,e2,IntWalk.i64_in _ ⟨by omega,by omega⟩]
 omega
def oE (n:Int) (c:aD):List Int:=fF (eA n) [c.dst] [c.src]
def cB (n:Int) (l:List aD):cM:=⟨fF (eA n) [eA n] [],dX n++l.map (oE n),List.replicate (dX n).length 0++l.map (·.bits)⟩
def eI (l:List aD) (n:Int):cM × Bool:=if (1≤n∧n≤4)∧l.all (okC n)=true∧dD (cB n l)=true then (cB n l,true) else (nW,false)
theorem aL4 {l:List aD} {n:Int} (h1:1≤n∧n≤4) (h2:l.all (okC n)=true) (h3:dD (cB n l)=true):eI l n=(cB n l,true):=by rw [eI,if_pos ⟨h1,h2,h3⟩]
theorem dA {l:List aD} {n:Int} (h1: ¬(1≤n∧n≤4)):eI l n=(nW,false):=by rw [eI,if_neg (fun h=>h1 h.1)]
theorem dB {l:List aD} {n:Int} {k:Nat} {c:aD} (h:l[k]? =some c) (hc:okC n c=false):eI l n=(nW,false):=by
 rw [eI,if_neg (fun q=>by have:=bU h hc;rw [q.2.1] at this;cases this)]
theorem aMe {l:List aD} {n:Int} (h:dD (cB n l)=false):eI l n=(nW,false):=by
 rw [eI,if_neg (fun q=>by rw [q.2.2] at h;cases h)]
theorem bG {l:List aD} {n:Int} (h:64<l.length):eI l n=(nW,false):=aMe (fD (fun q=>by
 have:(cB n l).rows.length=(dX n).length+l.length:=by simp [cB]
 omega))
theorem aR3 (al:Int) (p m:List Int):(fF al p m).length=al.toNat:=by
 have h: ∀(v:Int) (q:List Int) (r:List Int),(q.foldl (oG v) r).length=r.length:=by
  intro v q
  induction q with
  | nil=>intro r;rfl
  | cons s q ih=>
    intro r
    rw [List.foldl_cons,ih]
    unfold oG
    split
    ·simp
    ·rfl
 rw [fF,h,h,List.length_replicate]
theorem aGw {n:Int} {c:aD} (hd:0<c.dst) (hs:0<c.src):oE n c=((List.replicate (eA n).toNat (0:Int)).set (c.dst - 1).toNat 1).set (c.src - 1).toNat (-1):=by
 show oG (-1) (oG 1 _ c.dst) c.src=_
 rw [qC hd,qC hs]
theorem aGx {n:Int} {c:aD} (hd:0<c.dst) (hs: ¬0<c.src):oE n c=(List.replicate (eA n).toNat (0:Int)).set (c.dst - 1).toNat 1:=by
 show oG (-1) (oG 1 _ c.dst) c.src=_
 rw [qC hd,aCa hs]
theorem fA {n:Int} (h:0<eA n):fF (eA n) [eA n] []=(List.replicate (eA n).toNat (0:Int)).set (eA n - 1).toNat 1:=by
 show oG 1 _ (eA n)=_
 rw [qC h]
theorem aIz (n:Int):(dX n).length≤1000:=by
 have h:=aGv n
 have h2:=gG (wF n)
 rw [←aJk];omega
theorem aES {α:Type} {ct:α→Nat} {m:Nat}: ∀{l:List α},(∀x∈l,ct x≤m)→fZ ct l≤l.length*m
 | [],_=>by simp [fZ]
 | a::l,h=>by
   have h1:=h a (by simp)
   have h2:=aES (l:=l) fun x hx=>h x (by simp [hx])
   simp only [fZ,List.map_cons,List.sum_cons,List.length_cons,Nat.add_mul,Nat.one_mul] at*
   omega
theorem aJm {p:cM} (h:dD p=true):xT p≤2000:=by
 obtain ⟨h1,h2,h3,h4,h5⟩:=aBU h
 have hs:fZ cG p.rows≤p.rows.length*15:=aES fun r hr=>by
  have:=(h4 r (by simp [hr])).1
  have e:cG r=r.length:=rfl
  omega
 have e1:xT p=cG p.objective+cX p.rows+cG p.limits:=rfl
 have e2:cG p.objective=p.objective.length:=rfl
 have e3:cG p.limits=p.limits.length:=rfl
 have e4:cX p.rows=p.rows.length+fZ cG p.rows:=rfl
 omega
theorem aMf (l:List aD) (n:Int):xT (eI l n).1≤2000:=by
 unfold eI
 split
 ·rename_i h;exact aJm h.2.2
 ·decide
theorem aR4 {n:Int} {l:List aD} (hn:1≤n∧n≤4): ∀r∈dX n++l.map (oE n),r.length≤1048576:=by
 intro r hr
 rcases List.mem_append.1 hr with h | h
 ·have h1:=aGv n
  rw [aJk] at h1
  obtain ⟨k,hk⟩:=List.getElem?_of_mem h
  have h2:=nC hk
  have e:cG r=r.length:=rfl
  omega
 ·obtain ⟨c,_,rfl⟩:=List.mem_map.1 h
  rw [oE,aR3]
  obtain ⟨b1,b2,b3⟩:=aAU hn
  have hal:eA n=(1:Int)*2^n.toNat - 1:=rfl
  omega
end Go.Proofs.YtdfebigfnjfgpaaGreat
