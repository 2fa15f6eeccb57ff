/-
  Contracts and plain laws, joined: part 18.
-/
import Derived.Test.YtdfebigfnjfgpaaGreatQP15
import Derived.Test.YtdfebigfnjfgpaaGreatQP16
import Derived.Test.YtdfebigfnjfgpaaGreatQP3
namespace Go.Proofs.YtdfebigfnjfgpaaGreat
open Go.ChangeShapes Go.WideShapes Go.ChangeAt Go.RowKit
set_option linter.unusedVariables false
set_option linter.unusedSimpArgs false
set_option maxRecDepth 100000
set_option maxHeartbeats 4000000
def aBC (x:Int):Bool:=decide (-9≤x∧x≤9)
def xN (x:Int):Bool:=decide (0≤x∧x≤99)
def jK (n:Int) (r:List Int):Bool:=r.all aBC&&decide ((r.length:Int)=n)
def eM (p:eD):Bool:=decide (1≤(p.objective.length:Int)∧(p.objective.length:Int)≤15)&&(decide ((p.rows.length:Int)≤64)&&(decide ((p.limits.length:Int)=p.rows.length)&&((p.rows++[p.objective]).all (jK p.objective.length)&&p.limits.all xN)))
theorem eW {p:eD} (h: ¬((1≤(p.objective.length:Int)∧(p.objective.length:Int)≤15)∧(p.rows.length:Int)≤64∧(p.limits.length:Int)=p.rows.length)):eM p=false:=by
 cases e:eM p with
 | false=>rfl
 | true=>
   simp only [eM,Bool.and_eq_true,decide_eq_true_eq] at e
   exact absurd ⟨e.1,e.2.1,e.2.2.1⟩ h
theorem aMP {p:eD} (h:(p.rows++[p.objective]).all (jK p.objective.length)=false):eM p=false:=by simp only [eM,h,Bool.false_and,Bool.and_false]
theorem fT {p:eD} {k:Nat} {r:List Int} (h:(p.rows++[p.objective])[k]? =some r) (hr:jK p.objective.length r=false):eM p=false:=aMP (bU h hr)
theorem eX {p:eD} {k:Nat} {r:List Int} (h:p.rows[k]? =some r) (hr:jK p.objective.length r=false):eM p=false:=by
 refine fT (k:=k) (r:=r) ?_ hr
 rw [List.getElem?_append_left (List.getElem?_eq_some_iff.1 h).1];exact h
theorem mA {p:eD} (hr:jK p.objective.length p.objective=false):eM p=false:=fT (k:=p.rows.length) (r:=p.objective) (by simp) hr
theorem gC {p:eD} {k:Nat} {x:Int} (h:p.limits[k]? =some x) (hx:xN x=false):eM p=false:=by
 simp only [eM,bU h hx,Bool.and_false]
theorem gY {p:eD} (h:(1≤(p.objective.length:Int)∧(p.objective.length:Int)≤15)∧(p.rows.length:Int)≤64∧(p.limits.length:Int)=p.rows.length) (h1:(p.rows++[p.objective]).all (jK p.objective.length)=true) (h2:p.limits.all xN=true):eM p=true:=by
 simp only [eM,h1,h2,Bool.and_true,Bool.and_eq_true,decide_eq_true_eq];exact h
theorem fI {n:Int} {r:List Int} {k:Nat} {x:Int} (h:r[k]? =some x) (hx:aBC x=false):jK n r=false:=by simp only [jK,bU h hx,Bool.false_and]
theorem gZ {n:Int} {r:List Int} (h: ¬(r.length:Int)=n):jK n r=false:=by simp only [jK,decide_eq_false h,Bool.and_false]
theorem aH8 {n:Int} {r:List Int} (h:r.all aBC=true) (hl:(r.length:Int)=n):jK n r=true:=by simp only [jK,h,decide_eq_true hl,Bool.and_true]
theorem aNY {p:eD} (h:eM p=true):(1≤p.objective.length∧p.objective.length≤15)∧p.rows.length≤64∧p.limits.length=p.rows.length∧(∀r∈p.rows++[p.objective],r.length=p.objective.length∧ ∀x∈r,-9≤x∧x≤9)∧ ∀x∈p.limits,0≤x∧x≤99:=by
 simp only [eM,Bool.and_eq_true,decide_eq_true_eq,List.all_eq_true] at h
 obtain ⟨h1,h2,h3,h4,h5⟩:=h
 refine ⟨by omega,by omega,by omega,fun r hr=>?_,fun x hx=>?_⟩
 ·have:=h4 r hr
  simp only [jK,Bool.and_eq_true,decide_eq_true_eq,List.all_eq_true] at this
  refine ⟨by omega,fun x hx=>?_⟩
  have:=this.1 x hx
  simpa [aBC] using this
 ·have:=h5 x hx
  simpa [xN] using this
theorem aTc {p:eD} (hp: ∀r∈p.rows,r.length≤1048576) (ho:p.objective.length≤1048576) {k:Nat} {r:List Int} (h:((([]:List (List Int))++p.rows)++[p.objective])[k]? =some r):r.length≤1048576:=by
 have:=List.mem_of_getElem? h
 simp only [List.nil_append,List.mem_append,List.mem_singleton] at this
 rcases this with h | rfl
 ·exact hp _ h
 ·exact ho
abbrev aEr (p:eD):Prop:=cX Tryz.prog 98 [.agg [.sl 3 1 (p.objective.map intD),.sl 39 1 (p.rows.map aC),.sl 3 1 (p.limits.map intD)]] (vB (eM p)) []
theorem aPn (p:eD) (hp: ∀r∈p.rows,r.length≤1048576):aEr p:=by
 refine aX bG aR Tryz.func98 (by kernel_rfl) (.len p.objective.length<| .call (vB (decide ((1:Int)≤((p.objective.length:Nat):Int)∧((p.objective.length:Nat):Int)≤(15:Int)))) []<| .br (.fin []) (.len p.rows.length<| .lit<| .lit<| .br (.fin []) (.len p.limits.length<| .len p.rows.length<| .lit<| .lit<| .br (.fin []) (.appr (List Int) aC ([]:List (List Int)) p.rows<| .appr (List Int) aC (([]:List (List Int))++p.rows) ([p.objective]:List (List Int))<| .len (((([]:List (List Int))++p.rows)++[p.objective]).length)<| .loop Nat (Q1 Nat) [5,7,40,41,42,43,44,45,46,47,48,49,50,51,52,53,54,55,56,57,58] [] (fun k=>[(40,vI (k:Int))]) (fun k=>[]) (fun k=>k≤((([]:List (List Int))++p.rows)++[p.objective]).length∧(((([]:List (List Int))++p.rows)++[p.objective]).take k).all (jK p.objective.length)=true) (fun k=>((([]:List (List Int))++p.rows)++[p.objective]).length - k) (fun k=> .br (.len (((([]:List (List Int))++p.rows)++[p.objective]).length)<| .elem _ aC ((([]:List (List Int))++p.rows)++[p.objective]) (fun e43=> .len e43.length<| .loop Nat (Q1 Nat) [7,46,47,48,49,50,51,52,53] [] (fun j=>[(46,vI (j:Int))]) (fun j=>[]) (fun j=>j≤e43.length∧(e43.take j).all aBC=true) (fun j=>e43.length - j) (fun j=> .br (.elem _ intD e43 (fun e48=> .call (vB (decide ((-9:Int)≤e48∧e48≤(9:Int)))) []<| .br (.fin []) (.back []))) (.len e43.length<| .br (.fin []) (.back []))))) (.len p.limits.length<| .loop Nat (Q1 Nat) [9,62,63,64,65,66,67,68,69] [] (fun i=>[(62,vI (i:Int))]) (fun i=>[]) (fun i=>i≤p.limits.length∧(p.limits.take i).all xN=true) (fun i=>p.limits.length - i) (fun i=> .br (.elem _ intD p.limits (fun e64=> .call (vB (decide ((0:Int)≤e64∧e64≤(99:Int)))) []<| .br (.fin []) (.back []))) (.fin [])))))))) (p:=(p.objective.map intD).length≤9223372036854775807→(p.rows.map aC).length≤9223372036854775807→(p.limits.map intD).length≤9223372036854775807→Lm intD p.objective∧(kE ((p.objective.length:Nat):Int) (1:Int) (15:Int)∧(((!(decide ((1:Int)≤((p.objective.length:Nat):Int)∧((p.objective.length:Nat):Int)≤(15:Int))))=true→(false)=(eM p)∧True)∧((!(decide ((1:Int)≤((p.objective.length:Nat):Int)∧((p.objective.length:Nat):Int)≤(15:Int))))=false→Lm aC p.rows∧(((decide ((64:Int)<((p.rows.length:Nat):Int)))=true→(false)=(eM p)∧True)∧((decide ((64:Int)<((p.rows.length:Nat):Int)))=false→Lm intD p.limits∧(Lm aC p.rows∧(((!(decide (((p.limits.length:Nat):Int)=((p.rows.length:Nat):Int))))=true→(false)=(eM p)∧True)∧((!(decide (((p.limits.length:Nat):Int)=((p.rows.length:Nat):Int))))=false→[]=([]:List (List Int)).map aC∧p.rows.map aC=p.rows.map aC∧(([]:List (List Int)).length+p.rows.length)*24≤140737488355328∧((([]:List (List Int))++p.rows).map aC=(([]:List (List Int))++p.rows).map aC∧[[.sl 3 1 (p.objective.map intD)]]=([p.objective]:List (List Int)).map aC∧((([]:List (List Int))++p.rows).length+([p.objective]:List (List Int)).length)*24≤140737488355328∧(Lm aC ((([]:List (List Int))++p.rows)++[p.objective])∧((∃(k:Nat),(0:Int)=(k:Int)∧k≤((([]:List (List Int))++p.rows)++[p.objective]).length∧(((([]:List (List Int))++p.rows)++[p.objective]).take k).all (jK p.objective.length)=true)∧ ∀(k:Nat),(k≤((([]:List (List Int))++p.rows)++[p.objective]).length∧(((([]:List (List Int))++p.rows)++[p.objective]).take k).all (jK p.objective.length)=true)→((decide ((k:Int)<((((([]:List (List Int))++p.rows)++[p.objective]).length:Nat):Int)))=true→0≤(k:Int)∧Lm aC ((([]:List (List Int))++p.rows)++[p.objective])∧(k:Int)<((((([]:List (List Int))++p.rows)++[p.objective]).length:Nat):Int)∧Em aC ((([]:List (List Int))++p.rows)++[p.objective]) k fun e43=>Lm intD e43∧((∃(j:Nat),(0:Int)=(j:Int)∧j≤e43.length∧(e43.take j).all aBC=true)∧ ∀(j:Nat),(j≤e43.length∧(e43.take j).all aBC=true)→((decide ((j:Int)<((e43.length:Nat):Int)))=true→0≤(j:Int)∧Em intD e43 j fun e48=>kE e48 (-9:Int) (9:Int)∧(((!(decide ((-9:Int)≤e48∧e48≤(9:Int))))=true→(false)=(eM p)∧True)∧((!(decide ((-9:Int)≤e48∧e48≤(9:Int))))=false→cC ((j:Int)+(1:Int))∧ ∃(j' :Nat),((j:Int)+(1:Int))=(j' :Int)∧(j' ≤e43.length∧(e43.take j').all aBC=true)∧e43.length - j' <e43.length - j)))∧((decide ((j:Int)<((e43.length:Nat):Int)))=false→Lm intD e43∧(((!(decide (((e43.length:Nat):Int)=((p.objective.length:Nat):Int))))=true→(false)=(eM p)∧True)∧((!(decide (((e43.length:Nat):Int)=((p.objective.length:Nat):Int))))=false→cC ((k:Int)+(1:Int))∧ ∃(k' :Nat),((k:Int)+(1:Int))=(k' :Int)∧(k' ≤((([]:List (List Int))++p.rows)++[p.objective]).length∧(((([]:List (List Int))++p.rows)++[p.objective]).take k').all (jK p.objective.length)=true)∧((([]:List (List Int))++p.rows)++[p.objective]).length - k' <((([]:List (List Int))++p.rows)++[p.objective]).length - k)))))∧((decide ((k:Int)<((((([]:List (List Int))++p.rows)++[p.objective]).length:Nat):Int)))=false→Lm intD p.limits∧((∃(i:Nat),(0:Int)=(i:Int)∧i≤p.limits.length∧(p.limits.take i).all xN=true)∧ ∀(i:Nat),(i≤p.limits.length∧(p.limits.take i).all xN=true)→((decide ((i:Int)<((p.limits.length:Nat):Int)))=true→0≤(i:Int)∧Em intD p.limits i fun e64=>kE e64 (0:Int) (99:Int)∧(((!(decide ((0:Int)≤e64∧e64≤(99:Int))))=true→(false)=(eM p)∧True)∧((!(decide ((0:Int)≤e64∧e64≤(99:Int))))=false→cC ((i:Int)+(1:Int))∧ ∃(i' :Nat),((i:Int)+(1:Int))=(i' :Int)∧(i' ≤p.limits.length∧(p.limits.take i').all xN=true)∧p.limits.length - i' <p.limits.length - i)))∧((decide ((i:Int)<((p.limits.length:Nat):Int)))=false→(true)=(eM p)∧True))))))))))))))) (by kernel_rfl) ?_
 intro n0 n1 n2
 simp only [List.length_map] at n0 n1 n2
 refine ⟨List.length_map _,oI _ _ _,fun g16=>?_,fun g16=>?_⟩
 ·replace g16:=nq (nt g16)
  refine ⟨?_,trivial⟩
  ·first | (exact (eW (by omega)).symm) | (exact (fT h43 (fI h48 (decide_eq_false c3))).symm) | (exact (fT h43 (gZ c4)).symm) | (exact (gC h64 (decide_eq_false c6)).symm) | (exact (gY (by omega) hrows (bE (by omega) hc)).symm)
 ·replace g16:=yq (nf g16)
  refine ⟨List.length_map _,fun g22=>?_,fun g22=>?_⟩
  ·replace g22:=yq g22
   refine ⟨?_,trivial⟩
   ·first | (exact (eW (by omega)).symm) | (exact (fT h43 (fI h48 (decide_eq_false c3))).symm) | (exact (fT h43 (gZ c4)).symm) | (exact (gC h64 (decide_eq_false c6)).symm) | (exact (gY (by omega) hrows (bE (by omega) hc)).symm)
  ·replace g22:=nq g22
   refine ⟨List.length_map _,List.length_map _,fun c0=>?_,fun c0=>?_⟩
   ·replace c0:=nq (nt c0)
    refine ⟨?_,trivial⟩
    ·first | (exact (eW (by omega)).symm) | (exact (fT h43 (fI h48 (decide_eq_false c3))).symm) | (exact (fT h43 (gZ c4)).symm) | (exact (gC h64 (decide_eq_false c6)).symm) | (exact (gY (by omega) hrows (bE (by omega) hc)).symm)
   ·replace c0:=yq (nf c0)
    refine ⟨rfl,rfl,by simp;omega,rfl,rfl,by simp;omega,List.length_map _,⟨0,rfl,Nat.zero_le _,rfl⟩,fun k ⟨hk,ha⟩=>?_⟩
    refine ⟨fun c1=>?_,fun c1=>?_⟩
    ·replace c1:=yq c1
     have hLk:k<65:=by simp at c1;omega
     refine ⟨by omega,List.length_map _,by first | omega | (simp at*;omega),rfl,by first | omega | (simp at*;omega),fun e43 h43=>?_⟩
     have he43:=aTc hp (by omega) h43
     refine ⟨List.length_map _,⟨0,rfl,Nat.zero_le _,rfl⟩,fun j ⟨hj,hb⟩=>?_⟩
     refine ⟨fun c2=>?_,fun c2=>?_⟩
     ·replace c2:=yq c2
      refine ⟨by omega,rfl,by first | omega | (simp at*;omega),fun e48 h48=>?_⟩
      refine ⟨oI _ _ _,fun c3=>?_,fun c3=>?_⟩
      ·replace c3:=nq (nt c3)
       refine ⟨?_,trivial⟩
       ·first | (exact (eW (by omega)).symm) | (exact (fT h43 (fI h48 (decide_eq_false c3))).symm) | (exact (fT h43 (gZ c4)).symm) | (exact (gC h64 (decide_eq_false c6)).symm) | (exact (gY (by omega) hrows (bE (by omega) hc)).symm)
      ·replace c3:=yq (nf c3)
       refine ⟨⟨by omega,by omega⟩,?_⟩
       exact ⟨j+1,rfl,⟨by omega,cS h48 hb (decide_eq_true c3)⟩,by omega⟩
     ·replace c2:=nq c2
      refine ⟨List.length_map _,fun c4=>?_,fun c4=>?_⟩
      ·replace c4:=nq (nt c4)
       refine ⟨?_,trivial⟩
       ·first | (exact (eW (by omega)).symm) | (exact (fT h43 (fI h48 (decide_eq_false c3))).symm) | (exact (fT h43 (gZ c4)).symm) | (exact (gC h64 (decide_eq_false c6)).symm) | (exact (gY (by omega) hrows (bE (by omega) hc)).symm)
      ·replace c4:=yq (nf c4)
       refine ⟨⟨by omega,by omega⟩,?_⟩
       exact ⟨k+1,rfl,⟨by omega,cS h43 ha (aH8 (bE (by omega) hb) (by omega))⟩,by omega⟩
    ·replace c1:=nq c1
     have hrows:=bE (by omega) ha
     refine ⟨List.length_map _,⟨0,rfl,Nat.zero_le _,rfl⟩,fun i ⟨hi,hc⟩=>?_⟩
     refine ⟨fun c5=>?_,fun c5=>?_⟩
     ·replace c5:=yq c5
      refine ⟨by omega,rfl,by first | omega | (simp at*;omega),fun e64 h64=>?_⟩
      refine ⟨oI _ _ _,fun c6=>?_,fun c6=>?_⟩
      ·replace c6:=nq (nt c6)
       refine ⟨?_,trivial⟩
       ·first | (exact (eW (by omega)).symm) | (exact (fT h43 (fI h48 (decide_eq_false c3))).symm) | (exact (fT h43 (gZ c4)).symm) | (exact (gC h64 (decide_eq_false c6)).symm) | (exact (gY (by omega) hrows (bE (by omega) hc)).symm)
      ·replace c6:=yq (nf c6)
       refine ⟨⟨by omega,by omega⟩,?_⟩
       exact ⟨i+1,rfl,⟨by omega,cS h64 hc (decide_eq_true c6)⟩,by omega⟩
     ·replace c5:=nq c5
      refine ⟨?_,trivial⟩
      ·first | (exact (eW (by omega)).symm) | (exact (fT h43 (fI h48 (decide_eq_false c3))).symm) | (exact (fT h43 (gZ c4)).symm) | (exact (gC h64 (decide_eq_false c6)).symm) | (exact (gY (by omega) hrows (bE (by omega) hc)).symm)
abbrev aEs (p:eD):Prop:=cX Tryz.prog 91 [.agg [.sl 3 1 (p.objective.map intD),.sl 39 1 (p.rows.map aC),.sl 3 1 (p.limits.map intD)]] (vB (eM p)) []
theorem aPo (p:eD):aEs p:=by
 refine aX bG aR Tryz.func91 (by kernel_rfl) (.len p.objective.length<| .call (vB (decide ((1:Int)≤((p.objective.length:Nat):Int)∧((p.objective.length:Nat):Int)≤(15:Int)))) []<| .br (.fin []) (.len p.rows.length<| .lit<| .lit<| .br (.fin []) (.len p.rows.length<| .len p.limits.length<| .lit<| .lit<| .br (.fin []) (.loop Nat (Q1 Nat) [4,28,29,30,31,32,33,34,35,36,37,38,39] [] (fun k=>[(4,vI (k:Int))]) (fun k=>[]) (fun k=>k≤p.objective.length∧(p.objective.take k).all aBC=true) (fun k=>p.objective.length - k) (fun k=> .br (.elem _ intD p.objective (fun e36=> .call (vB (decide ((-9:Int)≤e36∧e36≤(9:Int)))) []<| .br (.fin []) (.back []))) (.loop Nat (Q1 Nat) [5,6,40,41,42,43,44,45,46,47,48,49,50,51,52,53,54,55,56,57,58,59,60,61,62,63,64,65,66,67,68,69,70,71,72,73,74,75,76,77,78] [] (fun i=>[(5,vI (i:Int))]) (fun i=>[]) (fun i=>i≤p.rows.length∧(p.rows.take i).all (jK p.objective.length)=true∧(p.limits.take i).all xN=true) (fun i=>p.rows.length - i) (fun i=> .len p.rows.length<| .br (.elem _ aC p.rows (fun e50=> .len e50.length<| .br (.fin []) (.elem _ intD p.limits (fun e59=> .call (vB (decide ((0:Int)≤e59∧e59≤(99:Int)))) []<| .lit<| .lit<| .br (.fin []) (.loop Nat (Q1 Nat) [6,64,65,66,67,68,69,70,71,72,73,74,75,76,77,78] [] (fun j=>[(6,vI (j:Int))]) (fun j=>[]) (fun j=>j≤p.objective.length∧(e50.take j).all aBC=true) (fun j=>p.objective.length - j) (fun j=> .br (.elem _ aC p.rows (fun e72=> .elem _ intD e72 (fun e75=> .call (vB (decide ((-9:Int)≤e75∧e75≤(9:Int)))) []<| .br (.fin []) (.back [])))) (.back []))))))) (.fin [])))))))) (p:=(p.objective.map intD).length≤9223372036854775807→(p.rows.map aC).length≤9223372036854775807→(p.limits.map intD).length≤9223372036854775807→Lm intD p.objective∧(iH ((p.objective.length:Nat):Int) (1:Int) (15:Int)∧(((!(decide ((1:Int)≤((p.objective.length:Nat):Int)∧((p.objective.length:Nat):Int)≤(15:Int))))=true→(false)=(eM p)∧True)∧((!(decide ((1:Int)≤((p.objective.length:Nat):Int)∧((p.objective.length:Nat):Int)≤(15:Int))))=false→Lm aC p.rows∧(((decide ((64:Int)<((p.rows.length:Nat):Int)))=true→(false)=(eM p)∧True)∧((decide ((64:Int)<((p.rows.length:Nat):Int)))=false→Lm aC p.rows∧(Lm intD p.limits∧(((!(decide (((p.rows.length:Nat):Int)=((p.limits.length:Nat):Int))))=true→(false)=(eM p)∧True)∧((!(decide (((p.rows.length:Nat):Int)=((p.limits.length:Nat):Int))))=false→(∃(k:Nat),(0:Int)=(k:Int)∧k≤p.objective.length∧(p.objective.take k).all aBC=true)∧ ∀(k:Nat),(k≤p.objective.length∧(p.objective.take k).all aBC=true)→((decide ((k:Int)<((p.objective.length:Nat):Int)))=true→0≤(k:Int)∧Em intD p.objective k fun e36=>iH e36 (-9:Int) (9:Int)∧(((!(decide ((-9:Int)≤e36∧e36≤(9:Int))))=true→(false)=(eM p)∧True)∧((!(decide ((-9:Int)≤e36∧e36≤(9:Int))))=false→cC ((k:Int)+(1:Int))∧ ∃(k' :Nat),((k:Int)+(1:Int))=(k' :Int)∧(k' ≤p.objective.length∧(p.objective.take k').all aBC=true)∧p.objective.length - k' <p.objective.length - k)))∧((decide ((k:Int)<((p.objective.length:Nat):Int)))=false→(∃(i:Nat),(0:Int)=(i:Int)∧i≤p.rows.length∧(p.rows.take i).all (jK p.objective.length)=true∧(p.limits.take i).all xN=true)∧ ∀(i:Nat),(i≤p.rows.length∧(p.rows.take i).all (jK p.objective.length)=true∧(p.limits.take i).all xN=true)→Lm aC p.rows∧(((decide ((i:Int)<((p.rows.length:Nat):Int)))=true→0≤(i:Int)∧Em aC p.rows i fun e50=>Lm intD e50∧(((!(decide (((e50.length:Nat):Int)=((p.objective.length:Nat):Int))))=true→(false)=(eM p)∧True)∧((!(decide (((e50.length:Nat):Int)=((p.objective.length:Nat):Int))))=false→0≤(i:Int)∧Em intD p.limits i fun e59=>iH e59 (0:Int) (99:Int)∧(((!(decide ((0:Int)≤e59∧e59≤(99:Int))))=true→(false)=(eM p)∧True)∧((!(decide ((0:Int)≤e59∧e59≤(99:Int))))=false→(∃(j:Nat),(0:Int)=(j:Int)∧j≤p.objective.length∧(e50.take j).all aBC=true)∧ ∀(j:Nat),(j≤p.objective.length∧(e50.take j).all aBC=true)→((decide ((j:Int)<((p.objective.length:Nat):Int)))=true→0≤(i:Int)∧Em aC p.rows i fun e72=>0≤(j:Int)∧Em intD e72 j fun e75=>iH e75 (-9:Int) (9:Int)∧(((!(decide ((-9:Int)≤e75∧e75≤(9:Int))))=true→(false)=(eM p)∧True)∧((!(decide ((-9:Int)≤e75∧e75≤(9:Int))))=false→cC ((j:Int)+(1:Int))∧ ∃(j' :Nat),((j:Int)+(1:Int))=(j' :Int)∧(j' ≤p.objective.length∧(e50.take j').all aBC=true)∧p.objective.length - j' <p.objective.length - j)))∧((decide ((j:Int)<((p.objective.length:Nat):Int)))=false→cC ((i:Int)+(1:Int))∧ ∃(i' :Nat),((i:Int)+(1:Int))=(i' :Int)∧(i' ≤p.rows.length∧(p.rows.take i').all (jK p.objective.length)=true∧(p.limits.take i').all xN=true)∧p.rows.length - i' <p.rows.length - i))))))∧((decide ((i:Int)<((p.rows.length:Nat):Int)))=false→(true)=(eM p)∧True)))))))))))) (by kernel_rfl) ?_
 intro n0 n1 n2
 simp only [List.length_map] at n0 n1 n2
 refine ⟨List.length_map _,lZ _ _ _,fun g13=>?_,fun g13=>?_⟩
 ·replace g13:=nq (nt g13)
  refine ⟨?_,trivial⟩
  ·first | (exact (eW (by omega)).symm) | (exact (mA (fI h36 (decide_eq_false c2))).symm) | (exact (eX h50 (gZ g55)).symm) | (exact (gC h59 (decide_eq_false c4)).symm) | (exact (eX h50 (fI h75 (decide_eq_false c6))).symm) | (exact (gY (by omega) hrows (bE (by omega) hl)).symm)
 ·replace g13:=yq (nf g13)
  refine ⟨List.length_map _,fun g19=>?_,fun g19=>?_⟩
  ·replace g19:=yq g19
   refine ⟨?_,trivial⟩
   ·first | (exact (eW (by omega)).symm) | (exact (mA (fI h36 (decide_eq_false c2))).symm) | (exact (eX h50 (gZ g55)).symm) | (exact (gC h59 (decide_eq_false c4)).symm) | (exact (eX h50 (fI h75 (decide_eq_false c6))).symm) | (exact (gY (by omega) hrows (bE (by omega) hl)).symm)
  ·replace g19:=nq g19
   refine ⟨List.length_map _,List.length_map _,fun c0=>?_,fun c0=>?_⟩
   ·replace c0:=nq (nt c0)
    refine ⟨?_,trivial⟩
    ·first | (exact (eW (by omega)).symm) | (exact (mA (fI h36 (decide_eq_false c2))).symm) | (exact (eX h50 (gZ g55)).symm) | (exact (gC h59 (decide_eq_false c4)).symm) | (exact (eX h50 (fI h75 (decide_eq_false c6))).symm) | (exact (gY (by omega) hrows (bE (by omega) hl)).symm)
   ·replace c0:=yq (nf c0)
    refine ⟨⟨0,rfl,Nat.zero_le _,rfl⟩,fun k ⟨hk,ha⟩=>?_⟩
    refine ⟨fun c1=>?_,fun c1=>?_⟩
    ·replace c1:=yq c1
     refine ⟨by omega,rfl,by omega,fun e36 h36=>?_⟩
     refine ⟨lZ _ _ _,fun c2=>?_,fun c2=>?_⟩
     ·replace c2:=nq (nt c2)
      refine ⟨?_,trivial⟩
      ·first | (exact (eW (by omega)).symm) | (exact (mA (fI h36 (decide_eq_false c2))).symm) | (exact (eX h50 (gZ g55)).symm) | (exact (gC h59 (decide_eq_false c4)).symm) | (exact (eX h50 (fI h75 (decide_eq_false c6))).symm) | (exact (gY (by omega) hrows (bE (by omega) hl)).symm)
     ·replace c2:=yq (nf c2)
      refine ⟨⟨by omega,by omega⟩,?_⟩
      exact ⟨k+1,rfl,⟨by omega,cS h36 ha (decide_eq_true c2)⟩,by omega⟩
    ·replace c1:=nq c1
     have hobj:=bE (by omega) ha
     refine ⟨⟨0,rfl,Nat.zero_le _,rfl,rfl⟩,fun i ⟨hi,hr,hl⟩=>?_⟩
     refine ⟨List.length_map _,fun c3=>?_,fun c3=>?_⟩
     ·replace c3:=yq c3
      refine ⟨by omega,rfl,by omega,fun e50 h50=>?_⟩
      refine ⟨List.length_map _,fun g55=>?_,fun g55=>?_⟩
      ·replace g55:=nq (nt g55)
       refine ⟨?_,trivial⟩
       ·first | (exact (eW (by omega)).symm) | (exact (mA (fI h36 (decide_eq_false c2))).symm) | (exact (eX h50 (gZ g55)).symm) | (exact (gC h59 (decide_eq_false c4)).symm) | (exact (eX h50 (fI h75 (decide_eq_false c6))).symm) | (exact (gY (by omega) hrows (bE (by omega) hl)).symm)
      ·replace g55:=yq (nf g55)
       refine ⟨by omega,rfl,by omega,fun e59 h59=>?_⟩
       refine ⟨lZ _ _ _,fun c4=>?_,fun c4=>?_⟩
       ·replace c4:=nq (nt c4)
        refine ⟨?_,trivial⟩
        ·first | (exact (eW (by omega)).symm) | (exact (mA (fI h36 (decide_eq_false c2))).symm) | (exact (eX h50 (gZ g55)).symm) | (exact (gC h59 (decide_eq_false c4)).symm) | (exact (eX h50 (fI h75 (decide_eq_false c6))).symm) | (exact (gY (by omega) hrows (bE (by omega) hl)).symm)
       ·replace c4:=yq (nf c4)
        refine ⟨⟨0,rfl,Nat.zero_le _,rfl⟩,fun j ⟨hj,hb⟩=>?_⟩
        refine ⟨fun c5=>?_,fun c5=>?_⟩
        ·replace c5:=yq c5
         refine ⟨by omega,rfl,by omega,fun e72 h72=>?_⟩
         obtain rfl:=(aY h50 h72).symm
         refine ⟨by omega,rfl,by omega,fun e75 h75=>?_⟩
         refine ⟨lZ _ _ _,fun c6=>?_,fun c6=>?_⟩
         ·replace c6:=nq (nt c6)
          refine ⟨?_,trivial⟩
          ·first | (exact (eW (by omega)).symm) | (exact (mA (fI h36 (decide_eq_false c2))).symm) | (exact (eX h50 (gZ g55)).symm) | (exact (gC h59 (decide_eq_false c4)).symm) | (exact (eX h50 (fI h75 (decide_eq_false c6))).symm) | (exact (gY (by omega) hrows (bE (by omega) hl)).symm)
         ·replace c6:=yq (nf c6)
          refine ⟨⟨by omega,by omega⟩,?_⟩
          exact ⟨j+1,rfl,⟨by omega,cS h75 hb (decide_eq_true c6)⟩,by omega⟩
        ·replace c5:=nq c5
         refine ⟨⟨by omega,by omega⟩,?_⟩
         exact ⟨i+1,rfl,⟨by omega,cS h50 hr (aH8 (bE (by omega) hb) (by omega)),cS h59 hl (decide_eq_true c4)⟩,by omega⟩
     ·replace c3:=nq c3
      have hrows:(p.rows++[p.objective]).all (jK p.objective.length)=true:=by rw [List.all_append,bE (by omega) hr,List.all_cons,aH8 hobj rfl];rfl
      refine ⟨?_,trivial⟩
      ·first | (exact (eW (by omega)).symm) | (exact (mA (fI h36 (decide_eq_false c2))).symm) | (exact (eX h50 (gZ g55)).symm) | (exact (gC h59 (decide_eq_false c4)).symm) | (exact (eX h50 (fI h75 (decide_eq_false c6))).symm) | (exact (gY (by omega) hrows (bE (by omega) hl)).symm)
abbrev aEt (n:Int):AV × List (Nat × Rs):=(.own 0,[(0,.arr 39 1 true ((xM n).map aC))])
abbrev aMQ (n:Int):Prop:=cX Tryz.prog 120 [.one (.int .i64 n)] (aEt n).1 (aEt n).2
theorem aPp (n:Int):aMQ n:=by
 refine aX bG aR Tryz.func120 (by kernel_rfl) (.call (vB (decide ((1:Int)≤n∧n≤(4:Int)))) []<| .br (.fin []) (.loop (Nat × (List (List Int))) (Q2 Nat (List (List Int))) [6,16,18,19,20,21,22,23,24,25,26,27,28,29,30,31] [400,1600,2800,3000,3102] (fun yy0=>[(6,vI (yy0.1:Int))]) (fun yy0=>[(400,some (.box 78 [.own 1600])),(1600,some (.arr 39 1 true (yy0.2.map aC)))]) (fun yy0=>(yy0.1:Int)≤n∧yy0.2=xL (iB (dV n)) (hdI n) (dV n) yy0.1∧yy0.2.length≤yy0.1) (fun yy0=>n.toNat - yy0.1) (fun yy0=> .br (kA (nN (((1:Int)*2^(Int.toNat n)) - (1:Int)) ([cH .andNot .i64 (((1:Int)*2^(Int.toNat n)) - (1:Int)) ((1:Int)*2^yy0.1)]:List Int) ([((1:Int)*2^(Int.toNat n)) - (1:Int)]:List Int) yy0.2) [(0,400),(1,1600)]<| .back [(400,400),(1600,3102)]) (.loop (Nat × (List (List Int))) (Q2 Nat (List (List Int))) [7,8,9,32,33,34,35,36,37,38,39,40,41,42,43,44,45,46,47,48,49,50,51,52,53,54,55,56,57,58,59,60,61,62,63,64,65,66,67,68,69,70,71,72,73,74,75,76,77,78,79,80] [400,1600,7000,7900,8002] (fun yy1=>[(7,vI (yy1.1:Int))]) (fun yy1=>[(400,some (.box 78 [.own 1600])),(1600,some (.arr 39 1 true (yy1.2.map aC)))]) (fun yy1=>(yy1.1:Int)≤n∧yy1.2=xL (iB (dV n)) (hdI n) (dV n) n.toNat++elI (iB (dV n)) (2^n.toNat) n.toNat yy1.1∧yy1.2.length≤4+yy1.1*64) (fun yy1=>n.toNat - yy1.1) (fun yy1=> .br (.loop (Nat × (List (List Int))) (Q2 Nat (List (List Int))) [8,9,39,40,41,42,43,44,45,46,47,48,49,50,51,52,53,54,55,56,57,58,59,60,61,62,63,64,65,66,67,68,69,70,71,72,73,74,75,76,77,78,79,80] [400,1600,7000,7900,8002] (fun yy2=>[(8,vI ((yy1.1+1+yy2.1:Nat):Int))]) (fun yy2=>[(400,some (.box 78 [.own 1600])),(1600,some (.arr 39 1 true (yy2.2.map aC)))]) (fun yy2=>((yy1.1+1+yy2.1:Nat):Int)≤n∧yy2.2=xL (iB (dV n)) (hdI n) (dV n) n.toNat++elI (iB (dV n)) (2^n.toNat) n.toNat yy1.1++elJ (iB (dV n)) (2^n.toNat) yy1.1 yy2.1∧yy2.2.length≤4+yy1.1*64+yy2.1*16) (fun yy2=>n.toNat - (yy1.1+1+yy2.1)) (fun yy2=> .br (.loop (Nat × (List (List Int))) (Q2 Nat (List (List Int))) [9,44,45,46,47,48,49,50,51,52,53,54,55,56,57,58,59,60,61,62,63,64,65,66,67,68,69,70,71,72,73,74,75,76,77,78,79,80] [400,1600,7000,7900,8002] (fun yy3=>[(9,vI (yy3.1:Int))]) (fun yy3=>[(400,some (.box 78 [.own 1600])),(1600,some (.arr 39 1 true (yy3.2.map aC)))]) (fun yy3=>yy3.1≤2^n.toNat∧yy3.2=xL (iB (dV n)) (hdI n) (dV n) n.toNat++elI (iB (dV n)) (2^n.toNat) n.toNat yy1.1++elJ (iB (dV n)) (2^n.toNat) yy1.1 yy2.1++elS (iB (dV n)) yy1.1 (yy1.1+1+yy2.1) yy3.1∧yy3.2.length≤4+yy1.1*64+yy2.1*16+yy3.1) (fun yy3=>2^n.toNat - yy3.1) (fun yy3=> .br (.br (.lit<| .lit<| .lit<| .lit<| .lit<| .br (kA (nN (((1:Int)*2^(Int.toNat n)) - (1:Int)) ([(yy3.1:Int),cH .or .i64 (cH .or .i64 (yy3.1:Int) ((1:Int)*2^yy1.1)) ((1:Int)*2^(yy1.1+1+yy2.1))]:List Int) ([cH .or .i64 (yy3.1:Int) ((1:Int)*2^yy1.1),cH .or .i64 (yy3.1:Int) ((1:Int)*2^(yy1.1+1+yy2.1))]:List Int) yy3.2) [(0,400),(1,1600)]<| .back [(400,400),(1600,8002)]) (.back [(400,400),(1600,1600)])) (.back [(400,400),(1600,1600)])) (.back [(400,400),(1600,1600)]))) (.back [(400,400),(1600,1600)]))) (.fin [(0,1600)])))))) (p:=kE n (1:Int) (4:Int)∧(((!(decide ((1:Int)≤n∧n≤(4:Int))))=true→[]=(xM n).map aC∧True)∧((!(decide ((1:Int)≤n∧n≤(4:Int))))=false→(0≤n∧n≤64)∧(cC ((1:Int)*2^(Int.toNat n))∧(cC (((1:Int)*2^(Int.toNat n)) - (1:Int))∧((∃(i:Nat) (o0:List (List Int)),(0:Int)=(i:Int)∧[]=o0.map aC∧(i:Int)≤n∧o0=xL (iB (dV n)) (hdI n) (dV n) i∧o0.length≤i)∧ ∀(i:Nat) (o0:List (List Int)),((i:Int)≤n∧o0=xL (iB (dV n)) (hdI n) (dV n) i∧o0.length≤i)→((decide ((i:Int)<n))=true→(0≤(i:Int)∧(i:Int)≤64)∧cC ((1:Int)*2^i)∧aAJ (((1:Int)*2^(Int.toNat n)) - (1:Int)) ([cH .andNot .i64 (((1:Int)*2^(Int.toNat n)) - (1:Int)) ((1:Int)*2^i)]:List Int) ([((1:Int)*2^(Int.toNat n)) - (1:Int)]:List Int) o0∧[[.int .i64 (cH .andNot .i64 (((1:Int)*2^(Int.toNat n)) - (1:Int)) ((1:Int)*2^i))]]=([cH .andNot .i64 (((1:Int)*2^(Int.toNat n)) - (1:Int)) ((1:Int)*2^i)]:List Int).map intD∧[[.int .i64 (((1:Int)*2^(Int.toNat n)) - (1:Int))]]=([((1:Int)*2^(Int.toNat n)) - (1:Int)]:List Int).map intD∧(((1:Int)*2^(Int.toNat n)) - (1:Int))=(((1:Int)*2^(Int.toNat n)) - (1:Int))∧o0.map aC=o0.map aC∧cC ((i:Int)+(1:Int))∧ ∃(i' :Nat) (o0' :List (List Int)),((i:Int)+(1:Int))=(i' :Int)∧(o0++[iB (((1:Int)*2^(Int.toNat n)) - (1:Int)) ([cH .andNot .i64 (((1:Int)*2^(Int.toNat n)) - (1:Int)) ((1:Int)*2^i)]:List Int) ([((1:Int)*2^(Int.toNat n)) - (1:Int)]:List Int)]).map aC=o0'.map aC∧((i' :Int)≤n∧o0' =xL (iB (dV n)) (hdI n) (dV n) i' ∧o0'.length≤i')∧n.toNat - i' <n.toNat - i)∧((decide ((i:Int)<n))=false→(∃(i:Nat) (o1:List (List Int)),(0:Int)=(i:Int)∧o0.map aC=o1.map aC∧(i:Int)≤n∧o1=xL (iB (dV n)) (hdI n) (dV n) n.toNat++elI (iB (dV n)) (2^n.toNat) n.toNat i∧o1.length≤4+i*64)∧ ∀(i:Nat) (o1:List (List Int)),((i:Int)≤n∧o1=xL (iB (dV n)) (hdI n) (dV n) n.toNat++elI (iB (dV n)) (2^n.toNat) n.toNat i∧o1.length≤4+i*64)→((decide ((i:Int)<n))=true→cC ((i:Int)+(1:Int))∧((∃(j:Nat) (o2:List (List Int)),((i:Int)+(1:Int))=((i+1+j:Nat):Int)∧o1.map aC=o2.map aC∧((i+1+j:Nat):Int)≤n∧o2=xL (iB (dV n)) (hdI n) (dV n) n.toNat++elI (iB (dV n)) (2^n.toNat) n.toNat i++elJ (iB (dV n)) (2^n.toNat) i j∧o2.length≤4+i*64+j*16)∧ ∀(j:Nat) (o2:List (List Int)),(((i+1+j:Nat):Int)≤n∧o2=xL (iB (dV n)) (hdI n) (dV n) n.toNat++elI (iB (dV n)) (2^n.toNat) n.toNat i++elJ (iB (dV n)) (2^n.toNat) i j∧o2.length≤4+i*64+j*16)→((decide (((i+1+j:Nat):Int)<n))=true→(∃(s:Nat) (o3:List (List Int)),(0:Int)=(s:Int)∧o2.map aC=o3.map aC∧s≤2^n.toNat∧o3=xL (iB (dV n)) (hdI n) (dV n) n.toNat++elI (iB (dV n)) (2^n.toNat) n.toNat i++elJ (iB (dV n)) (2^n.toNat) i j++elS (iB (dV n)) i (i+1+j) s∧o3.length≤4+i*64+j*16+s)∧ ∀(s:Nat) (o3:List (List Int)),(s≤2^n.toNat∧o3=xL (iB (dV n)) (hdI n) (dV n) n.toNat++elI (iB (dV n)) (2^n.toNat) n.toNat i++elJ (iB (dV n)) (2^n.toNat) i j++elS (iB (dV n)) i (i+1+j) s∧o3.length≤4+i*64+j*16+s)→((decide ((s:Int)≤(((1:Int)*2^(Int.toNat n)) - (1:Int))))=true→(0≤(i:Int)∧(i:Int)≤64)∧(((decide ((cH .and .i64 ((s:Int)/2^i) (1:Int))=(0:Int)))=true→(0≤((i+1+j:Nat):Int)∧((i+1+j:Nat):Int)≤64)∧(((decide ((cH .and .i64 ((s:Int)/2^(i+1+j)) (1:Int))=(0:Int)))=true→(0≤(i:Int)∧(i:Int)≤64)∧cC ((1:Int)*2^i)∧(0≤((i+1+j:Nat):Int)∧((i+1+j:Nat):Int)≤64)∧cC ((1:Int)*2^(i+1+j))∧(0≤(i:Int)∧(i:Int)≤64)∧cC ((1:Int)*2^i)∧(0≤((i+1+j:Nat):Int)∧((i+1+j:Nat):Int)≤64)∧cC ((1:Int)*2^(i+1+j))∧aAJ (((1:Int)*2^(Int.toNat n)) - (1:Int)) ([(s:Int),cH .or .i64 (cH .or .i64 (s:Int) ((1:Int)*2^i)) ((1:Int)*2^(i+1+j))]:List Int) ([cH .or .i64 (s:Int) ((1:Int)*2^i),cH .or .i64 (s:Int) ((1:Int)*2^(i+1+j))]:List Int) o3∧[[.int .i64 (s:Int)],[.int .i64 (cH .or .i64 (cH .or .i64 (s:Int) ((1:Int)*2^i)) ((1:Int)*2^(i+1+j)))]]=([(s:Int),cH .or .i64 (cH .or .i64 (s:Int) ((1:Int)*2^i)) ((1:Int)*2^(i+1+j))]:List Int).map intD∧[[.int .i64 (cH .or .i64 (s:Int) ((1:Int)*2^i))],[.int .i64 (cH .or .i64 (s:Int) ((1:Int)*2^(i+1+j)))]]=([cH .or .i64 (s:Int) ((1:Int)*2^i),cH .or .i64 (s:Int) ((1:Int)*2^(i+1+j))]:List Int).map intD∧(((1:Int)*2^(Int.toNat n)) - (1:Int))=(((1:Int)*2^(Int.toNat n)) - (1:Int))∧o3.map aC=o3.map aC∧cC ((s:Int)+(1:Int))∧ ∃(s' :Nat) (o3' :List (List Int)),((s:Int)+(1:Int))=(s' :Int)∧(o3++[iB (((1:Int)*2^(Int.toNat n)) - (1:Int)) ([(s:Int),cH .or .i64 (cH .or .i64 (s:Int) ((1:Int)*2^i)) ((1:Int)*2^(i+1+j))]:List Int) ([cH .or .i64 (s:Int) ((1:Int)*2^i),cH .or .i64 (s:Int) ((1:Int)*2^(i+1+j))]:List Int)]).map aC=o3'.map aC∧(s' ≤2^n.toNat∧o3' =xL (iB (dV n)) (hdI n) (dV n) n.toNat++elI (iB (dV n)) (2^n.toNat) n.toNat i++elJ (iB (dV n)) (2^n.toNat) i j++elS (iB (dV n)) i (i+1+j) s' ∧o3'.length≤4+i*64+j*16+s')∧2^n.toNat - s' <2^n.toNat - s)∧((decide ((cH .and .i64 ((s:Int)/2^(i+1+j)) (1:Int))=(0:Int)))=false→cC ((s:Int)+(1:Int))∧ ∃(s' :Nat) (o3' :List (List Int)),((s:Int)+(1:Int))=(s' :Int)∧o3.map aC=o3'.map aC∧(s' ≤2^n.toNat∧o3' =xL (iB (dV n)) (hdI n) (dV n) n.toNat++elI (iB (dV n)) (2^n.toNat) n.toNat i++elJ (iB (dV n)) (2^n.toNat) i j++elS (iB (dV n)) i (i+1+j) s' ∧o3'.length≤4+i*64+j*16+s')∧2^n.toNat - s' <2^n.toNat - s)))∧((decide ((cH .and .i64 ((s:Int)/2^i) (1:Int))=(0:Int)))=false→cC ((s:Int)+(1:Int))∧ ∃(s' :Nat) (o3' :List (List Int)),((s:Int)+(1:Int))=(s' :Int)∧o3.map aC=o3'.map aC∧(s' ≤2^n.toNat∧o3' =xL (iB (dV n)) (hdI n) (dV n) n.toNat++elI (iB (dV n)) (2^n.toNat) n.toNat i++elJ (iB (dV n)) (2^n.toNat) i j++elS (iB (dV n)) i (i+1+j) s' ∧o3'.length≤4+i*64+j*16+s')∧2^n.toNat - s' <2^n.toNat - s)))∧((decide ((s:Int)≤(((1:Int)*2^(Int.toNat n)) - (1:Int))))=false→cC (((i+1+j:Nat):Int)+(1:Int))∧ ∃(j' :Nat) (o2' :List (List Int)),(((i+1+j:Nat):Int)+(1:Int))=((i+1+j' :Nat):Int)∧o3.map aC=o2'.map aC∧(((i+1+j' :Nat):Int)≤n∧o2' =xL (iB (dV n)) (hdI n) (dV n) n.toNat++elI (iB (dV n)) (2^n.toNat) n.toNat i++elJ (iB (dV n)) (2^n.toNat) i j' ∧o2'.length≤4+i*64+j' *16)∧n.toNat - (i+1+j')<n.toNat - (i+1+j)))∧((decide (((i+1+j:Nat):Int)<n))=false→cC ((i:Int)+(1:Int))∧ ∃(i' :Nat) (o1' :List (List Int)),((i:Int)+(1:Int))=(i' :Int)∧o2.map aC=o1'.map aC∧((i' :Int)≤n∧o1' =xL (iB (dV n)) (hdI n) (dV n) n.toNat++elI (iB (dV n)) (2^n.toNat) n.toNat i' ∧o1'.length≤4+i' *64)∧n.toNat - i' <n.toNat - i)))∧((decide ((i:Int)<n))=false→o1.map aC=(xM n).map aC∧True)))))))) (by kernel_rfl) ?_
 refine ⟨oI _ _ _,fun c0=>?_,fun c0=>?_⟩
 ·replace c0:=nq (nt c0)
  refine ⟨?_,trivial⟩
  ·first | (rw [xM,if_neg (by omega)]<;>rfl) | (rw [ho1,show i=n.toNat by omega,xM,if_pos (by omega)];rfl)
 ·replace c0:=yq (nf c0)
  obtain ⟨b1,b2,b3⟩:=aAx (n:=n) (by omega)
  have hal:dV n=(1:Int)*2^n.toNat - 1:=rfl
  refine ⟨⟨by omega,by omega⟩,by first | exact bK (by omega) | exact ⟨by omega,by omega⟩,by first | exact bK (by omega) | exact ⟨by omega,by omega⟩,⟨0,([]:List (List Int)),rfl,rfl,by omega,rfl,Nat.zero_le _⟩,fun i o0 ⟨hi,ho,hL⟩=>?_⟩
  refine ⟨fun c1=>?_,fun c1=>?_⟩
  ·replace c1:=yq c1
   have hh:=aUw (i:=i) (n:=n) (by omega) (by omega)
   have hw:=aOV (n:=n) (i:=i) (by omega) (by omega)
   unfold hdI at hh
   refine ⟨⟨by omega,by omega⟩,by first | exact bK (by omega) | exact ⟨by omega,by omega⟩,aJg _ ([cH .andNot .i64 (((1:Int)*2^(Int.toNat n)) - (1:Int)) ((1:Int)*2^i)]:List Int) ([((1:Int)*2^(Int.toNat n)) - (1:Int)]:List Int) _ (by omega) (by first | exact aFR (by omega) | exact aFS (by omega) (by omega)) (by first | exact aFR (by omega) | exact aFS (by omega) (by omega)) (by omega) (by simp) (by simp),rfl,rfl,rfl,rfl,by first | exact bK (by omega) | exact ⟨by omega,by omega⟩,?_⟩
   exact ⟨i+1,_,rfl,rfl,⟨by omega,by rw [ho];rfl,by simp;omega⟩,by omega⟩
  ·replace c1:=nq c1
   refine ⟨⟨0,o0,rfl,rfl,by omega,by rw [ho,show i=n.toNat by omega];simp [elI],by omega⟩,fun i o1 ⟨hi1,ho1,hL1⟩=>?_⟩
   refine ⟨fun c2=>?_,fun c2=>?_⟩
   ·replace c2:=yq c2
    refine ⟨by first | exact bK (by omega) | exact ⟨by omega,by omega⟩,⟨0,o1,by first | rfl | omega,by first | rfl | omega,by omega,by rw [ho1];simp [elJ],by omega⟩,fun j o2 ⟨hj,ho2,hL2⟩=>?_⟩
    refine ⟨fun c3=>?_,fun c3=>?_⟩
    ·replace c3:=yq c3
     refine ⟨⟨0,o2,rfl,rfl,Nat.zero_le _,by rw [ho2];simp [elS],by omega⟩,fun s o3 ⟨hs,ho3,hL3⟩=>?_⟩
     refine ⟨fun c4=>?_,fun c4=>?_⟩
     ·replace c4:=yq c4
      refine ⟨⟨by omega,by omega⟩,fun g54=>?_,fun g54=>?_⟩
      ·replace g54:=yq g54
       refine ⟨⟨by omega,by omega⟩,fun c5=>?_,fun c5=>?_⟩
       ·replace c5:=yq c5
        obtain ⟨v1,v2⟩:=aK7 (n:=n.toNat) (i:=i) (j:=i+1+j) (s:=s) (by omega) (by omega) (by omega) (by omega)
        obtain ⟨v3,v4⟩:=aK7 (n:=n.toNat) (i:=i+1+j) (j:=i) (s:=s) (by omega) (by omega) (by omega) (by omega)
        refine ⟨⟨by omega,by omega⟩,by first | exact bK (by omega) | exact ⟨by omega,by omega⟩,⟨by omega,by omega⟩,by first | exact bK (by omega) | exact ⟨by omega,by omega⟩,⟨by omega,by omega⟩,by first | exact bK (by omega) | exact ⟨by omega,by omega⟩,⟨by omega,by omega⟩,by first | exact bK (by omega) | exact ⟨by omega,by omega⟩,aJg _ ([(s:Int),cH .or .i64 (cH .or .i64 (s:Int) ((1:Int)*2^i)) ((1:Int)*2^(i+1+j))]:List Int) ([cH .or .i64 (s:Int) ((1:Int)*2^i),cH .or .i64 (s:Int) ((1:Int)*2^(i+1+j))]:List Int) _ (by omega) (by first | exact aFR (by omega) | exact aFS (by omega) (by omega)) (by first | exact aFR (by omega) | exact aFS (by omega) (by omega)) (by omega) (by simp) (by simp),rfl,rfl,rfl,rfl,by first | exact bK (by omega) | exact ⟨by omega,by omega⟩,?_⟩
        exact ⟨s+1,_,rfl,rfl,⟨by omega,by first | (rw [ho3,elS,if_pos ⟨decide_eq_true g54,decide_eq_true c5⟩];simp only [List.append_assoc];done) | (rw [ho3,elS,if_neg (by rintro ⟨q1,q2⟩;simp only [aEp,decide_eq_true_eq] at q1 q2;contradiction),List.append_nil]),by first | omega | (simp;omega)⟩,by omega⟩
       ·replace c5:=nq c5
        refine ⟨by first | exact bK (by omega) | exact ⟨by omega,by omega⟩,?_⟩
        exact ⟨s+1,_,rfl,rfl,⟨by omega,by first | (rw [ho3,elS,if_pos ⟨decide_eq_true g54,decide_eq_true c5⟩];simp only [List.append_assoc];done) | (rw [ho3,elS,if_neg (by rintro ⟨q1,q2⟩;simp only [aEp,decide_eq_true_eq] at q1 q2;contradiction),List.append_nil]),by first | omega | (simp;omega)⟩,by omega⟩
      ·replace g54:=nq g54
       refine ⟨by first | exact bK (by omega) | exact ⟨by omega,by omega⟩,?_⟩
       exact ⟨s+1,_,rfl,rfl,⟨by omega,by first | (rw [ho3,elS,if_pos ⟨decide_eq_true g54,decide_eq_true c5⟩];simp only [List.append_assoc];done) | (rw [ho3,elS,if_neg (by rintro ⟨q1,q2⟩;simp only [aEp,decide_eq_true_eq] at q1 q2;contradiction),List.append_nil]),by first | omega | (simp;omega)⟩,by omega⟩
     ·replace c4:=nq c4
      refine ⟨by first | exact bK (by omega) | exact ⟨by omega,by omega⟩,?_⟩
      exact ⟨j+1,_,by first | rfl | omega,by first | rfl | omega,⟨by omega,by rw [ho3,show s=2^n.toNat by omega,elJ,←List.append_assoc],by omega⟩,by omega⟩
    ·replace c3:=nq c3
     refine ⟨by first | exact bK (by omega) | exact ⟨by omega,by omega⟩,?_⟩
     exact ⟨i+1,_,rfl,rfl,⟨by omega,by rw [ho2,show j=n.toNat - (i+1) by omega,elI,List.append_assoc],by omega⟩,by omega⟩
   ·replace c2:=nq c2
    refine ⟨?_,trivial⟩
    ·first | (rw [xM,if_neg (by omega)]<;>rfl) | (rw [ho1,show i=n.toNat by omega,xM,if_pos (by omega)];rfl)
def aCA (n:Nat) (s:ByteArray):ByteArray:=if h:n=0 then s else aCA (n/10) (xG [IntKind.u8.wrap (48+Int.tmod (n:Int) 10)]++s)
 termination_by n
 decreasing_by omega
def bB (k:Int):ByteArray:=if k≤0 then ⟨#[109,48]⟩ else (⟨#[109]⟩:ByteArray)++aCA k.toNat ⟨#[]⟩
theorem aJi (s:ByteArray):aCA 0 s=s:=by rw [aCA];simp
theorem aSM {n:Nat} (h:0<n) (s:ByteArray):aCA n s=aCA (n/10) (xG [IntKind.u8.wrap (48+Int.tmod (n:Int) 10)]++s):=by rw [aCA,dif_neg (by omega)]
theorem aCB (l:List Int):(xG l).size=l.length:=by simp [xG,ByteArray.size]
def aNZ (k:Int) (_:Int):Int:=k
def pJ (_:Int):Nat:=1
theorem oJ {α:Type} {s c:α→Nat} (h: ∀x,s x≤4+5*c x): ∀l:List α,bR s l≤5*yB c l
 | []=>by simp [bR,yB]
 | a::l=>by
   have h1:=h a
   have h2:=oJ h l
   simp only [bR,yB,List.map_cons,List.sum_cons,List.length_cons] at*
   omega
theorem aDM {α:Type} {s:α→Nat} (h: ∀x,s x≤4): ∀l:List α,bR s l≤5*l.length
 | []=>by simp [bR]
 | a::l=>by
   have h1:=h a
   have h2:=aDM h l
   simp only [bR,List.map_cons,List.sum_cons,List.length_cons] at*
   omega
theorem aN0 {α:Type} {s c:α→Nat} (h: ∀x,s x≤4+5*c x) (l:List α) (k:Nat) (hk:k≤l.length):bR s (l.take k)≤5*(k+bR c (l.take k)):=by
 have:=oJ h (l.take k)
 unfold yB at this
 rw [List.length_take,Nat.min_eq_left hk] at this
 exact this
theorem aUx {α:Type} {s:α→Nat} (h: ∀x,s x≤4) (l:List α) (k:Nat) (hk:k≤l.length):bR s (l.take k)≤5*k:=by
 have:=aDM h (l.take k)
 rw [List.length_take,Nat.min_eq_left hk] at this
 exact this
abbrev pK (k:Int):Prop:=cX Tryz.prog 90 [.one (.int .i64 k)] (.p none (.str (bB k))) []
theorem aAz (k:Int) (hk:k≤4611686018427387904):pK k:=by
 refine aX bG aR Tryz.func90 (by kernel_rfl) (.br (.fin []) (.loop (Nat × ByteArray) (Q2 Nat ByteArray) [0,3,6,7,8,9,10,11,12,13,14,15,16,17] [1200] (fun yy0=>[(0,vI (yy0.1:Int)),(3,.p none (.str yy0.2))]) (fun yy0=>[]) (fun yy0=>yy0.1≤4611686018427387904∧yy0.2.size+yy0.1≤4611686018427387904∧aCA yy0.1 yy0.2=aCA k.toNat ⟨#[]⟩) (fun yy0=>yy0.1) (fun yy0=> .br (.bytes [IntKind.u8.wrap ((48:Int)+(Int.tmod (yy0.1:Int) (10:Int)))]<| .back []) (.fin [])))) (p:=((decide (k≤(0:Int)))=true→(⟨#[109,48]⟩:ByteArray)=(bB k)∧True)∧((decide (k≤(0:Int)))=false→(∃(n:Nat) (s:ByteArray),k=(n:Int)∧(⟨#[]⟩:ByteArray)=s∧n≤4611686018427387904∧s.size+n≤4611686018427387904∧aCA n s=aCA k.toNat ⟨#[]⟩)∧ ∀(n:Nat) (s:ByteArray),(n≤4611686018427387904∧s.size+n≤4611686018427387904∧aCA n s=aCA k.toNat ⟨#[]⟩)→((decide ((0:Int)<(n:Int)))=true→(10:Int)≠0∧cC ((48:Int)+(Int.tmod (n:Int) (10:Int)))∧[[.int .u8 (IntKind.u8.wrap ((48:Int)+(Int.tmod (n:Int) (10:Int))))]]= [IntKind.u8.wrap ((48:Int)+(Int.tmod (n:Int) (10:Int)))].map byD∧(xG [IntKind.u8.wrap ((48:Int)+(Int.tmod (n:Int) (10:Int)))]).size+s.size≤9223372036854775807∧(10:Int)≠0∧cC (Int.tdiv (n:Int) (10:Int))∧ ∃(n' :Nat) (s' :ByteArray),(Int.tdiv (n:Int) (10:Int))=(n' :Int)∧((xG [IntKind.u8.wrap ((48:Int)+(Int.tmod (n:Int) (10:Int)))])++s)=s' ∧(n' ≤4611686018427387904∧s'.size+n' ≤4611686018427387904∧aCA n' s' =aCA k.toNat ⟨#[]⟩)∧n' <n)∧((decide ((0:Int)<(n:Int)))=false→(⟨#[109]⟩:ByteArray).size+s.size≤9223372036854775807∧((⟨#[109]⟩:ByteArray)++s)=(bB k)∧True))) (by kernel_rfl) ?_
 refine ⟨fun c0=>?_,fun c0=>?_⟩
 ·replace c0:=yq c0
  refine ⟨?_,trivial⟩
  ·first | (rw [bB,if_pos c0];done) | (rw [bB,if_neg c0];rw [show n=0 from by omega,aJi] at hm;rw [hm])
 ·replace c0:=nq c0
  obtain ⟨n0,rfl⟩:=Int.eq_ofNat_of_zero_le (show 0≤k by omega)
  refine ⟨⟨n0,(⟨#[]⟩:ByteArray),rfl,rfl,by omega,by simp [ByteArray.size];omega,by simp⟩,fun n s ⟨hn,hs,hm⟩=>?_⟩
  refine ⟨fun c1=>?_,fun c1=>?_⟩
  ·replace c1:=yq c1
   have hd:=aSM (n:=n) (by omega) s
   have htm:Int.tmod (n:Int) 10=((n%10:Nat):Int):=rfl
   have htd:Int.tdiv (n:Int) 10=((n/10:Nat):Int):=rfl
   refine ⟨by omega,⟨by omega,by omega⟩,rfl,by first | (simp only [aCB,List.length_cons,List.length_nil];omega) | (show 1+s.size≤_;omega),by omega,⟨by omega,by omega⟩,?_⟩
   exact ⟨n/10,(xG [IntKind.u8.wrap ((48:Int)+(Int.tmod (n:Int) (10:Int)))])++s,rfl,rfl,⟨by omega,by rw [ByteArray.size_append,aCB];simp;omega,by rw [←hd];exact hm⟩,by omega⟩
  ·replace c1:=nq c1
   refine ⟨by first | (simp only [aCB,List.length_cons,List.length_nil];omega) | (show 1+s.size≤_;omega),?_,trivial⟩
   ·first | (rw [bB,if_pos c0];done) | (rw [bB,if_neg c0];rw [show n=0 from by omega,aJi] at hm;rw [hm])
def dF (k:Int) (l:List Int):List Int:=pX aNZ pJ k l
def cT (l:List Int):Nat:=bR pJ l
theorem jU (l:List Int):cT l≤5*bS l:=aDM (fun _=>by simp [pJ]) l
def iI (k:Int) (l:List (List Int)):List (List Int):=pX dF cT k l
def kY (l:List (List Int)):Nat:=bR cT l
theorem vM (l:List (List Int)):kY l≤5*cM l:=oJ (fun y=>by have:=jU y;omega) l
def aDN (k:Int) (x:aS):aS:=⟨bB (k),k+1,iI (k+1+1) x.rows⟩
def jV (x:aS):Nat:=1+1+kY x.rows
theorem aH9 (x:aS):jV x≤4+5*fE x:=by
 have:=vM x.rows
 unfold jV fE;omega
def aFc (k:Int) (l:List aS):List aS:=pX aDN jV k l
def wY (l:List aS):Nat:=bR jV l
theorem aCC (l:List aS):wY l≤5*iQ l:=oJ aH9 l
def wZ (k:Int) (x:aV):aV:=⟨aFc (k) x.tables⟩
def dO (x:aV):Nat:=wY x.tables
theorem aBL (x:aV):dO x≤5*bH x:=by
 have:=aCC x.tables
 unfold dO bH;omega
def aHa (k:Int) (x:bZ):bZ:=⟨bB (k),dF (k+1) x.vars⟩
def mB (x:bZ):Nat:=1+cT x.vars
theorem aJj (x:bZ):mB x≤4+5*hZ x:=by
 have:=jU x.vars
 unfold mB hZ;omega
def aK8 (k:Int) (l:List bZ):List bZ:=pX aHa mB k l
def aCD (l:List bZ):Nat:=bR mB l
theorem aEB (l:List bZ):aCD l≤5*jA l:=oJ aJj l
def aOW (k:Int) (x:QueryD):QueryD:=⟨x.variableCount,aK8 (k) x.atoms⟩
def pW (x:QueryD):Nat:=aCD x.atoms
theorem aN1 (x:QueryD):pW x≤5*gF x:=by
 have:=aEB x.atoms
 unfold pW gF;omega
def oK (k:Int) (x:aG):aG:=⟨dF (k) x.columns,iI (k+((cT x.columns:Nat):Int)) x.values,dF (k+((cT x.columns:Nat):Int)+((kY x.values:Nat):Int)) x.counts⟩
def eG (x:aG):Nat:=cT x.columns+kY x.values+cT x.counts
theorem xO (x:aG):eG x≤4+5*bN x:=by
 have:=jU x.columns
 have:=vM x.values
 have:=jU x.counts
 unfold eG bN;omega
def kZ (k:Int) (l:List aG):List aG:=pX oK eG k l
def lA (l:List aG):Nat:=bR eG l
theorem qX (l:List aG):lA l≤5*dD l:=oJ xO l
def oL (k:Int) (x:aB):aB:=⟨bB (k),k+1,k+1+1,kZ (k+1+1+1) x.groups⟩
def eH (x:aB):Nat:=1+1+1+lA x.groups
theorem xP (x:aB):eH x≤4+5*bA x:=by
 have:=qX x.groups
 unfold eH bA;omega
def rM (k:Int) (l:List aB):List aB:=pX oL eH k l
def lB (l:List aB):Nat:=bR eH l
theorem qY (l:List aB):lB l≤5*dK l:=oJ xP l
def uC (k:Int) (x:cD):cD:=⟨x.version,rM (k) x.tables⟩
def eC (x:cD):Nat:=lB x.tables
theorem aAL (x:cD):eC x≤5*bO x:=by
 have:=qY x.tables
 unfold eC bO;omega
def oM (k:Int) (x:aN):aN:=⟨bB (k),dF (k+1) x.src,k+1+((cT x.src:Nat):Int)⟩
def eI (x:aN):Nat:=1+cT x.src+1
theorem xQ (x:aN):eI x≤4+5*cI x:=by
 have:=jU x.src
 unfold eI cI;omega
def rN (k:Int) (l:List aN):List aN:=pX oM eI k l
def fQ (l:List aN):Nat:=bR eI l
theorem qZ (l:List aN):fQ l≤5*bY l:=oJ xQ l
def qT (k:Int) (x:aL):aL:=⟨bB (k),k+1,bB (k+1+1),k+1+1+1⟩
def eO (x:aL):Nat:=1+1+1+1
theorem aAM (x:aL):eO x≤4+5*cU x:=by
 unfold eO cU;omega
def uD (k:Int) (l:List aL):List aL:=pX qT eO k l
def mC (l:List aL):Nat:=bR eO l
theorem sW (l:List aL):mC l≤5*cR l:=oJ aAM l
def uE (k:Int) (x:StoreD):StoreD:=⟨wZ (k) x.database,uC (k+((dO x.database:Nat):Int)) x.catalogue,rN (k+((dO x.database:Nat):Int)+((eC x.catalogue:Nat):Int)) x.dependencies,uD (k+((dO x.database:Nat):Int)+((eC x.catalogue:Nat):Int)+((fQ x.dependencies:Nat):Int)) x.inclusions⟩
def lV (x:StoreD):Nat:=dO x.database+eC x.catalogue+fQ x.dependencies+mC x.inclusions
theorem aN2 (x:StoreD):lV x≤5*dU x:=by
 have:=aBL x.database
 have:=aAL x.catalogue
 have:=qZ x.dependencies
 have:=sW x.inclusions
 unfold lV dU;omega
def sX (k:Int) (x:RationalD):RationalD:=⟨k,k+1⟩
def fJ (x:RationalD):Nat:=1+1
theorem aBM (x:RationalD):fJ x≤4+5*aAh x:=by
 unfold fJ aAh;omega
def aHb (k:Int) (l:List RationalD):List RationalD:=pX sX fJ k l
def sY (l:List RationalD):Nat:=bR fJ l
theorem aBN (l:List RationalD):sY l≤5*gK l:=aDM (fun x=>by have:=aBM x;simpa [aAh] using this) l
end Go.Proofs.YtdfebigfnjfgpaaGreat
