/-
  Contracts and plain laws, joined: part 7.
-/
import Derived.Test.YtpoobcnmhnbdlaaP13
import Derived.Test.YtpoobcnmhnbdlaaP15
import Derived.Shelf.Sort.Plain
import Derived.Shelf.Slices.In.SortNone
import Derived.Sort.OwnSortedInts
namespace Go.Proofs.Ytpoobcnmhnbdlaa
open Go.ChangeShapes Go.WideShapes Go.ChangeAt Go.RowKit
set_option linter.unusedVariables false
set_option linter.unusedSimpArgs false
set_option maxRecDepth 100000
set_option maxHeartbeats 4000000
def uE (x:Int):Bool:=decide (-9≤x∧x≤9)
def rM (x:Int):Bool:=decide (0≤x∧x≤99)
def gW (n:Int) (r:List Int):Bool:=r.all uE&&decide ((r.length:Int)=n)
def cW (p:ProgramD):Bool:=decide (1≤(p.objective.length:Int)∧(p.objective.length:Int)≤15)&&(decide ((p.rows.length:Int)≤64)&&(decide ((p.limits.length:Int)=p.rows.length)&&((p.rows++[p.objective]).all (gW p.objective.length)&&p.limits.all rM)))
theorem eF {p:ProgramD} (h: ¬((1≤(p.objective.length:Int)∧(p.objective.length:Int)≤15)∧(p.rows.length:Int)≤64∧(p.limits.length:Int)=p.rows.length)):cW p=false:=by
 cases e:cW p with
 | false=>rfl
 | true=>
   simp only [cW,Bool.and_eq_true,decide_eq_true_eq] at e
   exact absurd ⟨e.1,e.2.1,e.2.2.1⟩ h
theorem aDi {p:ProgramD} (h:(p.rows++[p.objective]).all (gW p.objective.length)=false):cW p=false:=by simp only [cW,h,Bool.false_and,Bool.and_false]
theorem eN {p:ProgramD} {k:Nat} {r:List Int} (h:(p.rows++[p.objective])[k]? =some r) (hr:gW p.objective.length r=false):cW p=false:=aDi (mQ h hr)
theorem dW {p:ProgramD} {k:Nat} {r:List Int} (h:p.rows[k]? =some r) (hr:gW p.objective.length r=false):cW p=false:=by
 refine eN (k:=k) (r:=r) ?_ hr
 rw [List.getElem?_append_left (List.getElem?_eq_some_iff.1 h).1];exact h
theorem jJ {p:ProgramD} (hr:gW p.objective.length p.objective=false):cW p=false:=eN (k:=p.rows.length) (r:=p.objective) (by simp) hr
theorem eY {p:ProgramD} {k:Nat} {x:Int} (h:p.limits[k]? =some x) (hx:rM x=false):cW p=false:=by
 simp only [cW,mQ h hx,Bool.and_false]
theorem fP {p:ProgramD} (h:(1≤(p.objective.length:Int)∧(p.objective.length:Int)≤15)∧(p.rows.length:Int)≤64∧(p.limits.length:Int)=p.rows.length) (h1:(p.rows++[p.objective]).all (gW p.objective.length)=true) (h2:p.limits.all rM=true):cW p=true:=by
 simp only [cW,h1,h2,Bool.and_true,Bool.and_eq_true,decide_eq_true_eq];exact h
theorem eG {n:Int} {r:List Int} {k:Nat} {x:Int} (h:r[k]? =some x) (hx:uE x=false):gW n r=false:=by simp only [gW,mQ h hx,Bool.false_and]
theorem fQ {n:Int} {r:List Int} (h: ¬(r.length:Int)=n):gW n r=false:=by simp only [gW,decide_eq_false h,Bool.and_false]
theorem aAe {n:Int} {r:List Int} (h:r.all uE=true) (hl:(r.length:Int)=n):gW n r=true:=by simp only [gW,h,decide_eq_true hl,Bool.and_true]
theorem kP {p:ProgramD} (h:cW p=true):(1≤p.objective.length∧p.objective.length≤15)∧p.rows.length≤64∧p.limits.length=p.rows.length∧(∀r∈p.rows++[p.objective],r.length=p.objective.length∧ ∀x∈r,-9≤x∧x≤9)∧ ∀x∈p.limits,0≤x∧x≤99:=by
 simp only [cW,Bool.and_eq_true,decide_eq_true_eq,List.all_eq_true] at h
 obtain ⟨h1,h2,h3,h4,h5⟩:=h
 refine ⟨by omega,by omega,by omega,fun r hr=>?_,fun x hx=>?_⟩
 ·have:=h4 r hr
  simp only [gW,Bool.and_eq_true,decide_eq_true_eq,List.all_eq_true] at this
  refine ⟨by omega,fun x hx=>?_⟩
  have:=this.1 x hx
  simpa [uE] using this
 ·have:=h5 x hx
  simpa [rM] using this
theorem aIm {p:ProgramD} (hp: ∀r∈p.rows,r.length≤1048576) (ho:p.objective.length≤1048576) {k:Nat} {r:List Int} (h:((([]:List (List Int))++p.rows)++[p.objective])[k]? =some r):r.length≤1048576:=by
 have:=List.mem_of_getElem? h
 simp only [List.nil_append,List.mem_append,List.mem_singleton] at this
 rcases this with h | rfl
 ·exact hp _ h
 ·exact ho
abbrev yT (p:ProgramD):Prop:=gF Try.prog 62 [.agg [.sl 3 1 (p.objective.map aG),.sl 22 1 (p.rows.map bD),.sl 3 1 (p.limits.map aG)]] (vB (cW p)) []
theorem aFz (p:ProgramD) (hp: ∀r∈p.rows,r.length≤1048576):yT p:=by
 refine cT dR bK Try.func62 (by kernel_rfl) (.len p.objective.length<| .call (vB (decide ((1:Int)≤((p.objective.length:Nat):Int)∧((p.objective.length:Nat):Int)≤(15:Int)))) []<| .br (.fin []) (.len p.rows.length<| .lit<| .lit<| .br (.fin []) (.len p.limits.length<| .len p.rows.length<| .lit<| .lit<| .br (.fin []) (.appr (List Int) bD ([]:List (List Int)) p.rows<| .appr (List Int) bD (([]:List (List Int))++p.rows) ([p.objective]:List (List Int))<| .len (((([]:List (List Int))++p.rows)++[p.objective]).length)<| .loop Nat (Q1 Nat) [5,7,40,41,42,43,44,45,46,47,48,49,50,51,52,53,54,55,56,57,58] [] (fun k=>[(40,vI (k:Int))]) (fun k=>[]) (fun k=>k≤((([]:List (List Int))++p.rows)++[p.objective]).length∧(((([]:List (List Int))++p.rows)++[p.objective]).take k).all (gW p.objective.length)=true) (fun k=>((([]:List (List Int))++p.rows)++[p.objective]).length - k) (fun k=> .br (.len (((([]:List (List Int))++p.rows)++[p.objective]).length)<| .elem _ bD ((([]:List (List Int))++p.rows)++[p.objective]) (fun e43=> .len e43.length<| .loop Nat (Q1 Nat) [7,46,47,48,49,50,51,52,53] [] (fun j=>[(46,vI (j:Int))]) (fun j=>[]) (fun j=>j≤e43.length∧(e43.take j).all uE=true) (fun j=>e43.length - j) (fun j=> .br (.elem _ aG e43 (fun e48=> .call (vB (decide ((-9:Int)≤e48∧e48≤(9:Int)))) []<| .br (.fin []) (.back []))) (.len e43.length<| .br (.fin []) (.back []))))) (.len p.limits.length<| .loop Nat (Q1 Nat) [9,62,63,64,65,66,67,68,69] [] (fun i=>[(62,vI (i:Int))]) (fun i=>[]) (fun i=>i≤p.limits.length∧(p.limits.take i).all rM=true) (fun i=>p.limits.length - i) (fun i=> .br (.elem _ aG p.limits (fun e64=> .call (vB (decide ((0:Int)≤e64∧e64≤(99:Int)))) []<| .br (.fin []) (.back []))) (.fin [])))))))) (p:=(p.objective.map aG).length≤9223372036854775807→(p.rows.map bD).length≤9223372036854775807→(p.limits.map aG).length≤9223372036854775807→Lm aG p.objective∧(jW ((p.objective.length:Nat):Int) (1:Int) (15:Int)∧(((!(decide ((1:Int)≤((p.objective.length:Nat):Int)∧((p.objective.length:Nat):Int)≤(15:Int))))=true→(false)=(cW p)∧True)∧((!(decide ((1:Int)≤((p.objective.length:Nat):Int)∧((p.objective.length:Nat):Int)≤(15:Int))))=false→Lm bD p.rows∧(((decide ((64:Int)<((p.rows.length:Nat):Int)))=true→(false)=(cW p)∧True)∧((decide ((64:Int)<((p.rows.length:Nat):Int)))=false→Lm aG p.limits∧(Lm bD p.rows∧(((!(decide (((p.limits.length:Nat):Int)=((p.rows.length:Nat):Int))))=true→(false)=(cW p)∧True)∧((!(decide (((p.limits.length:Nat):Int)=((p.rows.length:Nat):Int))))=false→[]=([]:List (List Int)).map bD∧p.rows.map bD=p.rows.map bD∧(([]:List (List Int)).length+p.rows.length)*24≤140737488355328∧((([]:List (List Int))++p.rows).map bD=(([]:List (List Int))++p.rows).map bD∧[[.sl 3 1 (p.objective.map aG)]]=([p.objective]:List (List Int)).map bD∧((([]:List (List Int))++p.rows).length+([p.objective]:List (List Int)).length)*24≤140737488355328∧(Lm bD ((([]:List (List Int))++p.rows)++[p.objective])∧((∃(k:Nat),(0:Int)=(k:Int)∧k≤((([]:List (List Int))++p.rows)++[p.objective]).length∧(((([]:List (List Int))++p.rows)++[p.objective]).take k).all (gW p.objective.length)=true)∧ ∀(k:Nat),(k≤((([]:List (List Int))++p.rows)++[p.objective]).length∧(((([]:List (List Int))++p.rows)++[p.objective]).take k).all (gW p.objective.length)=true)→((decide ((k:Int)<((((([]:List (List Int))++p.rows)++[p.objective]).length:Nat):Int)))=true→0≤(k:Int)∧Lm bD ((([]:List (List Int))++p.rows)++[p.objective])∧(k:Int)<((((([]:List (List Int))++p.rows)++[p.objective]).length:Nat):Int)∧Em bD ((([]:List (List Int))++p.rows)++[p.objective]) k fun e43=>Lm aG e43∧((∃(j:Nat),(0:Int)=(j:Int)∧j≤e43.length∧(e43.take j).all uE=true)∧ ∀(j:Nat),(j≤e43.length∧(e43.take j).all uE=true)→((decide ((j:Int)<((e43.length:Nat):Int)))=true→0≤(j:Int)∧Em aG e43 j fun e48=>jW e48 (-9:Int) (9:Int)∧(((!(decide ((-9:Int)≤e48∧e48≤(9:Int))))=true→(false)=(cW p)∧True)∧((!(decide ((-9:Int)≤e48∧e48≤(9:Int))))=false→dN ((j:Int)+(1:Int))∧ ∃(j' :Nat),((j:Int)+(1:Int))=(j' :Int)∧(j' ≤e43.length∧(e43.take j').all uE=true)∧e43.length - j' <e43.length - j)))∧((decide ((j:Int)<((e43.length:Nat):Int)))=false→Lm aG e43∧(((!(decide (((e43.length:Nat):Int)=((p.objective.length:Nat):Int))))=true→(false)=(cW p)∧True)∧((!(decide (((e43.length:Nat):Int)=((p.objective.length:Nat):Int))))=false→dN ((k:Int)+(1:Int))∧ ∃(k' :Nat),((k:Int)+(1:Int))=(k' :Int)∧(k' ≤((([]:List (List Int))++p.rows)++[p.objective]).length∧(((([]:List (List Int))++p.rows)++[p.objective]).take k').all (gW p.objective.length)=true)∧((([]:List (List Int))++p.rows)++[p.objective]).length - k' <((([]:List (List Int))++p.rows)++[p.objective]).length - k)))))∧((decide ((k:Int)<((((([]:List (List Int))++p.rows)++[p.objective]).length:Nat):Int)))=false→Lm aG p.limits∧((∃(i:Nat),(0:Int)=(i:Int)∧i≤p.limits.length∧(p.limits.take i).all rM=true)∧ ∀(i:Nat),(i≤p.limits.length∧(p.limits.take i).all rM=true)→((decide ((i:Int)<((p.limits.length:Nat):Int)))=true→0≤(i:Int)∧Em aG p.limits i fun e64=>jW e64 (0:Int) (99:Int)∧(((!(decide ((0:Int)≤e64∧e64≤(99:Int))))=true→(false)=(cW p)∧True)∧((!(decide ((0:Int)≤e64∧e64≤(99:Int))))=false→dN ((i:Int)+(1:Int))∧ ∃(i' :Nat),((i:Int)+(1:Int))=(i' :Int)∧(i' ≤p.limits.length∧(p.limits.take i').all rM=true)∧p.limits.length - i' <p.limits.length - i)))∧((decide ((i:Int)<((p.limits.length:Nat):Int)))=false→(true)=(cW p)∧True))))))))))))))) (by kernel_rfl) ?_
 intro n0 n1 n2
 simp only [List.length_map] at n0 n1 n2
 refine ⟨List.length_map _,pC _ _ _,fun g16=>?_,fun g16=>?_⟩
 ·replace g16:=nq (nt g16)
  refine ⟨?_,trivial⟩
  ·first | (exact (eF (by omega)).symm) | (exact (eN h43 (eG h48 (decide_eq_false c3))).symm) | (exact (eN h43 (fQ c4)).symm) | (exact (eY h64 (decide_eq_false c6)).symm) | (exact (fP (by omega) hrows (dQ (by omega) hc)).symm)
 ·replace g16:=yq (nf g16)
  refine ⟨List.length_map _,fun g22=>?_,fun g22=>?_⟩
  ·replace g22:=yq g22
   refine ⟨?_,trivial⟩
   ·first | (exact (eF (by omega)).symm) | (exact (eN h43 (eG h48 (decide_eq_false c3))).symm) | (exact (eN h43 (fQ c4)).symm) | (exact (eY h64 (decide_eq_false c6)).symm) | (exact (fP (by omega) hrows (dQ (by omega) hc)).symm)
  ·replace g22:=nq g22
   refine ⟨List.length_map _,List.length_map _,fun c0=>?_,fun c0=>?_⟩
   ·replace c0:=nq (nt c0)
    refine ⟨?_,trivial⟩
    ·first | (exact (eF (by omega)).symm) | (exact (eN h43 (eG h48 (decide_eq_false c3))).symm) | (exact (eN h43 (fQ c4)).symm) | (exact (eY h64 (decide_eq_false c6)).symm) | (exact (fP (by omega) hrows (dQ (by omega) hc)).symm)
   ·replace c0:=yq (nf c0)
    refine ⟨rfl,rfl,by simp;omega,rfl,rfl,by simp;omega,List.length_map _,⟨0,rfl,Nat.zero_le _,rfl⟩,fun k ⟨hk,ha⟩=>?_⟩
    refine ⟨fun c1=>?_,fun c1=>?_⟩
    ·replace c1:=yq c1
     have hLk:k<65:=by simp at c1;omega
     refine ⟨by omega,List.length_map _,by first | omega | (simp at*;omega),rfl,by first | omega | (simp at*;omega),fun e43 h43=>?_⟩
     have he43:=aIm hp (by omega) h43
     refine ⟨List.length_map _,⟨0,rfl,Nat.zero_le _,rfl⟩,fun j ⟨hj,hb⟩=>?_⟩
     refine ⟨fun c2=>?_,fun c2=>?_⟩
     ·replace c2:=yq c2
      refine ⟨by omega,rfl,by first | omega | (simp at*;omega),fun e48 h48=>?_⟩
      refine ⟨pC _ _ _,fun c3=>?_,fun c3=>?_⟩
      ·replace c3:=nq (nt c3)
       refine ⟨?_,trivial⟩
       ·first | (exact (eF (by omega)).symm) | (exact (eN h43 (eG h48 (decide_eq_false c3))).symm) | (exact (eN h43 (fQ c4)).symm) | (exact (eY h64 (decide_eq_false c6)).symm) | (exact (fP (by omega) hrows (dQ (by omega) hc)).symm)
      ·replace c3:=yq (nf c3)
       refine ⟨⟨by omega,by omega⟩,?_⟩
       exact ⟨j+1,rfl,⟨by omega,jH h48 hb (decide_eq_true c3)⟩,by omega⟩
     ·replace c2:=nq c2
      refine ⟨List.length_map _,fun c4=>?_,fun c4=>?_⟩
      ·replace c4:=nq (nt c4)
       refine ⟨?_,trivial⟩
       ·first | (exact (eF (by omega)).symm) | (exact (eN h43 (eG h48 (decide_eq_false c3))).symm) | (exact (eN h43 (fQ c4)).symm) | (exact (eY h64 (decide_eq_false c6)).symm) | (exact (fP (by omega) hrows (dQ (by omega) hc)).symm)
      ·replace c4:=yq (nf c4)
       refine ⟨⟨by omega,by omega⟩,?_⟩
       exact ⟨k+1,rfl,⟨by omega,jH h43 ha (aAe (dQ (by omega) hb) (by omega))⟩,by omega⟩
    ·replace c1:=nq c1
     have hrows:=dQ (by omega) ha
     refine ⟨List.length_map _,⟨0,rfl,Nat.zero_le _,rfl⟩,fun i ⟨hi,hc⟩=>?_⟩
     refine ⟨fun c5=>?_,fun c5=>?_⟩
     ·replace c5:=yq c5
      refine ⟨by omega,rfl,by first | omega | (simp at*;omega),fun e64 h64=>?_⟩
      refine ⟨pC _ _ _,fun c6=>?_,fun c6=>?_⟩
      ·replace c6:=nq (nt c6)
       refine ⟨?_,trivial⟩
       ·first | (exact (eF (by omega)).symm) | (exact (eN h43 (eG h48 (decide_eq_false c3))).symm) | (exact (eN h43 (fQ c4)).symm) | (exact (eY h64 (decide_eq_false c6)).symm) | (exact (fP (by omega) hrows (dQ (by omega) hc)).symm)
      ·replace c6:=yq (nf c6)
       refine ⟨⟨by omega,by omega⟩,?_⟩
       exact ⟨i+1,rfl,⟨by omega,jH h64 hc (decide_eq_true c6)⟩,by omega⟩
     ·replace c5:=nq c5
      refine ⟨?_,trivial⟩
      ·first | (exact (eF (by omega)).symm) | (exact (eN h43 (eG h48 (decide_eq_false c3))).symm) | (exact (eN h43 (fQ c4)).symm) | (exact (eY h64 (decide_eq_false c6)).symm) | (exact (fP (by omega) hrows (dQ (by omega) hc)).symm)
abbrev yU (p:ProgramD):Prop:=gF Try.prog 60 [.agg [.sl 3 1 (p.objective.map aG),.sl 22 1 (p.rows.map bD),.sl 3 1 (p.limits.map aG)]] (vB (cW p)) []
theorem aGA (p:ProgramD):yU p:=by
 refine cT dR bK Try.func60 (by kernel_rfl) (.len p.objective.length<| .call (vB (decide ((1:Int)≤((p.objective.length:Nat):Int)∧((p.objective.length:Nat):Int)≤(15:Int)))) []<| .br (.fin []) (.len p.rows.length<| .lit<| .lit<| .br (.fin []) (.len p.rows.length<| .len p.limits.length<| .lit<| .lit<| .br (.fin []) (.loop Nat (Q1 Nat) [4,28,29,30,31,32,33,34,35,36,37,38,39] [] (fun k=>[(4,vI (k:Int))]) (fun k=>[]) (fun k=>k≤p.objective.length∧(p.objective.take k).all uE=true) (fun k=>p.objective.length - k) (fun k=> .br (.elem _ aG p.objective (fun e36=> .call (vB (decide ((-9:Int)≤e36∧e36≤(9:Int)))) []<| .br (.fin []) (.back []))) (.loop Nat (Q1 Nat) [5,6,40,41,42,43,44,45,46,47,48,49,50,51,52,53,54,55,56,57,58,59,60,61,62,63,64,65,66,67,68,69,70,71,72,73,74,75,76,77,78] [] (fun i=>[(5,vI (i:Int))]) (fun i=>[]) (fun i=>i≤p.rows.length∧(p.rows.take i).all (gW p.objective.length)=true∧(p.limits.take i).all rM=true) (fun i=>p.rows.length - i) (fun i=> .len p.rows.length<| .br (.elem _ bD p.rows (fun e50=> .len e50.length<| .br (.fin []) (.elem _ aG p.limits (fun e59=> .call (vB (decide ((0:Int)≤e59∧e59≤(99:Int)))) []<| .lit<| .lit<| .br (.fin []) (.loop Nat (Q1 Nat) [6,64,65,66,67,68,69,70,71,72,73,74,75,76,77,78] [] (fun j=>[(6,vI (j:Int))]) (fun j=>[]) (fun j=>j≤p.objective.length∧(e50.take j).all uE=true) (fun j=>p.objective.length - j) (fun j=> .br (.elem _ bD p.rows (fun e72=> .elem _ aG e72 (fun e75=> .call (vB (decide ((-9:Int)≤e75∧e75≤(9:Int)))) []<| .br (.fin []) (.back [])))) (.back []))))))) (.fin [])))))))) (p:=(p.objective.map aG).length≤9223372036854775807→(p.rows.map bD).length≤9223372036854775807→(p.limits.map aG).length≤9223372036854775807→Lm aG p.objective∧(iJ ((p.objective.length:Nat):Int) (1:Int) (15:Int)∧(((!(decide ((1:Int)≤((p.objective.length:Nat):Int)∧((p.objective.length:Nat):Int)≤(15:Int))))=true→(false)=(cW p)∧True)∧((!(decide ((1:Int)≤((p.objective.length:Nat):Int)∧((p.objective.length:Nat):Int)≤(15:Int))))=false→Lm bD p.rows∧(((decide ((64:Int)<((p.rows.length:Nat):Int)))=true→(false)=(cW p)∧True)∧((decide ((64:Int)<((p.rows.length:Nat):Int)))=false→Lm bD p.rows∧(Lm aG p.limits∧(((!(decide (((p.rows.length:Nat):Int)=((p.limits.length:Nat):Int))))=true→(false)=(cW p)∧True)∧((!(decide (((p.rows.length:Nat):Int)=((p.limits.length:Nat):Int))))=false→(∃(k:Nat),(0:Int)=(k:Int)∧k≤p.objective.length∧(p.objective.take k).all uE=true)∧ ∀(k:Nat),(k≤p.objective.length∧(p.objective.take k).all uE=true)→((decide ((k:Int)<((p.objective.length:Nat):Int)))=true→0≤(k:Int)∧Em aG p.objective k fun e36=>iJ e36 (-9:Int) (9:Int)∧(((!(decide ((-9:Int)≤e36∧e36≤(9:Int))))=true→(false)=(cW p)∧True)∧((!(decide ((-9:Int)≤e36∧e36≤(9:Int))))=false→dN ((k:Int)+(1:Int))∧ ∃(k' :Nat),((k:Int)+(1:Int))=(k' :Int)∧(k' ≤p.objective.length∧(p.objective.take k').all uE=true)∧p.objective.length - k' <p.objective.length - k)))∧((decide ((k:Int)<((p.objective.length:Nat):Int)))=false→(∃(i:Nat),(0:Int)=(i:Int)∧i≤p.rows.length∧(p.rows.take i).all (gW p.objective.length)=true∧(p.limits.take i).all rM=true)∧ ∀(i:Nat),(i≤p.rows.length∧(p.rows.take i).all (gW p.objective.length)=true∧(p.limits.take i).all rM=true)→Lm bD p.rows∧(((decide ((i:Int)<((p.rows.length:Nat):Int)))=true→0≤(i:Int)∧Em bD p.rows i fun e50=>Lm aG e50∧(((!(decide (((e50.length:Nat):Int)=((p.objective.length:Nat):Int))))=true→(false)=(cW p)∧True)∧((!(decide (((e50.length:Nat):Int)=((p.objective.length:Nat):Int))))=false→0≤(i:Int)∧Em aG p.limits i fun e59=>iJ e59 (0:Int) (99:Int)∧(((!(decide ((0:Int)≤e59∧e59≤(99:Int))))=true→(false)=(cW p)∧True)∧((!(decide ((0:Int)≤e59∧e59≤(99:Int))))=false→(∃(j:Nat),(0:Int)=(j:Int)∧j≤p.objective.length∧(e50.take j).all uE=true)∧ ∀(j:Nat),(j≤p.objective.length∧(e50.take j).all uE=true)→((decide ((j:Int)<((p.objective.length:Nat):Int)))=true→0≤(i:Int)∧Em bD p.rows i fun e72=>0≤(j:Int)∧Em aG e72 j fun e75=>iJ e75 (-9:Int) (9:Int)∧(((!(decide ((-9:Int)≤e75∧e75≤(9:Int))))=true→(false)=(cW p)∧True)∧((!(decide ((-9:Int)≤e75∧e75≤(9:Int))))=false→dN ((j:Int)+(1:Int))∧ ∃(j' :Nat),((j:Int)+(1:Int))=(j' :Int)∧(j' ≤p.objective.length∧(e50.take j').all uE=true)∧p.objective.length - j' <p.objective.length - j)))∧((decide ((j:Int)<((p.objective.length:Nat):Int)))=false→dN ((i:Int)+(1:Int))∧ ∃(i' :Nat),((i:Int)+(1:Int))=(i' :Int)∧(i' ≤p.rows.length∧(p.rows.take i').all (gW p.objective.length)=true∧(p.limits.take i').all rM=true)∧p.rows.length - i' <p.rows.length - i))))))∧((decide ((i:Int)<((p.rows.length:Nat):Int)))=false→(true)=(cW p)∧True)))))))))))) (by kernel_rfl) ?_
 intro n0 n1 n2
 simp only [List.length_map] at n0 n1 n2
 refine ⟨List.length_map _,mL _ _ _,fun g13=>?_,fun g13=>?_⟩
 ·replace g13:=nq (nt g13)
  refine ⟨?_,trivial⟩
  ·first | (exact (eF (by omega)).symm) | (exact (jJ (eG h36 (decide_eq_false c2))).symm) | (exact (dW h50 (fQ g55)).symm) | (exact (eY h59 (decide_eq_false c4)).symm) | (exact (dW h50 (eG h75 (decide_eq_false c6))).symm) | (exact (fP (by omega) hrows (dQ (by omega) hl)).symm)
 ·replace g13:=yq (nf g13)
  refine ⟨List.length_map _,fun g19=>?_,fun g19=>?_⟩
  ·replace g19:=yq g19
   refine ⟨?_,trivial⟩
   ·first | (exact (eF (by omega)).symm) | (exact (jJ (eG h36 (decide_eq_false c2))).symm) | (exact (dW h50 (fQ g55)).symm) | (exact (eY h59 (decide_eq_false c4)).symm) | (exact (dW h50 (eG h75 (decide_eq_false c6))).symm) | (exact (fP (by omega) hrows (dQ (by omega) hl)).symm)
  ·replace g19:=nq g19
   refine ⟨List.length_map _,List.length_map _,fun c0=>?_,fun c0=>?_⟩
   ·replace c0:=nq (nt c0)
    refine ⟨?_,trivial⟩
    ·first | (exact (eF (by omega)).symm) | (exact (jJ (eG h36 (decide_eq_false c2))).symm) | (exact (dW h50 (fQ g55)).symm) | (exact (eY h59 (decide_eq_false c4)).symm) | (exact (dW h50 (eG h75 (decide_eq_false c6))).symm) | (exact (fP (by omega) hrows (dQ (by omega) hl)).symm)
   ·replace c0:=yq (nf c0)
    refine ⟨⟨0,rfl,Nat.zero_le _,rfl⟩,fun k ⟨hk,ha⟩=>?_⟩
    refine ⟨fun c1=>?_,fun c1=>?_⟩
    ·replace c1:=yq c1
     refine ⟨by omega,rfl,by omega,fun e36 h36=>?_⟩
     refine ⟨mL _ _ _,fun c2=>?_,fun c2=>?_⟩
     ·replace c2:=nq (nt c2)
      refine ⟨?_,trivial⟩
      ·first | (exact (eF (by omega)).symm) | (exact (jJ (eG h36 (decide_eq_false c2))).symm) | (exact (dW h50 (fQ g55)).symm) | (exact (eY h59 (decide_eq_false c4)).symm) | (exact (dW h50 (eG h75 (decide_eq_false c6))).symm) | (exact (fP (by omega) hrows (dQ (by omega) hl)).symm)
     ·replace c2:=yq (nf c2)
      refine ⟨⟨by omega,by omega⟩,?_⟩
      exact ⟨k+1,rfl,⟨by omega,jH h36 ha (decide_eq_true c2)⟩,by omega⟩
    ·replace c1:=nq c1
     have hobj:=dQ (by omega) ha
     refine ⟨⟨0,rfl,Nat.zero_le _,rfl,rfl⟩,fun i ⟨hi,hr,hl⟩=>?_⟩
     refine ⟨List.length_map _,fun c3=>?_,fun c3=>?_⟩
     ·replace c3:=yq c3
      refine ⟨by omega,rfl,by omega,fun e50 h50=>?_⟩
      refine ⟨List.length_map _,fun g55=>?_,fun g55=>?_⟩
      ·replace g55:=nq (nt g55)
       refine ⟨?_,trivial⟩
       ·first | (exact (eF (by omega)).symm) | (exact (jJ (eG h36 (decide_eq_false c2))).symm) | (exact (dW h50 (fQ g55)).symm) | (exact (eY h59 (decide_eq_false c4)).symm) | (exact (dW h50 (eG h75 (decide_eq_false c6))).symm) | (exact (fP (by omega) hrows (dQ (by omega) hl)).symm)
      ·replace g55:=yq (nf g55)
       refine ⟨by omega,rfl,by omega,fun e59 h59=>?_⟩
       refine ⟨mL _ _ _,fun c4=>?_,fun c4=>?_⟩
       ·replace c4:=nq (nt c4)
        refine ⟨?_,trivial⟩
        ·first | (exact (eF (by omega)).symm) | (exact (jJ (eG h36 (decide_eq_false c2))).symm) | (exact (dW h50 (fQ g55)).symm) | (exact (eY h59 (decide_eq_false c4)).symm) | (exact (dW h50 (eG h75 (decide_eq_false c6))).symm) | (exact (fP (by omega) hrows (dQ (by omega) hl)).symm)
       ·replace c4:=yq (nf c4)
        refine ⟨⟨0,rfl,Nat.zero_le _,rfl⟩,fun j ⟨hj,hb⟩=>?_⟩
        refine ⟨fun c5=>?_,fun c5=>?_⟩
        ·replace c5:=yq c5
         refine ⟨by omega,rfl,by omega,fun e72 h72=>?_⟩
         obtain rfl:=(dE h50 h72).symm
         refine ⟨by omega,rfl,by omega,fun e75 h75=>?_⟩
         refine ⟨mL _ _ _,fun c6=>?_,fun c6=>?_⟩
         ·replace c6:=nq (nt c6)
          refine ⟨?_,trivial⟩
          ·first | (exact (eF (by omega)).symm) | (exact (jJ (eG h36 (decide_eq_false c2))).symm) | (exact (dW h50 (fQ g55)).symm) | (exact (eY h59 (decide_eq_false c4)).symm) | (exact (dW h50 (eG h75 (decide_eq_false c6))).symm) | (exact (fP (by omega) hrows (dQ (by omega) hl)).symm)
         ·replace c6:=yq (nf c6)
          refine ⟨⟨by omega,by omega⟩,?_⟩
          exact ⟨j+1,rfl,⟨by omega,jH h75 hb (decide_eq_true c6)⟩,by omega⟩
        ·replace c5:=nq c5
         refine ⟨⟨by omega,by omega⟩,?_⟩
         exact ⟨i+1,rfl,⟨by omega,jH h50 hr (aAe (dQ (by omega) hb) (by omega)),jH h59 hl (decide_eq_true c4)⟩,by omega⟩
     ·replace c3:=nq c3
      have hrows:(p.rows++[p.objective]).all (gW p.objective.length)=true:=by rw [List.all_append,dQ (by omega) hr,List.all_cons,aAe hobj rfl];rfl
      refine ⟨?_,trivial⟩
      ·first | (exact (eF (by omega)).symm) | (exact (jJ (eG h36 (decide_eq_false c2))).symm) | (exact (dW h50 (fQ g55)).symm) | (exact (eY h59 (decide_eq_false c4)).symm) | (exact (dW h50 (eG h75 (decide_eq_false c6))).symm) | (exact (fP (by omega) hrows (dQ (by omega) hl)).symm)
theorem aY {α:Type} {l:List α} {k:Nat} {x y:α} (h:l[k]? =some x):l.getD k y=x:=by simp [List.getD_eq_getElem?_getD,h]
def aJ (n:Int):aC:=⟨n,1⟩
def zR:aC:=⟨0,0⟩
abbrev tV (n:Int):Prop:=gF Try.prog 63 [.one (.int .i64 n)] (.agg [vI ((aJ n).num),vI ((aJ n).den)]) []
theorem aCf (n:Int):tV n:=by
 refine cT dR bK Try.func63 (by kernel_rfl) (.fin []) (p:=n=((aJ n).num)∧(1:Int)=((aJ n).den)∧True) (by kernel_rfl) ?_
 refine ⟨?_,?_,trivial⟩
 ·rfl
 ·rfl
abbrev iK (n:Int):Prop:=gF Try.prog 25 [.one (.int .i64 n)] (.agg [vI ((aJ n).num),vI ((aJ n).den)]) []
theorem mM (n:Int):iK n:=by
 refine cT dR bK Try.func25 (by kernel_rfl) (.fin []) (p:=n=((aJ n).num)∧(1:Int)=((aJ n).den)∧True) (by kernel_rfl) ?_
 refine ⟨?_,?_,trivial⟩
 ·rfl
 ·rfl
abbrev qW (l:List aC) (n:Int):Prop:=gF Try.prog 77 [.one (.sl 28 2 (l.map aA)),.one (.int .i64 n)] (vB (decide ((l.length:Int)=n)&&l.all aT)) []
theorem aAf (l:List aC) (n:Int):qW l n:=by
 refine cT dR bK Try.func77 (by kernel_rfl) (.len l.length<| .loop Nat (Q1 Nat) [6,9,10,11,12,13,14,15,16] [600] (fun k=>[(9,vI (k:Int))]) (fun k=>[]) (fun k=>k≤l.length∧(l.take k).all aT=true) (fun k=>l.length - k) (fun k=> .br (.elem _ aA l (fun e11=> .call (vB (aT e11)) []<| .br (.fin []) (.back []))) (.len l.length<| .fin []))) (p:=(l.map aA).length≤9223372036854775807→Lm aA l∧((∃(k:Nat),(0:Int)=(k:Int)∧k≤l.length∧(l.take k).all aT=true)∧ ∀(k:Nat),(k≤l.length∧(l.take k).all aT=true)→((decide ((k:Int)<((l.length:Nat):Int)))=true→0≤(k:Int)∧Em aA l k fun e11=>eW e11∧(((!(aT e11))=true→(false)=(decide ((l.length:Int)=n)&&l.all aT)∧True)∧((!(aT e11))=false→dN ((k:Int)+(1:Int))∧ ∃(k' :Nat),((k:Int)+(1:Int))=(k' :Int)∧(k' ≤l.length∧(l.take k').all aT=true)∧l.length - k' <l.length - k)))∧((decide ((k:Int)<((l.length:Nat):Int)))=false→Lm aA l∧(decide (((l.length:Nat):Int)=n))=(decide ((l.length:Int)=n)&&l.all aT)∧True))) (by kernel_rfl) ?_
 intro n0
 simp only [List.length_map] at n0
 refine ⟨List.length_map _,⟨0,rfl,Nat.zero_le _,rfl⟩,fun k ⟨hk,ha⟩=>?_⟩
 refine ⟨fun c0=>?_,fun c0=>?_⟩
 ·replace c0:=yq c0
  refine ⟨by omega,rfl,by omega,fun e11 h11=>?_⟩
  refine ⟨iA e11,fun c1=>?_,fun c1=>?_⟩
  ·replace c1:=nt c1
   refine ⟨?_,trivial⟩
   ·first | (rw [mQ h11 c1,Bool.and_false];done) | (rw [dQ (by omega) ha,Bool.and_true];done)
  ·replace c1:=nf c1
   refine ⟨⟨by omega,by omega⟩,?_⟩
   exact ⟨k+1,rfl,⟨by omega,jH h11 ha c1⟩,by omega⟩
 ·replace c0:=nq c0
  refine ⟨List.length_map _,?_,trivial⟩
  ·first | (rw [mQ h11 c1,Bool.and_false];done) | (rw [dQ (by omega) ha,Bool.and_true];done)
def dL (r:aC):aC:=⟨-r.num,r.den⟩
def zD:aC:=⟨1,1⟩
def aBU:aC:=⟨0,1⟩
def aU (a b c:aC):aC × Bool:=if b.num=0∨c.num=0 then (a,true) else ((fZ a (bR b c).1).1,(bR b c).2&&(fZ a (bR b c).1).2)
theorem aDj (n d:Int):Int.gcd (-n) d=Int.gcd n d:=by simp [Int.gcd]
theorem aE9 (n d:Int):bG (-n) d=(-(bG n d).1,(bG n d).2.1,(bG n d).2.2):=by
 rcases Int.lt_trichotomy d 0 with h | h | h
 ·rw [tB h,tB h,aDj (-n),Int.neg_tdiv,oM]
  split<;>rfl
 ·subst h;rw [kO,kO];rfl
 ·rw [pO h,pO h,aDj,Int.neg_tdiv,oM]
  split<;>rfl
theorem vD (n d:Int):bG (-n) (-d)=bG n d:=by
 rcases Int.lt_trichotomy d 0 with h | h | h
 ·rw [tB h,pO (show 0< -d by omega)]
 ·subst h;rw [Int.neg_zero,kO,kO]
 ·rw [pO h,tB (show -d<0 by omega),Int.neg_neg,Int.neg_neg]
theorem aH4 {n d:Int} (h:(bG n d).2.2=true):cL (bG n d).1 (bG n d).2.1=true:=by
 rcases Int.lt_trichotomy d 0 with q | q | q
 ·rw [tB q] at*
  split at h
  ·rename_i hv;rw [if_pos hv];exact hv
  ·cases h
 ·subst q;rw [kO] at h;cases h
 ·rw [pO q] at*
  split at h
  ·rename_i hv;rw [if_pos hv];exact hv
  ·cases h
theorem aGB {n d:Int} (h:(bG n d).2.2=false):bG n d=(0,0,false):=by
 rcases Int.lt_trichotomy d 0 with q | q | q
 ·rw [tB q] at*
  split at h
  ·cases h
  ·rename_i hv;rw [if_neg hv]
 ·subst q;exact kO _
 ·rw [pO q] at*
  split at h
  ·cases h
  ·rename_i hv;rw [if_neg hv]
theorem tW {n d:Int} (h:cL n d=true):bG n d=(n,d,true):=by
 obtain ⟨h1,_,_,_,h2⟩:=aA4 h
 rw [pO (by omega),h2]
 simp only [Int.cast_ofNat_Int,Int.tdiv_one]
 rw [if_pos h]
theorem aH5 (b c:aC):bR (dL b) c=(dL (bR b c).1,(bR b c).2):=by
 simp only [bR,dL,aFw,oM]
 split
 ·rw [Int.neg_mul,aE9];rfl
 ·rfl
theorem aH6 (a p:aC):cN a (dL p)=fZ a p:=by
 simp only [cN,fZ,dL,aH0]
theorem aGC (a b c:aC):(if (dL b).num=0∨c.num=0 then (a,true) else ((cN a (bR (dL b) c).1).1,(bR (dL b) c).2&&(cN a (bR (dL b) c).1).2))=aU a b c:=by
 rw [aH5,aH6,aU]
 have e:(dL b).num=0↔b.num=0:=by simp only [dL];omega
 simp only [e]
theorem aH7 {q:Int × Int × Bool} {n d:Int} {p:Prop} [Decidable p] (e:q=if p then bG n d else (0,0,false)) (h:(fV q).2=true):aT (fV q).1=true:=by
 subst e
 split at h
 ·rename_i hp;rw [if_pos hp];exact aH4 h
 ·cases h
theorem aIn {a c:aC} (h:(fZ a c).2=true):aT (fZ a c).1=true:=aH7 (q:=aCd a.num a.den c.num c.den) rfl h
theorem aIo {a c:aC} (h:(cN a c).2=true):aT (cN a c).1=true:=aH7 (q:=aCc a.num a.den c.num c.den) rfl h
theorem tX {a c:aC} (h:(aQ a c).2=true):aT (aQ a c).1=true:=aH7 (q:=aBT a.num a.den c.num c.den) rfl h
theorem aDk {a c:aC} (h:(aQ a c).2=false):(aQ a c).1=⟨0,0⟩:=by
 unfold aQ aBT at*
 split at h
 ·rename_i hp;rw [if_pos hp,aGB h];rfl
 ·rename_i hp;rw [if_neg hp];rfl
theorem aDl {a b c:aC} (ha:aT a=true) (h:(aU a b c).2=true):aT (aU a b c).1=true:=by
 unfold aU at*
 split at h
 ·rename_i hp;rw [if_pos hp];exact ha
 ·rename_i hp
  rw [if_neg hp]
  simp only [Bool.and_eq_true] at h
  exact aIn h.2
theorem aCg {a:aC} (h:aT a=true) (h0:a.num≠0):aQ zD a=((if 0<a.num then ⟨a.den,a.num⟩ else ⟨-a.den,-a.num⟩),true):=by
 obtain ⟨h1,h2,h3,h4,h5⟩:=cF h
 have v1:cL 1 1=true:=by decide
 rw [aQ,show aBT zD.num zD.den a.num a.den=bG (1*a.den) (1*a.num) from dZ v1 h,Int.one_mul,Int.one_mul]
 by_cases hp:0<a.num
 ·rw [if_pos hp,tW (by simp only [cL,Int.gcd_comm a.den,h5,Bool.and_eq_true,decide_eq_true_eq,and_true];exact ⟨zM (by omega) (by omega),zM (by omega) (by omega)⟩)];rfl
 ·rw [if_neg hp,←vD,tW (by
   have e:Int.gcd (-a.den) (-a.num)=1:=by rw [aHX,Int.gcd_comm];exact h5
   simp only [cL,e,Bool.and_eq_true,decide_eq_true_eq,and_true];exact ⟨zM (by omega) (by omega),zM (by omega) (by omega)⟩)];rfl
theorem aIp {c a:aC} (hc:aT c=true) (ha:aT a=true) (h0:a.num≠0):bR c (aQ zD a).1=aQ c a:=by
 have hi:=tX (show (aQ zD a).2=true by rw [aCg ha h0])
 rw [aCg ha h0] at*
 rw [aQ,dZ hc ha]
 split at hi
 ·rename_i hp
  rw [if_pos hp,bR,eT hc hi]
 ·rename_i hp
  rw [if_neg hp,bR,eT hc hi]
  simp only [Int.mul_neg]
  rw [vD]
theorem zero_sub {x:aC} (h:aT x=true):fZ aBU x=(dL x,true):=by
 have v:cL 0 1=true:=by decide
 rw [fZ,show aCd aBU.num aBU.den x.num x.den=bG (0*x.den - x.num*1) (1*x.den) from kE v h]
 rw [Int.zero_mul,Int.mul_one,Int.one_mul,Int.zero_sub,tW (by rw [oM];exact h)];rfl
theorem aBy {d:Int} (h:d≠0):bG 0 d=(0,1,true):=by
 have key: ∀e:Int,0<e→bG 0 e=(0,1,true):=fun e he=>by
  have hg:((Int.gcd 0 e:Nat):Int)=e:=by rw [Int.gcd_zero_left];omega
  rw [pO he,hg,Int.zero_tdiv,Int.tdiv_self (by omega)];rfl
 rcases Int.lt_or_gt_of_ne h with q | q
 ·rw [←vD,Int.neg_zero];exact key _ (by omega)
 ·exact key _ q
theorem aH8 {c a:aC} (hc:aT c=true) (ha:aT a=true) (h0:a.num≠0):aU aBU c (aQ zD a).1=(dL (aQ c a).1,(aQ c a).2):=by
 have hb:=cF hc
 have hba:=cF ha
 by_cases hz:c.num=0
 ·have hd:c.den*a.num≠0:=Int.mul_ne_zero (by omega) h0
  rw [aU,if_pos (.inl hz),aQ,dZ hc ha,hz,Int.zero_mul,aBy hd];rfl
 ·have hn: ¬(c.num=0∨(aQ zD a).1.num=0):=by
   rw [aCg ha h0]
   rintro (q | q)
   ·exact hz q
   ·revert q;split
    ·show ¬a.den=0;omega
    ·show ¬ -a.den=0;omega
  rw [aU,if_neg hn,aIp hc ha h0]
  cases e:(aQ c a).2 with
  | true=>rw [zero_sub (tX e)];rfl
  | false=>rw [aDk e];rfl
end Go.Proofs.Ytpoobcnmhnbdlaa
namespace Go.Proofs
open Go.Shelf
namespace Ytpoobcnmhnbdlaa
def Try.lays189_ren : Go.Shelf.Ren := ⟨fun | 189 => 76 | 125 => 85 | 257 => 84 | 128 => 96 | 129 => 97 | 294 => 87 | 295 => 88 | 296 => 89 | 297 => 90 | 298 => 91 | 299 => 92 | 216 => 93 | 300 => 94 | 301 => 95 | 328 => 98 | 329 => 99 | 330 => 100 | 331 => 101 | 332 => 102 | 215 => 103 | 343 => 104 | n => n, fun | 28 => 22 | 3 => 3 | 46 => 100 | 0 => 0 | 51 => 111 | 53 => 113 | 4 => 4 | 183 => 103 | 182 => 102 | 131 => 108 | 5 => 5 | 9 => 9 | 218 => 114 | 222 => 118 | 228 => 121 | 229 => 122 | n => n, fun | n => n⟩
theorem Try.lays189 : Go.Proofs.Lays.n189 Try.prog Try.lays189_ren := {
  mixed := by kernel_rfl
  f125 := Try.func85.trans (congrArg some (by kernel_rfl))
  f128 := Try.func96.trans (congrArg some (by kernel_rfl))
  f129 := Try.func97.trans (congrArg some (by kernel_rfl))
  f189 := Try.func76.trans (congrArg some (by kernel_rfl))
  f215 := Try.func103.trans (congrArg some (by kernel_rfl))
  f216 := Try.func93.trans (congrArg some (by kernel_rfl))
  f257 := Try.func84.trans (congrArg some (by kernel_rfl))
  f294 := Try.func87.trans (congrArg some (by kernel_rfl))
  f295 := Try.func88.trans (congrArg some (by kernel_rfl))
  f296 := Try.func89.trans (congrArg some (by kernel_rfl))
  f297 := Try.func90.trans (congrArg some (by kernel_rfl))
  f298 := Try.func91.trans (congrArg some (by kernel_rfl))
  f299 := Try.func92.trans (congrArg some (by kernel_rfl))
  f300 := Try.func94.trans (congrArg some (by kernel_rfl))
  f301 := Try.func95.trans (congrArg some (by kernel_rfl))
  f328 := Try.func98.trans (congrArg some (by kernel_rfl))
  f329 := Try.func99.trans (congrArg some (by kernel_rfl))
  f330 := Try.func100.trans (congrArg some (by kernel_rfl))
  f331 := Try.func101.trans (congrArg some (by kernel_rfl))
  f332 := Try.func102.trans (congrArg some (by kernel_rfl))
  f343 := Try.func104.trans (congrArg some (by kernel_rfl))
  t0 := Try.underlying0
  a0 := Try.isAgg0
  z0 := Try.sizeOf0
  v0 := Try.zeroValue0
  t3 := Try.underlying3
  a3 := Try.isAgg3
  z3 := Try.sizeOf3
  v3 := Try.zeroValue3
  t4 := Try.underlying4
  a4 := Try.isAgg4
  z4 := Try.sizeOf4
  v4 := Try.zeroValue4
  t5 := Try.underlying5
  a5 := Try.isAgg5
  z5 := Try.sizeOf5
  v5 := Try.zeroValue5
  t9 := Try.underlying9
  a9 := Try.isAgg9
  z9 := Try.sizeOf9
  v9 := Try.zeroValue9
  t28 := Try.underlying22
  a28 := Try.isAgg22
  z28 := Try.sizeOf22
  v28 := Try.zeroValue22
  t46 := Try.underlying100
  a46 := Try.isAgg100
  z46 := Try.sizeOf100
  v46 := Try.zeroValue100
  t51 := Try.underlying111
  a51 := Try.isAgg111
  z51 := Try.sizeOf111
  v51 := Try.zeroValue111
  t53 := Try.underlying113
  a53 := Try.isAgg113
  z53 := Try.sizeOf113
  v53 := Try.zeroValue113
  t131 := Try.underlying108
  a131 := Try.isAgg108
  z131 := Try.sizeOf108
  v131 := Try.zeroValue108
  t182 := Try.underlying102
  a182 := Try.isAgg102
  z182 := Try.sizeOf102
  v182 := Try.zeroValue102
  t183 := Try.underlying103
  a183 := Try.isAgg103
  z183 := Try.sizeOf103
  v183 := Try.zeroValue103
  t218 := Try.underlying114
  a218 := Try.isAgg114
  z218 := Try.sizeOf114
  v218 := Try.zeroValue114
  t222 := Try.underlying118
  a222 := Try.isAgg118
  z222 := Try.sizeOf118
  v222 := Try.zeroValue118
  t228 := Try.underlying121
  a228 := Try.isAgg121
  z228 := Try.sizeOf121
  v228 := Try.zeroValue121
  t229 := Try.underlying122
  a229 := Try.isAgg122
  z229 := Try.sizeOf122
  v229 := Try.zeroValue122 }
end Ytpoobcnmhnbdlaa
end Go.Proofs
namespace Go.Proofs.Ytpoobcnmhnbdlaa
open Go.ChangeShapes Go.WideShapes Go.ChangeAt Go.RowKit
set_option linter.unusedVariables false
set_option linter.unusedSimpArgs false
theorem aBz {w:World}: ∀{l:List Int} {css:List (List Value)} {Fs:List (List Nat)},cM w 1 (l.map aG) css Fs→css.flatten=l.map (Value.int .i64)∧Fs.flatten= []
 | [],css,Fs,h=>by
   simp only [List.map_nil] at h
   unfold cM at h
   rw [h.1,h.2];simp
 | n::l,css,Fs,h=>by
   simp only [List.map_cons] at h
   unfold cM at h
   obtain ⟨c,css',F,Fs',rfl,rfl,_,h1,h2⟩:=h
   obtain ⟨q1,q2⟩:=aBz h2
   unfold aG dI at h1
   obtain ⟨v,cs',F1,F2,rfl,rfl,h3,h4⟩:=h1
   unfold dI at h4
   unfold nH at h3
   simp [q1,q2,h4.1,h4.2,h3.1,h3.2]
theorem wU (w:World): ∀(l:List Int),cM w 1 (l.map aG) (l.map fun n=>[Value.int .i64 n]) (l.map fun _=>[])
 | []=>by simp only [List.map_nil];unfold cM;exact ⟨rfl,rfl⟩
 | n::l=>by
   simp only [List.map_cons]
   unfold cM
   refine ⟨_,_,_,_,rfl,rfl,rfl,?_,wU w l⟩
   unfold aG dI
   refine ⟨_,_,[],[],rfl,rfl,?_,?_⟩
   ·unfold nH;exact ⟨rfl,rfl⟩
   ·unfold dI;exact ⟨rfl,rfl⟩
theorem aCA: ∀(m:List Int),(m.map fun n=>[Value.int .i64 n]).flatten=m.map (Value.int .i64)
 | []=>rfl
 | a::l=>by simp only [List.map_cons,List.flatten_cons,aCA l];rfl
theorem aGD {P:Program} {f:FuncId} {e:Nat} (l m:List Int) (hc:iT P f=true) (hm:m.length=l.length)
 (hn0:l= []→ ∀w,Calls P f #[.slice none 0 0] w (fun ex w' =>ex= .returned (.tuple #[])∧w' =w))
 (hs: ∀(blk cap:Nat) (w:World),Go.Sort.Holds (Value.int .i64) w blk 0 l.toArray→blk<w.heap.size→l.length≤cap→Calls P f #[.slice (some ⟨blk,0,none⟩) l.length cap] w (fun ex w' =>ex= .returned (.tuple #[])∧ ∃n os,w' =Go.Sort.grow (Go.Sort.putRow (Value.int .i64) (Go.Sort.ahead w n) blk 0 m.toArray) os)):
 sO P f [.own 0] [(0,.arr e 1 true (l.map aG))] (.tup []) [(0,.arr e 1 true (m.map aG))]:=by
 refine ⟨hc,by simp,fun A φ w vs hI hM=>?_⟩
 obtain ⟨pl,hp,css,Fs,q1,q2,q3,q4⟩:=hI.dom 0 _ rfl
 unfold aR at hM
 obtain ⟨v,us,e1,m1,hM⟩:=hM
 unfold aR at hM
 unfold aF at m1
 have hv:=m1 pl hp
 have ev:vs= #[pl.val]:=by apply Array.ext';rw [e1,hM,hv]
 rw [ev]
 obtain ⟨c1,c2⟩:=aBz q4
 rw [c1,List.length_map] at q1
 have hge:=hI.ge 0 pl hp
 have hsub:pl.sub= []:=by rw [q3,c2]
 have hfoot: ∀b∈pl.F,aFl φ b:=fun b hb=>⟨0,pl,trivial,hp,hb⟩
 have hend: ∀(w' :World),lR pl.F w w' →w'.ownsRow 0 e 1 pl.val l.length (m.map (Value.int .i64))→
  ∃v K φ',Ending.returned (.tuple #[])= .returned v∧aJo A φ w [(0,.arr e 1 true (m.map aG))] K φ' w' ∧aF K φ' w' (.tup []) v:=by
  intro w' hon howns
  refine ⟨_,A,fun h=>if h=0 then some pl else none,rfl,⟨⟨hon.os,hon.tape,hon.output,hon.size,fun b hb hn=>hon.block b hb (fun hm=>hn (hfoot b hm))⟩,fun _ h=>h,fun b hb=>⟨Nat.lt_of_lt_of_le (hI.lt b hb) hon.size,.inl hb⟩,fun b hb h pl1 e' hm' =>?_,fun h r hr=>?_,fun h hr=>?_,fun h h' pl1 pl2 hne ea eb=>?_,fun h pl1 e' =>?_,fun h pl1 e' g hg=>?_,fun h pl1 pl0 e' e0=>?_⟩,?_⟩
  ·split at e'
   ·injection e' with e';subst e'
    exact hI.out b hb 0 pl hp hm'
   ·cases e'
  ·simp only [bA] at hr
   split at hr
   ·rename_i eh
    subst eh
    injection hr with hr
    subst hr
    refine ⟨pl,by simp,m.map fun n=>[Value.int .i64 n],m.map fun _=>[],?_,q2,?_,wU _ m⟩
    ·rw [aCA,List.length_map,hm];exact howns
    ·rw [hsub];simp
   ·cases hr
  ·simp only [bA] at hr
   split at hr
   ·cases hr
   ·rename_i eh;exact if_neg eh
  ·split at ea
   ·split at eb
    ·rename_i x y;exact absurd (x.trans y.symm) hne
    ·cases eb
   ·cases ea
  ·split at e'
   ·injection e' with e';subst e';exact hI.nodup 0 pl hp
   ·cases e'
  ·split at e'
   ·injection e' with e';subst e'
    exact ⟨.inr (hfoot g hg),Nat.lt_of_lt_of_le (hge g hg) hon.size⟩
   ·cases e'
  ·split at e'
   ·rename_i eh
    subst eh
    rw [hp] at e0
    injection e0 with e0;injection e' with e'
    subst e0;subst e'
    exact ⟨rfl,rfl⟩
   ·cases e'
  ·unfold aF
   exact ⟨#[],rfl,by unfold aR;rfl⟩
 rcases q1.2 with ⟨hvn,hz⟩ | ⟨g,cap,cur,hvv,hg0,hb,hn,hcap,hsz,htk⟩
 ·have hz' :l= []:=List.eq_nil_of_length_eq_zero hz
  rw [hvn]
  refine (hn0 hz' w).mono ?_
  rintro en w' ⟨rfl,rfl⟩
  have hm0:m= []:=List.eq_nil_of_length_eq_zero (by rw [hm,hz])
  refine hend w' (lR.refl _ _) ?_
  rw [hvn,hm0,hz]
  exact ⟨by simp,.inl ⟨rfl,rfl⟩⟩
 ·have hlt:g<w.heap.size:=(Array.getElem?_eq_some_iff.1 hb).1
  have hH:Go.Sort.Holds (Value.int .i64) w g 0 l.toArray:=holds_of_blockI hb (by rw [Nat.mul_one] at htk;exact htk)
  rw [hvv]
  refine (hs g cap w hH hlt hn).mono ?_
  rintro en w' ⟨rfl,n,os,rfl⟩
  have hgb:=grownBy_sortedI (w:=w) (g:=g) (n:=n) (os:=os) m.toArray
  have hown:=ownsRow_sortedI (n:=n) (os:=os) hm hg0 hb hn hcap hsz
  refine hend _ ⟨hgb.os,hgb.tape,hgb.output,hgb.size,fun k hk hne=>hgb.block k hk (fun e=>hne (by injection e with e;subst e;unfold Pl.F;rw [q2,hvv];simp [Value.ownBlock]))⟩ ?_
  rw [hvv];exact hown
def gU (l:List Int):List Int:=l.mergeSort fun x y=>decide (x≤y)
theorem aEa (l:List Int):(gU l).Perm l:=List.mergeSort_perm l _
theorem yE (l:List Int):(gU l).length=l.length:=(aEa l).length_eq
theorem aGE (l:List Int) (hl:l.length<4611686018427387904):sO Try.prog 76 [.own 0] [(0,.arr 3 1 true (l.map aG))] (.tup []) [(0,.arr 3 1 true ((gU l).map aG))]:=
 aGD l (gU l) (by kernel_rfl) (yE l)
  (fun h w=>Any.slices_Sort_int_none Try.lays189 none 0 w)
  (fun blk cap w hH hblk _=>Any.slices_Sort_int Try.lays189 blk 0 cap l w hH hblk hl)
end Go.Proofs.Ytpoobcnmhnbdlaa
