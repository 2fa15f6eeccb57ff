/-
  Contracts and plain laws, joined: part 17.
-/
import Derived.Test.YtokkjaflmcjlhaaGreatQD14
import Derived.Test.YtokkjaflmcjlhaaGreatQD15
namespace Go.Proofs.YtokkjaflmcjlhaaGreat
open Go.ChangeShapes Go.WideShapes Go.ChangeAt Go.RowKit
set_option linter.unusedVariables false
set_option linter.unusedSimpArgs false
set_option maxRecDepth 100000
set_option maxHeartbeats 4000000
abbrev inO (o:List Int):Nat→Bool:=fun i=>decide ((i:Int)∈o)
theorem aGR {o:List Int} {x:Int} (hx:0≤x):inO (o++[x])=xD (inO o) x.toNat:=by
 funext i
 simp only [inO,xD]
 apply Bool.eq_iff_iff.2
 rw [decide_eq_true_eq,Bool.or_eq_true,decide_eq_true_eq,decide_eq_true_eq,List.mem_append,List.mem_singleton]
 constructor
 ·rintro (h | h)
  ·exact .inl h
  ·exact .inr (by omega)
 ·rintro (h | h)
  ·exact .inl h
  ·exact .inr (by omega)
theorem aRo:(0:Int)=m4 (inO []):=by simp [m4,b4,inO]
def nN (s:StoreD) (q:QueryD) (m:Int) (f:Nat) (o:List Int):Option (List Int):=fH s q f o (inO o) (fD m (inO o))
theorem aQZ {s:StoreD} {q:QueryD} {m:Int} {f:Nat} {o:List Int} {k:Nat}:nN s q m f ((([]:List Int)++o)++[((k:Nat):Int)])=fH s q f (o++[((k:Nat):Int)]) (xD (inO o) k) (lC (fD m (inO o)) k):=by
 rw [List.nil_append,nN,aGR (by omega),Int.toNat_natCast,aKe]
theorem aTP {u:Nat→Bool} {i:Nat} (hi:i<4) (h:u i=true):1≤m4 u:=by
 have h1:=aCG u
 by_cases e:m4 u=0
 ·have:=aDP ((aE2 u).1 e) hi
  rw [h] at this;cases this
 ·omega
theorem aRp {s:StoreD} {q:QueryD} {m:Int} {o:List Int} (hq:kU s q m=true) (ho: ∀x∈o,0≤x∧x.toNat<q.atoms.length∧cP m x.toNat=true) (hne:o≠[]):kU s q (m4 (inO o))=true:=by
 obtain ⟨h1,h2,h3,_,_,_,_,h5⟩:=jP hq
 obtain ⟨x,hx⟩:=List.exists_mem_of_ne_nil o hne
 have hxo:=ho x hx
 have hp:1≤m4 (inO o):=aTP (i:=x.toNat) (by omega) (by
  rw [inO,decide_eq_true_eq,Int.toNat_of_nonneg hxo.1];exact hx)
 have hf:=aIN h5 (u:=inO o) fun i hi1 _=>by
  rw [inO,decide_eq_false_iff_not]
  intro hm
  have:=(ho _ hm).2.1
  omega
 rw [kU,h1,h2,jO h3,iG hp hf.2];rfl
theorem aKf {p:Nat→Bool} {j:Nat}: ∀{n:Nat},j≤n→ ∃t,dZ p n=dZ p j++t
 | 0,h=>⟨[],by rw [show j=0 by omega];rfl⟩
 | n+1,h=>by
   by_cases e:j=n+1
   ·exact ⟨[],by rw [e,List.append_nil]⟩
   ·obtain ⟨t,ht⟩:=aKf (p:=p) (j:=j) (n:=n) (by omega)
    cases hp:p n with
    | true=>exact ⟨t++[(n:Int)],by rw [kO hp,ht,List.append_assoc]⟩
    | false=>exact ⟨t,by rw [mC hp,ht]⟩
theorem aQ0 {p:Nat→Bool} {g:Int→Option (List Int)} {k n:Nat} {r:List Int} (hk:k<n) (hp:p k=true) (ha:(dZ p k).findSome? g=none) (hg:g ((k:Nat):Int)=some r):(dZ p n).findSome? g=some r:=by
 obtain ⟨t,ht⟩:=aKf (p:=p) (j:=k+1) (n:=n) (by omega)
 rw [ht,kO hp,List.append_assoc,List.findSome?_append,ha]
 simp [hg]
theorem aJG {p:Nat→Bool} {g:Int→Option (List Int)} {k:Nat} (h:p k=false∨g ((k:Nat):Int)=none) (ha:(dZ p k).findSome? g=none):(dZ p (k+1)).findSome? g=none:=by
 cases hp:p k with
 | false=>rw [mC hp];exact ha
 | true=>
   rcases h with q | q
   ·rw [hp] at q;cases q
   ·rw [kO hp,List.findSome?_append,ha]
    simp [q]
theorem aTQ {s:StoreD} {q:QueryD} {m:Int} {i:Nat} (h:eS s q m i=true):cP m i=false:=by
 rw [eS,Bool.and_eq_true,Bool.not_eq_true'] at h
 exact h.1
theorem aAW {s:StoreD} {q:QueryD} {m st:Int} (h:0≤st):nN s q m 4 [st]=aDQ s q m st.toNat:=by
 have e:inO [st]=isP st.toNat:=by
  funext i
  simp only [inO,isP,List.mem_singleton]
  exact decide_eq_decide.2 (by omega)
 rw [nN,aDQ,e,Int.toNat_of_nonneg h]
abbrev aAX (s:StoreD) (q:QueryD) (f:Nat) (o:List Int) (m:Int):List AV × List (Nat × Rs) × AV × List (Nat × Rs):=([.agg [.p none (.sl 162 3 (s.database.tables.map aL)),vI s.catalogue.version,.p none (.sl 121 4 (s.catalogue.tables.map aA)),.p none (.sl 168 3 (s.dependencies.map aD)),.p none (.sl 170 4 (s.inclusions.map aE))],.agg [vI q.variableCount,.p none (.sl 131 2 (q.atoms.map aU))],vI m,.own 0],[(0,.arr 3 1 true (o.map intD))],.own 5,[(5,.arr 3 1 true (((nN s q m f o).getD []).map intD))])
abbrev aDS (s:StoreD) (q:QueryD) (f:Nat) (o:List Int) (m:Int):Prop:=lT Tryz.prog 114 (aAX s q f o m).1 (aAX s q f o m).2.1 (aAX s q f o m).2.2.1 (aAX s q f o m).2.2.2
theorem aMl (s:StoreD) (q:QueryD) (f:Nat) (o:List Int) (m:Int) (hc:cJ s≤1048576) (hq:kU s q m=true) (ho: ∀x∈o,0≤x∧x.toNat<q.atoms.length∧cP m x.toNat=true) (hne:o≠[]) (hol:o.length+f≤100) (hf:gH (fD m (inO o))≤f∧f≤4) (ih: ∀g,g+1=f→ ∀(o:List Int),(∀x∈o,0≤x∧x.toNat<q.atoms.length∧cP m x.toNat=true)→o≠[]→o.length+g≤100→gH (fD m (inO o))≤g→aDS s q g o m):aDS s q f o m:=by
 refine mZ bF aS Tryz.func114 (by kernel_rfl) (by kernel_rfl) (.loop (Nat × Int) (Q2 Nat Int) [9,10,13,14,15,16,17,18,19,20,21,22,23,24,25] [] (fun yy0=>[(10,vI (yy0.1:Int)),(9,vI yy0.2)]) (fun yy0=>[]) (fun yy0=>yy0.1≤o.length∧yy0.2=m4 (inO (o.take yy0.1))) (fun yy0=>o.length - yy0.1) (fun yy0=> .len o.length<| .br (.len o.length<| .elem _ intD o (fun e23=> .back [])) (.br (.fin [(5,0)]) (.loop Nat (Q1 Nat) [11,12,30,31,32,33,34,35,36,37,38,39,40,41,42,43,44,45,46,47,48,49,50,51,52,53,54,55,56,57,58,59,60,61] [5200,5400,5600,5700,5805] (fun k=>[(11,vI (k:Int))]) (fun k=>[]) (fun k=>k≤q.atoms.length∧(dZ (fD m (inO o)) k).findSome? (kA s q (fH s q (f - 1)) o (inO o) (fD m (inO o)))=none) (fun k=>q.atoms.length - k) (fun k=> .len q.atoms.length<| .br (.br (.call (vB (eS s q yy0.2 (k:Int).toNat)) []<| .lit<| .br (.app Int intD ([]:List Int) o<| .app Int intD (([]:List Int)++o) ([(k:Int)]:List Int)<| .callx [.agg [.p none (.sl 162 3 (s.database.tables.map aL)),vI s.catalogue.version,.p none (.sl 121 4 (s.catalogue.tables.map aA)),.p none (.sl 168 3 (s.dependencies.map aD)),.p none (.sl 170 4 (s.inclusions.map aE))],.agg [vI q.variableCount,.p none (.sl 131 2 (q.atoms.map aU))],vI m,.own 0] [(0,.arr 3 1 true (((([]:List Int)++o)++[(k:Int)]).map intD))] [(0,5700)] (.own 5) [(5,.arr 3 1 true (((nN s q m (f - 1) ((([]:List Int)++o)++[(k:Int)])).getD []).map intD))]<| .len (((nN s q m (f - 1) ((([]:List Int)++o)++[(k:Int)])).getD []).length)<| .br (.fin [(5,5805)]) (.back [])) (.back [])) (.back [])) (.fin [(5,6300)])))))) (p:=(∃(i0:Nat) (p:Int),(0:Int)=(i0:Int)∧(0:Int)=p∧i0≤o.length∧p=m4 (inO (o.take i0)))∧ ∀(i0:Nat) (p:Int),(i0≤o.length∧p=m4 (inO (o.take i0)))→Lm intD o∧(((decide ((i0:Int)<((o.length:Nat):Int)))=true→0≤(i0:Int)∧Lm intD o∧(i0:Int)<((o.length:Nat):Int)∧Em intD o i0 fun e23=>(0≤e23∧e23≤64)∧cG ((1:Int)*2^(Int.toNat e23))∧cG ((i0:Int)+(1:Int))∧ ∃(i0' :Nat) (p' :Int),((i0:Int)+(1:Int))=(i0' :Int)∧(dD .or .i64 p ((1:Int)*2^(Int.toNat e23)))=p' ∧(i0' ≤o.length∧p' =m4 (inO (o.take i0')))∧o.length - i0' <o.length - i0)∧((decide ((i0:Int)<((o.length:Nat):Int)))=false→((decide (p=m))=true→o.map intD=((nN s q m f o).getD []).map intD∧True)∧((decide (p=m))=false→(∃(k:Nat),(0:Int)=(k:Int)∧k≤q.atoms.length∧(dZ (fD m (inO o)) k).findSome? (kA s q (fH s q (f - 1)) o (inO o) (fD m (inO o)))=none)∧ ∀(k:Nat),(k≤q.atoms.length∧(dZ (fD m (inO o)) k).findSome? (kA s q (fH s q (f - 1)) o (inO o) (fD m (inO o)))=none)→Lm aU q.atoms∧(((decide ((k:Int)<((q.atoms.length:Nat):Int)))=true→(0≤(k:Int)∧(k:Int)≤64)∧(((decide ((dD .and .i64 (m/2^k) (1:Int))=(1:Int)))=true→aIM s q p (k:Int)∧(((eS s q p (k:Int).toNat)=true→[]=([]:List Int).map intD∧o.map intD=o.map intD∧(∀x,eK (intD x)=true)∧(([]:List Int).length+o.length)*8≤140737488355328∧((([]:List Int)++o).map intD=(([]:List Int)++o).map intD∧[[.int .i64 (k:Int)]]=([(k:Int)]:List Int).map intD∧(∀x,eK (intD x)=true)∧((([]:List Int)++o).length+([(k:Int)]:List Int).length)*8≤140737488355328∧(lT Tryz.prog 114 [.agg [.p none (.sl 162 3 (s.database.tables.map aL)),vI s.catalogue.version,.p none (.sl 121 4 (s.catalogue.tables.map aA)),.p none (.sl 168 3 (s.dependencies.map aD)),.p none (.sl 170 4 (s.inclusions.map aE))],.agg [vI q.variableCount,.p none (.sl 131 2 (q.atoms.map aU))],vI m,.own 0] [(0,.arr 3 1 true (((([]:List Int)++o)++[(k:Int)]).map intD))] (.own 5) [(5,.arr 3 1 true (((nN s q m (f - 1) ((([]:List Int)++o)++[(k:Int)])).getD []).map intD))]∧s.database.tables.map aL=s.database.tables.map aL∧s.catalogue.version=s.catalogue.version∧s.catalogue.tables.map aA=s.catalogue.tables.map aA∧s.dependencies.map aD=s.dependencies.map aD∧s.inclusions.map aE=s.inclusions.map aE∧q.variableCount=q.variableCount∧q.atoms.map aU=q.atoms.map aU∧m=m∧((([]:List Int)++o)++[(k:Int)]).map intD=((([]:List Int)++o)++[(k:Int)]).map intD∧(Lm intD ((nN s q m (f - 1) ((([]:List Int)++o)++[(k:Int)])).getD [])∧(((decide ((0:Int)<((((nN s q m (f - 1) ((([]:List Int)++o)++[(k:Int)])).getD []).length:Nat):Int)))=true→((nN s q m (f - 1) ((([]:List Int)++o)++[(k:Int)])).getD []).map intD=((nN s q m f o).getD []).map intD∧True)∧((decide ((0:Int)<((((nN s q m (f - 1) ((([]:List Int)++o)++[(k:Int)])).getD []).length:Nat):Int)))=false→cG ((k:Int)+(1:Int))∧ ∃(k' :Nat),((k:Int)+(1:Int))=(k' :Int)∧(k' ≤q.atoms.length∧(dZ (fD m (inO o)) k').findSome? (kA s q (fH s q (f - 1)) o (inO o) (fD m (inO o)))=none)∧q.atoms.length - k' <q.atoms.length - k))))))∧((eS s q p (k:Int).toNat)=false→cG ((k:Int)+(1:Int))∧ ∃(k' :Nat),((k:Int)+(1:Int))=(k' :Int)∧(k' ≤q.atoms.length∧(dZ (fD m (inO o)) k').findSome? (kA s q (fH s q (f - 1)) o (inO o) (fD m (inO o)))=none)∧q.atoms.length - k' <q.atoms.length - k)))∧((decide ((dD .and .i64 (m/2^k) (1:Int))=(1:Int)))=false→cG ((k:Int)+(1:Int))∧ ∃(k' :Nat),((k:Int)+(1:Int))=(k' :Int)∧(k' ≤q.atoms.length∧(dZ (fD m (inO o)) k').findSome? (kA s q (fH s q (f - 1)) o (inO o) (fD m (inO o)))=none)∧q.atoms.length - k' <q.atoms.length - k)))∧((decide ((k:Int)<((q.atoms.length:Nat):Int)))=false→[]=((nN s q m f o).getD []).map intD∧True)))))) (by kernel_rfl) ?_
 obtain ⟨hq1,hq2,hq3,hm1,hm2,hm3,hm4,hm5⟩:=jP hq
 have hs: ∀i,i<4→inO o i=true→cP m i=true:=fun i hi h=>by have z:=(ho _ (of_decide_eq_true h)).2.2;rwa [Int.toNat_natCast] at z
 have hall:dZ (fD m (inO o)) 4=dZ (fD m (inO o)) q.atoms.length:=aQS hm5.2 fun v h1 h2=>by rw [fD,aCL ⟨by omega,hm2⟩ h1 h2];rfl
 refine ⟨⟨0,(0:Int),rfl,rfl,Nat.zero_le _,aRo⟩,fun i0 p ⟨hk,hp⟩=>?_⟩
 refine ⟨List.length_map _,fun c0=>?_,fun c0=>?_⟩
 ·replace c0:=yq c0
  refine ⟨by omega,List.length_map _,by omega,rfl,by omega,fun e23 h23=>?_⟩
  have hx:=ho _ (List.mem_of_getElem? h23)
  have hx0:=hx.1
  have hx4:e23.toNat<4:=by omega
  obtain ⟨w1,w2,w3⟩:=tF (x:=e23) (iG (by omega) (by omega))
  refine ⟨⟨by omega,by omega⟩,by first | exact w1 | exact ⟨by omega,by omega⟩,by first | exact w1 | exact ⟨by omega,by omega⟩,?_⟩
  exact ⟨i0+1,_,rfl,rfl,⟨by omega,by rw [hp,aA6 hx4,cN h23,aGR hx0]⟩,by omega⟩
 ·replace c0:=nq c0
  rw [List.take_of_length_le (by omega)] at hp
  have hqp:kU s q p=true:=by rw [hp];exact aRp hq ho hne
  refine ⟨fun c1=>?_,fun c1=>?_⟩
  ·replace c1:=yq c1
   have hz:gH (fD m (inO o))=0:=aOJ ⟨by omega,hm3⟩ (by rw [←hp];exact c1)
   refine ⟨?_,trivial⟩
   ·first | (rw [nN,fV hz];rfl) | (rw [hR];done) | (rw [hN];rfl)
  ·replace c1:=nq c1
   have hz: ¬gH (fD m (inO o))=0:=aOK ⟨by omega,hm3⟩ hs (by rw [←hp];exact c1)
   have hg:f - 1+1=f:=by omega
   refine ⟨⟨0,rfl,Nat.zero_le _,rfl⟩,fun k ⟨hk,hn⟩=>?_⟩
   refine ⟨List.length_map _,fun c2=>?_,fun c2=>?_⟩
   ·replace c2:=yq c2
    refine ⟨⟨by omega,by omega⟩,fun g42=>?_,fun g42=>?_⟩
    ·replace g42:=yq g42
     refine ⟨aRm s q p (k:Int) (by omega) (by assumption) (by first | assumption | exact ⟨by omega,by omega⟩),fun c3=>?_,fun c3=>?_⟩
     ·have hbk:=oS g42
      have huk:inO o k=false:=by have z:=aTQ c3;rw [hp,Int.toNat_natCast,aFy (by omega)] at z;exact z
      have hrk:fD m (inO o) k=true:=by rw [fD,hbk,huk];rfl
      have hcc:=aGM (p:=fD m (inO o)) (v:=k) (by omega) hrk
      have hE:kA s q (fH s q (f - 1)) o (inO o) (fD m (inO o)) ((k:Nat):Int)=nN s q m (f - 1) ((([]:List Int)++o)++[((k:Nat):Int)]):=by rw [kA,if_pos (by rw [←hp];exact c3),aQZ,Int.toNat_natCast]
      have hcg:gH (fD m (inO ((([]:List Int)++o)++[((k:Nat):Int)])))≤f - 1:=by rw [List.nil_append,aGR (by omega),Int.toNat_natCast,aKe];omega
      have ho2: ∀x∈(([]:List Int)++o)++[((k:Nat):Int)],0≤x∧x.toNat<q.atoms.length∧cP m x.toNat=true:=fun x hx=>by (rw [List.nil_append,List.mem_append,List.mem_singleton] at hx;rcases hx with h | rfl;exact ho x h;exact ⟨by omega,by omega,by rw [Int.toNat_natCast];exact hbk⟩)
      refine ⟨rfl,rfl,fun _=>rfl,by first | omega | (simp;omega),?_⟩
      refine ⟨rfl,rfl,fun _=>rfl,by first | omega | (simp;omega),?_⟩
      refine ⟨ih (f - 1) hg ((([]:List Int)++o)++[(k:Int)]) ho2 (by simp) (by simp;omega) hcg,rfl,rfl,rfl,rfl,rfl,rfl,rfl,rfl,rfl,List.length_map _,fun c4=>?_,fun c4=>?_⟩
      ·replace c4:=yq c4
       have hR:nN s q m f o=nN s q m (f - 1) ((([]:List Int)++o)++[((k:Nat):Int)]):=by rw [aKc c4,nN,aE6 hg hz,hall];exact aQ0 (by omega) hrk hn (by rw [hE];exact aKc c4)
       refine ⟨?_,trivial⟩
       ·first | (rw [nN,fV hz];rfl) | (rw [hR];done) | (rw [hN];rfl)
      ·replace c4:=nq c4
       have hSk:fD m (inO o) k=false∨kA s q (fH s q (f - 1)) o (inO o) (fD m (inO o)) ((k:Nat):Int)=none:= .inr (by (rw [hE];cases hzz:nN s q m (f - 1) ((([]:List Int)++o)++[((k:Nat):Int)]) with | none=>rfl | some r=>(exfalso;apply c4;have zz:=(aCU hzz).1;rw [hzz];simp at zz ⊢;omega)))
       refine ⟨by first | exact w1 | exact ⟨by omega,by omega⟩,?_⟩
       exact ⟨k+1,rfl,⟨by omega,aJG hSk hn⟩,by omega⟩
     ·have hSk:fD m (inO o) k=false∨kA s q (fH s q (f - 1)) o (inO o) (fD m (inO o)) ((k:Nat):Int)=none:= .inr (by rw [kA,←hp,c3];rfl)
      refine ⟨by first | exact w1 | exact ⟨by omega,by omega⟩,?_⟩
      exact ⟨k+1,rfl,⟨by omega,aJG hSk hn⟩,by omega⟩
    ·replace g42:=nq g42
     have hSk:fD m (inO o) k=false∨kA s q (fH s q (f - 1)) o (inO o) (fD m (inO o)) ((k:Nat):Int)=none:= .inl (by rw [fD,kT g42];rfl)
     refine ⟨by first | exact w1 | exact ⟨by omega,by omega⟩,?_⟩
     exact ⟨k+1,rfl,⟨by omega,aJG hSk hn⟩,by omega⟩
   ·replace c2:=nq c2
    have hN:nN s q m f o=none:=by rw [nN,aE6 hg hz,hall,show q.atoms.length=k by omega];exact hn
    refine ⟨?_,trivial⟩
    ·first | (rw [nN,fV hz];rfl) | (rw [hR];done) | (rw [hN];rfl)
theorem wkI {s:StoreD} {q:QueryD} {m:Int} (hc:cJ s≤1048576) (hq:kU s q m=true): ∀(f:Nat) (o:List Int),(∀x∈o,0≤x∧x.toNat<q.atoms.length∧cP m x.toNat=true)→o≠[]→o.length+f≤100→gH (fD m (inO o))≤f∧f≤4→aDS s q f o m
 | 0,o,h1,h2,h3,h4=>aMl s q 0 o m hc hq h1 h2 h3 h4 fun g hg=>absurd hg (by omega)
 | f+1,o,h1,h2,h3,h4=>aMl s q (f+1) o m hc hq h1 h2 h3 h4 fun g hg o k1 k2 k3 k4=>by
   obtain rfl:g=f:=by omega
   exact wkI hc hq g o k1 k2 k3 ⟨k4,by omega⟩
abbrev qM (s:StoreD) (q:QueryD) (m:Int) (st:Int):AV × List (Nat × Rs):=(.own 0,[(0,.arr 3 1 true ((eT s q m st).map intD))])
abbrev vS (s:StoreD) (q:QueryD) (m:Int) (st:Int):Prop:=cU Tryz.prog 45 [.agg [.sl 162 3 (s.database.tables.map aL),.int .i64 s.catalogue.version,.sl 121 4 (s.catalogue.tables.map aA),.sl 168 3 (s.dependencies.map aD),.sl 170 4 (s.inclusions.map aE)],.agg [.int .i64 q.variableCount,.sl 131 2 (q.atoms.map aU)],.one (.int .i64 m),.one (.int .i64 st)] (qM s q m st).1 (qM s q m st).2
theorem aGS (s:StoreD) (q:QueryD) (m st:Int) (hc:cJ s≤1048576):vS s q m st:=by
 refine aV bF aS Tryz.func45 (by kernel_rfl) (.call (vB (kU s q m)) []<| .br (.fin [(0,3000)]) (.len q.atoms.length<| .call (vB (dY st (0:Int) (((q.atoms.length:Nat):Int) - (1:Int)))) []<| .lit<| .lit<| .br (.fin [(0,3000)]) (.lit<| .lit<| .lit<| .lit<| .lit<| .br (.fin [(0,3000)]) (.callx [.agg [.p none (.sl 162 3 (s.database.tables.map aL)),vI s.catalogue.version,.p none (.sl 121 4 (s.catalogue.tables.map aA)),.p none (.sl 168 3 (s.dependencies.map aD)),.p none (.sl 170 4 (s.inclusions.map aE))],.agg [vI q.variableCount,.p none (.sl 131 2 (q.atoms.map aU))],vI m,.own 0] [(0,.arr 3 1 true (([st]:List Int).map intD))] [(0,3500)] (.own 5) [(5,.arr 3 1 true (((nN s q m 4 ([st]:List Int)).getD []).map intD))]<| .fin [(0,3605)])))) (p:=(s.database.tables.map aL).length≤9223372036854775807→(s.catalogue.tables.map aA).length≤9223372036854775807→(s.dependencies.map aD).length≤9223372036854775807→(s.inclusions.map aE).length≤9223372036854775807→(q.atoms.map aU).length≤9223372036854775807→rX s q m∧(((!(kU s q m))=true→[]=(eT s q m st).map intD∧True)∧((!(kU s q m))=false→Lm aU q.atoms∧(cG (((q.atoms.length:Nat):Int) - (1:Int))∧(fB st (0:Int) (((q.atoms.length:Nat):Int) - (1:Int))∧(((!(dY st (0:Int) (((q.atoms.length:Nat):Int) - (1:Int))))=true→[]=(eT s q m st).map intD∧True)∧((!(dY st (0:Int) (((q.atoms.length:Nat):Int) - (1:Int))))=false→(0≤st∧st≤64)∧(((decide ((dD .and .i64 (m/2^(Int.toNat st)) (1:Int))=(0:Int)))=true→[]=(eT s q m st).map intD∧True)∧((decide ((dD .and .i64 (m/2^(Int.toNat st)) (1:Int))=(0:Int)))=false→lT Tryz.prog 114 [.agg [.p none (.sl 162 3 (s.database.tables.map aL)),vI s.catalogue.version,.p none (.sl 121 4 (s.catalogue.tables.map aA)),.p none (.sl 168 3 (s.dependencies.map aD)),.p none (.sl 170 4 (s.inclusions.map aE))],.agg [vI q.variableCount,.p none (.sl 131 2 (q.atoms.map aU))],vI m,.own 0] [(0,.arr 3 1 true (([st]:List Int).map intD))] (.own 5) [(5,.arr 3 1 true (((nN s q m 4 ([st]:List Int)).getD []).map intD))]∧s.database.tables.map aL=s.database.tables.map aL∧s.catalogue.version=s.catalogue.version∧s.catalogue.tables.map aA=s.catalogue.tables.map aA∧s.dependencies.map aD=s.dependencies.map aD∧s.inclusions.map aE=s.inclusions.map aE∧q.variableCount=q.variableCount∧q.atoms.map aU=q.atoms.map aU∧m=m∧[[.int .i64 st]]=([st]:List Int).map intD∧((nN s q m 4 ([st]:List Int)).getD []).map intD=(eT s q m st).map intD∧True))))))))) (by kernel_rfl) ?_
 intro n0 n1 n2 n3 n4
 simp only [List.length_map] at n0 n1 n2 n3 n4
 refine ⟨aCY s q m (by omega),fun g14=>?_,fun g14=>?_⟩
 ·replace g14:=nt g14
  have hbad:nM s q m st=false:=by first | (rw [nM,g14];rfl) | (rw [nM,g14,qK g14,g23];rfl) | (rw [nM,g14,qK g14,g23,kT (by omega)];rfl)
  refine ⟨?_,trivial⟩
  ·first | (rw [pM hbad]<;>rfl) | (rw [mQ hok,aAW hin.1])
 ·replace g14:=nf g14
  obtain ⟨hq1,hq2,hq3,hm1,hm2,hm3,hm4,hm5⟩:=jP g14
  refine ⟨List.length_map _,⟨by omega,by omega⟩,iW _ _ _,fun g23=>?_,fun g23=>?_⟩
  ·replace g23:=nt g23
   have hbad:nM s q m st=false:=by first | (rw [nM,g14];rfl) | (rw [nM,g14,qK g14,g23];rfl) | (rw [nM,g14,qK g14,g23,kT (by omega)];rfl)
   refine ⟨?_,trivial⟩
   ·first | (rw [pM hbad]<;>rfl) | (rw [mQ hok,aAW hin.1])
  ·replace g23:=nf g23
   have hin:=eJ g23
   refine ⟨⟨by omega,by omega⟩,fun c0=>?_,fun c0=>?_⟩
   ·replace c0:=yq c0
    have hbad:nM s q m st=false:=by first | (rw [nM,g14];rfl) | (rw [nM,g14,qK g14,g23];rfl) | (rw [nM,g14,qK g14,g23,kT (by omega)];rfl)
    refine ⟨?_,trivial⟩
    ·first | (rw [pM hbad]<;>rfl) | (rw [mQ hok,aAW hin.1])
   ·replace c0:=nq c0
    have hq:kU s q m=true:=g14
    have hbt:cP m st.toNat=true:=by have z:=aCH (m:=m) (v:=st.toNat) ⟨by omega,by omega⟩ (by omega);rw [decide_eq_false c0] at z;simpa using z
    have hok:nM s q m st=true:=by rw [nM,hq,qK hq,g23,hbt];rfl
    have hst1: ∀x∈([st]:List Int),0≤x∧x.toNat<q.atoms.length∧cP m x.toNat=true:=fun x hx=>by (rw [List.mem_singleton] at hx;subst hx;exact ⟨by omega,by omega,hbt⟩)
    refine ⟨wkI hc hq 4 ([st]:List Int) hst1 (by simp) (by simp) ⟨aE1 _,by omega⟩,rfl,rfl,rfl,rfl,rfl,rfl,rfl,rfl,rfl,?_,trivial⟩
    ·first | (rw [pM hbad]<;>rfl) | (rw [mQ hok,aAW hin.1])
theorem aRq {s:StoreD} {q:QueryD} {m:Int} {k:Nat} (hq:kU s q m=true) (hk:k<q.atoms.length):decide (0<((eT s q m ((k:Nat):Int)).length:Int))=(cP m k&&(aDQ s q m k).isSome):=by
 cases hb:cP m k with
 | false=>
   rw [pM (by rw [nM,hq,qK hq,Int.toNat_natCast,hb];simp)];rfl
 | true=>
   have h:=aOI (s:=s) (q:=q) (m:=m) (st:=((k:Nat):Int)) (by rw [nM,hq,qK hq,Int.toNat_natCast,hb,iG (by omega) (by omega)];rfl)
   rw [Int.toNat_natCast] at h
   rw [h];rfl
theorem aC1 {s:StoreD} {q:QueryD} {m p r:Int} {k:Nat} (hp:p=(dZ (cP m) k).foldl (pS s q m) 0) (h:((cP m k&&(aDQ s q m k).isSome)=true∧r=aRk p (fK s q ((k:Nat):Int).toNat).rowCount)∨((cP m k&&(aDQ s q m k).isSome)=false∧r=p)):r=(dZ (cP m) (k+1)).foldl (pS s q m) 0:=by
 cases hb:cP m k with
 | false=>
   rw [hb] at h
   rcases h with ⟨h,_⟩ | ⟨_,h⟩
   ·cases h
   ·rw [mC hb,h,hp]
 | true=>
   rw [hb] at h
   rw [kO hb,aQW,←hp,pS,Int.toNat_natCast]
   rcases h with ⟨h1,h2⟩ | ⟨h1,h2⟩
   ·rw [Bool.true_and] at h1
    rw [h1,if_pos rfl,h2,Int.toNat_natCast]
   ·rw [Bool.true_and] at h1
    rw [h1,h2];rfl
abbrev zI (s:StoreD) (q:QueryD) (m:Int):Prop:=cU Tryz.prog 43 [.agg [.sl 162 3 (s.database.tables.map aL),.int .i64 s.catalogue.version,.sl 121 4 (s.catalogue.tables.map aA),.sl 168 3 (s.dependencies.map aD),.sl 170 4 (s.inclusions.map aE)],.agg [.int .i64 q.variableCount,.sl 131 2 (q.atoms.map aU)],.one (.int .i64 m)] (vI (nG s q m)) []
theorem aIP (s:StoreD) (q:QueryD) (m:Int) (hc:cJ s≤1048576):zI s q m:=by
 refine aV bF aS Tryz.func43 (by kernel_rfl) (.call (vB (kU s q m)) []<| .br (.fin []) (.loop (Nat × Int) (Q2 Nat Int) [7,8,14,15,16,17,18,19,20,21,22,23,24,25,26,27,28,29,30,31,32,33,34] [2500] (fun yy0=>[(8,vI (yy0.1:Int)),(7,vI yy0.2)]) (fun yy0=>[]) (fun yy0=>yy0.1≤q.atoms.length∧yy0.2=(dZ (cP m) yy0.1).foldl (pS s q m) 0) (fun yy0=>q.atoms.length - yy0.1) (fun yy0=> .len q.atoms.length<| .br (bP (qM s q m (yy0.1:Int))<| .len ((eT s q m (yy0.1:Int)).length)<| .br (bP (vP s q (yy0.1:Int))<| .back []) (.back [])) (.fin [])))) (p:=(s.database.tables.map aL).length≤9223372036854775807→(s.catalogue.tables.map aA).length≤9223372036854775807→(s.dependencies.map aD).length≤9223372036854775807→(s.inclusions.map aE).length≤9223372036854775807→(q.atoms.map aU).length≤9223372036854775807→rX s q m∧(((!(kU s q m))=true→(-1:Int)=(nG s q m)∧True)∧((!(kU s q m))=false→(∃(k:Nat) (p:Int),(0:Int)=(k:Int)∧(0:Int)=p∧k≤q.atoms.length∧p=(dZ (cP m) k).foldl (pS s q m) 0)∧ ∀(k:Nat) (p:Int),(k≤q.atoms.length∧p=(dZ (cP m) k).foldl (pS s q m) 0)→Lm aU q.atoms∧(((decide ((k:Int)<((q.atoms.length:Nat):Int)))=true→vS s q m (k:Int)∧(Lm intD (eT s q m (k:Int))∧(((decide ((0:Int)<(((eT s q m (k:Int)).length:Nat):Int)))=true→aC0 s q (k:Int)∧cG ((k:Int)+(1:Int))∧ ∃(k' :Nat) (p' :Int),((k:Int)+(1:Int))=(k' :Int)∧(if p<((fK s q (k:Int).toNat).rowCount) then ((fK s q (k:Int).toNat).rowCount) else p)=p' ∧(k' ≤q.atoms.length∧p' =(dZ (cP m) k').foldl (pS s q m) 0)∧q.atoms.length - k' <q.atoms.length - k)∧((decide ((0:Int)<(((eT s q m (k:Int)).length:Nat):Int)))=false→cG ((k:Int)+(1:Int))∧ ∃(k' :Nat) (p' :Int),((k:Int)+(1:Int))=(k' :Int)∧p=p' ∧(k' ≤q.atoms.length∧p' =(dZ (cP m) k').foldl (pS s q m) 0)∧q.atoms.length - k' <q.atoms.length - k))))∧((decide ((k:Int)<((q.atoms.length:Nat):Int)))=false→p=(nG s q m)∧True))))) (by kernel_rfl) ?_
 intro n0 n1 n2 n3 n4
 simp only [List.length_map] at n0 n1 n2 n3 n4
 refine ⟨aCY s q m (by omega),fun c0=>?_,fun c0=>?_⟩
 ·replace c0:=nt c0
  have hbad:kU s q m=false:=by simpa using c0
  refine ⟨?_,trivial⟩
  ·first | (rw [aE3 hbad];done) | (rw [aCV hq,aCS hq,hp,show q.atoms.length=k by omega])
 ·replace c0:=nf c0
  have hq:kU s q m=true:=by simpa using c0
  obtain ⟨hq1,hq2,hq3,hm1,hm2,hm3,hm4,hm5⟩:=jP hq
  refine ⟨⟨0,(0:Int),rfl,rfl,Nat.zero_le _,rfl⟩,fun k p ⟨hk,hp⟩=>?_⟩
  refine ⟨List.length_map _,fun c1=>?_,fun c1=>?_⟩
  ·replace c1:=yq c1
   have hly:=aRq (k:=k) hq (by omega)
   refine ⟨aGS s q m (k:Int) (by omega),List.length_map _,fun c2=>?_,fun c2=>?_⟩
   ·replace c2:=yq c2
    rw [decide_eq_true c2] at hly
    refine ⟨aLp s q (k:Int) (by omega) (by first | assumption | exact ⟨by omega,by omega⟩),⟨by omega,by omega⟩,?_⟩
    exact ⟨k+1,_,rfl,rfl,⟨by omega,by first | (exact aC1 hp (.inl ⟨hly.symm,rfl⟩)) | (exact aC1 hp (.inr ⟨hly.symm,rfl⟩))⟩,by omega⟩
   ·replace c2:=nq c2
    rw [decide_eq_false c2] at hly
    refine ⟨⟨by omega,by omega⟩,?_⟩
    exact ⟨k+1,_,rfl,rfl,⟨by omega,by first | (exact aC1 hp (.inl ⟨hly.symm,rfl⟩)) | (exact aC1 hp (.inr ⟨hly.symm,rfl⟩))⟩,by omega⟩
  ·replace c1:=nq c1
   refine ⟨?_,trivial⟩
   ·first | (rw [aE3 hbad];done) | (rw [aCV hq,aCS hq,hp,show q.atoms.length=k by omega])
end Go.Proofs.YtokkjaflmcjlhaaGreat
