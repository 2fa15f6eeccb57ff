/-
  Contracts and plain laws, joined: part 15.
-/
import Derived.Test.YtokkjaflmcjlhaaGreatQD13
import Derived.Test.YtokkjaflmcjlhaaGreatQD10
import Derived.Test.YtokkjaflmcjlhaaGreatQD12
namespace Go.Proofs.YtokkjaflmcjlhaaGreat
open Go.ChangeShapes Go.WideShapes Go.ChangeAt Go.RowKit
set_option linter.unusedVariables false
set_option linter.unusedSimpArgs false
set_option maxRecDepth 100000
set_option maxHeartbeats 4000000
theorem aGO {s:StoreD} {x y:bK} {v:Int} (h:xE y v<0):jW s x v y=false:=by
 have h1:=aLi y v
 rw [decide_eq_false (show ¬0≤xE y v by omega)] at h1
 rw [jW,←h1];rfl
theorem tX {s:StoreD} {x y:bK} {v:Int} (h: ¬xE y v<0) (hc:aCT s x v y=true):jW s x v y=true:=by
 have h1:=aLi y v
 rw [decide_eq_true (show 0≤xE y v by omega)] at h1
 rw [jW,←h1,hc];rfl
theorem aE4 {s:StoreD} {x y:bK} {v:Int} (hc:aCT s x v y=false):jW s x v y=false:=by rw [jW,hc,Bool.and_false]
theorem vM {s:StoreD} {x y:bK} {v:Int} (h1:(y.name.toList==x.name.toList)=true) (h2:xE y v=xE x v):aCT s x v y=true:=by rw [aCT,h1,decide_eq_true h2];rfl
theorem tY {s:StoreD} {x y:bK} {v:Int} (h:(⟨y.name,xE y v,x.name,xE x v⟩:aG)∈s.inclusions):aCT s x v y=true:=by rw [aCT,decide_eq_true h,Bool.or_true]
theorem aCX {s:StoreD} {x y:bK} {v:Int} (h1:(y.name.toList==x.name.toList)=false∨ ¬xE y v=xE x v) (h: ¬(⟨y.name,xE y v,x.name,xE x v⟩:aG)∈s.inclusions):aCT s x v y=false:=by
 rw [aCT,decide_eq_false h,Bool.or_false]
 rcases h1 with q | q
 ·rw [q];rfl
 ·rw [decide_eq_false q,Bool.and_false]
theorem pT {s:StoreD} {q:QueryD} {m:Int} {i:Nat} {x:bK} {v j:Int} (h1:cP m i=false) (h2:(rW q m i).length=1) (hv:(rW q m i).getD 0 0=v) (hx:q.atoms.getD i dL=x) (hj:j∈bR m) (h:jW s x v (q.atoms.getD j.toNat dL)=true):eS s q m i=true:=by
 rw [eS,h1,decide_eq_true h2,hv,hx]
 simp only [Bool.not_false,Bool.true_and]
 exact List.any_eq_true.2 ⟨j,hj,h⟩
theorem wN {s:StoreD} {q:QueryD} {m:Int} {i:Nat} {x:bK} {v:Int} (hv:(rW q m i).getD 0 0=v) (hx:q.atoms.getD i dL=x) (h:(bR m).all (fun j=> !jW s x v (q.atoms.getD j.toNat dL))=true):eS s q m i=false:=by
 rw [eS,hv,hx]
 have:((bR m).any fun k=>jW s x v (q.atoms.getD k.toNat dL))=false:=by
  rw [List.any_eq_false]
  intro k hk
  have:=List.all_eq_true.1 h k hk
  simpa using this
 rw [this];simp
theorem aE5 {s:StoreD} {q:QueryD} {m v:Int} {x:bK} {k:Nat} (h:cP m k=false∨jW s x v (q.atoms.getD ((k:Nat):Int).toNat dL)=false) (ha:(dZ (cP m) k).all (fun j=> !jW s x v (q.atoms.getD j.toNat dL))=true):(dZ (cP m) (k+1)).all (fun j=> !jW s x v (q.atoms.getD j.toNat dL))=true:=by
 cases hb:cP m k with
 | false=>rw [mC hb];exact ha
 | true=>
   rcases h with q | q
   ·rw [hb] at q;cases q
   ·rw [kO hb,List.all_append,ha]
    simp only [List.all_cons,List.all_nil,q];rfl
theorem aLl {s:StoreD} {q:QueryD} {m:Int} {i:Nat} (h:cP m i=true):eS s q m i=false:=by rw [eS,h];rfl
theorem aLm {s:StoreD} {q:QueryD} {m:Int} {i:Nat} (h: ¬(rW q m i).length=1):eS s q m i=false:=by rw [eS,decide_eq_false h];simp
theorem aQX (a b:aG):((a.name.toList==b.name.toList)&&((a.column==b.column)&&((a.into.toList==b.into.toList)&&((a.intoColumn==b.intoColumn)&&true))))=decide (a=b):=by
 obtain ⟨a1,a2,a3,a4⟩:=a
 obtain ⟨b1,b2,b3,b4⟩:=b
 apply Bool.eq_iff_iff.2
 simp only [kC,Bool.and_eq_true,decide_eq_true_eq,beq_iff_eq,aG.mk.injEq,and_true]
theorem aJE (z:aG) (n:ByteArray) (c:Int) (t:ByteArray) (d:Int):((z.name.toList==n.toList)&&((z.column==c)&&((z.into.toList==t.toList)&&((z.intoColumn==d)&&true))))=decide (z=⟨n,c,t,d⟩):=aQX z ⟨n,c,t,d⟩
theorem aQY {l:List aG} {x:aG} (h:l.all (fun z=> !decide (z=x))=true): ¬x∈l:=fun hm=>by
 have:=List.all_eq_true.1 h x hm
 simp at this
abbrev sV (v y:aG):Bool:=decide (v=y)
theorem aLn {l:List aG} {v:aG}:decide (0≤dB (sV v) l)=decide (v∈l):=by
 apply Bool.eq_iff_iff.2
 rw [decide_eq_true_eq,decide_eq_true_eq]
 constructor
 ·intro h
  obtain ⟨k,x,_,hx,hf⟩:=lP.2 h
  have h1:=List.find?_some hf
  rw [of_decide_eq_true h1];exact List.mem_of_getElem? hx
 ·intro h
  rcases Int.lt_or_le (dB (sV v) l) 0 with q | q
  ·have:=lP.1 q
   rw [List.find?_eq_none] at this
   exact absurd (decide_eq_true rfl) (this v h)
  ·exact q
abbrev aMg (l:List aG) (v:aG):Prop:=cU Tryz.prog 279 [.one (.sl 170 4 (l.map aE)),.agg [.str v.name,.int .i64 v.column,.str v.into,.int .i64 v.intoColumn]] (vI (dB (sV v) l)) []
theorem aTf (l:List aG) (v:aG):aMg l v:=by
 refine aV bF aS Tryz.func279 (by kernel_rfl) (.len l.length<| .loop Nat (Q1 Nat) [5,8,9,10,11,12,13,14,15,16,18] [] (fun k=>[(8,vI (k:Int))]) (fun k=>[]) (fun k=>k≤l.length∧(l.take k).all (fun y=> !sV v y)=true) (fun k=>l.length - k) (fun k=> .br (.elem _ aE l (fun e14=> .br (.fin []) (.back []))) (.fin []))) (p:=(l.map aE).length≤9223372036854775807→Lm aE l∧((∃(k:Nat),(0:Int)=(k:Int)∧k≤l.length∧(l.take k).all (fun y=> !sV v y)=true)∧ ∀(k:Nat),(k≤l.length∧(l.take k).all (fun y=> !sV v y)=true)→((decide ((k:Int)<((l.length:Nat):Int)))=true→0≤(k:Int)∧Em aE l k fun e14=>(((v.name.toList==e14.name.toList)&&((v.column==e14.column)&&((v.into.toList==e14.into.toList)&&((v.intoColumn==e14.intoColumn)&&true))))=true→(k:Int)=(dB (sV v) l)∧True)∧(((v.name.toList==e14.name.toList)&&((v.column==e14.column)&&((v.into.toList==e14.into.toList)&&((v.intoColumn==e14.intoColumn)&&true))))=false→cG ((k:Int)+(1:Int))∧ ∃(k' :Nat),((k:Int)+(1:Int))=(k' :Int)∧(k' ≤l.length∧(l.take k').all (fun y=> !sV v y)=true)∧l.length - k' <l.length - k))∧((decide ((k:Int)<((l.length:Nat):Int)))=false→(-1:Int)=(dB (sV v) l)∧True))) (by kernel_rfl) ?_
 intro n0
 simp only [List.length_map] at n0
 refine ⟨List.length_map _,⟨0,rfl,Nat.zero_le _,rfl⟩,fun k ⟨hk,ha⟩=>?_⟩
 refine ⟨fun c0=>?_,fun c0=>?_⟩
 ·replace c0:=yq c0
  refine ⟨by omega,rfl,by omega,fun e14 h14=>?_⟩
  refine ⟨fun c1=>?_,fun c1=>?_⟩
  ·have hE:=aAR (p:=sV v) h14 ha (by rw [aQX] at c1;exact c1)
   refine ⟨?_,trivial⟩
   ·rw [hE]
  ·refine ⟨⟨by omega,by omega⟩,?_⟩
   exact ⟨k+1,rfl,⟨by omega,cY h14 ha (by rw [aQX] at c1;rw [sV,c1];rfl)⟩,by omega⟩
 ·replace c0:=nq c0
  have hE:=uZ (p:=sV v) (bJ (by omega) ha)
  refine ⟨?_,trivial⟩
  ·rw [hE]
abbrev aJF (l:List aG) (v:aG):Prop:=cU Tryz.prog 250 [.one (.sl 170 4 (l.map aE)),.agg [.str v.name,.int .i64 v.column,.str v.into,.int .i64 v.intoColumn]] (vB (decide (v∈l))) []
theorem aSH (l:List aG) (v:aG):aJF l v:=by
 refine aV bF aS Tryz.func250 (by kernel_rfl) (.call (vI (dB (sV v) l)) []<| .fin []) (p:=(l.map aE).length≤9223372036854775807→aMg l v∧(decide ((0:Int)≤(dB (sV v) l)))=(decide (v∈l))∧True) (by kernel_rfl) ?_
 intro n0
 simp only [List.length_map] at n0
 refine ⟨aTf l v,?_,trivial⟩
 ·exact aLn
abbrev aIL (s:StoreD) (q:QueryD) (m:Int) (i:Int):Prop:=cU Tryz.prog 184 [.agg [.sl 162 3 (s.database.tables.map aL),.int .i64 s.catalogue.version,.sl 121 4 (s.catalogue.tables.map aA),.sl 168 3 (s.dependencies.map aD),.sl 170 4 (s.inclusions.map aE)],.agg [.int .i64 q.variableCount,.sl 131 2 (q.atoms.map aU)],.one (.int .i64 m),.one (.int .i64 i)] (vB (eS s q m i.toNat)) []
theorem aRl (s:StoreD) (q:QueryD) (m i:Int) (hq3:bM q=true) (hm:0≤m∧m≤(1:Int)*2^q.atoms.length - 1) (hi:0≤i∧i.toNat<q.atoms.length):aIL s q m i:=by
 refine aV bF aS Tryz.func184 (by kernel_rfl) (.elem _ aU q.atoms (fun e20=>bP (sS q m)<| bP (sU e20.vars (gN q m))<| .br (.fin []) (.len ((fQ e20.vars (gN q m)).length)<| .lit<| .lit<| .br (.fin []) (.len ((fQ e20.vars (gN q m)).length)<| .elem _ intD (fQ e20.vars (gN q m)) (fun e40=> .call (vI (dB (iN e40) e20.vars)) []<| bP (oF m)<| .len ((bR m).length)<| .loop Nat (Q1 Nat) [14,15,16,48,49,50,51,52,53,54,55,56,57,58,59,60,61,62,63,64,65,66,67,68,69,70,71,72,73,74,75,76,77,78,79,80,81,82,83,84,85] [1500] (fun k=>[(48,vI (k:Int))]) (fun k=>[]) (fun k=>k≤(bR m).length∧((bR m).take k).all (fun j=> !jW s e20 e40 (q.atoms.getD j.toNat dL))=true) (fun k=>(bR m).length - k) (fun k=> .br (.len ((bR m).length)<| .elem _ intD (bR m) (fun e51=> .elem _ aU q.atoms (fun e55=> .call (vI (dB (iN e40) e55.vars)) []<| .br (.back []) (.br (.lit<| .lit<| .lit<| .br (.fin []) (.call (vB (decide ((⟨e55.name,dB (iN e40) e55.vars,e20.name,dB (iN e40) e20.vars⟩:aG)∈s.inclusions))) []<| .lit<| .br (.fin []) (.back []))) (.call (vB (decide ((⟨e55.name,dB (iN e40) e55.vars,e20.name,dB (iN e40) e20.vars⟩:aG)∈s.inclusions))) []<| .lit<| .br (.fin []) (.back [])))))) (.fin []))))))) (p:=(s.database.tables.map aL).length≤9223372036854775807→(s.catalogue.tables.map aA).length≤9223372036854775807→(s.dependencies.map aD).length≤9223372036854775807→(s.inclusions.map aE).length≤9223372036854775807→(q.atoms.map aU).length≤9223372036854775807→0≤i∧Em aU q.atoms ((i).toNat) fun e20=>zE q m∧(zG e20.vars (gN q m)∧((0≤i∧i≤64)∧(((decide ((dD .and .i64 (m/2^(Int.toNat i)) (1:Int))=(1:Int)))=true→(false)=(eS s q m i.toNat)∧True)∧((decide ((dD .and .i64 (m/2^(Int.toNat i)) (1:Int))=(1:Int)))=false→Lm intD (fQ e20.vars (gN q m))∧(((!(decide ((((fQ e20.vars (gN q m)).length:Nat):Int)=(1:Int))))=true→(false)=(eS s q m i.toNat)∧True)∧((!(decide ((((fQ e20.vars (gN q m)).length:Nat):Int)=(1:Int))))=false→0≤(0:Int)∧Lm intD (fQ e20.vars (gN q m))∧(0:Int)<(((fQ e20.vars (gN q m)).length:Nat):Int)∧Em intD (fQ e20.vars (gN q m)) 0 fun e40=>aMb e20.vars e40∧(rV m∧(Lm intD (bR m)∧((∃(k:Nat),(0:Int)=(k:Int)∧k≤(bR m).length∧((bR m).take k).all (fun j=> !jW s e20 e40 (q.atoms.getD j.toNat dL))=true)∧ ∀(k:Nat),(k≤(bR m).length∧((bR m).take k).all (fun j=> !jW s e20 e40 (q.atoms.getD j.toNat dL))=true)→((decide ((k:Int)<(((bR m).length:Nat):Int)))=true→0≤(k:Int)∧Lm intD (bR m)∧(k:Int)<(((bR m).length:Nat):Int)∧Em intD (bR m) k fun e51=>0≤e51∧Em aU q.atoms ((e51).toNat) fun e55=>aMb e55.vars e40∧(((decide ((dB (iN e40) e55.vars)<(0:Int)))=true→cG ((k:Int)+(1:Int))∧ ∃(k' :Nat),((k:Int)+(1:Int))=(k' :Int)∧(k' ≤(bR m).length∧((bR m).take k').all (fun j=> !jW s e20 e40 (q.atoms.getD j.toNat dL))=true)∧(bR m).length - k' <(bR m).length - k)∧((decide ((dB (iN e40) e55.vars)<(0:Int)))=false→((e55.name.toList==e20.name.toList)=true→((decide ((dB (iN e40) e55.vars)=(dB (iN e40) e20.vars)))=true→(true)=(eS s q m i.toNat)∧True)∧((decide ((dB (iN e40) e55.vars)=(dB (iN e40) e20.vars)))=false→aJF s.inclusions (⟨e55.name,dB (iN e40) e55.vars,e20.name,dB (iN e40) e20.vars⟩:aG)∧(((decide ((⟨e55.name,dB (iN e40) e55.vars,e20.name,dB (iN e40) e20.vars⟩:aG)∈s.inclusions))=true→(true)=(eS s q m i.toNat)∧True)∧((decide ((⟨e55.name,dB (iN e40) e55.vars,e20.name,dB (iN e40) e20.vars⟩:aG)∈s.inclusions))=false→cG ((k:Int)+(1:Int))∧ ∃(k' :Nat),((k:Int)+(1:Int))=(k' :Int)∧(k' ≤(bR m).length∧((bR m).take k').all (fun j=> !jW s e20 e40 (q.atoms.getD j.toNat dL))=true)∧(bR m).length - k' <(bR m).length - k))))∧((e55.name.toList==e20.name.toList)=false→aJF s.inclusions (⟨e55.name,dB (iN e40) e55.vars,e20.name,dB (iN e40) e20.vars⟩:aG)∧(((decide ((⟨e55.name,dB (iN e40) e55.vars,e20.name,dB (iN e40) e20.vars⟩:aG)∈s.inclusions))=true→(true)=(eS s q m i.toNat)∧True)∧((decide ((⟨e55.name,dB (iN e40) e55.vars,e20.name,dB (iN e40) e20.vars⟩:aG)∈s.inclusions))=false→cG ((k:Int)+(1:Int))∧ ∃(k' :Nat),((k:Int)+(1:Int))=(k' :Int)∧(k' ≤(bR m).length∧((bR m).take k').all (fun j=> !jW s e20 e40 (q.atoms.getD j.toNat dL))=true)∧(bR m).length - k' <(bR m).length - k))))))∧((decide ((k:Int)<(((bR m).length:Nat):Int)))=false→(false)=(eS s q m i.toNat)∧True))))))))))) (by kernel_rfl) ?_
 intro n0 n1 n2 n3 n4
 simp only [List.length_map] at n0 n1 n2 n3 n4
 have hq5:=(cX hq3).2.1
 have hf4:=fR hq5
 have hML:=aK4 hm hq5.2
 have hml:=aDO m
 refine ⟨by omega,rfl,by omega,fun e20 h20=>?_⟩
 have wv20:=(oE ((cX hq3).2.2 _ (List.mem_of_getElem? h20))).2.1
 have hX:q.atoms.getD i.toNat dL=e20:=aZ h20
 have hSh:rW q m i.toNat=fQ e20.vars (gN q m):=by rw [rW,hX]
 refine ⟨aIF q m (by first | assumption | exact (iA (q:=q) (m:=m) (by assumption)).1),aII e20.vars _ (by first | omega | (have:=aDN;simp only [*];omega)),⟨by omega,by omega⟩,fun g33=>?_,fun g33=>?_⟩
 ·replace g33:=yq g33
  have hbad:eS s q m i.toNat=false:=by first | (exact aLl (oS g33)) | (exact aLm (by rw [hSh];omega))
  refine ⟨?_,trivial⟩
  ·first | (rw [hbad];done) | (exact (pT hb0 hl1 hV hX hem (by rw [hY];exact hT)).symm) | (exact (wN hV hX (bJ (by omega) ha)).symm)
 ·replace g33:=nq g33
  refine ⟨List.length_map _,fun c0=>?_,fun c0=>?_⟩
  ·replace c0:=nq (nt c0)
   have hbad:eS s q m i.toNat=false:=by first | (exact aLl (oS g33)) | (exact aLm (by rw [hSh];omega))
   refine ⟨?_,trivial⟩
   ·first | (rw [hbad];done) | (exact (pT hb0 hl1 hV hX hem (by rw [hY];exact hT)).symm) | (exact (wN hV hX (bJ (by omega) ha)).symm)
  ·replace c0:=yq (nf c0)
   refine ⟨by omega,List.length_map _,by omega,rfl,by omega,fun e40 h40=>?_⟩
   have hV:(rW q m i.toNat).getD 0 0=e40:=by rw [hSh,aZ h40]
   have hb0:=kT g33
   have hl1:(rW q m i.toNat).length=1:=by rw [hSh];omega
   refine ⟨ixI _ _,aCQ m,List.length_map _,⟨0,rfl,Nat.zero_le _,rfl⟩,fun k ⟨hk,ha⟩=>?_⟩
   refine ⟨fun c1=>?_,fun c1=>?_⟩
   ·replace c1:=yq c1
    refine ⟨by omega,List.length_map _,by omega,rfl,by omega,fun e51 h51=>?_⟩
    have hem:=List.mem_of_getElem? h51
    have hem2:=hem
    rw [hML] at hem2
    obtain ⟨hx0,hx4,hxl⟩:=nE.1 hem2
    refine ⟨by omega,rfl,by omega,fun e55 h55=>?_⟩
    have hY:q.atoms.getD e51.toNat dL=e55:=aZ h55
    refine ⟨ixI _ _,fun c2=>?_,fun c2=>?_⟩
    ·replace c2:=yq c2
     refine ⟨⟨by omega,by omega⟩,?_⟩
     exact ⟨k+1,rfl,⟨by omega,cY h51 ha (by rw [hY];first | (rw [aGO c2];rfl) | (rw [hF];rfl))⟩,by omega⟩
    ·replace c2:=nq c2
     refine ⟨fun g68=>?_,fun g68=>?_⟩
     ·refine ⟨fun g73=>?_,fun g73=>?_⟩
      ·replace g73:=yq g73
       have hT:jW s e20 e40 e55=true:=tX c2 (by first | (exact vM g68 g73) | (exact tY (of_decide_eq_true c3)))
       refine ⟨?_,trivial⟩
       ·first | (rw [hbad];done) | (exact (pT hb0 hl1 hV hX hem (by rw [hY];exact hT)).symm) | (exact (wN hV hX (bJ (by omega) ha)).symm)
      ·replace g73:=nq g73
       refine ⟨aSH s.inclusions (⟨e55.name,dB (iN e40) e55.vars,e20.name,dB (iN e40) e20.vars⟩:aG),fun c3=>?_,fun c3=>?_⟩
       ·have hT:jW s e20 e40 e55=true:=tX c2 (by first | (exact vM g68 g73) | (exact tY (of_decide_eq_true c3)))
        refine ⟨?_,trivial⟩
        ·first | (rw [hbad];done) | (exact (pT hb0 hl1 hV hX hem (by rw [hY];exact hT)).symm) | (exact (wN hV hX (bJ (by omega) ha)).symm)
       ·have hF:jW s e20 e40 e55=false:=aE4 (aCX (by first | (exact .inl g68) | (exact .inr g73)) (of_decide_eq_false c3))
        refine ⟨⟨by omega,by omega⟩,?_⟩
        exact ⟨k+1,rfl,⟨by omega,cY h51 ha (by rw [hY];first | (rw [aGO c2];rfl) | (rw [hF];rfl))⟩,by omega⟩
     ·refine ⟨aSH s.inclusions (⟨e55.name,dB (iN e40) e55.vars,e20.name,dB (iN e40) e20.vars⟩:aG),fun c3=>?_,fun c3=>?_⟩
      ·have hT:jW s e20 e40 e55=true:=tX c2 (by first | (exact vM g68 g73) | (exact tY (of_decide_eq_true c3)))
       refine ⟨?_,trivial⟩
       ·first | (rw [hbad];done) | (exact (pT hb0 hl1 hV hX hem (by rw [hY];exact hT)).symm) | (exact (wN hV hX (bJ (by omega) ha)).symm)
      ·have hF:jW s e20 e40 e55=false:=aE4 (aCX (by first | (exact .inl g68) | (exact .inr g73)) (of_decide_eq_false c3))
       refine ⟨⟨by omega,by omega⟩,?_⟩
       exact ⟨k+1,rfl,⟨by omega,cY h51 ha (by rw [hY];first | (rw [aGO c2];rfl) | (rw [hF];rfl))⟩,by omega⟩
   ·replace c1:=nq c1
    refine ⟨?_,trivial⟩
    ·first | (rw [hbad];done) | (exact (pT hb0 hl1 hV hX hem (by rw [hY];exact hT)).symm) | (exact (wN hV hX (bJ (by omega) ha)).symm)
abbrev vN (s:StoreD) (q:QueryD) (m:Int):Prop:=cU Tryz.prog 94 [.agg [.sl 162 3 (s.database.tables.map aL),.int .i64 s.catalogue.version,.sl 121 4 (s.catalogue.tables.map aA),.sl 168 3 (s.dependencies.map aD),.sl 170 4 (s.inclusions.map aE)],.agg [.int .i64 q.variableCount,.sl 131 2 (q.atoms.map aU)],.one (.int .i64 m)] (vB (kU s q m)) []
theorem aGP (s:StoreD) (q:QueryD) (m:Int) (hc:cJ s≤1048576):vN s q m:=by
 refine aV bF aS Tryz.func94 (by kernel_rfl) (.call (vB (eO s)) []<| .br (.call (vB (dR s.database q)) []<| .lit<| .br (.call (vI (eG q)) []<| .call (vB (dY m (1:Int) (eG q))) []<| .fin []) (.fin [])) (.fin [])) (p:=(s.database.tables.map aL).length≤9223372036854775807→(s.catalogue.tables.map aA).length≤9223372036854775807→(s.dependencies.map aD).length≤9223372036854775807→(s.inclusions.map aE).length≤9223372036854775807→(q.atoms.map aU).length≤9223372036854775807→aDr s∧(((eO s)=true→aGJ s.database q∧(((dR s.database q)=true→sQ q∧fU m (1:Int) (eG q)∧(dY m (1:Int) (eG q))=(kU s q m)∧True)∧((dR s.database q)=false→(false)=(kU s q m)∧True)))∧((eO s)=false→(false)=(kU s q m)∧True))) (by kernel_rfl) ?_
 intro n0 n1 n2 n3 n4
 simp only [List.length_map] at n0 n1 n2 n3 n4
 have hS:cJ s=bD s.database+bL s.catalogue+bU s.dependencies+cT s.inclusions:=rfl
 have hI:=gO s.inclusions
 refine ⟨aOA _ (by omega),fun g9=>?_,fun g9=>?_⟩
 ·refine ⟨aQO s.database _ (by omega),fun g15=>?_,fun g15=>?_⟩
  ·refine ⟨aDL _,kE _ _ _,?_,trivial⟩
   ·first | (rw [kU,g9];rfl) | (rw [kU,g9,g15];rfl)
  ·refine ⟨?_,trivial⟩
   ·first | (rw [kU,g9];rfl) | (rw [kU,g9,g15];rfl)
 ·refine ⟨?_,trivial⟩
  ·first | (rw [kU,g9];rfl) | (rw [kU,g9,g15];rfl)
abbrev rX (s:StoreD) (q:QueryD) (m:Int):Prop:=cU Tryz.prog 91 [.agg [.sl 162 3 (s.database.tables.map aL),.int .i64 s.catalogue.version,.sl 121 4 (s.catalogue.tables.map aA),.sl 168 3 (s.dependencies.map aD),.sl 170 4 (s.inclusions.map aE)],.agg [.int .i64 q.variableCount,.sl 131 2 (q.atoms.map aU)],.one (.int .i64 m)] (vB (kU s q m)) []
theorem aCY (s:StoreD) (q:QueryD) (m:Int) (hc:cJ s≤1048576):rX s q m:=by
 refine aV bF aS Tryz.func91 (by kernel_rfl) (.call (vB (eO s)) []<| .br (.call (vB (dR s.database q)) []<| .lit<| .br (.call (vI (eG q)) []<| .call (vB (dY m (1:Int) (eG q))) []<| .fin []) (.fin [])) (.fin [])) (p:=(s.database.tables.map aL).length≤9223372036854775807→(s.catalogue.tables.map aA).length≤9223372036854775807→(s.dependencies.map aD).length≤9223372036854775807→(s.inclusions.map aE).length≤9223372036854775807→(q.atoms.map aU).length≤9223372036854775807→aDs s∧(((eO s)=true→aGK s.database q∧(((dR s.database q)=true→sR q∧fB m (1:Int) (eG q)∧(dY m (1:Int) (eG q))=(kU s q m)∧True)∧((dR s.database q)=false→(false)=(kU s q m)∧True)))∧((eO s)=false→(false)=(kU s q m)∧True))) (by kernel_rfl) ?_
 intro n0 n1 n2 n3 n4
 simp only [List.length_map] at n0 n1 n2 n3 n4
 have hS:cJ s=bD s.database+bL s.catalogue+bU s.dependencies+cT s.inclusions:=rfl
 have hI:=gO s.inclusions
 refine ⟨aOB _ (by omega),fun g9=>?_,fun g9=>?_⟩
 ·refine ⟨aQP s.database _ (by omega),fun g15=>?_,fun g15=>?_⟩
  ·refine ⟨aDM _,iW _ _ _,?_,trivial⟩
   ·first | (rw [kU,g9];rfl) | (rw [kU,g9,g15];rfl)
  ·refine ⟨?_,trivial⟩
   ·first | (rw [kU,g9];rfl) | (rw [kU,g9,g15];rfl)
 ·refine ⟨?_,trivial⟩
  ·first | (rw [kU,g9];rfl) | (rw [kU,g9,g15];rfl)
abbrev vO (s:StoreD) (q:QueryD) (i:Int):AV × List (Nat × Rs):=(.agg [.p none (.str ((fK s q i.toNat).name)),vI ((fK s q i.toNat).arity),vI ((fK s q i.toNat).rowCount),.p none (.sl 218 3 (((fK s q i.toNat).groups).map aB))],[])
abbrev aCZ (s:StoreD) (q:QueryD) (i:Int):Prop:=cU Tryz.prog 96 [.agg [.sl 162 3 (s.database.tables.map aL),.int .i64 s.catalogue.version,.sl 121 4 (s.catalogue.tables.map aA),.sl 168 3 (s.dependencies.map aD),.sl 170 4 (s.inclusions.map aE)],.agg [.int .i64 q.variableCount,.sl 131 2 (q.atoms.map aU)],.one (.int .i64 i)] (vO s q i).1 (vO s q i).2
theorem aLo (s:StoreD) (q:QueryD) (i:Int) (hc:cJ s≤1048576) (hi:0≤i∧i.toNat<q.atoms.length):aCZ s q i:=by
 refine aV bF aS Tryz.func96 (by kernel_rfl) (.elem _ aU q.atoms (fun e15=> .call (.tup [.agg [.p none (.str (((dM s.catalogue e15.name).1).name)),vI (((dM s.catalogue e15.name).1).arity),vI (((dM s.catalogue e15.name).1).rowCount),.p none (.sl 218 3 ((((dM s.catalogue e15.name).1).groups).map aB))],vB ((dM s.catalogue e15.name).2)]) []<| .fin [])) (p:=(s.database.tables.map aL).length≤9223372036854775807→(s.catalogue.tables.map aA).length≤9223372036854775807→(s.dependencies.map aD).length≤9223372036854775807→(s.inclusions.map aE).length≤9223372036854775807→(q.atoms.map aU).length≤9223372036854775807→0≤i∧Em aU q.atoms ((i).toNat) fun e15=>cU Tryz.prog 122 [.agg [.int .i64 s.catalogue.version,.sl 121 4 (s.catalogue.tables.map aA)],.one (.str e15.name)] (.tup [.agg [.p none (.str (((dM s.catalogue e15.name).1).name)),vI (((dM s.catalogue e15.name).1).arity),vI (((dM s.catalogue e15.name).1).rowCount),.p none (.sl 218 3 ((((dM s.catalogue e15.name).1).groups).map aB))],vB ((dM s.catalogue e15.name).2)]) []∧(((dM s.catalogue e15.name).1).name)=((fK s q i.toNat).name)∧(((dM s.catalogue e15.name).1).arity)=((fK s q i.toNat).arity)∧(((dM s.catalogue e15.name).1).rowCount)=((fK s q i.toNat).rowCount)∧(((dM s.catalogue e15.name).1).groups).map aB=((fK s q i.toNat).groups).map aB∧True) (by kernel_rfl) ?_
 intro n0 n1 n2 n3 n4
 simp only [List.length_map] at n0 n1 n2 n3 n4
 have hS:cJ s=bD s.database+bL s.catalogue+bU s.dependencies+cT s.inclusions:=rfl
 have hI:=gO s.inclusions
 refine ⟨by omega,rfl,by omega,fun e15 h15=>?_⟩
 refine ⟨jJ (aOC s.catalogue e15.name (by omega)) rfl,?_,?_,?_,?_,trivial⟩
 ·(rw [fK,aZ h15]<;>rfl)
 ·(rw [fK,aZ h15]<;>rfl)
 ·(rw [fK,aZ h15]<;>rfl)
 ·(rw [fK,aZ h15]<;>rfl)
abbrev vP (s:StoreD) (q:QueryD) (i:Int):AV × List (Nat × Rs):=(.agg [.p none (.str ((fK s q i.toNat).name)),vI ((fK s q i.toNat).arity),vI ((fK s q i.toNat).rowCount),.p none (.sl 218 3 (((fK s q i.toNat).groups).map aB))],[])
abbrev aC0 (s:StoreD) (q:QueryD) (i:Int):Prop:=cU Tryz.prog 92 [.agg [.sl 162 3 (s.database.tables.map aL),.int .i64 s.catalogue.version,.sl 121 4 (s.catalogue.tables.map aA),.sl 168 3 (s.dependencies.map aD),.sl 170 4 (s.inclusions.map aE)],.agg [.int .i64 q.variableCount,.sl 131 2 (q.atoms.map aU)],.one (.int .i64 i)] (vP s q i).1 (vP s q i).2
theorem aLp (s:StoreD) (q:QueryD) (i:Int) (hc:cJ s≤1048576) (hi:0≤i∧i.toNat<q.atoms.length):aC0 s q i:=by
 refine aV bF aS Tryz.func92 (by kernel_rfl) (.elem _ aU q.atoms (fun e15=> .call (.tup [.agg [.p none (.str (((dM s.catalogue e15.name).1).name)),vI (((dM s.catalogue e15.name).1).arity),vI (((dM s.catalogue e15.name).1).rowCount),.p none (.sl 218 3 ((((dM s.catalogue e15.name).1).groups).map aB))],vB ((dM s.catalogue e15.name).2)]) []<| .fin [])) (p:=(s.database.tables.map aL).length≤9223372036854775807→(s.catalogue.tables.map aA).length≤9223372036854775807→(s.dependencies.map aD).length≤9223372036854775807→(s.inclusions.map aE).length≤9223372036854775807→(q.atoms.map aU).length≤9223372036854775807→0≤i∧Em aU q.atoms ((i).toNat) fun e15=>cU Tryz.prog 166 [.agg [.int .i64 s.catalogue.version,.sl 121 4 (s.catalogue.tables.map aA)],.one (.str e15.name)] (.tup [.agg [.p none (.str (((dM s.catalogue e15.name).1).name)),vI (((dM s.catalogue e15.name).1).arity),vI (((dM s.catalogue e15.name).1).rowCount),.p none (.sl 218 3 ((((dM s.catalogue e15.name).1).groups).map aB))],vB ((dM s.catalogue e15.name).2)]) []∧(((dM s.catalogue e15.name).1).name)=((fK s q i.toNat).name)∧(((dM s.catalogue e15.name).1).arity)=((fK s q i.toNat).arity)∧(((dM s.catalogue e15.name).1).rowCount)=((fK s q i.toNat).rowCount)∧(((dM s.catalogue e15.name).1).groups).map aB=((fK s q i.toNat).groups).map aB∧True) (by kernel_rfl) ?_
 intro n0 n1 n2 n3 n4
 simp only [List.length_map] at n0 n1 n2 n3 n4
 have hS:cJ s=bD s.database+bL s.catalogue+bU s.dependencies+cT s.inclusions:=rfl
 have hI:=gO s.inclusions
 refine ⟨by omega,rfl,by omega,fun e15 h15=>?_⟩
 refine ⟨jJ (aOD s.catalogue e15.name (by omega)) rfl,?_,?_,?_,?_,trivial⟩
 ·(rw [fK,aZ h15]<;>rfl)
 ·(rw [fK,aZ h15]<;>rfl)
 ·(rw [fK,aZ h15]<;>rfl)
 ·(rw [fK,aZ h15]<;>rfl)
end Go.Proofs.YtokkjaflmcjlhaaGreat
