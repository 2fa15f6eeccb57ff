/-
  Contracts and plain laws, joined: part 16.
-/
import Derived.Test.YtokkjaflmcjlhaaGreatQD14
import Derived.Test.YtokkjaflmcjlhaaGreatQD13
import Derived.Test.YtokkjaflmcjlhaaGreatQD10
namespace Go.Proofs.YtokkjaflmcjlhaaGreat
open Go.ChangeShapes Go.WideShapes Go.ChangeAt Go.RowKit
set_option linter.unusedVariables false
set_option linter.unusedSimpArgs false
set_option maxRecDepth 100000
set_option maxHeartbeats 4000000
abbrev aLq (a:bK) (v:Int):Prop:=cU Tryz.prog 251 [.agg [.str a.name,.sl 3 1 (a.vars.map intD)],.one (.int .i64 v)] (vI (dB (iN v) a.vars)) []
theorem aTg (a:bK) (v:Int):aLq a v:=by
 refine aV bF aS Tryz.func251 (by kernel_rfl) (.loop Nat (Q1 Nat) [5,6,7,8,9,10,11,12,13,14,15,16,17,18,19] [] (fun k=>[(5,vI (k:Int))]) (fun k=>[]) (fun k=>k≤a.vars.length∧(a.vars.take k).all (fun y=> !iN v y)=true) (fun k=>a.vars.length - k) (fun k=> .len a.vars.length<| .br (.elem _ intD a.vars (fun e16=> .br (.fin []) (.back []))) (.fin []))) (p:=(a.vars.map intD).length≤9223372036854775807→(∃(k:Nat),(0:Int)=(k:Int)∧k≤a.vars.length∧(a.vars.take k).all (fun y=> !iN v y)=true)∧ ∀(k:Nat),(k≤a.vars.length∧(a.vars.take k).all (fun y=> !iN v y)=true)→Lm intD a.vars∧(((decide ((k:Int)<((a.vars.length:Nat):Int)))=true→0≤(k:Int)∧Em intD a.vars k fun e16=>((decide (e16=v))=true→(k:Int)=(dB (iN v) a.vars)∧True)∧((decide (e16=v))=false→cG ((k:Int)+(1:Int))∧ ∃(k' :Nat),((k:Int)+(1:Int))=(k' :Int)∧(k' ≤a.vars.length∧(a.vars.take k').all (fun y=> !iN v y)=true)∧a.vars.length - k' <a.vars.length - k))∧((decide ((k:Int)<((a.vars.length:Nat):Int)))=false→(-1:Int)=(dB (iN v) a.vars)∧True))) (by kernel_rfl) ?_
 intro n0
 simp only [List.length_map] at n0
 refine ⟨⟨0,rfl,Nat.zero_le _,rfl⟩,fun k ⟨hk,ha⟩=>?_⟩
 refine ⟨List.length_map _,fun c0=>?_,fun c0=>?_⟩
 ·replace c0:=yq c0
  refine ⟨by omega,rfl,by omega,fun e16 h16=>?_⟩
  refine ⟨fun c1=>?_,fun c1=>?_⟩
  ·replace c1:=yq c1
   have hE:=aAR (p:=iN v) h16 ha (by simpa [iN] using c1.symm)
   refine ⟨?_,trivial⟩
   ·rw [hE]
  ·replace c1:=nq c1
   refine ⟨⟨by omega,by omega⟩,?_⟩
   exact ⟨k+1,rfl,⟨by omega,cY h16 ha (by simpa [iN] using fun q=>c1 (Eq.symm q))⟩,by omega⟩
 ·replace c0:=nq c0
  have hE:=uZ (p:=iN v) (bJ (by omega) ha)
  refine ⟨?_,trivial⟩
  ·rw [hE]
abbrev aIM (s:StoreD) (q:QueryD) (m:Int) (i:Int):Prop:=cU Tryz.prog 186 [.agg [.sl 162 3 (s.database.tables.map aL),.int .i64 s.catalogue.version,.sl 121 4 (s.catalogue.tables.map aA),.sl 168 3 (s.dependencies.map aD),.sl 170 4 (s.inclusions.map aE)],.agg [.int .i64 q.variableCount,.sl 131 2 (q.atoms.map aU)],.one (.int .i64 m),.one (.int .i64 i)] (vB (eS s q m i.toNat)) []
theorem aRm (s:StoreD) (q:QueryD) (m i:Int) (hc:cJ s≤1048576) (hq:kU s q m=true) (hi:0≤i∧i.toNat<q.atoms.length):aIM s q m i:=by
 refine aV bF aS Tryz.func186 (by kernel_rfl) (.call (vB (kU s q m)) []<| .no<| .len q.atoms.length<| .call (vB (dY i (0:Int) (((q.atoms.length:Nat):Int) - (1:Int)))) []<| .lit<| .lit<| .no<| .lit<| .lit<| .lit<| .lit<| .lit<| .br (.fin []) (bP (aBM q m ((1:Int)*2^(Int.toNat i)))<| .len ((eN q m ((1:Int)*2^(Int.toNat i))).length)<| .br (.fin []) (.loop Nat (Q1 Nat) [10,11,12,42,43,44,45,46,47,48,49,50,51,52,53,54,55,56,57,58,59,60,61,62,63,64,65,66,67,68,69,70,71,72,73,74,75,76,77,78,79,80,81,82,83,84,85,86,87,88,89,90,91,92,93,94,95,96,97,98,99,100,101,102,103,104,105,106,107,108,109,110,111,112,113,114,115,116,117,118,119,120,121,122,123] [1100] (fun k=>[(10,vI (k:Int))]) (fun k=>[]) (fun k=>k≤q.atoms.length∧(dZ (cP m) k).all (fun j=> !jW s (q.atoms.getD i.toNat dL) ((rW q m i.toNat).getD 0 0) (q.atoms.getD j.toNat dL))=true) (fun k=>q.atoms.length - k) (fun k=> .len q.atoms.length<| .br (.br (.back []) (.elem _ aU q.atoms (fun e58=> .len ((eN q m ((1:Int)*2^(Int.toNat i))).length)<| .elem _ intD (eN q m ((1:Int)*2^(Int.toNat i))) (fun e63=> .call (vB (decide (e63∈e58.vars))) []<| .lit<| .lit<| .br (.back []) (.elem _ aU q.atoms (fun e70=> .elem _ aU q.atoms (fun e76=> .len ((eN q m ((1:Int)*2^(Int.toNat i))).length)<| .elem _ intD (eN q m ((1:Int)*2^(Int.toNat i))) (fun e80=> .call (vI (dB (iN e80) e76.vars)) []<| .elem _ aU q.atoms (fun e85=> .elem _ aU q.atoms (fun e91=> .len ((eN q m ((1:Int)*2^(Int.toNat i))).length)<| .elem _ intD (eN q m ((1:Int)*2^(Int.toNat i))) (fun e95=> .call (vI (dB (iN e95) e91.vars)) []<| .br (.lit<| .lit<| .lit<| .lit<| .lit<| .br (.fin []) (.loop Nat (Q1 Nat) [12,110,111,112,113,114,115,116,117,118,119,120,121,122,123] [] (fun j=>[(12,vI (j:Int))]) (fun j=>[]) (fun j=>j≤s.inclusions.length∧(s.inclusions.take j).all (fun z=> !decide (z=(⟨e70.name,dB (iN e80) e76.vars,e85.name,dB (iN e95) e91.vars⟩:aG)))=true) (fun j=>s.inclusions.length - j) (fun j=> .len s.inclusions.length<| .br (.elem _ aE s.inclusions (fun e120=> .br (.fin []) (.back []))) (.back [])))) (.loop Nat (Q1 Nat) [12,110,111,112,113,114,115,116,117,118,119,120,121,122,123] [] (fun j=>[(12,vI (j:Int))]) (fun j=>[]) (fun j=>j≤s.inclusions.length∧(s.inclusions.take j).all (fun z=> !decide (z=(⟨e70.name,dB (iN e80) e76.vars,e85.name,dB (iN e95) e91.vars⟩:aG)))=true) (fun j=>s.inclusions.length - j) (fun j=> .len s.inclusions.length<| .br (.elem _ aE s.inclusions (fun e120=> .br (.fin []) (.back []))) (.back [])))))))))))))) (.fin []))))) (p:=(s.database.tables.map aL).length≤9223372036854775807→(s.catalogue.tables.map aA).length≤9223372036854775807→(s.dependencies.map aD).length≤9223372036854775807→(s.inclusions.map aE).length≤9223372036854775807→(q.atoms.map aU).length≤9223372036854775807→rX s q m∧((!(kU s q m))=false∧(Lm aU q.atoms∧(cG (((q.atoms.length:Nat):Int) - (1:Int))∧(fB i (0:Int) (((q.atoms.length:Nat):Int) - (1:Int))∧((!(dY i (0:Int) (((q.atoms.length:Nat):Int) - (1:Int))))=false∧((0≤i∧i≤64)∧(((decide ((dD .and .i64 (m/2^(Int.toNat i)) (1:Int))=(1:Int)))=true→(false)=(eS s q m i.toNat)∧True)∧((decide ((dD .and .i64 (m/2^(Int.toNat i)) (1:Int))=(1:Int)))=false→(0≤i∧i≤64)∧(cG ((1:Int)*2^(Int.toNat i))∧(aGL q m ((1:Int)*2^(Int.toNat i))∧(Lm intD (eN q m ((1:Int)*2^(Int.toNat i)))∧(((!(decide ((((eN q m ((1:Int)*2^(Int.toNat i))).length:Nat):Int)=(1:Int))))=true→(false)=(eS s q m i.toNat)∧True)∧((!(decide ((((eN q m ((1:Int)*2^(Int.toNat i))).length:Nat):Int)=(1:Int))))=false→(∃(k:Nat),(0:Int)=(k:Int)∧k≤q.atoms.length∧(dZ (cP m) k).all (fun j=> !jW s (q.atoms.getD i.toNat dL) ((rW q m i.toNat).getD 0 0) (q.atoms.getD j.toNat dL))=true)∧ ∀(k:Nat),(k≤q.atoms.length∧(dZ (cP m) k).all (fun j=> !jW s (q.atoms.getD i.toNat dL) ((rW q m i.toNat).getD 0 0) (q.atoms.getD j.toNat dL))=true)→Lm aU q.atoms∧(((decide ((k:Int)<((q.atoms.length:Nat):Int)))=true→(0≤(k:Int)∧(k:Int)≤64)∧(((decide ((dD .and .i64 (m/2^k) (1:Int))=(0:Int)))=true→cG ((k:Int)+(1:Int))∧ ∃(k' :Nat),((k:Int)+(1:Int))=(k' :Int)∧(k' ≤q.atoms.length∧(dZ (cP m) k').all (fun j=> !jW s (q.atoms.getD i.toNat dL) ((rW q m i.toNat).getD 0 0) (q.atoms.getD j.toNat dL))=true)∧q.atoms.length - k' <q.atoms.length - k)∧((decide ((dD .and .i64 (m/2^k) (1:Int))=(0:Int)))=false→0≤(k:Int)∧Em aU q.atoms k fun e58=>0≤(0:Int)∧Lm intD (eN q m ((1:Int)*2^(Int.toNat i)))∧(0:Int)<(((eN q m ((1:Int)*2^(Int.toNat i))).length:Nat):Int)∧Em intD (eN q m ((1:Int)*2^(Int.toNat i))) 0 fun e63=>aKZ e58.vars e63∧(((!(decide (e63∈e58.vars)))=true→cG ((k:Int)+(1:Int))∧ ∃(k' :Nat),((k:Int)+(1:Int))=(k' :Int)∧(k' ≤q.atoms.length∧(dZ (cP m) k').all (fun j=> !jW s (q.atoms.getD i.toNat dL) ((rW q m i.toNat).getD 0 0) (q.atoms.getD j.toNat dL))=true)∧q.atoms.length - k' <q.atoms.length - k)∧((!(decide (e63∈e58.vars)))=false→0≤(k:Int)∧Em aU q.atoms k fun e70=>0≤(k:Int)∧Em aU q.atoms k fun e76=>0≤(0:Int)∧Lm intD (eN q m ((1:Int)*2^(Int.toNat i)))∧(0:Int)<(((eN q m ((1:Int)*2^(Int.toNat i))).length:Nat):Int)∧Em intD (eN q m ((1:Int)*2^(Int.toNat i))) 0 fun e80=>aLq e76 e80∧(0≤i∧Em aU q.atoms ((i).toNat) fun e85=>0≤i∧Em aU q.atoms ((i).toNat) fun e91=>0≤(0:Int)∧Lm intD (eN q m ((1:Int)*2^(Int.toNat i)))∧(0:Int)<(((eN q m ((1:Int)*2^(Int.toNat i))).length:Nat):Int)∧Em intD (eN q m ((1:Int)*2^(Int.toNat i))) 0 fun e95=>aLq e91 e95∧(((e70.name.toList==e85.name.toList)=true→((decide ((dB (iN e80) e76.vars)=(dB (iN e95) e91.vars)))=true→(true)=(eS s q m i.toNat)∧True)∧((decide ((dB (iN e80) e76.vars)=(dB (iN e95) e91.vars)))=false→(∃(j:Nat),(0:Int)=(j:Int)∧j≤s.inclusions.length∧(s.inclusions.take j).all (fun z=> !decide (z=(⟨e70.name,dB (iN e80) e76.vars,e85.name,dB (iN e95) e91.vars⟩:aG)))=true)∧ ∀(j:Nat),(j≤s.inclusions.length∧(s.inclusions.take j).all (fun z=> !decide (z=(⟨e70.name,dB (iN e80) e76.vars,e85.name,dB (iN e95) e91.vars⟩:aG)))=true)→Lm aE s.inclusions∧(((decide ((j:Int)<((s.inclusions.length:Nat):Int)))=true→0≤(j:Int)∧Em aE s.inclusions j fun e120=>(((e120.name.toList==e70.name.toList)&&((e120.column==(dB (iN e80) e76.vars))&&((e120.into.toList==e85.name.toList)&&((e120.intoColumn==(dB (iN e95) e91.vars))&&true))))=true→(true)=(eS s q m i.toNat)∧True)∧(((e120.name.toList==e70.name.toList)&&((e120.column==(dB (iN e80) e76.vars))&&((e120.into.toList==e85.name.toList)&&((e120.intoColumn==(dB (iN e95) e91.vars))&&true))))=false→cG ((j:Int)+(1:Int))∧ ∃(j' :Nat),((j:Int)+(1:Int))=(j' :Int)∧(j' ≤s.inclusions.length∧(s.inclusions.take j').all (fun z=> !decide (z=(⟨e70.name,dB (iN e80) e76.vars,e85.name,dB (iN e95) e91.vars⟩:aG)))=true)∧s.inclusions.length - j' <s.inclusions.length - j))∧((decide ((j:Int)<((s.inclusions.length:Nat):Int)))=false→cG ((k:Int)+(1:Int))∧ ∃(k' :Nat),((k:Int)+(1:Int))=(k' :Int)∧(k' ≤q.atoms.length∧(dZ (cP m) k').all (fun j=> !jW s (q.atoms.getD i.toNat dL) ((rW q m i.toNat).getD 0 0) (q.atoms.getD j.toNat dL))=true)∧q.atoms.length - k' <q.atoms.length - k))))∧((e70.name.toList==e85.name.toList)=false→(∃(j:Nat),(0:Int)=(j:Int)∧j≤s.inclusions.length∧(s.inclusions.take j).all (fun z=> !decide (z=(⟨e70.name,dB (iN e80) e76.vars,e85.name,dB (iN e95) e91.vars⟩:aG)))=true)∧ ∀(j:Nat),(j≤s.inclusions.length∧(s.inclusions.take j).all (fun z=> !decide (z=(⟨e70.name,dB (iN e80) e76.vars,e85.name,dB (iN e95) e91.vars⟩:aG)))=true)→Lm aE s.inclusions∧(((decide ((j:Int)<((s.inclusions.length:Nat):Int)))=true→0≤(j:Int)∧Em aE s.inclusions j fun e120=>(((e120.name.toList==e70.name.toList)&&((e120.column==(dB (iN e80) e76.vars))&&((e120.into.toList==e85.name.toList)&&((e120.intoColumn==(dB (iN e95) e91.vars))&&true))))=true→(true)=(eS s q m i.toNat)∧True)∧(((e120.name.toList==e70.name.toList)&&((e120.column==(dB (iN e80) e76.vars))&&((e120.into.toList==e85.name.toList)&&((e120.intoColumn==(dB (iN e95) e91.vars))&&true))))=false→cG ((j:Int)+(1:Int))∧ ∃(j' :Nat),((j:Int)+(1:Int))=(j' :Int)∧(j' ≤s.inclusions.length∧(s.inclusions.take j').all (fun z=> !decide (z=(⟨e70.name,dB (iN e80) e76.vars,e85.name,dB (iN e95) e91.vars⟩:aG)))=true)∧s.inclusions.length - j' <s.inclusions.length - j))∧((decide ((j:Int)<((s.inclusions.length:Nat):Int)))=false→cG ((k:Int)+(1:Int))∧ ∃(k' :Nat),((k:Int)+(1:Int))=(k' :Int)∧(k' ≤q.atoms.length∧(dZ (cP m) k').all (fun j=> !jW s (q.atoms.getD i.toNat dL) ((rW q m i.toNat).getD 0 0) (q.atoms.getD j.toNat dL))=true)∧q.atoms.length - k' <q.atoms.length - k))))))))))∧((decide ((k:Int)<((q.atoms.length:Nat):Int)))=false→(false)=(eS s q m i.toNat)∧True)))))))))))))))) (by kernel_rfl) ?_
 intro n0 n1 n2 n3 n4
 simp only [List.length_map] at n0 n1 n2 n3 n4
 have hS:cJ s=bD s.database+bL s.catalogue+bU s.dependencies+cT s.inclusions:=rfl
 have hI:=gO s.inclusions
 obtain ⟨hq1,hq2,hq3,hm1,hm2,hm3,hm4,hm5⟩:=jP hq
 have hML:=aCS hq
 obtain ⟨a0,ha0⟩:=bY (l:=q.atoms) (k:=i.toNat) hi.2
 have hX:(q.atoms.getD i.toNat dL)=a0:=aZ ha0
 have hsl:=aRi hm4 ha0
 obtain ⟨w1,w2,w3⟩:=tF (x:=i) (iG (by omega) (by omega))
 refine ⟨aCY s q m (by omega),by rw [hq];rfl,List.length_map _,by first | exact w1 | exact ⟨by omega,by omega⟩,iW _ _ _,by rw [iG (show 0≤i by omega) (show i≤((q.atoms.length:Nat):Int) - 1 by omega)];rfl,⟨by omega,by omega⟩,fun c0=>?_,fun c0=>?_⟩
 ·replace c0:=yq c0
  have hbad:eS s q m i.toNat=false:=aLl (oS c0)
  refine ⟨?_,trivial⟩
  ·first | (rw [hbad];done) | (exact (pT hb0 hl1 hV hX hem (by rw [hY];exact hT)).symm) | (exact (wN hV hX ha).symm)
 ·replace c0:=nq c0
  refine ⟨⟨by omega,by omega⟩,by first | exact w1 | exact ⟨by omega,by omega⟩,aQR _ m ((1:Int)*2^(Int.toNat i)),List.length_map _,fun c1=>?_,fun c1=>?_⟩
  ·replace c1:=nq (nt c1)
   have hbad:eS s q m i.toNat=false:=aLm (by omega)
   refine ⟨?_,trivial⟩
   ·first | (rw [hbad];done) | (exact (pT hb0 hl1 hV hX hem (by rw [hY];exact hT)).symm) | (exact (wN hV hX ha).symm)
  ·replace c1:=yq (nf c1)
   have hsh:=aRj hm4 ha0 (by omega)
   obtain ⟨v0,hv0⟩:=bY (l:=(eN q m ((1:Int)*2^i.toNat))) (k:=0) (by omega)
   have hV:((rW q m i.toNat).getD 0 0)=v0:=by rw [←hsh,aZ hv0]
   have hb0:=kT c0
   have hl1:(rW q m i.toNat).length=1:=by rw [←hsh];omega
   refine ⟨⟨0,rfl,Nat.zero_le _,rfl⟩,fun k ⟨hk,ha⟩=>?_⟩
   refine ⟨List.length_map _,fun c2=>?_,fun c2=>?_⟩
   ·replace c2:=yq c2
    obtain ⟨ak,hak⟩:=bY (l:=q.atoms) (k:=k) (by omega)
    have hY:q.atoms.getD ((k:Nat):Int).toNat dL=ak:=by rw [Int.toNat_natCast];exact aZ hak
    refine ⟨⟨by omega,by omega⟩,fun g54=>?_,fun g54=>?_⟩
    ·replace g54:=yq g54
     refine ⟨by first | exact w1 | exact ⟨by omega,by omega⟩,?_⟩
     exact ⟨k+1,rfl,⟨by omega,by first | (exact aE5 (by first | (exact .inl (kT (by omega))) | (exact .inr (by rw [hX,hV,hY,jW,c3];rfl)) | (exact .inr (by rw [hX,hV,hY];exact hF))) ha)⟩,by omega⟩
    ·replace g54:=nq g54
     refine ⟨by omega,rfl,by omega,fun e58 h58=>?_⟩
     try (obtain rfl:=(aX ha0 h58).symm)
     try (obtain rfl:=(aX hak h58).symm)
     refine ⟨by omega,List.length_map _,by omega,rfl,by omega,fun e63 h63=>?_⟩
     obtain rfl:=(aX hv0 h63).symm
     refine ⟨hsI _ _,fun c3=>?_,fun c3=>?_⟩
     ·replace c3:=nt c3
      refine ⟨by first | exact w1 | exact ⟨by omega,by omega⟩,?_⟩
      exact ⟨k+1,rfl,⟨by omega,by first | (exact aE5 (by first | (exact .inl (kT (by omega))) | (exact .inr (by rw [hX,hV,hY,jW,c3];rfl)) | (exact .inr (by rw [hX,hV,hY];exact hF))) ha)⟩,by omega⟩
     ·replace c3:=nf c3
      have hbk:cP m k=true:=by have z:=aCH (m:=m) (v:=k) ⟨by omega,by omega⟩ (by omega);rw [decide_eq_false g54] at z;simpa using z
      have hpos: ¬xE ak v0<0:=by have z:=aLi ak v0;rw [c3] at z;have:=of_decide_eq_true z;omega
      have hem:((k:Nat):Int)∈bR m:=by rw [hML];exact nE.2 ⟨by omega,by omega,by simpa using hbk⟩
      refine ⟨by omega,rfl,by omega,fun e70 h70=>?_⟩
      try (obtain rfl:=(aX ha0 h70).symm)
      try (obtain rfl:=(aX hak h70).symm)
      refine ⟨by omega,rfl,by omega,fun e76 h76=>?_⟩
      try (obtain rfl:=(aX ha0 h76).symm)
      try (obtain rfl:=(aX hak h76).symm)
      refine ⟨by omega,List.length_map _,by omega,rfl,by omega,fun e80 h80=>?_⟩
      obtain rfl:=(aX hv0 h80).symm
      refine ⟨aTg _ _,by omega,rfl,by omega,fun e85 h85=>?_⟩
      try (obtain rfl:=(aX ha0 h85).symm)
      try (obtain rfl:=(aX hak h85).symm)
      refine ⟨by omega,rfl,by omega,fun e91 h91=>?_⟩
      try (obtain rfl:=(aX ha0 h91).symm)
      try (obtain rfl:=(aX hak h91).symm)
      refine ⟨by omega,List.length_map _,by omega,rfl,by omega,fun e95 h95=>?_⟩
      obtain rfl:=(aX hv0 h95).symm
      refine ⟨aTg _ _,fun g103=>?_,fun g103=>?_⟩
      ·refine ⟨fun c4=>?_,fun c4=>?_⟩
       ·replace c4:=yq c4
        have hT:jW s a0 v0 ak=true:=tX hpos (vM g103 c4)
        refine ⟨?_,trivial⟩
        ·first | (rw [hbad];done) | (exact (pT hb0 hl1 hV hX hem (by rw [hY];exact hT)).symm) | (exact (wN hV hX ha).symm)
       ·replace c4:=nq c4
        refine ⟨⟨0,rfl,Nat.zero_le _,rfl⟩,fun j ⟨hj,hb⟩=>?_⟩
        refine ⟨List.length_map _,fun c5=>?_,fun c5=>?_⟩
        ·replace c5:=yq c5
         refine ⟨by omega,rfl,by omega,fun e120 h120=>?_⟩
         refine ⟨fun c6=>?_,fun c6=>?_⟩
         ·rw [aJE] at c6
          have hT:jW s a0 v0 ak=true:=tX hpos (tY (Eq.subst (motive:=fun y=>y∈s.inclusions) (of_decide_eq_true c6) (List.mem_of_getElem? h120)))
          refine ⟨?_,trivial⟩
          ·first | (rw [hbad];done) | (exact (pT hb0 hl1 hV hX hem (by rw [hY];exact hT)).symm) | (exact (wN hV hX ha).symm)
         ·rw [aJE] at c6
          refine ⟨by first | exact w1 | exact ⟨by omega,by omega⟩,?_⟩
          exact ⟨j+1,rfl,⟨by omega,cY h120 hb (by rw [c6];rfl)⟩,by omega⟩
        ·replace c5:=nq c5
         have hF:jW s a0 v0 ak=false:=aE4 (aCX (by first | (exact .inl g103) | (exact .inr c4)) (aQY (bJ (by omega) hb)))
         refine ⟨by first | exact w1 | exact ⟨by omega,by omega⟩,?_⟩
         exact ⟨k+1,rfl,⟨by omega,by first | (exact aE5 (by first | (exact .inl (kT (by omega))) | (exact .inr (by rw [hX,hV,hY,jW,c3];rfl)) | (exact .inr (by rw [hX,hV,hY];exact hF))) ha)⟩,by omega⟩
      ·refine ⟨⟨0,rfl,Nat.zero_le _,rfl⟩,fun j ⟨hj,hb⟩=>?_⟩
       refine ⟨List.length_map _,fun c5=>?_,fun c5=>?_⟩
       ·replace c5:=yq c5
        refine ⟨by omega,rfl,by omega,fun e120 h120=>?_⟩
        refine ⟨fun c6=>?_,fun c6=>?_⟩
        ·rw [aJE] at c6
         have hT:jW s a0 v0 ak=true:=tX hpos (tY (Eq.subst (motive:=fun y=>y∈s.inclusions) (of_decide_eq_true c6) (List.mem_of_getElem? h120)))
         refine ⟨?_,trivial⟩
         ·first | (rw [hbad];done) | (exact (pT hb0 hl1 hV hX hem (by rw [hY];exact hT)).symm) | (exact (wN hV hX ha).symm)
        ·rw [aJE] at c6
         refine ⟨by first | exact w1 | exact ⟨by omega,by omega⟩,?_⟩
         exact ⟨j+1,rfl,⟨by omega,cY h120 hb (by rw [c6];rfl)⟩,by omega⟩
       ·replace c5:=nq c5
        have hF:jW s a0 v0 ak=false:=aE4 (aCX (by first | (exact .inl g103) | (exact .inr c4)) (aQY (bJ (by omega) hb)))
        refine ⟨by first | exact w1 | exact ⟨by omega,by omega⟩,?_⟩
        exact ⟨k+1,rfl,⟨by omega,by first | (exact aE5 (by first | (exact .inl (kT (by omega))) | (exact .inr (by rw [hX,hV,hY,jW,c3];rfl)) | (exact .inr (by rw [hX,hV,hY];exact hF))) ha)⟩,by omega⟩
   ·replace c2:=nq c2
    have hkl:q.atoms.length=k:=by omega
    rw [←hkl,←hML,hX,hV] at ha
    refine ⟨?_,trivial⟩
    ·first | (rw [hbad];done) | (exact (pT hb0 hl1 hV hX hem (by rw [hY];exact hT)).symm) | (exact (wN hV hX ha).symm)
theorem aRn {x:Option (List Int)} (h:x.isSome=false):x=none:=by cases x with | none=>rfl | some r=>cases h
theorem aMh {x:Option (List Int)} (h:x.isSome=true):x=some (x.getD []):=by cases x with | none=>cases h | some r=>rfl
theorem aKc {x:Option (List Int)} (h:0<((x.getD []).length:Int)):x=some (x.getD []):=by cases x with | none=>simp at h | some r=>rfl
theorem aE6 {s:StoreD} {q:QueryD} {f:Nat} {o:List Int} {u l:Nat→Bool} (hg:f - 1+1=f) (h: ¬gH l=0):fH s q f o u l=(dZ l 4).findSome? (kA s q (fH s q (f - 1)) o u l):=by
 obtain ⟨g,rfl⟩: ∃g,f=g+1:=⟨f - 1,hg.symm⟩
 exact aKb h g
theorem aIN {u:Nat→Bool} {n:Nat} (hn:1≤n∧n≤4) (h: ∀i,n≤i→i<4→u i=false):0≤m4 u∧m4 u≤(1:Int)*2^n - 1:=by
 have h4:n=1∨n=2∨n=3∨n=4:=by omega
 unfold m4
 rcases h4 with rfl | rfl | rfl | rfl
 ·rw [h 1 (by omega) (by omega),h 2 (by omega) (by omega),h 3 (by omega) (by omega)];cases u 0<;>decide
 ·rw [h 2 (by omega) (by omega),h 3 (by omega) (by omega)];cases u 0<;>cases u 1<;>decide
 ·rw [h 3 (by omega) (by omega)];cases u 0<;>cases u 1<;>cases u 2<;>decide
 ·cases u 0<;>cases u 1<;>cases u 2<;>cases u 3<;>decide
theorem aKd {m:Int} {v:Nat} (h:0≤m∧m≤15) (hv:v<4):dD .andNot .i64 m ((1:Int)*2^v)=m4 (lC (cP m) v):=by
 have e:=aE0 h
 rw [show dD .andNot .i64 m ((1:Int)*2^v)=dD .andNot .i64 (m4 (cP m)) ((1:Int)*2^v) by rw [←e],aQG hv]
theorem vQ {s:StoreD} {q:QueryD} {m x:Int} (h:0≤x):fH s q 4 [x] (isP x.toNat) (lC (cP m) x.toNat)=aDQ s q m x.toNat:=by rw [aDQ,Int.toNat_of_nonneg h]
abbrev aAV (s:StoreD) (q:QueryD) (f:Nat) (o:List Int) (u:Nat→Bool) (l:Nat→Bool) (a:Int) (c:Int):List AV × List (Nat × Rs) × AV × List (Nat × Rs):=([.agg [.p none (.sl 162 3 (s.database.tables.map aL)),vI s.catalogue.version,.p none (.sl 121 4 (s.catalogue.tables.map aA)),.p none (.sl 168 3 (s.dependencies.map aD)),.p none (.sl 170 4 (s.inclusions.map aE))],.agg [vI q.variableCount,.p none (.sl 131 2 (q.atoms.map aU))],.own 0,vI a,vI c],[(0,.arr 3 1 true (o.map intD))],.tup [.own 5,vB ((fH s q f o u l).isSome)],[(5,.arr 3 1 true (((fH s q f o u l).getD []).map intD))])
abbrev aDR (s:StoreD) (q:QueryD) (f:Nat) (o:List Int) (u:Nat→Bool) (l:Nat→Bool) (a:Int) (c:Int):Prop:=lT Tryz.prog 113 (aAV s q f o u l a c).1 (aAV s q f o u l a c).2.1 (aAV s q f o u l a c).2.2.1 (aAV s q f o u l a c).2.2.2
theorem aMi (s:StoreD) (q:QueryD) (f:Nat) (o:List Int) (u l:Nat→Bool) (a c:Int) (hq3:bM q=true) (ha:a=m4 u) (hc2:c=m4 l) (hf:gH l≤f∧f≤4) (hu: ∀i,q.atoms.length≤i→i<4→u i=false) (hl: ∀i,q.atoms.length≤i→i<4→l i=false) (hol:o.length+f≤100) (ih: ∀g,g+1=f→ ∀(o:List Int) (u l:Nat→Bool) (a c:Int),a=m4 u→c=m4 l→gH l≤g→(∀i,q.atoms.length≤i→i<4→u i=false)→(∀i,q.atoms.length≤i→i<4→l i=false)→o.length+g≤100→aDR s q g o u l a c):aDR s q f o u l a c:=by
 refine mZ bF aS Tryz.func113 (by kernel_rfl) (by kernel_rfl) (.br (.fin [(5,0)]) (bP (oF c)<| .len ((bR c).length)<| .loop Nat (Q1 Nat) [13,14,15,22,23,24,25,26,27,28,29,30,31,32,33,34,35,36,37,38,39,40,41,42,43,44,45,46,47,48,49,50,51,53] [3600,3800,3900,4805] (fun k=>[(22,vI (k:Int))]) (fun k=>[]) (fun k=>k≤(bR c).length∧((bR c).take k).findSome? (kA s q (fH s q (f - 1)) o u l)=none) (fun k=>(bR c).length - k) (fun k=> .br (.len ((bR c).length)<| .elem _ intD (bR c) (fun e25=> .call (vB (eS s q a e25.toNat)) []<| .br (.back []) (bP (aHs o)<| .app Int intD o ([e25]:List Int)<| .callx [.agg [.p none (.sl 162 3 (s.database.tables.map aL)),vI s.catalogue.version,.p none (.sl 121 4 (s.catalogue.tables.map aA)),.p none (.sl 168 3 (s.dependencies.map aD)),.p none (.sl 170 4 (s.inclusions.map aE))],.agg [vI q.variableCount,.p none (.sl 131 2 (q.atoms.map aU))],.own 0,vI (dD .or .i64 a ((1:Int)*2^(Int.toNat e25))),vI (dD .andNot .i64 c ((1:Int)*2^(Int.toNat e25)))] [(0,.arr 3 1 true ((o++[e25]).map intD))] [(0,3900)] (.tup [.own 5,vB ((fH s q (f - 1) (o++[e25]) (xD u e25.toNat) (lC l e25.toNat)).isSome)]) [(5,.arr 3 1 true (((fH s q (f - 1) (o++[e25]) (xD u e25.toNat) (lC l e25.toNat)).getD []).map intD))]<| .br (.fin [(5,4805)]) (.back [])))) (.fin [])))) (p:=((decide (c=(0:Int)))=true→(true)=((fH s q f o u l).isSome)∧o.map intD=((fH s q f o u l).getD []).map intD∧True)∧((decide (c=(0:Int)))=false→rV c∧(Lm intD (bR c)∧((∃(k:Nat),(0:Int)=(k:Int)∧k≤(bR c).length∧((bR c).take k).findSome? (kA s q (fH s q (f - 1)) o u l)=none)∧ ∀(k:Nat),(k≤(bR c).length∧((bR c).take k).findSome? (kA s q (fH s q (f - 1)) o u l)=none)→((decide ((k:Int)<(((bR c).length:Nat):Int)))=true→0≤(k:Int)∧Lm intD (bR c)∧(k:Int)<(((bR c).length:Nat):Int)∧Em intD (bR c) k fun e25=>aIL s q a e25∧(((!(eS s q a e25.toNat))=true→cG ((k:Int)+(1:Int))∧ ∃(k' :Nat),((k:Int)+(1:Int))=(k' :Int)∧(k' ≤(bR c).length∧((bR c).take k').findSome? (kA s q (fH s q (f - 1)) o u l)=none)∧(bR c).length - k' <(bR c).length - k)∧((!(eS s q a e25.toNat))=false→aKD o∧(o.map intD=o.map intD∧[[.int .i64 e25]]=([e25]:List Int).map intD∧(∀x,eK (intD x)=true)∧(o.length+([e25]:List Int).length)*8≤140737488355328∧((0≤e25∧e25≤64)∧(cG ((1:Int)*2^(Int.toNat e25))∧((0≤e25∧e25≤64)∧(cG ((1:Int)*2^(Int.toNat e25))∧(lT Tryz.prog 113 [.agg [.p none (.sl 162 3 (s.database.tables.map aL)),vI s.catalogue.version,.p none (.sl 121 4 (s.catalogue.tables.map aA)),.p none (.sl 168 3 (s.dependencies.map aD)),.p none (.sl 170 4 (s.inclusions.map aE))],.agg [vI q.variableCount,.p none (.sl 131 2 (q.atoms.map aU))],.own 0,vI (dD .or .i64 a ((1:Int)*2^(Int.toNat e25))),vI (dD .andNot .i64 c ((1:Int)*2^(Int.toNat e25)))] [(0,.arr 3 1 true ((o++[e25]).map intD))] (.tup [.own 5,vB ((fH s q (f - 1) (o++[e25]) (xD u e25.toNat) (lC l e25.toNat)).isSome)]) [(5,.arr 3 1 true (((fH s q (f - 1) (o++[e25]) (xD u e25.toNat) (lC l e25.toNat)).getD []).map intD))]∧s.database.tables.map aL=s.database.tables.map aL∧s.catalogue.version=s.catalogue.version∧s.catalogue.tables.map aA=s.catalogue.tables.map aA∧s.dependencies.map aD=s.dependencies.map aD∧s.inclusions.map aE=s.inclusions.map aE∧q.variableCount=q.variableCount∧q.atoms.map aU=q.atoms.map aU∧(dD .or .i64 a ((1:Int)*2^(Int.toNat e25)))=(dD .or .i64 a ((1:Int)*2^(Int.toNat e25)))∧(dD .andNot .i64 c ((1:Int)*2^(Int.toNat e25)))=(dD .andNot .i64 c ((1:Int)*2^(Int.toNat e25)))∧(o++[e25]).map intD=(o++[e25]).map intD∧((((fH s q (f - 1) (o++[e25]) (xD u e25.toNat) (lC l e25.toNat)).isSome)=true→(true)=((fH s q f o u l).isSome)∧((fH s q (f - 1) (o++[e25]) (xD u e25.toNat) (lC l e25.toNat)).getD []).map intD=((fH s q f o u l).getD []).map intD∧True)∧(((fH s q (f - 1) (o++[e25]) (xD u e25.toNat) (lC l e25.toNat)).isSome)=false→cG ((k:Int)+(1:Int))∧ ∃(k' :Nat),((k:Int)+(1:Int))=(k' :Int)∧(k' ≤(bR c).length∧((bR c).take k').findSome? (kA s q (fH s q (f - 1)) o u l)=none)∧(bR c).length - k' <(bR c).length - k)))))))))))∧((decide ((k:Int)<(((bR c).length:Nat):Int)))=false→(false)=((fH s q f o u l).isSome)∧[]=((fH s q f o u l).getD []).map intD∧True))))) (by kernel_rfl) ?_
 have hq5:=(cX hq3).2.1
 have hm:0≤a∧a≤(1:Int)*2^q.atoms.length - 1:=by rw [ha];exact aIN hq5 hu
 refine ⟨fun c0=>?_,fun c0=>?_⟩
 ·replace c0:=yq c0
  have hz:gH l=0:=(aE2 l).1 (by rw [←hc2];exact c0)
  refine ⟨?_,?_,trivial⟩
  ·first | (rw [fV hz];done) | (rw [fV hz];rfl) | (rw [hR,c3];done) | (rw [hR];done) | (rw [hN];rfl)
  ·first | (rw [fV hz];done) | (rw [fV hz];rfl) | (rw [hR,c3];done) | (rw [hR];done) | (rw [hN];rfl)
 ·replace c0:=nq c0
  have hz: ¬gH l=0:=fun z=>c0 (by rw [hc2];exact (aE2 l).2 z)
  have hg:f - 1+1=f:=by omega
  have hML:bR c=dZ l 4:=by rw [hc2,aOF]
  have hml:=aDO c
  refine ⟨aCQ c,List.length_map _,⟨0,rfl,Nat.zero_le _,rfl⟩,fun k ⟨hk,hn⟩=>?_⟩
  refine ⟨fun c1=>?_,fun c1=>?_⟩
  ·replace c1:=yq c1
   refine ⟨by omega,List.length_map _,by omega,rfl,by omega,fun e25 h25=>?_⟩
   have hem:=List.mem_of_getElem? h25
   rw [hML] at hem
   obtain ⟨hx0,hx4,hxl⟩:=nE.1 hem
   have hxn:e25.toNat<q.atoms.length:=by (rcases Nat.lt_or_ge e25.toNat q.atoms.length with z | z;exact z;rw [hl _ z hx4] at hxl;cases hxl)
   have hcc:=aGM hx4 hxl
   obtain ⟨w1,w2,w3⟩:=tF (x:=e25) (iG (by omega) (by omega))
   have hcl: ∀i,q.atoms.length≤i→i<4→lC l e25.toNat i=false:=fun i h1 h2=>by rw [lC,hl i h1 h2];rfl
   have hus: ∀i,q.atoms.length≤i→i<4→xD u e25.toNat i=false:=fun i h1 h2=>by rw [xD,hu i h1 h2,decide_eq_false (by omega)];rfl
   refine ⟨aRl s q a e25 (by assumption) (by first | assumption | exact ⟨by omega,by omega⟩) (by first | assumption | exact ⟨by omega,by omega⟩),fun c2=>?_,fun c2=>?_⟩
   ·replace c2:=nt c2
    have hS:kA s q (fH s q (f - 1)) o u l e25=none:=by rw [kA,←ha,c2];rfl
    refine ⟨by first | exact w1 | exact ⟨by omega,by omega⟩,?_⟩
    exact ⟨k+1,rfl,⟨by omega,aIJ h25 hn hS⟩,by omega⟩
   ·replace c2:=nf c2
    have hE:kA s q (fH s q (f - 1)) o u l e25=fH s q (f - 1) (o++[e25]) (xD u e25.toNat) (lC l e25.toNat):=by rw [kA,←ha,c2];rfl
    refine ⟨cpI _ (by omega),rfl,rfl,fun _=>rfl,by first | omega | (simp;omega),?_⟩
    refine ⟨⟨by omega,by omega⟩,by first | exact w1 | exact ⟨by omega,by omega⟩,⟨by omega,by omega⟩,by first | exact w1 | exact ⟨by omega,by omega⟩,ih (f - 1) hg (o++[e25]) (xD u e25.toNat) (lC l e25.toNat) (dD .or .i64 a ((1:Int)*2^(Int.toNat e25))) (dD .andNot .i64 c ((1:Int)*2^(Int.toNat e25))) (by rw [ha,aA6 hx4]) (by rw [hc2,aQG hx4]) (by omega) hus hcl (by simp;omega),rfl,rfl,rfl,rfl,rfl,rfl,rfl,rfl,rfl,rfl,fun c3=>?_,fun c3=>?_⟩
    ·have hR:fH s q f o u l=fH s q (f - 1) (o++[e25]) (xD u e25.toNat) (lC l e25.toNat):=by rw [aE6 hg hz,←hML,aOG h25 hn (by rw [hE];exact aMh c3),←aMh c3]
     refine ⟨?_,?_,trivial⟩
     ·first | (rw [fV hz];done) | (rw [fV hz];rfl) | (rw [hR,c3];done) | (rw [hR];done) | (rw [hN];rfl)
     ·first | (rw [fV hz];done) | (rw [fV hz];rfl) | (rw [hR,c3];done) | (rw [hR];done) | (rw [hN];rfl)
    ·have hS:kA s q (fH s q (f - 1)) o u l e25=none:=by rw [hE];exact aRn c3
     refine ⟨by first | exact w1 | exact ⟨by omega,by omega⟩,?_⟩
     exact ⟨k+1,rfl,⟨by omega,aIJ h25 hn hS⟩,by omega⟩
  ·replace c1:=nq c1
   have hN:fH s q f o u l=none:=by rw [aE6 hg hz,←hML];rw [List.take_of_length_le (by omega)] at hn;exact hn
   refine ⟨?_,?_,trivial⟩
   ·first | (rw [fV hz];done) | (rw [fV hz];rfl) | (rw [hR,c3];done) | (rw [hR];done) | (rw [hN];rfl)
   ·first | (rw [fV hz];done) | (rw [fV hz];rfl) | (rw [hR,c3];done) | (rw [hR];done) | (rw [hN];rfl)
theorem soI {s:StoreD} {q:QueryD} (hq3:bM q=true): ∀(f:Nat) (o:List Int) (u l:Nat→Bool) (a c:Int),a=m4 u→c=m4 l→gH l≤f∧f≤4→(∀i,q.atoms.length≤i→i<4→u i=false)→(∀i,q.atoms.length≤i→i<4→l i=false)→o.length+f≤100→aDR s q f o u l a c
 | 0,o,u,l,a,c,h1,h2,h3,h4,h5,h6=>aMi s q 0 o u l a c hq3 h1 h2 h3 h4 h5 h6 fun g hg=>absurd hg (by omega)
 | f+1,o,u,l,a,c,h1,h2,h3,h4,h5,h6=>aMi s q (f+1) o u l a c hq3 h1 h2 h3 h4 h5 h6 fun g hg o u l a c k1 k2 k3 k4 k5 k6=>by
   obtain rfl:g=f:=by omega
   exact soI hq3 g o u l a c k1 k2 ⟨k3,by omega⟩ k4 k5 k6
theorem aMj {n v:Nat} (hv:v<n): ∀i,n≤i→i<4→isP v i=false:=fun i h1 h2=>by rw [isP,decide_eq_false (by omega)]
theorem aMk {n v:Nat} {m:Int} (hm:0≤m∧m≤(1:Int)*2^n - 1): ∀i,n≤i→i<4→lC (cP m) v i=false:=fun i h1 h2=>by rw [lC,aCL hm h1 h2];rfl
abbrev qL (s:StoreD) (q:QueryD) (m:Int) (st:Int):AV × List (Nat × Rs):=(.own 0,[(0,.arr 3 1 true ((eT s q m st).map intD))])
abbrev vR (s:StoreD) (q:QueryD) (m:Int) (st:Int):Prop:=cU Tryz.prog 46 [.agg [.sl 162 3 (s.database.tables.map aL),.int .i64 s.catalogue.version,.sl 121 4 (s.catalogue.tables.map aA),.sl 168 3 (s.dependencies.map aD),.sl 170 4 (s.inclusions.map aE)],.agg [.int .i64 q.variableCount,.sl 131 2 (q.atoms.map aU)],.one (.int .i64 m),.one (.int .i64 st)] (qL s q m st).1 (qL s q m st).2
theorem aGQ (s:StoreD) (q:QueryD) (m st:Int) (hc:cJ s≤1048576):vR s q m st:=by
 refine aV bF aS Tryz.func46 (by kernel_rfl) (.call (vB (kU s q m)) []<| .br (.fin []) (bP (oF m)<| .call (vB (decide (st∈(bR m)))) []<| .lit<| .lit<| .br (.fin []) (.callx [.agg [.p none (.sl 162 3 (s.database.tables.map aL)),vI s.catalogue.version,.p none (.sl 121 4 (s.catalogue.tables.map aA)),.p none (.sl 168 3 (s.dependencies.map aD)),.p none (.sl 170 4 (s.inclusions.map aE))],.agg [vI q.variableCount,.p none (.sl 131 2 (q.atoms.map aU))],.own 0,vI ((1:Int)*2^(Int.toNat st)),vI (dD .andNot .i64 m ((1:Int)*2^(Int.toNat st)))] [(0,.arr 3 1 true (([st]:List Int).map intD))] [(0,2700)] (.tup [.own 5,vB ((fH s q 4 ([st]:List Int) (isP st.toNat) (lC (cP m) st.toNat)).isSome)]) [(5,.arr 3 1 true (((fH s q 4 ([st]:List Int) (isP st.toNat) (lC (cP m) st.toNat)).getD []).map intD))]<| .fin [(0,3405)]))) (p:=(s.database.tables.map aL).length≤9223372036854775807→(s.catalogue.tables.map aA).length≤9223372036854775807→(s.dependencies.map aD).length≤9223372036854775807→(s.inclusions.map aE).length≤9223372036854775807→(q.atoms.map aU).length≤9223372036854775807→vN s q m∧(((!(kU s q m))=true→[]=(eT s q m st).map intD∧True)∧((!(kU s q m))=false→rV m∧(aFp (bR m) st∧(((!(decide (st∈(bR m))))=true→[]=(eT s q m st).map intD∧True)∧((!(decide (st∈(bR m))))=false→(0≤st∧st≤64)∧cG ((1:Int)*2^(Int.toNat st))∧(0≤st∧st≤64)∧cG ((1:Int)*2^(Int.toNat st))∧lT Tryz.prog 113 [.agg [.p none (.sl 162 3 (s.database.tables.map aL)),vI s.catalogue.version,.p none (.sl 121 4 (s.catalogue.tables.map aA)),.p none (.sl 168 3 (s.dependencies.map aD)),.p none (.sl 170 4 (s.inclusions.map aE))],.agg [vI q.variableCount,.p none (.sl 131 2 (q.atoms.map aU))],.own 0,vI ((1:Int)*2^(Int.toNat st)),vI (dD .andNot .i64 m ((1:Int)*2^(Int.toNat st)))] [(0,.arr 3 1 true (([st]:List Int).map intD))] (.tup [.own 5,vB ((fH s q 4 ([st]:List Int) (isP st.toNat) (lC (cP m) st.toNat)).isSome)]) [(5,.arr 3 1 true (((fH s q 4 ([st]:List Int) (isP st.toNat) (lC (cP m) st.toNat)).getD []).map intD))]∧s.database.tables.map aL=s.database.tables.map aL∧s.catalogue.version=s.catalogue.version∧s.catalogue.tables.map aA=s.catalogue.tables.map aA∧s.dependencies.map aD=s.dependencies.map aD∧s.inclusions.map aE=s.inclusions.map aE∧q.variableCount=q.variableCount∧q.atoms.map aU=q.atoms.map aU∧((1:Int)*2^(Int.toNat st))=((1:Int)*2^(Int.toNat st))∧(dD .andNot .i64 m ((1:Int)*2^(Int.toNat st)))=(dD .andNot .i64 m ((1:Int)*2^(Int.toNat st)))∧[[.int .i64 st]]=([st]:List Int).map intD∧((fH s q 4 ([st]:List Int) (isP st.toNat) (lC (cP m) st.toNat)).getD []).map intD=(eT s q m st).map intD∧True)))))) (by kernel_rfl) ?_
 intro n0 n1 n2 n3 n4
 simp only [List.length_map] at n0 n1 n2 n3 n4
 refine ⟨aGP s q m (by omega),fun g16=>?_,fun g16=>?_⟩
 ·replace g16:=nt g16
  have hbad:nM s q m st=false:=by first | (rw [nM,g16];rfl) | (rw [nM,g16,c0];rfl)
  refine ⟨?_,trivial⟩
  ·first | (rw [pM hbad]<;>rfl) | (rw [mQ hok,vQ hx.1])
 ·replace g16:=nf g16
  refine ⟨aCQ m,ctI _ _,fun c0=>?_,fun c0=>?_⟩
  ·replace c0:=nt c0
   have hbad:nM s q m st=false:=by first | (rw [nM,g16];rfl) | (rw [nM,g16,c0];rfl)
   refine ⟨?_,trivial⟩
   ·first | (rw [pM hbad]<;>rfl) | (rw [mQ hok,vQ hx.1])
  ·replace c0:=nf c0
   have hok:nM s q m st=true:=by rw [nM,g16,c0];rfl
   have hq:kU s q m=true:=g16
   obtain ⟨hq1,hq2,hq3,hm1,hm2,hm3,hm4,hm5⟩:=jP hq
   have hx:=aK9 hq (of_decide_eq_true c0)
   obtain ⟨w1,w2,w3⟩:=tF (x:=st) (iG (by omega) (by omega))
   refine ⟨⟨by omega,by omega⟩,by first | exact w1 | exact ⟨by omega,by omega⟩,⟨by omega,by omega⟩,by first | exact w1 | exact ⟨by omega,by omega⟩,soI hq3 4 ([st]:List Int) (isP st.toNat) (lC (cP m) st.toNat) ((1:Int)*2^(Int.toNat st)) (dD .andNot .i64 m ((1:Int)*2^(Int.toNat st))) (aQV (by omega)) (aKd ⟨by omega,by omega⟩ (by omega)) ⟨aE1 _,by omega⟩ (aMj (by omega)) (aMk ⟨by omega,by omega⟩) (by simp),rfl,rfl,rfl,rfl,rfl,rfl,rfl,rfl,rfl,rfl,?_,trivial⟩
   ·first | (rw [pM hbad]<;>rfl) | (rw [mQ hok,vQ hx.1])
abbrev zH (s:StoreD) (q:QueryD) (m:Int):Prop:=cU Tryz.prog 44 [.agg [.sl 162 3 (s.database.tables.map aL),.int .i64 s.catalogue.version,.sl 121 4 (s.catalogue.tables.map aA),.sl 168 3 (s.dependencies.map aD),.sl 170 4 (s.inclusions.map aE)],.agg [.int .i64 q.variableCount,.sl 131 2 (q.atoms.map aU)],.one (.int .i64 m)] (vI (nG s q m)) []
theorem aIO (s:StoreD) (q:QueryD) (m:Int) (hc:cJ s≤1048576):zH s q m:=by
 refine aV bF aS Tryz.func44 (by kernel_rfl) (.call (vB (kU s q m)) []<| .br (.fin []) (bP (oF m)<| .len ((bR m).length)<| .loop (Nat × Int) (Q2 Nat Int) [7,9,10,11,20,21,22,23,24,25,26,27,28,29,30,31,32,33,34,35,36,37,38,39,40,41,42,43,44,45,46] [2800,3505] (fun yy0=>[(20,vI (yy0.1:Int)),(7,vI yy0.2)]) (fun yy0=>[]) (fun yy0=>yy0.1≤(bR m).length∧yy0.2=((bR m).take yy0.1).foldl (pS s q m) 0) (fun yy0=>(bR m).length - yy0.1) (fun yy0=> .br (.len ((bR m).length)<| .elem _ intD (bR m) (fun e23=> .callx [.agg [.p none (.sl 162 3 (s.database.tables.map aL)),vI s.catalogue.version,.p none (.sl 121 4 (s.catalogue.tables.map aA)),.p none (.sl 168 3 (s.dependencies.map aD)),.p none (.sl 170 4 (s.inclusions.map aE))],.agg [vI q.variableCount,.p none (.sl 131 2 (q.atoms.map aU))],.own 0,vI ((1:Int)*2^(Int.toNat e23)),vI (dD .andNot .i64 m ((1:Int)*2^(Int.toNat e23)))] [(0,.arr 3 1 true (([e23]:List Int).map intD))] [(0,2800)] (.tup [.own 5,vB ((fH s q 4 ([e23]:List Int) (isP e23.toNat) (lC (cP m) e23.toNat)).isSome)]) [(5,.arr 3 1 true (((fH s q 4 ([e23]:List Int) (isP e23.toNat) (lC (cP m) e23.toNat)).getD []).map intD))]<| .br (bP (vO s q e23)<| .back []) (.back []))) (.fin [])))) (p:=(s.database.tables.map aL).length≤9223372036854775807→(s.catalogue.tables.map aA).length≤9223372036854775807→(s.dependencies.map aD).length≤9223372036854775807→(s.inclusions.map aE).length≤9223372036854775807→(q.atoms.map aU).length≤9223372036854775807→vN s q m∧(((!(kU s q m))=true→(-1:Int)=(nG s q m)∧True)∧((!(kU s q m))=false→rV m∧(Lm intD (bR m)∧((∃(k:Nat) (p:Int),(0:Int)=(k:Int)∧(0:Int)=p∧k≤(bR m).length∧p=((bR m).take k).foldl (pS s q m) 0)∧ ∀(k:Nat) (p:Int),(k≤(bR m).length∧p=((bR m).take k).foldl (pS s q m) 0)→((decide ((k:Int)<(((bR m).length:Nat):Int)))=true→0≤(k:Int)∧Lm intD (bR m)∧(k:Int)<(((bR m).length:Nat):Int)∧Em intD (bR m) k fun e23=>(0≤e23∧e23≤64)∧(cG ((1:Int)*2^(Int.toNat e23))∧((0≤e23∧e23≤64)∧(cG ((1:Int)*2^(Int.toNat e23))∧(lT Tryz.prog 113 [.agg [.p none (.sl 162 3 (s.database.tables.map aL)),vI s.catalogue.version,.p none (.sl 121 4 (s.catalogue.tables.map aA)),.p none (.sl 168 3 (s.dependencies.map aD)),.p none (.sl 170 4 (s.inclusions.map aE))],.agg [vI q.variableCount,.p none (.sl 131 2 (q.atoms.map aU))],.own 0,vI ((1:Int)*2^(Int.toNat e23)),vI (dD .andNot .i64 m ((1:Int)*2^(Int.toNat e23)))] [(0,.arr 3 1 true (([e23]:List Int).map intD))] (.tup [.own 5,vB ((fH s q 4 ([e23]:List Int) (isP e23.toNat) (lC (cP m) e23.toNat)).isSome)]) [(5,.arr 3 1 true (((fH s q 4 ([e23]:List Int) (isP e23.toNat) (lC (cP m) e23.toNat)).getD []).map intD))]∧s.database.tables.map aL=s.database.tables.map aL∧s.catalogue.version=s.catalogue.version∧s.catalogue.tables.map aA=s.catalogue.tables.map aA∧s.dependencies.map aD=s.dependencies.map aD∧s.inclusions.map aE=s.inclusions.map aE∧q.variableCount=q.variableCount∧q.atoms.map aU=q.atoms.map aU∧((1:Int)*2^(Int.toNat e23))=((1:Int)*2^(Int.toNat e23))∧(dD .andNot .i64 m ((1:Int)*2^(Int.toNat e23)))=(dD .andNot .i64 m ((1:Int)*2^(Int.toNat e23)))∧[[.int .i64 e23]]=([e23]:List Int).map intD∧((((fH s q 4 ([e23]:List Int) (isP e23.toNat) (lC (cP m) e23.toNat)).isSome)=true→aCZ s q e23∧cG ((k:Int)+(1:Int))∧ ∃(k' :Nat) (p' :Int),((k:Int)+(1:Int))=(k' :Int)∧(if p<((fK s q e23.toNat).rowCount) then ((fK s q e23.toNat).rowCount) else p)=p' ∧(k' ≤(bR m).length∧p' =((bR m).take k').foldl (pS s q m) 0)∧(bR m).length - k' <(bR m).length - k)∧(((fH s q 4 ([e23]:List Int) (isP e23.toNat) (lC (cP m) e23.toNat)).isSome)=false→cG ((k:Int)+(1:Int))∧ ∃(k' :Nat) (p' :Int),((k:Int)+(1:Int))=(k' :Int)∧p=p' ∧(k' ≤(bR m).length∧p' =((bR m).take k').foldl (pS s q m) 0)∧(bR m).length - k' <(bR m).length - k)))))))∧((decide ((k:Int)<(((bR m).length:Nat):Int)))=false→p=(nG s q m)∧True)))))) (by kernel_rfl) ?_
 intro n0 n1 n2 n3 n4
 simp only [List.length_map] at n0 n1 n2 n3 n4
 refine ⟨aGP s q m (by omega),fun c0=>?_,fun c0=>?_⟩
 ·replace c0:=nt c0
  have hbad:kU s q m=false:=by simpa using c0
  refine ⟨?_,trivial⟩
  ·first | (rw [aE3 hbad];done) | (rw [aCV hq,hp,List.take_of_length_le (by omega)])
 ·replace c0:=nf c0
  have hq:kU s q m=true:=by simpa using c0
  obtain ⟨hq1,hq2,hq3,hm1,hm2,hm3,hm4,hm5⟩:=jP hq
  have hml:=aDO m
  refine ⟨aCQ m,List.length_map _,⟨0,(0:Int),rfl,rfl,Nat.zero_le _,rfl⟩,fun k p ⟨hk,hp⟩=>?_⟩
  refine ⟨fun c1=>?_,fun c1=>?_⟩
  ·replace c1:=yq c1
   refine ⟨by omega,List.length_map _,by omega,rfl,by omega,fun e23 h23=>?_⟩
   have hx:=aK9 hq (List.mem_of_getElem? h23)
   have hidx:=And.intro hx.1 hx.2.1
   obtain ⟨w1,w2,w3⟩:=tF (x:=e23) (iG (by omega) (by omega))
   refine ⟨⟨by omega,by omega⟩,by first | exact w1 | exact ⟨by omega,by omega⟩,⟨by omega,by omega⟩,by first | exact w1 | exact ⟨by omega,by omega⟩,soI hq3 4 ([e23]:List Int) (isP e23.toNat) (lC (cP m) e23.toNat) ((1:Int)*2^(Int.toNat e23)) (dD .andNot .i64 m ((1:Int)*2^(Int.toNat e23))) (aQV (by omega)) (aKd ⟨by omega,by omega⟩ (by omega)) ⟨aE1 _,by omega⟩ (aMj (by omega)) (aMk ⟨by omega,by omega⟩) (by simp),rfl,rfl,rfl,rfl,rfl,rfl,rfl,rfl,rfl,rfl,fun c2=>?_,fun c2=>?_⟩
   ·refine ⟨aLo s q e23 (by omega) (by first | assumption | exact ⟨by omega,by omega⟩),by first | exact w1 | exact ⟨by omega,by omega⟩,?_⟩
    exact ⟨k+1,_,rfl,rfl,⟨by omega,by first | (rw [aCW h23,←hp,pS,←vQ hx.1,c2];rfl) | (rw [aCW h23,←hp,pS,←vQ hx.1,c2];simp [aRk];done)⟩,by omega⟩
   ·refine ⟨by first | exact w1 | exact ⟨by omega,by omega⟩,?_⟩
    exact ⟨k+1,_,rfl,rfl,⟨by omega,by first | (rw [aCW h23,←hp,pS,←vQ hx.1,c2];rfl) | (rw [aCW h23,←hp,pS,←vQ hx.1,c2];simp [aRk];done)⟩,by omega⟩
  ·replace c1:=nq c1
   refine ⟨?_,trivial⟩
   ·first | (rw [aE3 hbad];done) | (rw [aCV hq,hp,List.take_of_length_le (by omega)])
abbrev fD (m:Int) (u:Nat→Bool):Nat→Bool:=fun i=>cP m i&& !u i
theorem aKe (m:Int) (u:Nat→Bool) (v:Nat):fD m (xD u v)=lC (fD m u) v:=by
 funext i
 simp only [fD,xD,lC,Bool.not_or,Bool.and_assoc]
theorem aOJ {m:Int} {u:Nat→Bool} (h:0≤m∧m≤15) (he:m4 u=m):gH (fD m u)=0:=by
 have e: ∀i,i<4→fD m u i=false:=fun i hi=>by
  have h1:m4 u=m4 (cP m):=by rw [he,←aE0 h]
  rw [fD,aQI h1 hi]
  cases cP m i<;>rfl
 rw [gH,e 0 (by omega),e 1 (by omega),e 2 (by omega),e 3 (by omega)];rfl
theorem aOK {m:Int} {u:Nat→Bool} (h:0≤m∧m≤15) (hs: ∀i,i<4→u i=true→cP m i=true) (he: ¬m4 u=m): ¬gH (fD m u)=0:=fun hz=>he (by
 rw [aE0 h]
 refine aK2 fun i hi=>?_
 have h1:=aDP hz hi
 have h2:=hs i hi
 rw [fD] at h1
 cases e:u i with
 | true=>exact (h2 e).symm
 | false=>rw [e] at h1;simpa using h1.symm)
end Go.Proofs.YtokkjaflmcjlhaaGreat
