/-
  Contracts and plain laws, joined: part 16.
-/
import Derived.Test.YtdfebigfnjfgpaaGreatQP14
import Derived.Test.YtdfebigfnjfgpaaGreatQP13
import Derived.Test.YtdfebigfnjfgpaaGreatQP3
namespace Go.Proofs.YtdfebigfnjfgpaaGreat
open Go.ChangeShapes Go.WideShapes Go.ChangeAt Go.RowKit
set_option linter.unusedVariables false
set_option linter.unusedSimpArgs false
set_option maxRecDepth 100000
set_option maxHeartbeats 4000000
abbrev aHY (s:StoreD) (q:QueryD) (m:Int):Prop:=cX Tryz.prog 104 [.agg [.sl 167 3 (s.database.tables.map aP),.int .i64 s.catalogue.version,.sl 161 4 (s.catalogue.tables.map aD),.sl 131 3 (s.dependencies.map aJ),.sl 133 4 (s.inclusions.map aM)],.agg [.int .i64 q.variableCount,.sl 135 2 (q.atoms.map aZ)],.one (.int .i64 m)] (vB (yD s q m)) []
theorem aSD (s:StoreD) (q:QueryD) (m:Int) (hc:dU s≤1048576):aHY s q m:=by
 refine aX bG aR Tryz.func104 (by kernel_rfl) (.call (vB (fC s)) []<| .br (.call (vB (eE s.database q)) []<| .lit<| .br (.call (vI (nK q)) []<| .call (vB (dW m (1:Int) (nK q))) []<| .fin []) (.fin [])) (.fin [])) (p:=(s.database.tables.map aP).length≤9223372036854775807→(s.catalogue.tables.map aD).length≤9223372036854775807→(s.dependencies.map aJ).length≤9223372036854775807→(s.inclusions.map aM).length≤9223372036854775807→(q.atoms.map aZ).length≤9223372036854775807→aEg s∧(((fC s)=true→aHS s.database q∧(((eE s.database q)=true→aEk q∧fO m (1:Int) (nK q)∧(dW m (1:Int) (nK q))=(yD s q m)∧True)∧((eE s.database q)=false→(false)=(yD s q m)∧True)))∧((fC s)=false→(false)=(yD s q m)∧True))) (by kernel_rfl) ?_
 intro n0 n1 n2 n3 n4
 simp only [List.length_map] at n0 n1 n2 n3 n4
 have hS:dU s=bH s.database+bO s.catalogue+bY s.dependencies+cR s.inclusions:=rfl
 have hI:=fK s.inclusions
 refine ⟨aPd _ (by omega),fun g9=>?_,fun g9=>?_⟩
 ·refine ⟨aRx s.database _ (by omega),fun g15=>?_,fun g15=>?_⟩
  ·refine ⟨aPi _,jH _ _ _,?_,trivial⟩
   ·first | (rw [yD,g9];rfl) | (rw [yD,g9,g15];rfl)
  ·refine ⟨?_,trivial⟩
   ·first | (rw [yD,g9];rfl) | (rw [yD,g9,g15];rfl)
 ·refine ⟨?_,trivial⟩
  ·first | (rw [yD,g9];rfl) | (rw [yD,g9,g15];rfl)
abbrev wV (s:StoreD) (q:QueryD) (i:Int):AV × List (Nat × Rs):=(.agg [.p none (.str ((fZ s q i.toNat).name)),vI ((fZ s q i.toNat).arity),vI ((fZ s q i.toNat).rowCount),.p none (.sl 203 3 (((fZ s q i.toNat).groups).map aA))],[])
abbrev aDG (s:StoreD) (q:QueryD) (i:Int):Prop:=cX Tryz.prog 106 [.agg [.sl 167 3 (s.database.tables.map aP),.int .i64 s.catalogue.version,.sl 161 4 (s.catalogue.tables.map aD),.sl 131 3 (s.dependencies.map aJ),.sl 133 4 (s.inclusions.map aM)],.agg [.int .i64 q.variableCount,.sl 135 2 (q.atoms.map aZ)],.one (.int .i64 i)] (wV s q i).1 (wV s q i).2
theorem aNU (s:StoreD) (q:QueryD) (i:Int) (hc:dU s≤1048576) (hi:0≤i∧i.toNat<q.atoms.length):aDG s q i:=by
 refine aX bG aR Tryz.func106 (by kernel_rfl) (.elem _ aZ q.atoms (fun e15=> .call (.tup [.agg [.p none (.str (((dH s.catalogue e15.name).1).name)),vI (((dH s.catalogue e15.name).1).arity),vI (((dH s.catalogue e15.name).1).rowCount),.p none (.sl 203 3 ((((dH s.catalogue e15.name).1).groups).map aA))],vB ((dH s.catalogue e15.name).2)]) []<| .fin [])) (p:=(s.database.tables.map aP).length≤9223372036854775807→(s.catalogue.tables.map aD).length≤9223372036854775807→(s.dependencies.map aJ).length≤9223372036854775807→(s.inclusions.map aM).length≤9223372036854775807→(q.atoms.map aZ).length≤9223372036854775807→0≤i∧Em aZ q.atoms ((i).toNat) fun e15=>cX Tryz.prog 141 [.agg [.int .i64 s.catalogue.version,.sl 161 4 (s.catalogue.tables.map aD)],.one (.str e15.name)] (.tup [.agg [.p none (.str (((dH s.catalogue e15.name).1).name)),vI (((dH s.catalogue e15.name).1).arity),vI (((dH s.catalogue e15.name).1).rowCount),.p none (.sl 203 3 ((((dH s.catalogue e15.name).1).groups).map aA))],vB ((dH s.catalogue e15.name).2)]) []∧(((dH s.catalogue e15.name).1).name)=((fZ s q i.toNat).name)∧(((dH s.catalogue e15.name).1).arity)=((fZ s q i.toNat).arity)∧(((dH s.catalogue e15.name).1).rowCount)=((fZ s q i.toNat).rowCount)∧(((dH s.catalogue e15.name).1).groups).map aA=((fZ s q i.toNat).groups).map aA∧True) (by kernel_rfl) ?_
 intro n0 n1 n2 n3 n4
 simp only [List.length_map] at n0 n1 n2 n3 n4
 have hS:dU s=bH s.database+bO s.catalogue+bY s.dependencies+cR s.inclusions:=rfl
 have hI:=fK s.inclusions
 refine ⟨by omega,rfl,by omega,fun e15 h15=>?_⟩
 refine ⟨kJ (aPf s.catalogue e15.name (by omega)) rfl,?_,?_,?_,?_,trivial⟩
 ·(rw [fZ,bD h15]<;>rfl)
 ·(rw [fZ,bD h15]<;>rfl)
 ·(rw [fZ,bD h15]<;>rfl)
 ·(rw [fZ,bD h15]<;>rfl)
theorem aDH {s:StoreD} (q:QueryD) (i:Nat) (hc:dU s≤1048576):bA (fZ s q i)≤1048576:=by
 have h1:=aMH s.catalogue (q.atoms.getD i iZ).name
 have hS:dU s=bH s.database+bO s.catalogue+bY s.dependencies+cR s.inclusions:=rfl
 unfold fZ
 omega
abbrev wW (s:StoreD) (q:QueryD) (m:Int):AV × List (Nat × Rs):=(.own 0,[(0,.arr 164 3 true ((bT s q m).map aE))])
abbrev aDI (s:StoreD) (q:QueryD) (m:Int):Prop:=cX Tryz.prog 78 [.agg [.sl 167 3 (s.database.tables.map aP),.int .i64 s.catalogue.version,.sl 161 4 (s.catalogue.tables.map aD),.sl 131 3 (s.dependencies.map aJ),.sl 133 4 (s.inclusions.map aM)],.agg [.int .i64 q.variableCount,.sl 135 2 (q.atoms.map aZ)],.one (.int .i64 m)] (wW s q m).1 (wW s q m).2
theorem aNV (s:StoreD) (q:QueryD) (m:Int) (hc:dU s≤1048576) (hcq:gF q≤1048576):aDI s q m:=by
 refine aX bG aR Tryz.func78 (by kernel_rfl) (.call (vB (fC s)) []<| .br (.fin []) (.call (vB (eE s.database q)) []<| .lit<| .lit<| .br (.fin []) (.call (vI (nK q)) []<| .call (vB (dW m (1:Int) (nK q))) []<| .lit<| .lit<| .br (.fin []) (cB (aBw m)<| .len ((fV m).length)<| .loop (Nat × (List aF)) (Q2 Nat (List aF)) [7,9,10,11,12,30,34,35,36,37,38,39,40,41,42,43,44,45,46,47,48,49,50,51,52,53,54,55,56,57,58,59,60,61,62,63] [1000,3000,5600,6200] (fun yy0=>[(34,vI (yy0.1:Int)),(7,.own 3000)]) (fun yy0=>[(3000,some (.arr 164 3 true (yy0.2.map aE)))]) (fun yy0=>yy0.1≤(fV m).length∧yy0.2=qcL s q ((fV m).take yy0.1)∧aDF s q ((fV m).take yy0.1)=true) (fun yy0=>(fV m).length - yy0.1) (fun yy0=> .br (.len ((fV m).length)<| .elem _ intD (fV m) (fun e37=> .elem _ aZ q.atoms (fun e44=> .call (.tup [.agg [.p none (.str (((dH s.catalogue e44.name).1).name)),vI (((dH s.catalogue e44.name).1).arity),vI (((dH s.catalogue e44.name).1).rowCount),.p none (.sl 203 3 ((((dH s.catalogue e44.name).1).groups).map aA))],vB ((dH s.catalogue e44.name).2)]) []<| .elem _ aZ q.atoms (fun e54=>cB (aAG ((dH s.catalogue e44.name).1) e54)<| .len ((lP ((dH s.catalogue e44.name).1) e54).length)<| .br (.fin []) (.app aF aE yy0.2 (lP ((dH s.catalogue e44.name).1) e54)<| .back [(3000,6200)]))))) (.fin [(0,3000)])))))) (p:=(s.database.tables.map aP).length≤9223372036854775807→(s.catalogue.tables.map aD).length≤9223372036854775807→(s.dependencies.map aJ).length≤9223372036854775807→(s.inclusions.map aM).length≤9223372036854775807→(q.atoms.map aZ).length≤9223372036854775807→aEf s∧(((!(fC s))=true→[]=(bT s q m).map aE∧True)∧((!(fC s))=false→aHR s.database q∧(((!(eE s.database q))=true→[]=(bT s q m).map aE∧True)∧((!(eE s.database q))=false→aEj q∧(fN m (1:Int) (nK q)∧(((!(dW m (1:Int) (nK q)))=true→[]=(bT s q m).map aE∧True)∧((!(dW m (1:Int) (nK q)))=false→aHT m∧(Lm intD (fV m)∧((∃(k:Nat) (out:List aF),(0:Int)=(k:Int)∧[]=out.map aE∧k≤(fV m).length∧out=qcL s q ((fV m).take k)∧aDF s q ((fV m).take k)=true)∧ ∀(k:Nat) (out:List aF),(k≤(fV m).length∧out=qcL s q ((fV m).take k)∧aDF s q ((fV m).take k)=true)→((decide ((k:Int)<(((fV m).length:Nat):Int)))=true→0≤(k:Int)∧Lm intD (fV m)∧(k:Int)<(((fV m).length:Nat):Int)∧Em intD (fV m) k fun e37=>0≤e37∧Em aZ q.atoms ((e37).toNat) fun e44=>cX Tryz.prog 116 [.agg [.int .i64 s.catalogue.version,.sl 161 4 (s.catalogue.tables.map aD)],.one (.str e44.name)] (.tup [.agg [.p none (.str (((dH s.catalogue e44.name).1).name)),vI (((dH s.catalogue e44.name).1).arity),vI (((dH s.catalogue e44.name).1).rowCount),.p none (.sl 203 3 ((((dH s.catalogue e44.name).1).groups).map aA))],vB ((dH s.catalogue e44.name).2)]) []∧(0≤e37∧Em aZ q.atoms ((e37).toNat) fun e54=>aEn ((dH s.catalogue e44.name).1) e54∧(Lm aE (lP ((dH s.catalogue e44.name).1) e54)∧(((decide ((((lP ((dH s.catalogue e44.name).1) e54).length:Nat):Int)=(0:Int)))=true→[]=(bT s q m).map aE∧True)∧((decide ((((lP ((dH s.catalogue e44.name).1) e54).length:Nat):Int)=(0:Int)))=false→out.map aE=out.map aE∧(lP ((dH s.catalogue e44.name).1) e54).map aE=(lP ((dH s.catalogue e44.name).1) e54).map aE∧(∀x,dT (aE x)=true)∧(out.length+(lP ((dH s.catalogue e44.name).1) e54).length)*24≤140737488355328∧cC ((k:Int)+(1:Int))∧ ∃(k' :Nat) (out' :List aF),((k:Int)+(1:Int))=(k' :Int)∧(out++(lP ((dH s.catalogue e44.name).1) e54)).map aE=out'.map aE∧(k' ≤(fV m).length∧out' =qcL s q ((fV m).take k')∧aDF s q ((fV m).take k')=true)∧(fV m).length - k' <(fV m).length - k)))))∧((decide ((k:Int)<(((fV m).length:Nat):Int)))=false→out.map aE=(bT s q m).map aE∧True))))))))))) (by kernel_rfl) ?_
 intro n0 n1 n2 n3 n4
 simp only [List.length_map] at n0 n1 n2 n3 n4
 have hS:dU s=bH s.database+bO s.catalogue+bY s.dependencies+cR s.inclusions:=rfl
 have hI:=fK s.inclusions
 have hQ:gF q=jA q.atoms:=rfl
 refine ⟨aPc _ (by omega),fun g16=>?_,fun g16=>?_⟩
 ·replace g16:=nt g16
  have hbad:yD s q m=false:=by first | (simp [yD,g16];done) | (simp [yD,g23];done) | (simp [yD,c0];done) | (simpa using c0)
  refine ⟨?_,trivial⟩
  ·first | (rw [qQ hbad]<;>rfl) | (rw [nM hem (by rw [←hE];omega)]<;>rfl) | (rw [nL hq (by rw [List.take_of_length_le (by omega)] at ha;exact ha),ho,List.take_of_length_le (by omega)])
 ·replace g16:=nf g16
  refine ⟨aRw s.database _ (by omega),fun g23=>?_,fun g23=>?_⟩
  ·replace g23:=nt g23
   have hbad:yD s q m=false:=by first | (simp [yD,g16];done) | (simp [yD,g23];done) | (simp [yD,c0];done) | (simpa using c0)
   refine ⟨?_,trivial⟩
   ·first | (rw [qQ hbad]<;>rfl) | (rw [nM hem (by rw [←hE];omega)]<;>rfl) | (rw [nL hq (by rw [List.take_of_length_le (by omega)] at ha;exact ha),ho,List.take_of_length_le (by omega)])
  ·replace g23:=nf g23
   refine ⟨aPh _,jG _ _ _,fun c0=>?_,fun c0=>?_⟩
   ·replace c0:=nt c0
    have hbad:yD s q m=false:=by first | (simp [yD,g16];done) | (simp [yD,g23];done) | (simp [yD,c0];done) | (simpa using c0)
    refine ⟨?_,trivial⟩
    ·first | (rw [qQ hbad]<;>rfl) | (rw [nM hem (by rw [←hE];omega)]<;>rfl) | (rw [nL hq (by rw [List.take_of_length_le (by omega)] at ha;exact ha),ho,List.take_of_length_le (by omega)])
   ·replace c0:=nf c0
    have hq:yD s q m=true:=by first | (simpa using c0;done) | (rw [yD,g16,g23,c0];rfl)
    obtain ⟨hq1,hq2,hq3,hm1,hm2,hm3,hm4,hm5⟩:=aDx hq
    have hml:=aJd m
    refine ⟨aRy m,List.length_map _,⟨0,([]:List aF),rfl,rfl,Nat.zero_le _,rfl,rfl⟩,fun k out ⟨hk,ho,ha⟩=>?_⟩
    have hlen:out.length≤28:=by rw [ho];have z1:=aFb s q ((fV m).take k);have z2:=List.length_take_le k (fV m);omega
    refine ⟨fun c1=>?_,fun c1=>?_⟩
    ·replace c1:=yq c1
     refine ⟨by omega,List.length_map _,by omega,rfl,by omega,fun e37 h37=>?_⟩
     have he:=aSC hq (List.mem_of_getElem? h37)
     have hem:=List.mem_of_getElem? h37
     refine ⟨by omega,rfl,by omega,fun e44 h44=>?_⟩
     have hst:(dH s.catalogue e44.name).1=fZ s q e37.toNat:=by rw [fZ,bD h44]
     have hcs:=aDH q e37.toNat hc
     rw [←hst] at hcs
     have hcA:=aDh h44
     refine ⟨kJ (aPe s.catalogue e44.name (by omega)) rfl,by omega,rfl,by omega,fun e54 h54=>?_⟩
     obtain rfl:=(aY h44 h54).symm
     have hE:lP (dH s.catalogue e44.name).1 e44=qcA s q e37:=by rw [qcA,hst,bD h44]
     have hzl:=aHN (dH s.catalogue e44.name).1 e44
     refine ⟨aPl ((dH s.catalogue e44.name).1) _ (by omega) (by omega),List.length_map _,fun c2=>?_,fun c2=>?_⟩
     ·replace c2:=yq c2
      refine ⟨?_,trivial⟩
      ·first | (rw [qQ hbad]<;>rfl) | (rw [nM hem (by rw [←hE];omega)]<;>rfl) | (rw [nL hq (by rw [List.take_of_length_le (by omega)] at ha;exact ha),ho,List.take_of_length_le (by omega)])
     ·replace c2:=nq c2
      refine ⟨rfl,rfl,fun _=>rfl,by omega,?_⟩
      refine ⟨⟨by omega,by omega⟩,?_⟩
      exact ⟨k+1,_,rfl,rfl,⟨by omega,by rw [ho,bP h37,aHX,hE],by rw [bP h37];exact aDy ha (by rw [←hE];exact c2)⟩,by omega⟩
    ·replace c1:=nq c1
     refine ⟨?_,trivial⟩
     ·first | (rw [qQ hbad]<;>rfl) | (rw [nM hem (by rw [←hE];omega)]<;>rfl) | (rw [nL hq (by rw [List.take_of_length_le (by omega)] at ha;exact ha),ho,List.take_of_length_le (by omega)])
abbrev wX (s:StoreD) (q:QueryD) (m:Int):AV × List (Nat × Rs):=(.own 0,[(0,.arr 164 3 true ((bT s q m).map aE))])
abbrev aDJ (s:StoreD) (q:QueryD) (m:Int):Prop:=cX Tryz.prog 65 [.agg [.sl 167 3 (s.database.tables.map aP),.int .i64 s.catalogue.version,.sl 161 4 (s.catalogue.tables.map aD),.sl 131 3 (s.dependencies.map aJ),.sl 133 4 (s.inclusions.map aM)],.agg [.int .i64 q.variableCount,.sl 135 2 (q.atoms.map aZ)],.one (.int .i64 m)] (wX s q m).1 (wX s q m).2
theorem aNW (s:StoreD) (q:QueryD) (m:Int) (hc:dU s≤1048576) (hcq:gF q≤1048576):aDJ s q m:=by
 refine aX bG aR Tryz.func65 (by kernel_rfl) (.call (vB (yD s q m)) []<| .br (.fin [(0,1000)]) (.loop (Nat × (List aF)) (Q2 Nat (List aF)) [7,8,9,10,17,18,19,20,21,22,23,24,25,26,27,28,29,30,31,32,33,34,35,36,37,38,39,40,41,43,44,45] [1000,3800,4500] (fun yy0=>[(8,vI (yy0.1:Int)),(7,.own 1000)]) (fun yy0=>[(1000,some (.arr 164 3 true (yy0.2.map aE)))]) (fun yy0=>yy0.1≤q.atoms.length∧yy0.2=qcL s q (fX (gH m) yy0.1)∧aDF s q (fX (gH m) yy0.1)=true) (fun yy0=>q.atoms.length - yy0.1) (fun yy0=> .len q.atoms.length<| .br (.br (.back [(1000,1000)]) (cB (wV s q (yy0.1:Int))<| .elem _ aZ q.atoms (fun e36=>cB (aAH (fZ s q (yy0.1:Int).toNat) e36)<| .len ((lP (fZ s q (yy0.1:Int).toNat) e36).length)<| .br (.fin [(0,4200)]) (.app aF aE yy0.2 (lP (fZ s q (yy0.1:Int).toNat) e36)<| .back [(1000,4500)])))) (.fin [(0,1000)])))) (p:=(s.database.tables.map aP).length≤9223372036854775807→(s.catalogue.tables.map aD).length≤9223372036854775807→(s.dependencies.map aJ).length≤9223372036854775807→(s.inclusions.map aM).length≤9223372036854775807→(q.atoms.map aZ).length≤9223372036854775807→aHY s q m∧(((!(yD s q m))=true→[]=(bT s q m).map aE∧True)∧((!(yD s q m))=false→(∃(k:Nat) (out:List aF),(0:Int)=(k:Int)∧[]=out.map aE∧k≤q.atoms.length∧out=qcL s q (fX (gH m) k)∧aDF s q (fX (gH m) k)=true)∧ ∀(k:Nat) (out:List aF),(k≤q.atoms.length∧out=qcL s q (fX (gH m) k)∧aDF s q (fX (gH m) k)=true)→Lm aZ q.atoms∧(((decide ((k:Int)<((q.atoms.length:Nat):Int)))=true→(0≤(k:Int)∧(k:Int)≤64)∧(((decide ((cH .and .i64 (m/2^k) (1:Int))=(0:Int)))=true→cC ((k:Int)+(1:Int))∧ ∃(k' :Nat) (out' :List aF),((k:Int)+(1:Int))=(k' :Int)∧out.map aE=out'.map aE∧(k' ≤q.atoms.length∧out' =qcL s q (fX (gH m) k')∧aDF s q (fX (gH m) k')=true)∧q.atoms.length - k' <q.atoms.length - k)∧((decide ((cH .and .i64 (m/2^k) (1:Int))=(0:Int)))=false→aDG s q (k:Int)∧(0≤(k:Int)∧Em aZ q.atoms k fun e36=>aEo (fZ s q (k:Int).toNat) e36∧(Lm aE (lP (fZ s q (k:Int).toNat) e36)∧(((decide ((((lP (fZ s q (k:Int).toNat) e36).length:Nat):Int)=(0:Int)))=true→[]=(bT s q m).map aE∧True)∧((decide ((((lP (fZ s q (k:Int).toNat) e36).length:Nat):Int)=(0:Int)))=false→out.map aE=out.map aE∧(lP (fZ s q (k:Int).toNat) e36).map aE=(lP (fZ s q (k:Int).toNat) e36).map aE∧(∀x,dT (aE x)=true)∧(out.length+(lP (fZ s q (k:Int).toNat) e36).length)*24≤140737488355328∧cC ((k:Int)+(1:Int))∧ ∃(k' :Nat) (out' :List aF),((k:Int)+(1:Int))=(k' :Int)∧(out++(lP (fZ s q (k:Int).toNat) e36)).map aE=out'.map aE∧(k' ≤q.atoms.length∧out' =qcL s q (fX (gH m) k')∧aDF s q (fX (gH m) k')=true)∧q.atoms.length - k' <q.atoms.length - k)))))))∧((decide ((k:Int)<((q.atoms.length:Nat):Int)))=false→out.map aE=(bT s q m).map aE∧True))))) (by kernel_rfl) ?_
 intro n0 n1 n2 n3 n4
 simp only [List.length_map] at n0 n1 n2 n3 n4
 have hS:dU s=bH s.database+bO s.catalogue+bY s.dependencies+cR s.inclusions:=rfl
 have hI:=fK s.inclusions
 have hQ:gF q=jA q.atoms:=rfl
 refine ⟨aSD s q m (by omega),fun c0=>?_,fun c0=>?_⟩
 ·replace c0:=nt c0
  have hbad:yD s q m=false:=by simpa using c0
  refine ⟨?_,trivial⟩
  ·first | (rw [qQ hbad]<;>rfl) | (rw [nM hem (by rw [←hE];omega)]<;>rfl) | (rw [nL hq ha,ho])
 ·replace c0:=nf c0
  have hq:yD s q m=true:=by simpa using c0
  obtain ⟨hq1,hq2,hq3,hm1,hm2,hm3,hm4,hm5⟩:=aDx hq
  refine ⟨⟨0,([]:List aF),rfl,rfl,Nat.zero_le _,rfl,rfl⟩,fun k out ⟨hk,ho,ha⟩=>?_⟩
  have hlen:out.length≤28:=by rw [ho];have z1:=aFb s q (fX (gH m) k);have z2:=qO (gH m) k;omega
  refine ⟨List.length_map _,fun c1=>?_,fun c1=>?_⟩
  ·replace c1:=yq c1
   refine ⟨⟨by omega,by omega⟩,fun c2=>?_,fun c2=>?_⟩
   ·replace c2:=yq c2
    refine ⟨⟨by omega,by omega⟩,?_⟩
    exact ⟨k+1,_,rfl,rfl,⟨by omega,by first | (rw [ho,kW (qW (by omega))];done) | (rw [ho,jS hb,aHX,hE]),by first | (rw [kW (qW (by omega))];exact ha) | (rw [jS hb];exact aDy ha (by rw [←hE];exact c3))⟩,by omega⟩
   ·replace c2:=nq c2
    have hb:gH m k=true:=by have z:=aRj (m:=m) (v:=k) ⟨by omega,by omega⟩ (by omega);rw [decide_eq_false c2] at z;simpa using z
    have hcs:=aDH q ((k:Nat):Int).toNat hc
    refine ⟨aNU s q (k:Int) (by omega) (by first | assumption | exact ⟨by omega,by omega⟩),by omega,rfl,by omega,fun e36 h36=>?_⟩
    have hE:lP (fZ s q ((k:Nat):Int).toNat) e36=qcA s q ((k:Nat):Int):=by rw [qcA,Int.toNat_natCast,bD h36]
    have hzl:=aHN (fZ s q ((k:Nat):Int).toNat) e36
    have hcA:=aDh h36
    refine ⟨aPm (fZ s q (k:Int).toNat) _ (by omega) (by omega),List.length_map _,fun c3=>?_,fun c3=>?_⟩
    ·replace c3:=yq c3
     have hem:((k:Nat):Int)∈fV m:=by rw [aK4 hq];exact aLz.2 ⟨by omega,by omega,by simpa using hb⟩
     refine ⟨?_,trivial⟩
     ·first | (rw [qQ hbad]<;>rfl) | (rw [nM hem (by rw [←hE];omega)]<;>rfl) | (rw [nL hq ha,ho])
    ·replace c3:=nq c3
     refine ⟨rfl,rfl,fun _=>rfl,by omega,?_⟩
     refine ⟨⟨by omega,by omega⟩,?_⟩
     exact ⟨k+1,_,rfl,rfl,⟨by omega,by first | (rw [ho,kW (qW (by omega))];done) | (rw [ho,jS hb,aHX,hE]),by first | (rw [kW (qW (by omega))];exact ha) | (rw [jS hb];exact aDy ha (by rw [←hE];exact c3))⟩,by omega⟩
  ·replace c1:=nq c1
   have hkl:q.atoms.length=k:=by omega
   rw [←hkl,←aK4 hq] at ho ha
   refine ⟨?_,trivial⟩
   ·first | (rw [qQ hbad]<;>rfl) | (rw [nM hem (by rw [←hE];omega)]<;>rfl) | (rw [nL hq ha,ho])
def aNX (n d:Int):Bool:=dW d 1 2147483647&&dW n (-2147483647) 2147483647&&decide (Int.gcd n d=1)
theorem aMK (x y:Int):Int.gcd y (x.tmod y)=Int.gcd x y:=by
 rw [Int.gcd_comm x y]
 unfold Int.gcd
 rw [Int.natAbs_tmod,Nat.gcd_comm y.natAbs (x.natAbs%y.natAbs),←Nat.gcd_rec]
theorem aTa (x:Int):(Int.gcd x 0:Int)=(if x< -x then -x else x):=by
 rw [Int.gcd_zero_right]
 split<;>omega
theorem aDK {x y:Int} (h:y≠0):(x.tmod y).natAbs<y.natAbs:=by
 rw [Int.natAbs_tmod]
 exact Nat.mod_lt _ (by omega)
theorem aHZ {x:Int} {n:Nat} (h:x.natAbs<n) (hn:n≤9223372036854775807): -9223372036854775807≤x∧x≤9223372036854775807:=by omega
def fP (r:RationalD):Bool:=aNX r.num r.den
theorem vL {n d:Int}:Int.gcd ((n.natAbs:Nat):Int) d=Int.gcd n d:=by simp [Int.gcd]
theorem pH {n d:Int}:aNX n d=(decide (1≤d∧d≤2147483647)&&(decide (-2147483647≤n∧n≤2147483647)&&decide (((Int.gcd n d:Nat):Int)=1))):=by
 have e:decide (((Int.gcd n d:Nat):Int)=1)=decide (Int.gcd n d=1):=by congr 1;simp;omega
 rw [e]
 simp only [aNX,Bool.and_assoc]
 congr 1
 ·simp [dW,Bool.decide_and]
 ·congr 1
  simp [dW,Bool.decide_and]
theorem aAI {k:Int} (hk:1≤k): ∀i:Nat,1≤k^i
 | 0=>by simp
 | i+1=>by
   rw [Int.pow_succ]
   have h1:=aAI hk i
   have h2:1*1≤k^i*k:=Int.mul_le_mul h1 hk (by omega) (by omega)
   omega
theorem aJf {k:Int} (hk:1≤k) {i j:Nat} (h:i≤j):k^i≤k^j:=by
 obtain ⟨t,rfl⟩:=Nat.exists_eq_add_of_le h
 rw [Int.pow_add]
 have h1:=aAI hk i
 have h2:=aAI hk t
 have h3:k^i*1≤k^i*k^t:=Int.mul_le_mul_of_nonneg_left h2 (by omega)
 omega
theorem aVU {n:Nat} (h:n≤12):(2:Int)^n≤4096:=by
 have:=aJf (k:=2) (by omega) h
 exact Int.le_trans this (by decide)
theorem bK {i:Nat} (h:i≤12):cC ((1:Int)*2^i):=by
 have h1:=aVU h
 have h2:=aAI (k:=2) (by omega) i
 exact ⟨by omega,by omega⟩
abbrev kE (n:Int) (a:Int) (c:Int):Prop:=cX Tryz.prog 96 [.one (.int .i64 n),.one (.int .i64 a),.one (.int .i64 c)] (vB (decide (a≤n∧n≤c))) []
theorem oI (n a c:Int):kE n a c:=by
 refine aX bG aR Tryz.func96 (by kernel_rfl) (.br (.fin []) (.fin [])) (p:=((decide (a≤n))=true→((decide (n≤c))=(decide (a≤n∧n≤c)))∧True)∧((decide (a≤n))=false→((false)=(decide (a≤n∧n≤c)))∧True)) (by kernel_rfl) ?_
 refine ⟨fun g10=>?_,fun g10=>?_⟩
 ·replace g10:=yq g10
  refine ⟨?_,trivial⟩
  ·first | (simp [*];done) | (simp;omega)
 ·replace g10:=nq g10
  refine ⟨?_,trivial⟩
  ·first | (simp [*];done) | (simp;omega)
abbrev iH (n:Int) (a:Int) (c:Int):Prop:=cX Tryz.prog 68 [.one (.int .i64 n),.one (.int .i64 a),.one (.int .i64 c)] (vB (decide (a≤n∧n≤c))) []
theorem lZ (n a c:Int):iH n a c:=by
 refine aX bG aR Tryz.func68 (by kernel_rfl) (.br (.fin []) (.fin [])) (p:=((decide (a≤n))=true→((decide (n≤c))=(decide (a≤n∧n≤c)))∧True)∧((decide (a≤n))=false→((false)=(decide (a≤n∧n≤c)))∧True)) (by kernel_rfl) ?_
 refine ⟨fun g10=>?_,fun g10=>?_⟩
 ·replace g10:=yq g10
  refine ⟨?_,trivial⟩
  ·first | (simp [*];done) | (simp;omega)
 ·replace g10:=nq g10
  refine ⟨?_,trivial⟩
  ·first | (simp [*];done) | (simp;omega)
abbrev aH0 (a:Int) (c:Int):Prop:=cX Tryz.prog 97 [.one (.int .i64 a),.one (.int .i64 c)] (vI ((Int.gcd a c:Nat):Int)) []
theorem aSE (a c:Int) (ha: -9223372036854775807≤a∧a≤9223372036854775807) (hc: -9223372036854775807≤c∧c≤9223372036854775807):aH0 a c:=by
 refine aX bG aR Tryz.func97 (by kernel_rfl) (.loop (Int × Int) (Q2 Int Int) [0,1,5,6,7,8,9,10] [] (fun yy0=>[(0,vI yy0.1),(1,vI yy0.2)]) (fun yy0=>[]) (fun yy0=>(-9223372036854775807≤yy0.1∧yy0.1≤9223372036854775807)∧(-9223372036854775807≤yy0.2∧yy0.2≤9223372036854775807)∧Int.gcd yy0.1 yy0.2=Int.gcd a c) (fun yy0=>yy0.2.natAbs) (fun yy0=> .br (.back []) (.fin []))) (p:=(∃(x:Int) (y:Int),a=x∧c=y∧(-9223372036854775807≤x∧x≤9223372036854775807)∧(-9223372036854775807≤y∧y≤9223372036854775807)∧Int.gcd x y=Int.gcd a c)∧ ∀(x:Int) (y:Int),((-9223372036854775807≤x∧x≤9223372036854775807)∧(-9223372036854775807≤y∧y≤9223372036854775807)∧Int.gcd x y=Int.gcd a c)→((!(decide (y=(0:Int))))=true→y≠0∧ ∃(x' :Int) (y' :Int),y=x' ∧(Int.tmod x y)=y' ∧((-9223372036854775807≤x' ∧x' ≤9223372036854775807)∧(-9223372036854775807≤y' ∧y' ≤9223372036854775807)∧Int.gcd x' y' =Int.gcd a c)∧y'.natAbs<y.natAbs)∧((!(decide (y=(0:Int))))=false→cC (-x)∧(if x<(-x) then (-x) else x)=((Int.gcd a c:Nat):Int)∧True)) (by kernel_rfl) ?_
 refine ⟨⟨a,c,rfl,rfl,ha,hc,rfl⟩,fun x y ⟨hx,hy,hg⟩=>?_⟩
 refine ⟨fun c0=>?_,fun c0=>?_⟩
 ·replace c0:=nq (nt c0)
  refine ⟨by omega,?_⟩
  exact ⟨y,Int.tmod x y,rfl,rfl,⟨hy,aHZ (aDK c0) (by omega),by rw [aMK];exact hg⟩,aDK c0⟩
 ·replace c0:=yq (nf c0)
  refine ⟨⟨by omega,by omega⟩,?_,trivial⟩
  ·subst c0;rw [←hg,aTa]
abbrev aH1 (a:Int) (c:Int):Prop:=cX Tryz.prog 93 [.one (.int .i64 a),.one (.int .i64 c)] (vI ((Int.gcd a c:Nat):Int)) []
theorem aSF (a c:Int) (ha:0≤a∧a≤9223372036854775807) (hc:0≤c∧c≤9223372036854775807):aH1 a c:=by
 refine aX bG aR Tryz.func93 (by kernel_rfl) (.loop (Int × Int) (Q2 Int Int) [0,1,5,6,7,8,9,10,11,12] [] (fun yy0=>[(0,vI yy0.1),(1,vI yy0.2)]) (fun yy0=>[]) (fun yy0=>(0≤yy0.1∧yy0.1≤9223372036854775807)∧(0≤yy0.2∧yy0.2≤9223372036854775807)∧Int.gcd yy0.1 yy0.2=Int.gcd a c) (fun yy0=>yy0.2.natAbs) (fun yy0=> .br (.back []) (.fin []))) (p:=(∃(x:Int) (y:Int),a=x∧c=y∧(0≤x∧x≤9223372036854775807)∧(0≤y∧y≤9223372036854775807)∧Int.gcd x y=Int.gcd a c)∧ ∀(x:Int) (y:Int),((0≤x∧x≤9223372036854775807)∧(0≤y∧y≤9223372036854775807)∧Int.gcd x y=Int.gcd a c)→((!(decide (y=(0:Int))))=true→y≠0∧ ∃(x' :Int) (y' :Int),y=x' ∧(Int.tmod x y)=y' ∧((0≤x' ∧x' ≤9223372036854775807)∧(0≤y' ∧y' ≤9223372036854775807)∧Int.gcd x' y' =Int.gcd a c)∧y'.natAbs<y.natAbs)∧((!(decide (y=(0:Int))))=false→x=((Int.gcd a c:Nat):Int)∧True)) (by kernel_rfl) ?_
 refine ⟨⟨a,c,rfl,rfl,ha,hc,rfl⟩,fun x y ⟨hx,hy,hg⟩=>?_⟩
 refine ⟨fun c0=>?_,fun c0=>?_⟩
 ·replace c0:=nq (nt c0)
  refine ⟨by omega,?_⟩
  exact ⟨y,Int.tmod x y,rfl,rfl,⟨hy,⟨Int.tmod_nonneg _ hx.1,(aHZ (aDK c0) (by omega)).2⟩,by rw [aMK];exact hg⟩,aDK c0⟩
 ·replace c0:=yq (nf c0)
  refine ⟨?_,trivial⟩
  ·subst c0;rw [←hg,Int.gcd_zero_right];omega
abbrev aH2 (n:Int):Prop:=cX Tryz.prog 94 [.one (.int .i64 n)] (vI ((n.natAbs:Nat):Int)) []
theorem aSG (n:Int) (hn: -9223372036854775807≤n∧n≤9223372036854775807):aH2 n:=by
 refine aX bG aR Tryz.func94 (by kernel_rfl) (.br (.fin []) (.fin [])) (p:=((decide (n<(0:Int)))=true→cC (-n)∧(-n)=((n.natAbs:Nat):Int)∧True)∧((decide (n<(0:Int)))=false→n=((n.natAbs:Nat):Int)∧True)) (by kernel_rfl) ?_
 refine ⟨fun c0=>?_,fun c0=>?_⟩
 ·replace c0:=yq c0
  refine ⟨⟨by omega,by omega⟩,?_,trivial⟩
  ·omega
 ·replace c0:=nq c0
  refine ⟨?_,trivial⟩
  ·omega
abbrev aH3 (r:RationalD):Prop:=cX Tryz.prog 56 [.agg [.int .i64 r.num,.int .i64 r.den]] (vB (fP r)) []
theorem aSH (r:RationalD):aH3 r:=by
 refine aX bG aR Tryz.func56 (by kernel_rfl) (.call (vB (decide ((1:Int)≤r.den∧r.den≤(2147483647:Int)))) []<| .br (.call (vB (decide ((-2147483647:Int)≤r.num∧r.num≤(2147483647:Int)))) []<| .lit<| .br (.call (vI ((Int.gcd r.num r.den:Nat):Int)) []<| .fin []) (.fin [])) (.fin [])) (p:=kE r.den (1:Int) (2147483647:Int)∧(((decide ((1:Int)≤r.den∧r.den≤(2147483647:Int)))=true→kE r.num (-2147483647:Int) (2147483647:Int)∧(((decide ((-2147483647:Int)≤r.num∧r.num≤(2147483647:Int)))=true→aH0 r.num r.den∧(decide (((Int.gcd r.num r.den:Nat):Int)=(1:Int)))=(fP r)∧True)∧((decide ((-2147483647:Int)≤r.num∧r.num≤(2147483647:Int)))=false→(false)=(fP r)∧True)))∧((decide ((1:Int)≤r.den∧r.den≤(2147483647:Int)))=false→(false)=(fP r)∧True))) (by kernel_rfl) ?_
 refine ⟨oI _ _ _,fun g6=>?_,fun g6=>?_⟩
 ·replace g6:=yq g6
  refine ⟨oI _ _ _,fun g11=>?_,fun g11=>?_⟩
  ·replace g11:=yq g11
   refine ⟨aSE _ _ (by first | omega | (dsimp only;omega)) (by first | omega | (dsimp only;omega)),?_,trivial⟩
   ·(try rw [vL]);rw [fP,pH];simp [*]
  ·replace g11:=nq g11
   refine ⟨?_,trivial⟩
   ·(try rw [vL]);rw [fP,pH];simp [*]
 ·replace g6:=nq g6
  refine ⟨?_,trivial⟩
  ·(try rw [vL]);rw [fP,pH];simp [*]
abbrev aH4 (r:RationalD):Prop:=cX Tryz.prog 53 [.agg [.int .i64 r.num,.int .i64 r.den]] (vB (fP r)) []
theorem aSI (r:RationalD):aH4 r:=by
 refine aX bG aR Tryz.func53 (by kernel_rfl) (.call (vB (decide ((1:Int)≤r.den∧r.den≤(2147483647:Int)))) []<| .br (.call (vB (decide ((-2147483647:Int)≤r.num∧r.num≤(2147483647:Int)))) []<| .lit<| .br (.call (vI ((r.num.natAbs:Nat):Int)) []<| .call (vI ((Int.gcd ((r.num.natAbs:Nat):Int) r.den:Nat):Int)) []<| .fin []) (.fin [])) (.fin [])) (p:=iH r.den (1:Int) (2147483647:Int)∧(((decide ((1:Int)≤r.den∧r.den≤(2147483647:Int)))=true→iH r.num (-2147483647:Int) (2147483647:Int)∧(((decide ((-2147483647:Int)≤r.num∧r.num≤(2147483647:Int)))=true→aH2 r.num∧aH1 ((r.num.natAbs:Nat):Int) r.den∧(decide (((Int.gcd ((r.num.natAbs:Nat):Int) r.den:Nat):Int)=(1:Int)))=(fP r)∧True)∧((decide ((-2147483647:Int)≤r.num∧r.num≤(2147483647:Int)))=false→(false)=(fP r)∧True)))∧((decide ((1:Int)≤r.den∧r.den≤(2147483647:Int)))=false→(false)=(fP r)∧True))) (by kernel_rfl) ?_
 refine ⟨lZ _ _ _,fun g6=>?_,fun g6=>?_⟩
 ·replace g6:=yq g6
  refine ⟨lZ _ _ _,fun g11=>?_,fun g11=>?_⟩
  ·replace g11:=yq g11
   refine ⟨aSG _ (by first | omega | (dsimp only;omega)),aSF _ _ (by first | omega | (dsimp only;omega)) (by first | omega | (dsimp only;omega)),?_,trivial⟩
   ·(try rw [vL]);rw [fP,pH];simp [*]
  ·replace g11:=nq g11
   refine ⟨?_,trivial⟩
   ·(try rw [vL]);rw [fP,pH];simp [*]
 ·replace g6:=nq g6
  refine ⟨?_,trivial⟩
  ·(try rw [vL]);rw [fP,pH];simp [*]
def kI (m:Int) (l:List Int):Nat→Int
 | 0=>0
 | k+1=>if (k<4∧0≤l.getD k 0∧l.getD k 0≤3)∧cH .and .i64 (m/2^(l.getD k 0).toNat) 1=1 then cH .or .i64 (kI m l k) (1*2^k) else kI m l k
def gN (m:Int) (l:List Int):Int:=kI m l l.length
theorem pI {m:Int} {l:List Int} {k:Nat} {x:Int} (hx:l[k]? =some x) (h:(k<4∧0≤x∧x≤3)∧cH .and .i64 (m/2^x.toNat) 1=1):kI m l (k+1)=cH .or .i64 (kI m l k) (1*2^k):=by
 have e:l.getD k 0=x:=by simp [List.getD_eq_getElem?_getD,hx]
 rw [kI,e,if_pos h]
theorem sV {m:Int} {l:List Int} {k:Nat} {x:Int} (hx:l[k]? =some x) (h: ¬((k<4∧0≤x∧x≤3)∧cH .and .i64 (m/2^x.toNat) 1=1)):kI m l (k+1)=kI m l k:=by
 have e:l.getD k 0=x:=by simp [List.getD_eq_getElem?_getD,hx]
 rw [kI,e,if_neg h]
theorem aH5 {m:Int} {l:List Int} {k:Nat} (h:4≤k):kI m l k=kI m l 4:=by
 induction k with
 | zero=>omega
 | succ k ih=>
   by_cases h4:k+1=4
   ·rw [h4]
   ·rw [kI,if_neg (by omega),ih (by omega)]
def mT (l:List Int) (c:aF):aF:=⟨gN c.src l,gN c.dst l,c.bits⟩
abbrev aDz (m:Int) (l:List Int):Prop:=cX Tryz.prog 121 [.one (.int .i64 m),.ref [.sl 3 1 (l.map intD)]] (vI (gN m l)) []
theorem aOR (m:Int) (l:List Int):aDz m l:=by
 refine aX bG aR Tryz.func121 (by kernel_rfl) (.len l.length<| .loop (Nat × Int) (Q2 Nat Int) [4,5,6,9,10,11,12,13,14,15,16,17,18,19,20,21,22,23,24,25,26,27,28,29,30,31] [] (fun yy0=>[(4,vI yy0.2),(9,vI (yy0.1:Int))]) (fun yy0=>[]) (fun yy0=>yy0.1≤l.length∧yy0.2=kI m l yy0.1) (fun yy0=>l.length - yy0.1) (fun yy0=> .br (.elem _ intD l (fun e12=> .br (.call (vB (decide ((0:Int)≤e12∧e12≤(3:Int)))) []<| .lit<| .br (.lit<| .lit<| .lit<| .lit<| .lit<| .br (.back []) (.back [])) (.back [])) (.back []))) (.fin []))) (p:=(l.map intD).length≤9223372036854775807→Lm intD l∧((∃(k:Nat) (o:Int),(0:Int)=o∧(0:Int)=(k:Int)∧k≤l.length∧o=kI m l k)∧ ∀(k:Nat) (o:Int),(k≤l.length∧o=kI m l k)→((decide ((k:Int)<((l.length:Nat):Int)))=true→0≤(k:Int)∧Em intD l k fun e12=>((decide ((k:Int)<(4:Int)))=true→kE e12 (0:Int) (3:Int)∧(((decide ((0:Int)≤e12∧e12≤(3:Int)))=true→(0≤e12∧e12≤64)∧(((decide ((cH .and .i64 (m/2^(Int.toNat e12)) (1:Int))=(1:Int)))=true→(0≤(k:Int)∧(k:Int)≤64)∧cC ((1:Int)*2^k)∧cC ((k:Int)+(1:Int))∧ ∃(k' :Nat) (o' :Int),(cH .or .i64 o ((1:Int)*2^k))=o' ∧((k:Int)+(1:Int))=(k' :Int)∧(k' ≤l.length∧o' =kI m l k')∧l.length - k' <l.length - k)∧((decide ((cH .and .i64 (m/2^(Int.toNat e12)) (1:Int))=(1:Int)))=false→cC ((k:Int)+(1:Int))∧ ∃(k' :Nat) (o' :Int),o=o' ∧((k:Int)+(1:Int))=(k' :Int)∧(k' ≤l.length∧o' =kI m l k')∧l.length - k' <l.length - k)))∧((decide ((0:Int)≤e12∧e12≤(3:Int)))=false→cC ((k:Int)+(1:Int))∧ ∃(k' :Nat) (o' :Int),o=o' ∧((k:Int)+(1:Int))=(k' :Int)∧(k' ≤l.length∧o' =kI m l k')∧l.length - k' <l.length - k)))∧((decide ((k:Int)<(4:Int)))=false→cC ((k:Int)+(1:Int))∧ ∃(k' :Nat) (o' :Int),o=o' ∧((k:Int)+(1:Int))=(k' :Int)∧(k' ≤l.length∧o' =kI m l k')∧l.length - k' <l.length - k))∧((decide ((k:Int)<((l.length:Nat):Int)))=false→o=(gN m l)∧True))) (by kernel_rfl) ?_
 intro n0
 simp only [List.length_map] at n0
 refine ⟨List.length_map _,⟨0,(0:Int),rfl,rfl,Nat.zero_le _,rfl⟩,fun k o ⟨hk,hv⟩=>?_⟩
 refine ⟨fun c0=>?_,fun c0=>?_⟩
 ·replace c0:=yq c0
  refine ⟨by omega,rfl,by omega,fun e12 h12=>?_⟩
  have hk2:=h12
  refine ⟨fun g16=>?_,fun g16=>?_⟩
  ·replace g16:=yq g16
   refine ⟨oI _ _ _,fun g20=>?_,fun g20=>?_⟩
   ·replace g20:=yq g20
    refine ⟨⟨by omega,by omega⟩,fun c1=>?_,fun c1=>?_⟩
    ·replace c1:=yq c1
     refine ⟨⟨by omega,by omega⟩,by first | exact bK (by omega) | exact ⟨by omega,by omega⟩,by first | exact bK (by omega) | exact ⟨by omega,by omega⟩,?_⟩
     exact ⟨k+1,cH .or .i64 o ((1:Int)*2^k),rfl,rfl,⟨by omega,by first | (rw [pI hk2 (by refine ⟨⟨by omega,by omega,by omega⟩,by assumption⟩),hv];done) | (rw [sV hk2 (by rintro ⟨⟨_,_,_⟩,_⟩;first | omega | contradiction),hv];done)⟩,by omega⟩
    ·replace c1:=nq c1
     refine ⟨by first | exact bK (by omega) | exact ⟨by omega,by omega⟩,?_⟩
     exact ⟨k+1,o,rfl,rfl,⟨by omega,by first | (rw [pI hk2 (by refine ⟨⟨by omega,by omega,by omega⟩,by assumption⟩),hv];done) | (rw [sV hk2 (by rintro ⟨⟨_,_,_⟩,_⟩;first | omega | contradiction),hv];done)⟩,by omega⟩
   ·replace g20:=nq g20
    refine ⟨by first | exact bK (by omega) | exact ⟨by omega,by omega⟩,?_⟩
    exact ⟨k+1,o,rfl,rfl,⟨by omega,by first | (rw [pI hk2 (by refine ⟨⟨by omega,by omega,by omega⟩,by assumption⟩),hv];done) | (rw [sV hk2 (by rintro ⟨⟨_,_,_⟩,_⟩;first | omega | contradiction),hv];done)⟩,by omega⟩
  ·replace g16:=nq g16
   refine ⟨by first | exact bK (by omega) | exact ⟨by omega,by omega⟩,?_⟩
   exact ⟨k+1,o,rfl,rfl,⟨by omega,by first | (rw [pI hk2 (by refine ⟨⟨by omega,by omega,by omega⟩,by assumption⟩),hv];done) | (rw [sV hk2 (by rintro ⟨⟨_,_,_⟩,_⟩;first | omega | contradiction),hv];done)⟩,by omega⟩
 ·replace c0:=nq c0
  refine ⟨?_,trivial⟩
  ·rw [hv,gN,show k=l.length by omega]
abbrev aEA (m:Int) (l:List Int):Prop:=cX Tryz.prog 107 [.one (.int .i64 m),.one (.sl 3 1 (l.map intD))] (vI (gN m l)) []
theorem aOS (m:Int) (l:List Int):aEA m l:=by
 refine aX bG aR Tryz.func107 (by kernel_rfl) (.loop (Nat × Int) (Q2 Nat Int) [5,6,7,8,9,10,11,12,13,14,15,16,17,18,19,20,21,22,23,24,25,26,27,28,29,30,31,32,33,34,35] [] (fun yy0=>[(5,vI yy0.2),(6,vI (yy0.1:Int))]) (fun yy0=>[]) (fun yy0=>(yy0.1≤l.length∧yy0.1≤4)∧yy0.2=kI m l yy0.1) (fun yy0=>l.length - yy0.1) (fun yy0=> .len l.length<| .br (.lit<| .lit<| .br (.elem _ intD l (fun e19=> .call (vB (decide ((0:Int)≤e19∧e19≤(3:Int)))) []<| .br (.elem _ intD l (fun e26=> .lit<| .lit<| .lit<| .lit<| .lit<| .br (.back []) (.back []))) (.back []))) (.fin [])) (.fin []))) (p:=(l.map intD).length≤9223372036854775807→(∃(k:Nat) (o:Int),(0:Int)=o∧(0:Int)=(k:Int)∧(k≤l.length∧k≤4)∧o=kI m l k)∧ ∀(k:Nat) (o:Int),((k≤l.length∧k≤4)∧o=kI m l k)→Lm intD l∧(((decide ((k:Int)<((l.length:Nat):Int)))=true→((decide ((k:Int)<(4:Int)))=true→0≤(k:Int)∧Em intD l k fun e19=>iH e19 (0:Int) (3:Int)∧(((decide ((0:Int)≤e19∧e19≤(3:Int)))=true→0≤(k:Int)∧Em intD l k fun e26=>(0≤e26∧e26≤64)∧(((decide ((cH .and .i64 (m/2^(Int.toNat e26)) (1:Int))=(1:Int)))=true→(0≤(k:Int)∧(k:Int)≤64)∧cC ((1:Int)*2^k)∧cC ((k:Int)+(1:Int))∧ ∃(k' :Nat) (o' :Int),(cH .or .i64 o ((1:Int)*2^k))=o' ∧((k:Int)+(1:Int))=(k' :Int)∧((k' ≤l.length∧k' ≤4)∧o' =kI m l k')∧l.length - k' <l.length - k)∧((decide ((cH .and .i64 (m/2^(Int.toNat e26)) (1:Int))=(1:Int)))=false→cC ((k:Int)+(1:Int))∧ ∃(k' :Nat) (o' :Int),o=o' ∧((k:Int)+(1:Int))=(k' :Int)∧((k' ≤l.length∧k' ≤4)∧o' =kI m l k')∧l.length - k' <l.length - k)))∧((decide ((0:Int)≤e19∧e19≤(3:Int)))=false→cC ((k:Int)+(1:Int))∧ ∃(k' :Nat) (o' :Int),o=o' ∧((k:Int)+(1:Int))=(k' :Int)∧((k' ≤l.length∧k' ≤4)∧o' =kI m l k')∧l.length - k' <l.length - k)))∧((decide ((k:Int)<(4:Int)))=false→o=(gN m l)∧True))∧((decide ((k:Int)<((l.length:Nat):Int)))=false→o=(gN m l)∧True))) (by kernel_rfl) ?_
 intro n0
 simp only [List.length_map] at n0
 refine ⟨⟨0,(0:Int),rfl,rfl,⟨Nat.zero_le _,by omega⟩,rfl⟩,fun k o ⟨hk,hv⟩=>?_⟩
 refine ⟨List.length_map _,fun g11=>?_,fun g11=>?_⟩
 ·replace g11:=yq g11
  refine ⟨fun c0=>?_,fun c0=>?_⟩
  ·replace c0:=yq c0
   refine ⟨by omega,rfl,by omega,fun e19 h19=>?_⟩
   have hk2:=h19
   refine ⟨lZ _ _ _,fun g22=>?_,fun g22=>?_⟩
   ·replace g22:=yq g22
    refine ⟨by omega,rfl,by omega,fun e26 h26=>?_⟩
    obtain rfl:=(aY hk2 h26).symm
    refine ⟨⟨by omega,by omega⟩,fun c1=>?_,fun c1=>?_⟩
    ·replace c1:=yq c1
     refine ⟨⟨by omega,by omega⟩,by first | exact bK (by omega) | exact ⟨by omega,by omega⟩,by first | exact bK (by omega) | exact ⟨by omega,by omega⟩,?_⟩
     exact ⟨k+1,cH .or .i64 o ((1:Int)*2^k),rfl,rfl,⟨by omega,by first | (rw [pI hk2 (by refine ⟨⟨by omega,by omega,by omega⟩,by assumption⟩),hv];done) | (rw [sV hk2 (by rintro ⟨⟨_,_,_⟩,_⟩;first | omega | contradiction),hv];done)⟩,by omega⟩
    ·replace c1:=nq c1
     refine ⟨by first | exact bK (by omega) | exact ⟨by omega,by omega⟩,?_⟩
     exact ⟨k+1,o,rfl,rfl,⟨by omega,by first | (rw [pI hk2 (by refine ⟨⟨by omega,by omega,by omega⟩,by assumption⟩),hv];done) | (rw [sV hk2 (by rintro ⟨⟨_,_,_⟩,_⟩;first | omega | contradiction),hv];done)⟩,by omega⟩
   ·replace g22:=nq g22
    refine ⟨by first | exact bK (by omega) | exact ⟨by omega,by omega⟩,?_⟩
    exact ⟨k+1,o,rfl,rfl,⟨by omega,by first | (rw [pI hk2 (by refine ⟨⟨by omega,by omega,by omega⟩,by assumption⟩),hv];done) | (rw [sV hk2 (by rintro ⟨⟨_,_,_⟩,_⟩;first | omega | contradiction),hv];done)⟩,by omega⟩
  ·replace c0:=nq c0
   refine ⟨?_,trivial⟩
   ·first | (rw [hv,gN,show k=l.length by omega];done) | (rw [hv,gN,aH5 (k:=l.length) (by omega),show k=4 by omega];done)
 ·replace g11:=nq g11
  refine ⟨?_,trivial⟩
  ·first | (rw [hv,gN,show k=l.length by omega];done) | (rw [hv,gN,aH5 (k:=l.length) (by omega),show k=4 by omega];done)
abbrev aBx (l:List aF) (v:List Int):AV × List (Nat × Rs):=(.own 0,[(0,.arr 164 3 true ((l.map (mT v)).map aE))])
abbrev aH6 (l:List aF) (v:List Int):Prop:=cX Tryz.prog 81 [.one (.sl 164 3 (l.map aE)),.one (.sl 3 1 (v.map intD))] (aBx l v).1 (aBx l v).2
theorem aSJ (l:List aF) (v:List Int) (hl:l.length≤1048576):aH6 l v:=by
 refine aX bG aR Tryz.func81 (by kernel_rfl) (.len l.length<| .loop (Nat × (List aF)) (Q2 Nat (List aF)) [6,8,10,13,14,15,16,17,18,19,20,21,22,23,24,25,26,27,28,29,30,31] [800,1000,2900,3000] (fun yy0=>[(6,.own 1000),(13,vI (yy0.1:Int))]) (fun yy0=>[(1000,some (.arr 164 3 true (yy0.2.map aE)))]) (fun yy0=>yy0.1≤l.length∧yy0.2=(l.take yy0.1).map (mT v)) (fun yy0=>l.length - yy0.1) (fun yy0=> .br (.elem _ aE l (fun e15=> .call (vI (gN e15.src v)) []<| .call (vI (gN e15.dst v)) []<| .app aF aE yy0.2 ([(⟨gN e15.src v,gN e15.dst v,e15.bits⟩:aF)]:List aF)<| .back [(1000,3000)])) (.fin [(0,1000)]))) (p:=(l.map aE).length≤9223372036854775807→(v.map intD).length≤9223372036854775807→Lm aE l∧((∃(k:Nat) (out:List aF),(0:Int)=(k:Int)∧[]=out.map aE∧k≤l.length∧out=(l.take k).map (mT v))∧ ∀(k:Nat) (out:List aF),(k≤l.length∧out=(l.take k).map (mT v))→((decide ((k:Int)<((l.length:Nat):Int)))=true→0≤(k:Int)∧Em aE l k fun e15=>aDz e15.src v∧aDz e15.dst v∧out.map aE=out.map aE∧[[.int .i64 (gN e15.src v),.int .i64 (gN e15.dst v),.int .i64 e15.bits]]=([(⟨gN e15.src v,gN e15.dst v,e15.bits⟩:aF)]:List aF).map aE∧(∀x,dT (aE x)=true)∧(out.length+([(⟨gN e15.src v,gN e15.dst v,e15.bits⟩:aF)]:List aF).length)*24≤140737488355328∧cC ((k:Int)+(1:Int))∧ ∃(k' :Nat) (out' :List aF),((k:Int)+(1:Int))=(k' :Int)∧(out++[(⟨gN e15.src v,gN e15.dst v,e15.bits⟩:aF)]).map aE=out'.map aE∧(k' ≤l.length∧out' =(l.take k').map (mT v))∧l.length - k' <l.length - k)∧((decide ((k:Int)<((l.length:Nat):Int)))=false→out.map aE=(l.map (mT v)).map aE∧True))) (by kernel_rfl) ?_
 intro n0 n1
 simp only [List.length_map] at n0 n1
 refine ⟨List.length_map _,⟨0,([]:List aF),rfl,rfl,Nat.zero_le _,rfl⟩,fun k out ⟨hk,ho⟩=>?_⟩
 refine ⟨fun c0=>?_,fun c0=>?_⟩
 ·replace c0:=yq c0
  refine ⟨by omega,rfl,by omega,fun e15 h15=>?_⟩
  have hk2:=h15
  refine ⟨aOR _ _,aOR _ _,rfl,rfl,fun _=>rfl,by simp [ho];omega,?_⟩
  refine ⟨⟨by omega,by omega⟩,?_⟩
  exact ⟨k+1,_,rfl,rfl,⟨by omega,by rw [ho,bP hk2,List.map_append];rfl⟩,by omega⟩
 ·replace c0:=nq c0
  refine ⟨?_,trivial⟩
  ·rw [ho,List.take_of_length_le (by omega)]
abbrev aBy (l:List aF) (v:List Int):AV × List (Nat × Rs):=(.own 0,[(0,.arr 164 3 true ((l.map (mT v)).map aE))])
abbrev aH7 (l:List aF) (v:List Int):Prop:=cX Tryz.prog 67 [.one (.sl 164 3 (l.map aE)),.one (.sl 3 1 (v.map intD))] (aBy l v).1 (aBy l v).2
theorem aSK (l:List aF) (v:List Int) (hl:l.length≤1048576):aH7 l v:=by
 refine aX bG aR Tryz.func67 (by kernel_rfl) (.loop (Nat × (List aF)) (Q2 Nat (List aF)) [5,6,7,8,9,10,11,12,13,14,15,16,17,18,19,20,21,22,23,24,25,26,27,28,29,30,31,32,33,34,35,36] [700,3500,3600] (fun yy0=>[(5,.own 700),(6,vI (yy0.1:Int))]) (fun yy0=>[(700,some (.arr 164 3 true (yy0.2.map aE)))]) (fun yy0=>yy0.1≤l.length∧yy0.2=(l.take yy0.1).map (mT v)) (fun yy0=>l.length - yy0.1) (fun yy0=> .len l.length<| .br (.elem _ aE l (fun e17=> .call (vI (gN e17.src v)) []<| .elem _ aE l (fun e24=> .call (vI (gN e24.dst v)) []<| .elem _ aE l (fun e31=> .app aF aE yy0.2 ([(⟨gN e17.src v,gN e24.dst v,e31.bits⟩:aF)]:List aF)<| .back [(700,3600)])))) (.fin [(0,700)]))) (p:=(l.map aE).length≤9223372036854775807→(v.map intD).length≤9223372036854775807→(∃(k:Nat) (out:List aF),(0:Int)=(k:Int)∧[]=out.map aE∧k≤l.length∧out=(l.take k).map (mT v))∧ ∀(k:Nat) (out:List aF),(k≤l.length∧out=(l.take k).map (mT v))→Lm aE l∧(((decide ((k:Int)<((l.length:Nat):Int)))=true→0≤(k:Int)∧Em aE l k fun e17=>aEA e17.src v∧0≤(k:Int)∧Em aE l k fun e24=>aEA e24.dst v∧0≤(k:Int)∧Em aE l k fun e31=>out.map aE=out.map aE∧[[.int .i64 (gN e17.src v),.int .i64 (gN e24.dst v),.int .i64 e31.bits]]=([(⟨gN e17.src v,gN e24.dst v,e31.bits⟩:aF)]:List aF).map aE∧(∀x,dT (aE x)=true)∧(out.length+([(⟨gN e17.src v,gN e24.dst v,e31.bits⟩:aF)]:List aF).length)*24≤140737488355328∧cC ((k:Int)+(1:Int))∧ ∃(k' :Nat) (out' :List aF),((k:Int)+(1:Int))=(k' :Int)∧(out++[(⟨gN e17.src v,gN e24.dst v,e31.bits⟩:aF)]).map aE=out'.map aE∧(k' ≤l.length∧out' =(l.take k').map (mT v))∧l.length - k' <l.length - k)∧((decide ((k:Int)<((l.length:Nat):Int)))=false→out.map aE=(l.map (mT v)).map aE∧True))) (by kernel_rfl) ?_
 intro n0 n1
 simp only [List.length_map] at n0 n1
 refine ⟨⟨0,([]:List aF),rfl,rfl,Nat.zero_le _,rfl⟩,fun k out ⟨hk,ho⟩=>?_⟩
 refine ⟨List.length_map _,fun c0=>?_,fun c0=>?_⟩
 ·replace c0:=yq c0
  refine ⟨by omega,rfl,by omega,fun e17 h17=>?_⟩
  have hk2:=h17
  refine ⟨aOS _ _,by omega,rfl,by omega,fun e24 h24=>?_⟩
  obtain rfl:=(aY hk2 h24).symm
  refine ⟨aOS _ _,by omega,rfl,by omega,fun e31 h31=>?_⟩
  obtain rfl:=(aY hk2 h31).symm
  refine ⟨rfl,rfl,fun _=>rfl,by simp [ho];omega,?_⟩
  refine ⟨⟨by omega,by omega⟩,?_⟩
  exact ⟨k+1,_,rfl,rfl,⟨by omega,by rw [ho,bP hk2,List.map_append];rfl⟩,by omega⟩
 ·replace c0:=nq c0
  refine ⟨?_,trivial⟩
  ·rw [ho,List.take_of_length_le (by omega)]
end Go.Proofs.YtdfebigfnjfgpaaGreat
