/-
  Contracts and plain laws, joined: part 16.
-/
import Derived.Test.YtdfebigfnjfgpaaGreatQI14
import Derived.Test.YtdfebigfnjfgpaaGreatQI13
import Derived.Test.YtdfebigfnjfgpaaGreatQI3
namespace Go.Proofs.YtdfebigfnjfgpaaGreat
open Go.ChangeShapes Go.WideShapes Go.ChangeAt Go.RowKit
set_option linter.unusedVariables false
set_option linter.unusedSimpArgs false
set_option maxRecDepth 100000
set_option maxHeartbeats 4000000
abbrev aGn (s:StoreD) (q:QueryD) (m:Int):Prop:=cT Tryz.prog 104 [.agg [.sl 167 3 (s.database.tables.map aR),.int .i64 s.catalogue.version,.sl 161 4 (s.catalogue.tables.map aE),.sl 131 3 (s.dependencies.map aM),.sl 133 4 (s.inclusions.map aQ)],.agg [.int .i64 q.variableCount,.sl 135 2 (q.atoms.map bH)],.one (.int .i64 m)] (vB (wR s q m)) []
theorem aRU (s:StoreD) (q:QueryD) (m:Int) (hc:eG s≤1048576):aGn s q m:=by
 refine aT bE aL Tryz.func104 (by kernel_rfl) (.call (vB (fJ s)) []<| .br (.call (vB (eN s.database q)) []<| .lit<| .br (.call (vI (nG q)) []<| .call (vB (eB m (1:Int) (nG q))) []<| .fin []) (.fin [])) (.fin [])) (p:=(s.database.tables.map aR).length≤9223372036854775807→(s.catalogue.tables.map aE).length≤9223372036854775807→(s.dependencies.map aM).length≤9223372036854775807→(s.inclusions.map aQ).length≤9223372036854775807→(q.atoms.map bH).length≤9223372036854775807→aEE s∧(((fJ s)=true→aGh s.database q∧(((eN s.database q)=true→aEI q∧fT m (1:Int) (nG q)∧(eB m (1:Int) (nG q))=(wR s q m)∧True)∧((eN s.database q)=false→(false)=(wR s q m)∧True)))∧((fJ s)=false→(false)=(wR s q m)∧True))) (by kernel_rfl) ?_
 intro n0 n1 n2 n3 n4
 simp only [List.length_map] at n0 n1 n2 n3 n4
 have hS:eG s=bN s.database+bT s.catalogue+cH s.dependencies+dL s.inclusions:=rfl
 have hI:=fP s.inclusions
 refine ⟨aOq _ (by omega),fun g9=>?_,fun g9=>?_⟩
 ·refine ⟨aRO s.database _ (by omega),fun g15=>?_,fun g15=>?_⟩
  ·refine ⟨aOv _,jR _ _ _,?_,trivial⟩
   ·first | (rw [wR,g9];rfl) | (rw [wR,g9,g15];rfl)
  ·refine ⟨?_,trivial⟩
   ·first | (rw [wR,g9];rfl) | (rw [wR,g9,g15];rfl)
 ·refine ⟨?_,trivial⟩
  ·first | (rw [wR,g9];rfl) | (rw [wR,g9,g15];rfl)
abbrev vM (s:StoreD) (q:QueryD) (i:Int):AV × List (Nat × Rs):=(.agg [.p none (.str ((gC s q i.toNat).name)),vI ((gC s q i.toNat).arity),vI ((gC s q i.toNat).rowCount),.p none (.sl 203 3 (((gC s q i.toNat).groups).map aB))],[])
abbrev aC5 (s:StoreD) (q:QueryD) (i:Int):Prop:=cT Tryz.prog 106 [.agg [.sl 167 3 (s.database.tables.map aR),.int .i64 s.catalogue.version,.sl 161 4 (s.catalogue.tables.map aE),.sl 131 3 (s.dependencies.map aM),.sl 133 4 (s.inclusions.map aQ)],.agg [.int .i64 q.variableCount,.sl 135 2 (q.atoms.map bH)],.one (.int .i64 i)] (vM s q i).1 (vM s q i).2
theorem aM8 (s:StoreD) (q:QueryD) (i:Int) (hc:eG s≤1048576) (hi:0≤i∧i.toNat<q.atoms.length):aC5 s q i:=by
 refine aT bE aL Tryz.func106 (by kernel_rfl) (.elem _ bH q.atoms (fun e15=> .call (.tup [.agg [.p none (.str (((dH s.catalogue e15.name).1).name)),vI (((dH s.catalogue e15.name).1).arity),vI (((dH s.catalogue e15.name).1).rowCount),.p none (.sl 203 3 ((((dH s.catalogue e15.name).1).groups).map aB))],vB ((dH s.catalogue e15.name).2)]) []<| .fin [])) (p:=(s.database.tables.map aR).length≤9223372036854775807→(s.catalogue.tables.map aE).length≤9223372036854775807→(s.dependencies.map aM).length≤9223372036854775807→(s.inclusions.map aQ).length≤9223372036854775807→(q.atoms.map bH).length≤9223372036854775807→0≤i∧Em bH q.atoms ((i).toNat) fun e15=>cT Tryz.prog 141 [.agg [.int .i64 s.catalogue.version,.sl 161 4 (s.catalogue.tables.map aE)],.one (.str e15.name)] (.tup [.agg [.p none (.str (((dH s.catalogue e15.name).1).name)),vI (((dH s.catalogue e15.name).1).arity),vI (((dH s.catalogue e15.name).1).rowCount),.p none (.sl 203 3 ((((dH s.catalogue e15.name).1).groups).map aB))],vB ((dH s.catalogue e15.name).2)]) []∧(((dH s.catalogue e15.name).1).name)=((gC s q i.toNat).name)∧(((dH s.catalogue e15.name).1).arity)=((gC s q i.toNat).arity)∧(((dH s.catalogue e15.name).1).rowCount)=((gC s q i.toNat).rowCount)∧(((dH s.catalogue e15.name).1).groups).map aB=((gC s q i.toNat).groups).map aB∧True) (by kernel_rfl) ?_
 intro n0 n1 n2 n3 n4
 simp only [List.length_map] at n0 n1 n2 n3 n4
 have hS:eG s=bN s.database+bT s.catalogue+cH s.dependencies+dL s.inclusions:=rfl
 have hI:=fP s.inclusions
 refine ⟨by omega,rfl,by omega,fun e15 h15=>?_⟩
 refine ⟨kO (aOs s.catalogue e15.name (by omega)) rfl,?_,?_,?_,?_,trivial⟩
 ·(rw [gC,bC h15]<;>rfl)
 ·(rw [gC,bC h15]<;>rfl)
 ·(rw [gC,bC h15]<;>rfl)
 ·(rw [gC,bC h15]<;>rfl)
theorem aC6 {s:StoreD} (q:QueryD) (i:Nat) (hc:eG s≤1048576):bA (gC s q i)≤1048576:=by
 have h1:=aLU s.catalogue (q.atoms.getD i jI).name
 have hS:eG s=bN s.database+bT s.catalogue+cH s.dependencies+dL s.inclusions:=rfl
 unfold gC
 omega
abbrev vN (s:StoreD) (q:QueryD) (m:Int):AV × List (Nat × Rs):=(.own 0,[(0,.arr 164 3 true ((dI s q m).map aC))])
abbrev aC7 (s:StoreD) (q:QueryD) (m:Int):Prop:=cT Tryz.prog 78 [.agg [.sl 167 3 (s.database.tables.map aR),.int .i64 s.catalogue.version,.sl 161 4 (s.catalogue.tables.map aE),.sl 131 3 (s.dependencies.map aM),.sl 133 4 (s.inclusions.map aQ)],.agg [.int .i64 q.variableCount,.sl 135 2 (q.atoms.map bH)],.one (.int .i64 m)] (vN s q m).1 (vN s q m).2
theorem aM9 (s:StoreD) (q:QueryD) (m:Int) (hc:eG s≤1048576) (hcq:iJ q≤1048576):aC7 s q m:=by
 refine aT bE aL Tryz.func78 (by kernel_rfl) (.call (vB (fJ s)) []<| .br (.fin []) (.call (vB (eN s.database q)) []<| .lit<| .lit<| .br (.fin []) (.call (vI (nG q)) []<| .call (vB (eB m (1:Int) (nG q))) []<| .lit<| .lit<| .br (.fin []) (bV (aBQ m)<| .len ((fY m).length)<| .loop (Nat × (List aD)) (Q2 Nat (List aD)) [7,9,10,11,12,30,34,35,36,37,38,39,40,41,42,43,44,45,46,47,48,49,50,51,52,53,54,55,56,57,58,59,60,61,62,63] [1000,3000,5600,6200] (fun yy0=>[(34,vI (yy0.1:Int)),(7,.own 3000)]) (fun yy0=>[(3000,some (.arr 164 3 true (yy0.2.map aC)))]) (fun yy0=>yy0.1≤(fY m).length∧yy0.2=qcL s q ((fY m).take yy0.1)∧aC4 s q ((fY m).take yy0.1)=true) (fun yy0=>(fY m).length - yy0.1) (fun yy0=> .br (.len ((fY m).length)<| .elem _ intD (fY m) (fun e37=> .elem _ bH q.atoms (fun e44=> .call (.tup [.agg [.p none (.str (((dH s.catalogue e44.name).1).name)),vI (((dH s.catalogue e44.name).1).arity),vI (((dH s.catalogue e44.name).1).rowCount),.p none (.sl 203 3 ((((dH s.catalogue e44.name).1).groups).map aB))],vB ((dH s.catalogue e44.name).2)]) []<| .elem _ bH q.atoms (fun e54=>bV (yW ((dH s.catalogue e44.name).1) e54)<| .len ((lO ((dH s.catalogue e44.name).1) e54).length)<| .br (.fin []) (.app aD aC yy0.2 (lO ((dH s.catalogue e44.name).1) e54)<| .back [(3000,6200)]))))) (.fin [(0,3000)])))))) (p:=(s.database.tables.map aR).length≤9223372036854775807→(s.catalogue.tables.map aE).length≤9223372036854775807→(s.dependencies.map aM).length≤9223372036854775807→(s.inclusions.map aQ).length≤9223372036854775807→(q.atoms.map bH).length≤9223372036854775807→aED s∧(((!(fJ s))=true→[]=(dI s q m).map aC∧True)∧((!(fJ s))=false→aGg s.database q∧(((!(eN s.database q))=true→[]=(dI s q m).map aC∧True)∧((!(eN s.database q))=false→aEH q∧(fS m (1:Int) (nG q)∧(((!(eB m (1:Int) (nG q)))=true→[]=(dI s q m).map aC∧True)∧((!(eB m (1:Int) (nG q)))=false→aGi m∧(Lm intD (fY m)∧((∃(k:Nat) (out:List aD),(0:Int)=(k:Int)∧[]=out.map aC∧k≤(fY m).length∧out=qcL s q ((fY m).take k)∧aC4 s q ((fY m).take k)=true)∧ ∀(k:Nat) (out:List aD),(k≤(fY m).length∧out=qcL s q ((fY m).take k)∧aC4 s q ((fY m).take k)=true)→((decide ((k:Int)<(((fY m).length:Nat):Int)))=true→0≤(k:Int)∧Lm intD (fY m)∧(k:Int)<(((fY m).length:Nat):Int)∧Em intD (fY m) k fun e37=>0≤e37∧Em bH q.atoms ((e37).toNat) fun e44=>cT Tryz.prog 116 [.agg [.int .i64 s.catalogue.version,.sl 161 4 (s.catalogue.tables.map aE)],.one (.str e44.name)] (.tup [.agg [.p none (.str (((dH s.catalogue e44.name).1).name)),vI (((dH s.catalogue e44.name).1).arity),vI (((dH s.catalogue e44.name).1).rowCount),.p none (.sl 203 3 ((((dH s.catalogue e44.name).1).groups).map aB))],vB ((dH s.catalogue e44.name).2)]) []∧(0≤e37∧Em bH q.atoms ((e37).toNat) fun e54=>aEM ((dH s.catalogue e44.name).1) e54∧(Lm aC (lO ((dH s.catalogue e44.name).1) e54)∧(((decide ((((lO ((dH s.catalogue e44.name).1) e54).length:Nat):Int)=(0:Int)))=true→[]=(dI s q m).map aC∧True)∧((decide ((((lO ((dH s.catalogue e44.name).1) e54).length:Nat):Int)=(0:Int)))=false→out.map aC=out.map aC∧(lO ((dH s.catalogue e44.name).1) e54).map aC=(lO ((dH s.catalogue e44.name).1) e54).map aC∧(∀x,eL (aC x)=true)∧(out.length+(lO ((dH s.catalogue e44.name).1) e54).length)*24≤140737488355328∧cC ((k:Int)+(1:Int))∧ ∃(k' :Nat) (out' :List aD),((k:Int)+(1:Int))=(k' :Int)∧(out++(lO ((dH s.catalogue e44.name).1) e54)).map aC=out'.map aC∧(k' ≤(fY m).length∧out' =qcL s q ((fY m).take k')∧aC4 s q ((fY m).take k')=true)∧(fY m).length - k' <(fY m).length - k)))))∧((decide ((k:Int)<(((fY m).length:Nat):Int)))=false→out.map aC=(dI s q m).map aC∧True))))))))))) (by kernel_rfl) ?_
 intro n0 n1 n2 n3 n4
 simp only [List.length_map] at n0 n1 n2 n3 n4
 have hS:eG s=bN s.database+bT s.catalogue+cH s.dependencies+dL s.inclusions:=rfl
 have hI:=fP s.inclusions
 have hQ:iJ q=kY q.atoms:=rfl
 refine ⟨aOp _ (by omega),fun g16=>?_,fun g16=>?_⟩
 ·replace g16:=nt g16
  have hbad:wR s q m=false:=by first | (simp [wR,g16];done) | (simp [wR,g23];done) | (simp [wR,c0];done) | (simpa using c0)
  refine ⟨?_,trivial⟩
  ·first | (rw [qB hbad]<;>rfl) | (rw [nI hem (by rw [←hE];omega)]<;>rfl) | (rw [nH hq (by rw [List.take_of_length_le (by omega)] at ha;exact ha),ho,List.take_of_length_le (by omega)])
 ·replace g16:=nf g16
  refine ⟨aRN s.database _ (by omega),fun g23=>?_,fun g23=>?_⟩
  ·replace g23:=nt g23
   have hbad:wR s q m=false:=by first | (simp [wR,g16];done) | (simp [wR,g23];done) | (simp [wR,c0];done) | (simpa using c0)
   refine ⟨?_,trivial⟩
   ·first | (rw [qB hbad]<;>rfl) | (rw [nI hem (by rw [←hE];omega)]<;>rfl) | (rw [nH hq (by rw [List.take_of_length_le (by omega)] at ha;exact ha),ho,List.take_of_length_le (by omega)])
  ·replace g23:=nf g23
   refine ⟨aOu _,jQ _ _ _,fun c0=>?_,fun c0=>?_⟩
   ·replace c0:=nt c0
    have hbad:wR s q m=false:=by first | (simp [wR,g16];done) | (simp [wR,g23];done) | (simp [wR,c0];done) | (simpa using c0)
    refine ⟨?_,trivial⟩
    ·first | (rw [qB hbad]<;>rfl) | (rw [nI hem (by rw [←hE];omega)]<;>rfl) | (rw [nH hq (by rw [List.take_of_length_le (by omega)] at ha;exact ha),ho,List.take_of_length_le (by omega)])
   ·replace c0:=nf c0
    have hq:wR s q m=true:=by first | (simpa using c0;done) | (rw [wR,g16,g23,c0];rfl)
    obtain ⟨hq1,hq2,hq3,hm1,hm2,hm3,hm4,hm5⟩:=aDT hq
    have hml:=aIu m
    refine ⟨aRP m,List.length_map _,⟨0,([]:List aD),rfl,rfl,Nat.zero_le _,rfl,rfl⟩,fun k out ⟨hk,ho,ha⟩=>?_⟩
    have hlen:out.length≤28:=by rw [ho];have z1:=aFC s q ((fY m).take k);have z2:=List.length_take_le k (fY m);omega
    refine ⟨fun c1=>?_,fun c1=>?_⟩
    ·replace c1:=yq c1
     refine ⟨by omega,List.length_map _,by omega,rfl,by omega,fun e37 h37=>?_⟩
     have he:=aRT hq (List.mem_of_getElem? h37)
     have hem:=List.mem_of_getElem? h37
     refine ⟨by omega,rfl,by omega,fun e44 h44=>?_⟩
     have hst:(dH s.catalogue e44.name).1=gC s q e37.toNat:=by rw [gC,bC h44]
     have hcs:=aC6 q e37.toNat hc
     rw [←hst] at hcs
     have hcA:=aDC h44
     refine ⟨kO (aOr s.catalogue e44.name (by omega)) rfl,by omega,rfl,by omega,fun e54 h54=>?_⟩
     obtain rfl:=(aY h44 h54).symm
     have hE:lO (dH s.catalogue e44.name).1 e44=qcA s q e37:=by rw [qcA,hst,bC h44]
     have hzl:=aGc (dH s.catalogue e44.name).1 e44
     refine ⟨aOz ((dH s.catalogue e44.name).1) _ (by omega) (by omega),List.length_map _,fun c2=>?_,fun c2=>?_⟩
     ·replace c2:=yq c2
      refine ⟨?_,trivial⟩
      ·first | (rw [qB hbad]<;>rfl) | (rw [nI hem (by rw [←hE];omega)]<;>rfl) | (rw [nH hq (by rw [List.take_of_length_le (by omega)] at ha;exact ha),ho,List.take_of_length_le (by omega)])
     ·replace c2:=nq c2
      refine ⟨rfl,rfl,fun _=>rfl,by omega,?_⟩
      refine ⟨⟨by omega,by omega⟩,?_⟩
      exact ⟨k+1,_,rfl,rfl,⟨by omega,by rw [ho,bO h37,aGm,hE],by rw [bO h37];exact aDU ha (by rw [←hE];exact c2)⟩,by omega⟩
    ·replace c1:=nq c1
     refine ⟨?_,trivial⟩
     ·first | (rw [qB hbad]<;>rfl) | (rw [nI hem (by rw [←hE];omega)]<;>rfl) | (rw [nH hq (by rw [List.take_of_length_le (by omega)] at ha;exact ha),ho,List.take_of_length_le (by omega)])
abbrev vO (s:StoreD) (q:QueryD) (m:Int):AV × List (Nat × Rs):=(.own 0,[(0,.arr 164 3 true ((dI s q m).map aC))])
abbrev aC8 (s:StoreD) (q:QueryD) (m:Int):Prop:=cT Tryz.prog 65 [.agg [.sl 167 3 (s.database.tables.map aR),.int .i64 s.catalogue.version,.sl 161 4 (s.catalogue.tables.map aE),.sl 131 3 (s.dependencies.map aM),.sl 133 4 (s.inclusions.map aQ)],.agg [.int .i64 q.variableCount,.sl 135 2 (q.atoms.map bH)],.one (.int .i64 m)] (vO s q m).1 (vO s q m).2
theorem aMa (s:StoreD) (q:QueryD) (m:Int) (hc:eG s≤1048576) (hcq:iJ q≤1048576):aC8 s q m:=by
 refine aT bE aL Tryz.func65 (by kernel_rfl) (.call (vB (wR s q m)) []<| .br (.fin [(0,1000)]) (.loop (Nat × (List aD)) (Q2 Nat (List aD)) [7,8,9,10,17,18,19,20,21,22,23,24,25,26,27,28,29,30,31,32,33,34,35,36,37,38,39,40,41,43,44,45] [1000,3800,4500] (fun yy0=>[(8,vI (yy0.1:Int)),(7,.own 1000)]) (fun yy0=>[(1000,some (.arr 164 3 true (yy0.2.map aC)))]) (fun yy0=>yy0.1≤q.atoms.length∧yy0.2=qcL s q (iK (gL m) yy0.1)∧aC4 s q (iK (gL m) yy0.1)=true) (fun yy0=>q.atoms.length - yy0.1) (fun yy0=> .len q.atoms.length<| .br (.br (.back [(1000,1000)]) (bV (vM s q (yy0.1:Int))<| .elem _ bH q.atoms (fun e36=>bV (yX (gC s q (yy0.1:Int).toNat) e36)<| .len ((lO (gC s q (yy0.1:Int).toNat) e36).length)<| .br (.fin [(0,4200)]) (.app aD aC yy0.2 (lO (gC s q (yy0.1:Int).toNat) e36)<| .back [(1000,4500)])))) (.fin [(0,1000)])))) (p:=(s.database.tables.map aR).length≤9223372036854775807→(s.catalogue.tables.map aE).length≤9223372036854775807→(s.dependencies.map aM).length≤9223372036854775807→(s.inclusions.map aQ).length≤9223372036854775807→(q.atoms.map bH).length≤9223372036854775807→aGn s q m∧(((!(wR s q m))=true→[]=(dI s q m).map aC∧True)∧((!(wR s q m))=false→(∃(k:Nat) (out:List aD),(0:Int)=(k:Int)∧[]=out.map aC∧k≤q.atoms.length∧out=qcL s q (iK (gL m) k)∧aC4 s q (iK (gL m) k)=true)∧ ∀(k:Nat) (out:List aD),(k≤q.atoms.length∧out=qcL s q (iK (gL m) k)∧aC4 s q (iK (gL m) k)=true)→Lm bH q.atoms∧(((decide ((k:Int)<((q.atoms.length:Nat):Int)))=true→(0≤(k:Int)∧(k:Int)≤64)∧(((decide ((cF .and .i64 (m/2^k) (1:Int))=(0:Int)))=true→cC ((k:Int)+(1:Int))∧ ∃(k' :Nat) (out' :List aD),((k:Int)+(1:Int))=(k' :Int)∧out.map aC=out'.map aC∧(k' ≤q.atoms.length∧out' =qcL s q (iK (gL m) k')∧aC4 s q (iK (gL m) k')=true)∧q.atoms.length - k' <q.atoms.length - k)∧((decide ((cF .and .i64 (m/2^k) (1:Int))=(0:Int)))=false→aC5 s q (k:Int)∧(0≤(k:Int)∧Em bH q.atoms k fun e36=>aEN (gC s q (k:Int).toNat) e36∧(Lm aC (lO (gC s q (k:Int).toNat) e36)∧(((decide ((((lO (gC s q (k:Int).toNat) e36).length:Nat):Int)=(0:Int)))=true→[]=(dI s q m).map aC∧True)∧((decide ((((lO (gC s q (k:Int).toNat) e36).length:Nat):Int)=(0:Int)))=false→out.map aC=out.map aC∧(lO (gC s q (k:Int).toNat) e36).map aC=(lO (gC s q (k:Int).toNat) e36).map aC∧(∀x,eL (aC x)=true)∧(out.length+(lO (gC s q (k:Int).toNat) e36).length)*24≤140737488355328∧cC ((k:Int)+(1:Int))∧ ∃(k' :Nat) (out' :List aD),((k:Int)+(1:Int))=(k' :Int)∧(out++(lO (gC s q (k:Int).toNat) e36)).map aC=out'.map aC∧(k' ≤q.atoms.length∧out' =qcL s q (iK (gL m) k')∧aC4 s q (iK (gL m) k')=true)∧q.atoms.length - k' <q.atoms.length - k)))))))∧((decide ((k:Int)<((q.atoms.length:Nat):Int)))=false→out.map aC=(dI s q m).map aC∧True))))) (by kernel_rfl) ?_
 intro n0 n1 n2 n3 n4
 simp only [List.length_map] at n0 n1 n2 n3 n4
 have hS:eG s=bN s.database+bT s.catalogue+cH s.dependencies+dL s.inclusions:=rfl
 have hI:=fP s.inclusions
 have hQ:iJ q=kY q.atoms:=rfl
 refine ⟨aRU s q m (by omega),fun c0=>?_,fun c0=>?_⟩
 ·replace c0:=nt c0
  have hbad:wR s q m=false:=by simpa using c0
  refine ⟨?_,trivial⟩
  ·first | (rw [qB hbad]<;>rfl) | (rw [nI hem (by rw [←hE];omega)]<;>rfl) | (rw [nH hq ha,ho])
 ·replace c0:=nf c0
  have hq:wR s q m=true:=by simpa using c0
  obtain ⟨hq1,hq2,hq3,hm1,hm2,hm3,hm4,hm5⟩:=aDT hq
  refine ⟨⟨0,([]:List aD),rfl,rfl,Nat.zero_le _,rfl,rfl⟩,fun k out ⟨hk,ho,ha⟩=>?_⟩
  have hlen:out.length≤28:=by rw [ho];have z1:=aFC s q (iK (gL m) k);have z2:=yK (gL m) k;omega
  refine ⟨List.length_map _,fun c1=>?_,fun c1=>?_⟩
  ·replace c1:=yq c1
   refine ⟨⟨by omega,by omega⟩,fun c2=>?_,fun c2=>?_⟩
   ·replace c2:=yq c2
    refine ⟨⟨by omega,by omega⟩,?_⟩
    exact ⟨k+1,_,rfl,rfl,⟨by omega,by first | (rw [ho,oA (qF (by omega))];done) | (rw [ho,mN hb,aGm,hE]),by first | (rw [oA (qF (by omega))];exact ha) | (rw [mN hb];exact aDU ha (by rw [←hE];exact c3))⟩,by omega⟩
   ·replace c2:=nq c2
    have hb:gL m k=true:=by have z:=aRA (m:=m) (v:=k) ⟨by omega,by omega⟩ (by omega);rw [decide_eq_false c2] at z;simpa using z
    have hcs:=aC6 q ((k:Nat):Int).toNat hc
    refine ⟨aM8 s q (k:Int) (by omega) (by first | assumption | exact ⟨by omega,by omega⟩),by omega,rfl,by omega,fun e36 h36=>?_⟩
    have hE:lO (gC s q ((k:Nat):Int).toNat) e36=qcA s q ((k:Nat):Int):=by rw [qcA,Int.toNat_natCast,bC h36]
    have hzl:=aGc (gC s q ((k:Nat):Int).toNat) e36
    have hcA:=aDC h36
    refine ⟨aPA (gC s q (k:Int).toNat) _ (by omega) (by omega),List.length_map _,fun c3=>?_,fun c3=>?_⟩
    ·replace c3:=yq c3
     have hem:((k:Nat):Int)∈fY m:=by rw [aJi hq];exact aLM.2 ⟨by omega,by omega,by simpa using hb⟩
     refine ⟨?_,trivial⟩
     ·first | (rw [qB hbad]<;>rfl) | (rw [nI hem (by rw [←hE];omega)]<;>rfl) | (rw [nH hq ha,ho])
    ·replace c3:=nq c3
     refine ⟨rfl,rfl,fun _=>rfl,by omega,?_⟩
     refine ⟨⟨by omega,by omega⟩,?_⟩
     exact ⟨k+1,_,rfl,rfl,⟨by omega,by first | (rw [ho,oA (qF (by omega))];done) | (rw [ho,mN hb,aGm,hE]),by first | (rw [oA (qF (by omega))];exact ha) | (rw [mN hb];exact aDU ha (by rw [←hE];exact c3))⟩,by omega⟩
  ·replace c1:=nq c1
   have hkl:q.atoms.length=k:=by omega
   rw [←hkl,←aJi hq] at ho ha
   refine ⟨?_,trivial⟩
   ·first | (rw [qB hbad]<;>rfl) | (rw [nI hem (by rw [←hE];omega)]<;>rfl) | (rw [nH hq ha,ho])
def gD (n d:Int):Bool:=eB d 1 2147483647&&eB n (-2147483647) 2147483647&&decide (Int.gcd n d=1)
theorem aMb {n d:Int} (h:gD n d=true):1≤d∧d≤2147483647∧ -2147483647≤n∧n≤2147483647∧Int.gcd n d=1:=by
 simp only [gD,Bool.and_eq_true,decide_eq_true_eq] at h
 obtain ⟨⟨h1,h2⟩,h3⟩:=h
 have:=eU h1
 have:=eU h2
 exact ⟨by omega,by omega,by omega,by omega,h3⟩
def cL (n d:Int):Int × Int × Bool:=
 if d=0 then (0,0,false) else
 let n1:=if d<0 then -n else n
 let d1:=if d<0 then -d else d
 let g:Int:=Int.gcd n1 d1
 if gD (n1.tdiv g) (d1.tdiv g)=true then (n1.tdiv g,d1.tdiv g,true) else (0,0,false)
def aRV (a b c d:Int):Int × Int × Bool:=if gD a b=true∧gD c d=true then cL (a*d+c*b) (b*d) else (0,0,false)
def aRW (a b c d:Int):Int × Int × Bool:=if gD a b=true∧gD c d=true then cL (a*c) (b*d) else (0,0,false)
def aRX (a b c d:Int):Int:=if gD a b=true∧gD c d=true then (if a*d<c*b then -1 else if c*b<a*d then 1 else 0) else 0
theorem aLX (x y:Int):Int.gcd y (x.tmod y)=Int.gcd x y:=by
 rw [Int.gcd_comm x y]
 unfold Int.gcd
 rw [Int.natAbs_tmod,Nat.gcd_comm y.natAbs (x.natAbs%y.natAbs),←Nat.gcd_rec]
theorem aSt (x:Int):(Int.gcd x 0:Int)=(if x< -x then -x else x):=by
 rw [Int.gcd_zero_right]
 split<;>omega
theorem aC9 {x y:Int} (h:y≠0):(x.tmod y).natAbs<y.natAbs:=by
 rw [Int.natAbs_tmod]
 exact Nat.mod_lt _ (by omega)
theorem aGo {x:Int} {n:Nat} (h:x.natAbs<n) (hn:n≤9223372036854775807): -9223372036854775807≤x∧x≤9223372036854775807:=by omega
theorem aRY (n g:Int) (hn: -9223372036854775807≤n∧n≤9223372036854775807): -9223372036854775807≤n.tdiv g∧n.tdiv g≤9223372036854775807:=by
 have h1:(n.tdiv g).natAbs=n.natAbs/g.natAbs:=Int.natAbs_tdiv n g
 have h2:n.natAbs/g.natAbs≤n.natAbs:=Nat.div_le_self _ _
 omega
theorem mT {n d:Int} (h:d≠0):1≤(Int.gcd n d:Int):=by
 have:0<Int.gcd n d:=Int.gcd_pos_of_ne_zero_right n h
 omega
theorem aMc (n:Int):cL n 0=(0,0,false):=by simp [cL]
theorem aPB {n d g:Int} (h:0<d) (hg:g=Int.gcd n d):cL n d=if gD (n.tdiv g) (d.tdiv g)=true then (n.tdiv g,d.tdiv g,true) else (0,0,false):=by
 subst hg
 unfold cL
 rw [if_neg (by omega)]
 simp only [if_neg (show ¬d<0 by omega)]
theorem aPC {n d g:Int} (h:d<0) (hg:g=Int.gcd (-n) (-d)):cL n d=if gD ((-n).tdiv g) ((-d).tdiv g)=true then ((-n).tdiv g,(-d).tdiv g,true) else (0,0,false):=by
 subst hg
 unfold cL
 rw [if_neg (by omega)]
 simp only [if_pos h]
theorem jT {x y:Int} (hx: -2147483647≤x∧x≤2147483647) (hy: -2147483647≤y∧y≤2147483647): -4611686014132420609≤x*y∧x*y≤4611686014132420609:=by
 have h1:(x*y).natAbs=x.natAbs*y.natAbs:=Int.natAbs_mul x y
 have h2:x.natAbs*y.natAbs≤2147483647*2147483647:=Nat.mul_le_mul (by omega) (by omega)
 omega
theorem eJ {a b c d:Int} (h:gD a b=false∨gD c d=false):aRV a b c d=(0,0,false):=by rcases h with h | h<;>simp [aRV,h]
theorem gX {a b c d:Int} (h:gD a b=true) (h' :gD c d=true):aRV a b c d=cL (a*d+c*b) (b*d):=by simp [aRV,h,h']
theorem eK {a b c d:Int} (h:gD a b=false∨gD c d=false):aRW a b c d=(0,0,false):=by rcases h with h | h<;>simp [aRW,h]
theorem gY {a b c d:Int} (h:gD a b=true) (h' :gD c d=true):aRW a b c d=cL (a*c) (b*d):=by simp [aRW,h,h']
theorem iS {a b c d:Int} (h:gD a b=false∨gD c d=false):aRX a b c d=0:=by rcases h with h | h<;>simp [aRX,h]
theorem mO {a b c d:Int} (h:gD a b=true) (h' :gD c d=true):aRX a b c d=if a*d<c*b then -1 else if c*b<a*d then 1 else 0:=by simp [aRX,h,h']
def bI (r:RationalD):Bool:=gD r.num r.den
def kS (q:Int × Int × Bool):RationalD × Bool:=(⟨q.1,q.2.1⟩,q.2.2)
def eH (a b:RationalD):RationalD × Bool:=kS (aRV a.num a.den b.num b.den)
def dQ (a b:RationalD):RationalD × Bool:=kS (aRW a.num a.den b.num b.den)
def dM (a b:RationalD):Int:=aRX a.num a.den b.num b.den
theorem iU {r:RationalD} (h:bI r=true):1≤r.den∧r.den≤2147483647∧ -2147483647≤r.num∧r.num≤2147483647∧Int.gcd r.num r.den=1:=aMb h
theorem dW {n d:Int}:Int.gcd ((n.natAbs:Nat):Int) d=Int.gcd n d:=by simp [Int.gcd]
theorem oY {n d:Int}:gD n d=(decide (1≤d∧d≤2147483647)&&(decide (-2147483647≤n∧n≤2147483647)&&decide (((Int.gcd n d:Nat):Int)=1))):=by
 have e:decide (((Int.gcd n d:Nat):Int)=1)=decide (Int.gcd n d=1):=by congr 1;simp;omega
 rw [e]
 simp only [gD,Bool.and_assoc]
 congr 1
 ·simp [eB,Bool.decide_and]
 ·congr 1
  simp [eB,Bool.decide_and]
theorem yY {k:Int} (hk:1≤k): ∀i:Nat,1≤k^i
 | 0=>by simp
 | i+1=>by
   rw [Int.pow_succ]
   have h1:=yY hk i
   have h2:1*1≤k^i*k:=Int.mul_le_mul h1 hk (by omega) (by omega)
   omega
theorem aIx {k:Int} (hk:1≤k) {i j:Nat} (h:i≤j):k^i≤k^j:=by
 obtain ⟨t,rfl⟩:=Nat.exists_eq_add_of_le h
 rw [Int.pow_add]
 have h1:=yY hk i
 have h2:=yY hk t
 have h3:k^i*1≤k^i*k^t:=Int.mul_le_mul_of_nonneg_left h2 (by omega)
 omega
theorem aUe {n:Nat} (h:n≤12):(2:Int)^n≤4096:=by
 have:=aIx (k:=2) (by omega) h
 exact Int.le_trans this (by decide)
theorem bK {i:Nat} (h:i≤12):cC ((1:Int)*2^i):=by
 have h1:=aUe h
 have h2:=yY (k:=2) (by omega) i
 exact ⟨by omega,by omega⟩
abbrev kI (n:Int) (a:Int) (c:Int):Prop:=cT Tryz.prog 96 [.one (.int .i64 n),.one (.int .i64 a),.one (.int .i64 c)] (vB (decide (a≤n∧n≤c))) []
theorem oD (n a c:Int):kI n a c:=by
 refine aT bE aL Tryz.func96 (by kernel_rfl) (.br (.fin []) (.fin [])) (p:=((decide (a≤n))=true→((decide (n≤c))=(decide (a≤n∧n≤c)))∧True)∧((decide (a≤n))=false→((false)=(decide (a≤n∧n≤c)))∧True)) (by kernel_rfl) ?_
 refine ⟨fun g10=>?_,fun g10=>?_⟩
 ·replace g10:=yq g10
  refine ⟨?_,trivial⟩
  ·first | (simp [*];done) | (simp;omega)
 ·replace g10:=nq g10
  refine ⟨?_,trivial⟩
  ·first | (simp [*];done) | (simp;omega)
abbrev iV (n:Int) (a:Int) (c:Int):Prop:=cT Tryz.prog 68 [.one (.int .i64 n),.one (.int .i64 a),.one (.int .i64 c)] (vB (decide (a≤n∧n≤c))) []
theorem lX (n a c:Int):iV n a c:=by
 refine aT bE aL Tryz.func68 (by kernel_rfl) (.br (.fin []) (.fin [])) (p:=((decide (a≤n))=true→((decide (n≤c))=(decide (a≤n∧n≤c)))∧True)∧((decide (a≤n))=false→((false)=(decide (a≤n∧n≤c)))∧True)) (by kernel_rfl) ?_
 refine ⟨fun g10=>?_,fun g10=>?_⟩
 ·replace g10:=yq g10
  refine ⟨?_,trivial⟩
  ·first | (simp [*];done) | (simp;omega)
 ·replace g10:=nq g10
  refine ⟨?_,trivial⟩
  ·first | (simp [*];done) | (simp;omega)
abbrev oZ (a:Int) (c:Int):Prop:=cT Tryz.prog 97 [.one (.int .i64 a),.one (.int .i64 c)] (vI ((Int.gcd a c:Nat):Int)) []
theorem yZ (a c:Int) (ha: -9223372036854775807≤a∧a≤9223372036854775807) (hc: -9223372036854775807≤c∧c≤9223372036854775807):oZ a c:=by
 refine aT bE aL Tryz.func97 (by kernel_rfl) (.loop (Int × Int) (Q2 Int Int) [0,1,5,6,7,8,9,10] [] (fun yy0=>[(0,vI yy0.1),(1,vI yy0.2)]) (fun yy0=>[]) (fun yy0=>(-9223372036854775807≤yy0.1∧yy0.1≤9223372036854775807)∧(-9223372036854775807≤yy0.2∧yy0.2≤9223372036854775807)∧Int.gcd yy0.1 yy0.2=Int.gcd a c) (fun yy0=>yy0.2.natAbs) (fun yy0=> .br (.back []) (.fin []))) (p:=(∃(x:Int) (y:Int),a=x∧c=y∧(-9223372036854775807≤x∧x≤9223372036854775807)∧(-9223372036854775807≤y∧y≤9223372036854775807)∧Int.gcd x y=Int.gcd a c)∧ ∀(x:Int) (y:Int),((-9223372036854775807≤x∧x≤9223372036854775807)∧(-9223372036854775807≤y∧y≤9223372036854775807)∧Int.gcd x y=Int.gcd a c)→((!(decide (y=(0:Int))))=true→y≠0∧ ∃(x' :Int) (y' :Int),y=x' ∧(Int.tmod x y)=y' ∧((-9223372036854775807≤x' ∧x' ≤9223372036854775807)∧(-9223372036854775807≤y' ∧y' ≤9223372036854775807)∧Int.gcd x' y' =Int.gcd a c)∧y'.natAbs<y.natAbs)∧((!(decide (y=(0:Int))))=false→cC (-x)∧(if x<(-x) then (-x) else x)=((Int.gcd a c:Nat):Int)∧True)) (by kernel_rfl) ?_
 refine ⟨⟨a,c,rfl,rfl,ha,hc,rfl⟩,fun x y ⟨hx,hy,hg⟩=>?_⟩
 refine ⟨fun c0=>?_,fun c0=>?_⟩
 ·replace c0:=nq (nt c0)
  refine ⟨by omega,?_⟩
  exact ⟨y,Int.tmod x y,rfl,rfl,⟨hy,aGo (aC9 c0) (by omega),by rw [aLX];exact hg⟩,aC9 c0⟩
 ·replace c0:=yq (nf c0)
  refine ⟨⟨by omega,by omega⟩,?_,trivial⟩
  ·subst c0;rw [←hg,aSt]
abbrev vP (a:Int) (c:Int):Prop:=cT Tryz.prog 93 [.one (.int .i64 a),.one (.int .i64 c)] (vI ((Int.gcd a c:Nat):Int)) []
theorem aGp (a c:Int) (ha:0≤a∧a≤9223372036854775807) (hc:0≤c∧c≤9223372036854775807):vP a c:=by
 refine aT bE aL Tryz.func93 (by kernel_rfl) (.loop (Int × Int) (Q2 Int Int) [0,1,5,6,7,8,9,10,11,12] [] (fun yy0=>[(0,vI yy0.1),(1,vI yy0.2)]) (fun yy0=>[]) (fun yy0=>(0≤yy0.1∧yy0.1≤9223372036854775807)∧(0≤yy0.2∧yy0.2≤9223372036854775807)∧Int.gcd yy0.1 yy0.2=Int.gcd a c) (fun yy0=>yy0.2.natAbs) (fun yy0=> .br (.back []) (.fin []))) (p:=(∃(x:Int) (y:Int),a=x∧c=y∧(0≤x∧x≤9223372036854775807)∧(0≤y∧y≤9223372036854775807)∧Int.gcd x y=Int.gcd a c)∧ ∀(x:Int) (y:Int),((0≤x∧x≤9223372036854775807)∧(0≤y∧y≤9223372036854775807)∧Int.gcd x y=Int.gcd a c)→((!(decide (y=(0:Int))))=true→y≠0∧ ∃(x' :Int) (y' :Int),y=x' ∧(Int.tmod x y)=y' ∧((0≤x' ∧x' ≤9223372036854775807)∧(0≤y' ∧y' ≤9223372036854775807)∧Int.gcd x' y' =Int.gcd a c)∧y'.natAbs<y.natAbs)∧((!(decide (y=(0:Int))))=false→x=((Int.gcd a c:Nat):Int)∧True)) (by kernel_rfl) ?_
 refine ⟨⟨a,c,rfl,rfl,ha,hc,rfl⟩,fun x y ⟨hx,hy,hg⟩=>?_⟩
 refine ⟨fun c0=>?_,fun c0=>?_⟩
 ·replace c0:=nq (nt c0)
  refine ⟨by omega,?_⟩
  exact ⟨y,Int.tmod x y,rfl,rfl,⟨hy,⟨Int.tmod_nonneg _ hx.1,(aGo (aC9 c0) (by omega)).2⟩,by rw [aLX];exact hg⟩,aC9 c0⟩
 ·replace c0:=yq (nf c0)
  refine ⟨?_,trivial⟩
  ·subst c0;rw [←hg,Int.gcd_zero_right];omega
abbrev vQ (n:Int):Prop:=cT Tryz.prog 94 [.one (.int .i64 n)] (vI ((n.natAbs:Nat):Int)) []
theorem aGq (n:Int) (hn: -9223372036854775807≤n∧n≤9223372036854775807):vQ n:=by
 refine aT bE aL Tryz.func94 (by kernel_rfl) (.br (.fin []) (.fin [])) (p:=((decide (n<(0:Int)))=true→cC (-n)∧(-n)=((n.natAbs:Nat):Int)∧True)∧((decide (n<(0:Int)))=false→n=((n.natAbs:Nat):Int)∧True)) (by kernel_rfl) ?_
 refine ⟨fun c0=>?_,fun c0=>?_⟩
 ·replace c0:=yq c0
  refine ⟨⟨by omega,by omega⟩,?_,trivial⟩
  ·omega
 ·replace c0:=nq c0
  refine ⟨?_,trivial⟩
  ·omega
abbrev iC (r:RationalD):Prop:=cT Tryz.prog 56 [.agg [.int .i64 r.num,.int .i64 r.den]] (vB (bI r)) []
theorem lJ (r:RationalD):iC r:=by
 refine aT bE aL Tryz.func56 (by kernel_rfl) (.call (vB (decide ((1:Int)≤r.den∧r.den≤(2147483647:Int)))) []<| .br (.call (vB (decide ((-2147483647:Int)≤r.num∧r.num≤(2147483647:Int)))) []<| .lit<| .br (.call (vI ((Int.gcd r.num r.den:Nat):Int)) []<| .fin []) (.fin [])) (.fin [])) (p:=kI r.den (1:Int) (2147483647:Int)∧(((decide ((1:Int)≤r.den∧r.den≤(2147483647:Int)))=true→kI r.num (-2147483647:Int) (2147483647:Int)∧(((decide ((-2147483647:Int)≤r.num∧r.num≤(2147483647:Int)))=true→oZ r.num r.den∧(decide (((Int.gcd r.num r.den:Nat):Int)=(1:Int)))=(bI r)∧True)∧((decide ((-2147483647:Int)≤r.num∧r.num≤(2147483647:Int)))=false→(false)=(bI r)∧True)))∧((decide ((1:Int)≤r.den∧r.den≤(2147483647:Int)))=false→(false)=(bI r)∧True))) (by kernel_rfl) ?_
 refine ⟨oD _ _ _,fun g6=>?_,fun g6=>?_⟩
 ·replace g6:=yq g6
  refine ⟨oD _ _ _,fun g11=>?_,fun g11=>?_⟩
  ·replace g11:=yq g11
   refine ⟨yZ _ _ (by first | omega | (dsimp only;omega)) (by first | omega | (dsimp only;omega)),?_,trivial⟩
   ·(try rw [dW]);rw [bI,oY];simp [*]
  ·replace g11:=nq g11
   refine ⟨?_,trivial⟩
   ·(try rw [dW]);rw [bI,oY];simp [*]
 ·replace g6:=nq g6
  refine ⟨?_,trivial⟩
  ·(try rw [dW]);rw [bI,oY];simp [*]
abbrev jP (r:RationalD):Prop:=cT Tryz.prog 53 [.agg [.int .i64 r.num,.int .i64 r.den]] (vB (bI r)) []
theorem mP (r:RationalD):jP r:=by
 refine aT bE aL Tryz.func53 (by kernel_rfl) (.call (vB (decide ((1:Int)≤r.den∧r.den≤(2147483647:Int)))) []<| .br (.call (vB (decide ((-2147483647:Int)≤r.num∧r.num≤(2147483647:Int)))) []<| .lit<| .br (.call (vI ((r.num.natAbs:Nat):Int)) []<| .call (vI ((Int.gcd ((r.num.natAbs:Nat):Int) r.den:Nat):Int)) []<| .fin []) (.fin [])) (.fin [])) (p:=iV r.den (1:Int) (2147483647:Int)∧(((decide ((1:Int)≤r.den∧r.den≤(2147483647:Int)))=true→iV r.num (-2147483647:Int) (2147483647:Int)∧(((decide ((-2147483647:Int)≤r.num∧r.num≤(2147483647:Int)))=true→vQ r.num∧vP ((r.num.natAbs:Nat):Int) r.den∧(decide (((Int.gcd ((r.num.natAbs:Nat):Int) r.den:Nat):Int)=(1:Int)))=(bI r)∧True)∧((decide ((-2147483647:Int)≤r.num∧r.num≤(2147483647:Int)))=false→(false)=(bI r)∧True)))∧((decide ((1:Int)≤r.den∧r.den≤(2147483647:Int)))=false→(false)=(bI r)∧True))) (by kernel_rfl) ?_
 refine ⟨lX _ _ _,fun g6=>?_,fun g6=>?_⟩
 ·replace g6:=yq g6
  refine ⟨lX _ _ _,fun g11=>?_,fun g11=>?_⟩
  ·replace g11:=yq g11
   refine ⟨aGq _ (by first | omega | (dsimp only;omega)),aGp _ _ (by first | omega | (dsimp only;omega)) (by first | omega | (dsimp only;omega)),?_,trivial⟩
   ·(try rw [dW]);rw [bI,oY];simp [*]
  ·replace g11:=nq g11
   refine ⟨?_,trivial⟩
   ·(try rw [dW]);rw [bI,oY];simp [*]
 ·replace g6:=nq g6
  refine ⟨?_,trivial⟩
  ·(try rw [dW]);rw [bI,oY];simp [*]
def kN (m:Int) (l:List Int):Nat→Int
 | 0=>0
 | k+1=>if (k<4∧0≤l.getD k 0∧l.getD k 0≤3)∧cF .and .i64 (m/2^(l.getD k 0).toNat) 1=1 then cF .or .i64 (kN m l k) (1*2^k) else kN m l k
def gQ (m:Int) (l:List Int):Int:=kN m l l.length
theorem pA {m:Int} {l:List Int} {k:Nat} {x:Int} (hx:l[k]? =some x) (h:(k<4∧0≤x∧x≤3)∧cF .and .i64 (m/2^x.toNat) 1=1):kN m l (k+1)=cF .or .i64 (kN m l k) (1*2^k):=by
 have e:l.getD k 0=x:=by simp [List.getD_eq_getElem?_getD,hx]
 rw [kN,e,if_pos h]
theorem rY {m:Int} {l:List Int} {k:Nat} {x:Int} (hx:l[k]? =some x) (h: ¬((k<4∧0≤x∧x≤3)∧cF .and .i64 (m/2^x.toNat) 1=1)):kN m l (k+1)=kN m l k:=by
 have e:l.getD k 0=x:=by simp [List.getD_eq_getElem?_getD,hx]
 rw [kN,e,if_neg h]
theorem aGr {m:Int} {l:List Int} {k:Nat} (h:4≤k):kN m l k=kN m l 4:=by
 induction k with
 | zero=>omega
 | succ k ih=>
   by_cases h4:k+1=4
   ·rw [h4]
   ·rw [kN,if_neg (by omega),ih (by omega)]
def mQ (l:List Int) (c:aD):aD:=⟨gQ c.src l,gQ c.dst l,c.bits⟩
abbrev aDV (m:Int) (l:List Int):Prop:=cT Tryz.prog 121 [.one (.int .i64 m),.ref [.sl 3 1 (l.map intD)]] (vI (gQ m l)) []
theorem aN3 (m:Int) (l:List Int):aDV m l:=by
 refine aT bE aL Tryz.func121 (by kernel_rfl) (.len l.length<| .loop (Nat × Int) (Q2 Nat Int) [4,5,6,9,10,11,12,13,14,15,16,17,18,19,20,21,22,23,24,25,26,27,28,29,30,31] [] (fun yy0=>[(4,vI yy0.2),(9,vI (yy0.1:Int))]) (fun yy0=>[]) (fun yy0=>yy0.1≤l.length∧yy0.2=kN m l yy0.1) (fun yy0=>l.length - yy0.1) (fun yy0=> .br (.elem _ intD l (fun e12=> .br (.call (vB (decide ((0:Int)≤e12∧e12≤(3:Int)))) []<| .lit<| .br (.lit<| .lit<| .lit<| .lit<| .lit<| .br (.back []) (.back [])) (.back [])) (.back []))) (.fin []))) (p:=(l.map intD).length≤9223372036854775807→Lm intD l∧((∃(k:Nat) (o:Int),(0:Int)=o∧(0:Int)=(k:Int)∧k≤l.length∧o=kN m l k)∧ ∀(k:Nat) (o:Int),(k≤l.length∧o=kN m l k)→((decide ((k:Int)<((l.length:Nat):Int)))=true→0≤(k:Int)∧Em intD l k fun e12=>((decide ((k:Int)<(4:Int)))=true→kI e12 (0:Int) (3:Int)∧(((decide ((0:Int)≤e12∧e12≤(3:Int)))=true→(0≤e12∧e12≤64)∧(((decide ((cF .and .i64 (m/2^(Int.toNat e12)) (1:Int))=(1:Int)))=true→(0≤(k:Int)∧(k:Int)≤64)∧cC ((1:Int)*2^k)∧cC ((k:Int)+(1:Int))∧ ∃(k' :Nat) (o' :Int),(cF .or .i64 o ((1:Int)*2^k))=o' ∧((k:Int)+(1:Int))=(k' :Int)∧(k' ≤l.length∧o' =kN m l k')∧l.length - k' <l.length - k)∧((decide ((cF .and .i64 (m/2^(Int.toNat e12)) (1:Int))=(1:Int)))=false→cC ((k:Int)+(1:Int))∧ ∃(k' :Nat) (o' :Int),o=o' ∧((k:Int)+(1:Int))=(k' :Int)∧(k' ≤l.length∧o' =kN m l k')∧l.length - k' <l.length - k)))∧((decide ((0:Int)≤e12∧e12≤(3:Int)))=false→cC ((k:Int)+(1:Int))∧ ∃(k' :Nat) (o' :Int),o=o' ∧((k:Int)+(1:Int))=(k' :Int)∧(k' ≤l.length∧o' =kN m l k')∧l.length - k' <l.length - k)))∧((decide ((k:Int)<(4:Int)))=false→cC ((k:Int)+(1:Int))∧ ∃(k' :Nat) (o' :Int),o=o' ∧((k:Int)+(1:Int))=(k' :Int)∧(k' ≤l.length∧o' =kN m l k')∧l.length - k' <l.length - k))∧((decide ((k:Int)<((l.length:Nat):Int)))=false→o=(gQ m l)∧True))) (by kernel_rfl) ?_
 intro n0
 simp only [List.length_map] at n0
 refine ⟨List.length_map _,⟨0,(0:Int),rfl,rfl,Nat.zero_le _,rfl⟩,fun k o ⟨hk,hv⟩=>?_⟩
 refine ⟨fun c0=>?_,fun c0=>?_⟩
 ·replace c0:=yq c0
  refine ⟨by omega,rfl,by omega,fun e12 h12=>?_⟩
  have hk2:=h12
  refine ⟨fun g16=>?_,fun g16=>?_⟩
  ·replace g16:=yq g16
   refine ⟨oD _ _ _,fun g20=>?_,fun g20=>?_⟩
   ·replace g20:=yq g20
    refine ⟨⟨by omega,by omega⟩,fun c1=>?_,fun c1=>?_⟩
    ·replace c1:=yq c1
     refine ⟨⟨by omega,by omega⟩,by first | exact bK (by omega) | exact ⟨by omega,by omega⟩,by first | exact bK (by omega) | exact ⟨by omega,by omega⟩,?_⟩
     exact ⟨k+1,cF .or .i64 o ((1:Int)*2^k),rfl,rfl,⟨by omega,by first | (rw [pA hk2 (by refine ⟨⟨by omega,by omega,by omega⟩,by assumption⟩),hv];done) | (rw [rY hk2 (by rintro ⟨⟨_,_,_⟩,_⟩;first | omega | contradiction),hv];done)⟩,by omega⟩
    ·replace c1:=nq c1
     refine ⟨by first | exact bK (by omega) | exact ⟨by omega,by omega⟩,?_⟩
     exact ⟨k+1,o,rfl,rfl,⟨by omega,by first | (rw [pA hk2 (by refine ⟨⟨by omega,by omega,by omega⟩,by assumption⟩),hv];done) | (rw [rY hk2 (by rintro ⟨⟨_,_,_⟩,_⟩;first | omega | contradiction),hv];done)⟩,by omega⟩
   ·replace g20:=nq g20
    refine ⟨by first | exact bK (by omega) | exact ⟨by omega,by omega⟩,?_⟩
    exact ⟨k+1,o,rfl,rfl,⟨by omega,by first | (rw [pA hk2 (by refine ⟨⟨by omega,by omega,by omega⟩,by assumption⟩),hv];done) | (rw [rY hk2 (by rintro ⟨⟨_,_,_⟩,_⟩;first | omega | contradiction),hv];done)⟩,by omega⟩
  ·replace g16:=nq g16
   refine ⟨by first | exact bK (by omega) | exact ⟨by omega,by omega⟩,?_⟩
   exact ⟨k+1,o,rfl,rfl,⟨by omega,by first | (rw [pA hk2 (by refine ⟨⟨by omega,by omega,by omega⟩,by assumption⟩),hv];done) | (rw [rY hk2 (by rintro ⟨⟨_,_,_⟩,_⟩;first | omega | contradiction),hv];done)⟩,by omega⟩
 ·replace c0:=nq c0
  refine ⟨?_,trivial⟩
  ·rw [hv,gQ,show k=l.length by omega]
abbrev aDW (m:Int) (l:List Int):Prop:=cT Tryz.prog 107 [.one (.int .i64 m),.one (.sl 3 1 (l.map intD))] (vI (gQ m l)) []
theorem aN4 (m:Int) (l:List Int):aDW m l:=by
 refine aT bE aL Tryz.func107 (by kernel_rfl) (.loop (Nat × Int) (Q2 Nat Int) [5,6,7,8,9,10,11,12,13,14,15,16,17,18,19,20,21,22,23,24,25,26,27,28,29,30,31,32,33,34,35] [] (fun yy0=>[(5,vI yy0.2),(6,vI (yy0.1:Int))]) (fun yy0=>[]) (fun yy0=>(yy0.1≤l.length∧yy0.1≤4)∧yy0.2=kN m l yy0.1) (fun yy0=>l.length - yy0.1) (fun yy0=> .len l.length<| .br (.lit<| .lit<| .br (.elem _ intD l (fun e19=> .call (vB (decide ((0:Int)≤e19∧e19≤(3:Int)))) []<| .br (.elem _ intD l (fun e26=> .lit<| .lit<| .lit<| .lit<| .lit<| .br (.back []) (.back []))) (.back []))) (.fin [])) (.fin []))) (p:=(l.map intD).length≤9223372036854775807→(∃(k:Nat) (o:Int),(0:Int)=o∧(0:Int)=(k:Int)∧(k≤l.length∧k≤4)∧o=kN m l k)∧ ∀(k:Nat) (o:Int),((k≤l.length∧k≤4)∧o=kN m l k)→Lm intD l∧(((decide ((k:Int)<((l.length:Nat):Int)))=true→((decide ((k:Int)<(4:Int)))=true→0≤(k:Int)∧Em intD l k fun e19=>iV e19 (0:Int) (3:Int)∧(((decide ((0:Int)≤e19∧e19≤(3:Int)))=true→0≤(k:Int)∧Em intD l k fun e26=>(0≤e26∧e26≤64)∧(((decide ((cF .and .i64 (m/2^(Int.toNat e26)) (1:Int))=(1:Int)))=true→(0≤(k:Int)∧(k:Int)≤64)∧cC ((1:Int)*2^k)∧cC ((k:Int)+(1:Int))∧ ∃(k' :Nat) (o' :Int),(cF .or .i64 o ((1:Int)*2^k))=o' ∧((k:Int)+(1:Int))=(k' :Int)∧((k' ≤l.length∧k' ≤4)∧o' =kN m l k')∧l.length - k' <l.length - k)∧((decide ((cF .and .i64 (m/2^(Int.toNat e26)) (1:Int))=(1:Int)))=false→cC ((k:Int)+(1:Int))∧ ∃(k' :Nat) (o' :Int),o=o' ∧((k:Int)+(1:Int))=(k' :Int)∧((k' ≤l.length∧k' ≤4)∧o' =kN m l k')∧l.length - k' <l.length - k)))∧((decide ((0:Int)≤e19∧e19≤(3:Int)))=false→cC ((k:Int)+(1:Int))∧ ∃(k' :Nat) (o' :Int),o=o' ∧((k:Int)+(1:Int))=(k' :Int)∧((k' ≤l.length∧k' ≤4)∧o' =kN m l k')∧l.length - k' <l.length - k)))∧((decide ((k:Int)<(4:Int)))=false→o=(gQ m l)∧True))∧((decide ((k:Int)<((l.length:Nat):Int)))=false→o=(gQ m l)∧True))) (by kernel_rfl) ?_
 intro n0
 simp only [List.length_map] at n0
 refine ⟨⟨0,(0:Int),rfl,rfl,⟨Nat.zero_le _,by omega⟩,rfl⟩,fun k o ⟨hk,hv⟩=>?_⟩
 refine ⟨List.length_map _,fun g11=>?_,fun g11=>?_⟩
 ·replace g11:=yq g11
  refine ⟨fun c0=>?_,fun c0=>?_⟩
  ·replace c0:=yq c0
   refine ⟨by omega,rfl,by omega,fun e19 h19=>?_⟩
   have hk2:=h19
   refine ⟨lX _ _ _,fun g22=>?_,fun g22=>?_⟩
   ·replace g22:=yq g22
    refine ⟨by omega,rfl,by omega,fun e26 h26=>?_⟩
    obtain rfl:=(aY hk2 h26).symm
    refine ⟨⟨by omega,by omega⟩,fun c1=>?_,fun c1=>?_⟩
    ·replace c1:=yq c1
     refine ⟨⟨by omega,by omega⟩,by first | exact bK (by omega) | exact ⟨by omega,by omega⟩,by first | exact bK (by omega) | exact ⟨by omega,by omega⟩,?_⟩
     exact ⟨k+1,cF .or .i64 o ((1:Int)*2^k),rfl,rfl,⟨by omega,by first | (rw [pA hk2 (by refine ⟨⟨by omega,by omega,by omega⟩,by assumption⟩),hv];done) | (rw [rY hk2 (by rintro ⟨⟨_,_,_⟩,_⟩;first | omega | contradiction),hv];done)⟩,by omega⟩
    ·replace c1:=nq c1
     refine ⟨by first | exact bK (by omega) | exact ⟨by omega,by omega⟩,?_⟩
     exact ⟨k+1,o,rfl,rfl,⟨by omega,by first | (rw [pA hk2 (by refine ⟨⟨by omega,by omega,by omega⟩,by assumption⟩),hv];done) | (rw [rY hk2 (by rintro ⟨⟨_,_,_⟩,_⟩;first | omega | contradiction),hv];done)⟩,by omega⟩
   ·replace g22:=nq g22
    refine ⟨by first | exact bK (by omega) | exact ⟨by omega,by omega⟩,?_⟩
    exact ⟨k+1,o,rfl,rfl,⟨by omega,by first | (rw [pA hk2 (by refine ⟨⟨by omega,by omega,by omega⟩,by assumption⟩),hv];done) | (rw [rY hk2 (by rintro ⟨⟨_,_,_⟩,_⟩;first | omega | contradiction),hv];done)⟩,by omega⟩
  ·replace c0:=nq c0
   refine ⟨?_,trivial⟩
   ·first | (rw [hv,gQ,show k=l.length by omega];done) | (rw [hv,gQ,aGr (k:=l.length) (by omega),show k=4 by omega];done)
 ·replace g11:=nq g11
  refine ⟨?_,trivial⟩
  ·first | (rw [hv,gQ,show k=l.length by omega];done) | (rw [hv,gQ,aGr (k:=l.length) (by omega),show k=4 by omega];done)
abbrev aBR (l:List aD) (v:List Int):AV × List (Nat × Rs):=(.own 0,[(0,.arr 164 3 true ((l.map (mQ v)).map aC))])
abbrev aGs (l:List aD) (v:List Int):Prop:=cT Tryz.prog 81 [.one (.sl 164 3 (l.map aC)),.one (.sl 3 1 (v.map intD))] (aBR l v).1 (aBR l v).2
theorem aRZ (l:List aD) (v:List Int) (hl:l.length≤1048576):aGs l v:=by
 refine aT bE aL Tryz.func81 (by kernel_rfl) (.len l.length<| .loop (Nat × (List aD)) (Q2 Nat (List aD)) [6,8,10,13,14,15,16,17,18,19,20,21,22,23,24,25,26,27,28,29,30,31] [800,1000,2900,3000] (fun yy0=>[(6,.own 1000),(13,vI (yy0.1:Int))]) (fun yy0=>[(1000,some (.arr 164 3 true (yy0.2.map aC)))]) (fun yy0=>yy0.1≤l.length∧yy0.2=(l.take yy0.1).map (mQ v)) (fun yy0=>l.length - yy0.1) (fun yy0=> .br (.elem _ aC l (fun e15=> .call (vI (gQ e15.src v)) []<| .call (vI (gQ e15.dst v)) []<| .app aD aC yy0.2 ([(⟨gQ e15.src v,gQ e15.dst v,e15.bits⟩:aD)]:List aD)<| .back [(1000,3000)])) (.fin [(0,1000)]))) (p:=(l.map aC).length≤9223372036854775807→(v.map intD).length≤9223372036854775807→Lm aC l∧((∃(k:Nat) (out:List aD),(0:Int)=(k:Int)∧[]=out.map aC∧k≤l.length∧out=(l.take k).map (mQ v))∧ ∀(k:Nat) (out:List aD),(k≤l.length∧out=(l.take k).map (mQ v))→((decide ((k:Int)<((l.length:Nat):Int)))=true→0≤(k:Int)∧Em aC l k fun e15=>aDV e15.src v∧aDV e15.dst v∧out.map aC=out.map aC∧[[.int .i64 (gQ e15.src v),.int .i64 (gQ e15.dst v),.int .i64 e15.bits]]=([(⟨gQ e15.src v,gQ e15.dst v,e15.bits⟩:aD)]:List aD).map aC∧(∀x,eL (aC x)=true)∧(out.length+([(⟨gQ e15.src v,gQ e15.dst v,e15.bits⟩:aD)]:List aD).length)*24≤140737488355328∧cC ((k:Int)+(1:Int))∧ ∃(k' :Nat) (out' :List aD),((k:Int)+(1:Int))=(k' :Int)∧(out++[(⟨gQ e15.src v,gQ e15.dst v,e15.bits⟩:aD)]).map aC=out'.map aC∧(k' ≤l.length∧out' =(l.take k').map (mQ v))∧l.length - k' <l.length - k)∧((decide ((k:Int)<((l.length:Nat):Int)))=false→out.map aC=(l.map (mQ v)).map aC∧True))) (by kernel_rfl) ?_
 intro n0 n1
 simp only [List.length_map] at n0 n1
 refine ⟨List.length_map _,⟨0,([]:List aD),rfl,rfl,Nat.zero_le _,rfl⟩,fun k out ⟨hk,ho⟩=>?_⟩
 refine ⟨fun c0=>?_,fun c0=>?_⟩
 ·replace c0:=yq c0
  refine ⟨by omega,rfl,by omega,fun e15 h15=>?_⟩
  have hk2:=h15
  refine ⟨aN3 _ _,aN3 _ _,rfl,rfl,fun _=>rfl,by simp [ho];omega,?_⟩
  refine ⟨⟨by omega,by omega⟩,?_⟩
  exact ⟨k+1,_,rfl,rfl,⟨by omega,by rw [ho,bO hk2,List.map_append];rfl⟩,by omega⟩
 ·replace c0:=nq c0
  refine ⟨?_,trivial⟩
  ·rw [ho,List.take_of_length_le (by omega)]
abbrev aBS (l:List aD) (v:List Int):AV × List (Nat × Rs):=(.own 0,[(0,.arr 164 3 true ((l.map (mQ v)).map aC))])
abbrev aGt (l:List aD) (v:List Int):Prop:=cT Tryz.prog 67 [.one (.sl 164 3 (l.map aC)),.one (.sl 3 1 (v.map intD))] (aBS l v).1 (aBS l v).2
theorem aR0 (l:List aD) (v:List Int) (hl:l.length≤1048576):aGt l v:=by
 refine aT bE aL Tryz.func67 (by kernel_rfl) (.loop (Nat × (List aD)) (Q2 Nat (List aD)) [5,6,7,8,9,10,11,12,13,14,15,16,17,18,19,20,21,22,23,24,25,26,27,28,29,30,31,32,33,34,35,36] [700,3500,3600] (fun yy0=>[(5,.own 700),(6,vI (yy0.1:Int))]) (fun yy0=>[(700,some (.arr 164 3 true (yy0.2.map aC)))]) (fun yy0=>yy0.1≤l.length∧yy0.2=(l.take yy0.1).map (mQ v)) (fun yy0=>l.length - yy0.1) (fun yy0=> .len l.length<| .br (.elem _ aC l (fun e17=> .call (vI (gQ e17.src v)) []<| .elem _ aC l (fun e24=> .call (vI (gQ e24.dst v)) []<| .elem _ aC l (fun e31=> .app aD aC yy0.2 ([(⟨gQ e17.src v,gQ e24.dst v,e31.bits⟩:aD)]:List aD)<| .back [(700,3600)])))) (.fin [(0,700)]))) (p:=(l.map aC).length≤9223372036854775807→(v.map intD).length≤9223372036854775807→(∃(k:Nat) (out:List aD),(0:Int)=(k:Int)∧[]=out.map aC∧k≤l.length∧out=(l.take k).map (mQ v))∧ ∀(k:Nat) (out:List aD),(k≤l.length∧out=(l.take k).map (mQ v))→Lm aC l∧(((decide ((k:Int)<((l.length:Nat):Int)))=true→0≤(k:Int)∧Em aC l k fun e17=>aDW e17.src v∧0≤(k:Int)∧Em aC l k fun e24=>aDW e24.dst v∧0≤(k:Int)∧Em aC l k fun e31=>out.map aC=out.map aC∧[[.int .i64 (gQ e17.src v),.int .i64 (gQ e24.dst v),.int .i64 e31.bits]]=([(⟨gQ e17.src v,gQ e24.dst v,e31.bits⟩:aD)]:List aD).map aC∧(∀x,eL (aC x)=true)∧(out.length+([(⟨gQ e17.src v,gQ e24.dst v,e31.bits⟩:aD)]:List aD).length)*24≤140737488355328∧cC ((k:Int)+(1:Int))∧ ∃(k' :Nat) (out' :List aD),((k:Int)+(1:Int))=(k' :Int)∧(out++[(⟨gQ e17.src v,gQ e24.dst v,e31.bits⟩:aD)]).map aC=out'.map aC∧(k' ≤l.length∧out' =(l.take k').map (mQ v))∧l.length - k' <l.length - k)∧((decide ((k:Int)<((l.length:Nat):Int)))=false→out.map aC=(l.map (mQ v)).map aC∧True))) (by kernel_rfl) ?_
 intro n0 n1
 simp only [List.length_map] at n0 n1
 refine ⟨⟨0,([]:List aD),rfl,rfl,Nat.zero_le _,rfl⟩,fun k out ⟨hk,ho⟩=>?_⟩
 refine ⟨List.length_map _,fun c0=>?_,fun c0=>?_⟩
 ·replace c0:=yq c0
  refine ⟨by omega,rfl,by omega,fun e17 h17=>?_⟩
  have hk2:=h17
  refine ⟨aN4 _ _,by omega,rfl,by omega,fun e24 h24=>?_⟩
  obtain rfl:=(aY hk2 h24).symm
  refine ⟨aN4 _ _,by omega,rfl,by omega,fun e31 h31=>?_⟩
  obtain rfl:=(aY hk2 h31).symm
  refine ⟨rfl,rfl,fun _=>rfl,by simp [ho];omega,?_⟩
  refine ⟨⟨by omega,by omega⟩,?_⟩
  exact ⟨k+1,_,rfl,rfl,⟨by omega,by rw [ho,bO hk2,List.map_append];rfl⟩,by omega⟩
 ·replace c0:=nq c0
  refine ⟨?_,trivial⟩
  ·rw [ho,List.take_of_length_le (by omega)]
end Go.Proofs.YtdfebigfnjfgpaaGreat
