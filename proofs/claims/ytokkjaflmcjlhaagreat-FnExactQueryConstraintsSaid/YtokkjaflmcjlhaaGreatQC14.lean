/-
  Contracts and plain laws, joined: part 15.
-/
import Derived.Test.YtokkjaflmcjlhaaGreatQC13
import Derived.Test.YtokkjaflmcjlhaaGreatQC12
import Derived.Test.YtokkjaflmcjlhaaGreatQC3
namespace Go.Proofs.YtokkjaflmcjlhaaGreat
open Go.ChangeShapes Go.WideShapes Go.ChangeAt Go.RowKit
set_option linter.unusedVariables false
set_option linter.unusedSimpArgs false
set_option maxRecDepth 100000
set_option maxHeartbeats 4000000
abbrev aFS (s:StoreD) (q:QueryD) (m:Int):Prop:=dG Tryz.prog 91 [.agg [.sl 162 3 (s.database.tables.map aP),.int .i64 s.catalogue.version,.sl 121 4 (s.catalogue.tables.map aC),.sl 168 3 (s.dependencies.map aJ),.sl 170 4 (s.inclusions.map aM)],.agg [.int .i64 q.variableCount,.sl 131 2 (q.atoms.map bC)],.one (.int .i64 m)] (vB (vL s q m)) []
theorem aOh (s:StoreD) (q:QueryD) (m:Int) (hc:eD s≤1048576):aFS s q m:=by
 refine aY bK aU Tryz.func91 (by kernel_rfl) (.call (vB (eK s)) []<| .br (.call (vB (dR s.database q)) []<| .lit<| .br (.call (vI (lU q)) []<| .call (vB (dP m (1:Int) (lU q))) []<| .fin []) (.fin [])) (.fin [])) (p:=(s.database.tables.map aP).length≤9223372036854775807→(s.catalogue.tables.map aC).length≤9223372036854775807→(s.dependencies.map aJ).length≤9223372036854775807→(s.inclusions.map aM).length≤9223372036854775807→(q.atoms.map bC).length≤9223372036854775807→aCv s∧(((eK s)=true→aFO s.database q∧(((dR s.database q)=true→aCz q∧eZ m (1:Int) (lU q)∧(dP m (1:Int) (lU q))=(vL s q m)∧True)∧((dR s.database q)=false→(false)=(vL s q m)∧True)))∧((eK s)=false→(false)=(vL s q m)∧True))) (by kernel_rfl) ?_
 intro n0 n1 n2 n3 n4
 simp only [List.length_map] at n0 n1 n2 n3 n4
 have hS:eD s=bF s.database+bM s.catalogue+bW s.dependencies+cV s.inclusions:=rfl
 have hI:=iC s.inclusions
 refine ⟨aM3 _ (by omega),fun g9=>?_,fun g9=>?_⟩
 ·refine ⟨aOc s.database _ (by omega),fun g15=>?_,fun g15=>?_⟩
  ·refine ⟨aM8 _,iK _ _ _,?_,trivial⟩
   ·first | (rw [vL,g9];rfl) | (rw [vL,g9,g15];rfl)
  ·refine ⟨?_,trivial⟩
   ·first | (rw [vL,g9];rfl) | (rw [vL,g9,g15];rfl)
 ·refine ⟨?_,trivial⟩
  ·first | (rw [vL,g9];rfl) | (rw [vL,g9,g15];rfl)
abbrev uH (s:StoreD) (q:QueryD) (i:Int):AV × List (Nat × Rs):=(.agg [.p none (.str ((fC s q i.toNat).name)),vI ((fC s q i.toNat).arity),vI ((fC s q i.toNat).rowCount),.p none (.sl 218 3 (((fC s q i.toNat).groups).map aA))],[])
abbrev aB3 (s:StoreD) (q:QueryD) (i:Int):Prop:=dG Tryz.prog 92 [.agg [.sl 162 3 (s.database.tables.map aP),.int .i64 s.catalogue.version,.sl 121 4 (s.catalogue.tables.map aC),.sl 168 3 (s.dependencies.map aJ),.sl 170 4 (s.inclusions.map aM)],.agg [.int .i64 q.variableCount,.sl 131 2 (q.atoms.map bC)],.one (.int .i64 i)] (uH s q i).1 (uH s q i).2
theorem aKZ (s:StoreD) (q:QueryD) (i:Int) (hc:eD s≤1048576) (hi:0≤i∧i.toNat<q.atoms.length):aB3 s q i:=by
 refine aY bK aU Tryz.func92 (by kernel_rfl) (.elem _ bC q.atoms (fun e15=> .call (.tup [.agg [.p none (.str (((cT s.catalogue e15.name).1).name)),vI (((cT s.catalogue e15.name).1).arity),vI (((cT s.catalogue e15.name).1).rowCount),.p none (.sl 218 3 ((((cT s.catalogue e15.name).1).groups).map aA))],vB ((cT s.catalogue e15.name).2)]) []<| .fin [])) (p:=(s.database.tables.map aP).length≤9223372036854775807→(s.catalogue.tables.map aC).length≤9223372036854775807→(s.dependencies.map aJ).length≤9223372036854775807→(s.inclusions.map aM).length≤9223372036854775807→(q.atoms.map bC).length≤9223372036854775807→0≤i∧Em bC q.atoms ((i).toNat) fun e15=>dG Tryz.prog 166 [.agg [.int .i64 s.catalogue.version,.sl 121 4 (s.catalogue.tables.map aC)],.one (.str e15.name)] (.tup [.agg [.p none (.str (((cT s.catalogue e15.name).1).name)),vI (((cT s.catalogue e15.name).1).arity),vI (((cT s.catalogue e15.name).1).rowCount),.p none (.sl 218 3 ((((cT s.catalogue e15.name).1).groups).map aA))],vB ((cT s.catalogue e15.name).2)]) []∧(((cT s.catalogue e15.name).1).name)=((fC s q i.toNat).name)∧(((cT s.catalogue e15.name).1).arity)=((fC s q i.toNat).arity)∧(((cT s.catalogue e15.name).1).rowCount)=((fC s q i.toNat).rowCount)∧(((cT s.catalogue e15.name).1).groups).map aA=((fC s q i.toNat).groups).map aA∧True) (by kernel_rfl) ?_
 intro n0 n1 n2 n3 n4
 simp only [List.length_map] at n0 n1 n2 n3 n4
 have hS:eD s=bF s.database+bM s.catalogue+bW s.dependencies+cV s.inclusions:=rfl
 have hI:=iC s.inclusions
 refine ⟨by omega,rfl,by omega,fun e15 h15=>?_⟩
 refine ⟨iX (aM5 s.catalogue e15.name (by omega)) rfl,?_,?_,?_,?_,trivial⟩
 ·(rw [fC,bD h15]<;>rfl)
 ·(rw [fC,bD h15]<;>rfl)
 ·(rw [fC,bD h15]<;>rfl)
 ·(rw [fC,bD h15]<;>rfl)
theorem aB4 {s:StoreD} (q:QueryD) (i:Nat) (hc:eD s≤1048576):aW (fC s q i)≤1048576:=by
 have h1:=aJZ s.catalogue (q.atoms.getD i pB).name
 have hS:eD s=bF s.database+bM s.catalogue+bW s.dependencies+cV s.inclusions:=rfl
 unfold fC
 omega
abbrev pJ (s:StoreD) (q:QueryD) (m:Int):AV × List (Nat × Rs):=(.own 0,[(0,.arr 149 3 true ((fD s q m).map aD))])
abbrev uI (s:StoreD) (q:QueryD) (m:Int):Prop:=dG Tryz.prog 53 [.agg [.sl 162 3 (s.database.tables.map aP),.int .i64 s.catalogue.version,.sl 121 4 (s.catalogue.tables.map aC),.sl 168 3 (s.dependencies.map aJ),.sl 170 4 (s.inclusions.map aM)],.agg [.int .i64 q.variableCount,.sl 131 2 (q.atoms.map bC)],.one (.int .i64 m)] (pJ s q m).1 (pJ s q m).2
theorem aFT (s:StoreD) (q:QueryD) (m:Int) (hc:eD s≤1048576) (hcq:jY q≤1048576):uI s q m:=by
 refine aY bK aU Tryz.func53 (by kernel_rfl) (.call (vB (eK s)) []<| .br (.fin []) (.call (vB (dR s.database q)) []<| .lit<| .lit<| .br (.fin []) (.call (vI (lU q)) []<| .call (vB (dP m (1:Int) (lU q))) []<| .lit<| .lit<| .br (.fin []) (cI (aA2 m)<| .len ((eX m).length)<| .loop (Nat × (List aF)) (Q2 Nat (List aF)) [7,9,10,11,12,30,34,35,36,37,38,39,40,41,42,43,44,45,46,47,48,49,50,51,52,53,54,55,56,57,58,59,60,61,62,63] [1000,3000,5600,6200] (fun yy0=>[(34,vI (yy0.1:Int)),(7,.own 3000)]) (fun yy0=>[(3000,some (.arr 149 3 true (yy0.2.map aD)))]) (fun yy0=>yy0.1≤(eX m).length∧yy0.2=qcL s q ((eX m).take yy0.1)∧aB2 s q ((eX m).take yy0.1)=true) (fun yy0=>(eX m).length - yy0.1) (fun yy0=> .br (.len ((eX m).length)<| .elem _ intD (eX m) (fun e37=> .elem _ bC q.atoms (fun e44=> .call (.tup [.agg [.p none (.str (((cT s.catalogue e44.name).1).name)),vI (((cT s.catalogue e44.name).1).arity),vI (((cT s.catalogue e44.name).1).rowCount),.p none (.sl 218 3 ((((cT s.catalogue e44.name).1).groups).map aA))],vB ((cT s.catalogue e44.name).2)]) []<| .elem _ bC q.atoms (fun e54=>cI (xL ((cT s.catalogue e44.name).1) e54)<| .len ((kG ((cT s.catalogue e44.name).1) e54).length)<| .br (.fin []) (.app aF aD yy0.2 (kG ((cT s.catalogue e44.name).1) e54)<| .back [(3000,6200)]))))) (.fin [(0,3000)])))))) (p:=(s.database.tables.map aP).length≤9223372036854775807→(s.catalogue.tables.map aC).length≤9223372036854775807→(s.dependencies.map aJ).length≤9223372036854775807→(s.inclusions.map aM).length≤9223372036854775807→(q.atoms.map bC).length≤9223372036854775807→aCu s∧(((!(eK s))=true→[]=(fD s q m).map aD∧True)∧((!(eK s))=false→aFN s.database q∧(((!(dR s.database q))=true→[]=(fD s q m).map aD∧True)∧((!(dR s.database q))=false→aCy q∧(eY m (1:Int) (lU q)∧(((!(dP m (1:Int) (lU q)))=true→[]=(fD s q m).map aD∧True)∧((!(dP m (1:Int) (lU q)))=false→aFP m∧(Lm intD (eX m)∧((∃(k:Nat) (out:List aF),(0:Int)=(k:Int)∧[]=out.map aD∧k≤(eX m).length∧out=qcL s q ((eX m).take k)∧aB2 s q ((eX m).take k)=true)∧ ∀(k:Nat) (out:List aF),(k≤(eX m).length∧out=qcL s q ((eX m).take k)∧aB2 s q ((eX m).take k)=true)→((decide ((k:Int)<(((eX m).length:Nat):Int)))=true→0≤(k:Int)∧Lm intD (eX m)∧(k:Int)<(((eX m).length:Nat):Int)∧Em intD (eX m) k fun e37=>0≤e37∧Em bC q.atoms ((e37).toNat) fun e44=>dG Tryz.prog 122 [.agg [.int .i64 s.catalogue.version,.sl 121 4 (s.catalogue.tables.map aC)],.one (.str e44.name)] (.tup [.agg [.p none (.str (((cT s.catalogue e44.name).1).name)),vI (((cT s.catalogue e44.name).1).arity),vI (((cT s.catalogue e44.name).1).rowCount),.p none (.sl 218 3 ((((cT s.catalogue e44.name).1).groups).map aA))],vB ((cT s.catalogue e44.name).2)]) []∧(0≤e37∧Em bC q.atoms ((e37).toNat) fun e54=>aDA ((cT s.catalogue e44.name).1) e54∧(Lm aD (kG ((cT s.catalogue e44.name).1) e54)∧(((decide ((((kG ((cT s.catalogue e44.name).1) e54).length:Nat):Int)=(0:Int)))=true→[]=(fD s q m).map aD∧True)∧((decide ((((kG ((cT s.catalogue e44.name).1) e54).length:Nat):Int)=(0:Int)))=false→out.map aD=out.map aD∧(kG ((cT s.catalogue e44.name).1) e54).map aD=(kG ((cT s.catalogue e44.name).1) e54).map aD∧(∀x,eC (aD x)=true)∧(out.length+(kG ((cT s.catalogue e44.name).1) e54).length)*24≤140737488355328∧dB ((k:Int)+(1:Int))∧ ∃(k' :Nat) (out' :List aF),((k:Int)+(1:Int))=(k' :Int)∧(out++(kG ((cT s.catalogue e44.name).1) e54)).map aD=out'.map aD∧(k' ≤(eX m).length∧out' =qcL s q ((eX m).take k')∧aB2 s q ((eX m).take k')=true)∧(eX m).length - k' <(eX m).length - k)))))∧((decide ((k:Int)<(((eX m).length:Nat):Int)))=false→out.map aD=(fD s q m).map aD∧True))))))))))) (by kernel_rfl) ?_
 intro n0 n1 n2 n3 n4
 simp only [List.length_map] at n0 n1 n2 n3 n4
 have hS:eD s=bF s.database+bM s.catalogue+bW s.dependencies+cV s.inclusions:=rfl
 have hI:=iC s.inclusions
 have hQ:jY q=jF q.atoms:=rfl
 refine ⟨aM2 _ (by omega),fun g16=>?_,fun g16=>?_⟩
 ·replace g16:=nt g16
  have hbad:vL s q m=false:=by first | (simp [vL,g16];done) | (simp [vL,g23];done) | (simp [vL,c0];done) | (simpa using c0)
  refine ⟨?_,trivial⟩
  ·first | (rw [oP hbad]<;>rfl) | (rw [lW hem (by rw [←hE];omega)]<;>rfl) | (rw [lV hq (by rw [List.take_of_length_le (by omega)] at ha;exact ha),ho,List.take_of_length_le (by omega)])
 ·replace g16:=nf g16
  refine ⟨aOb s.database _ (by omega),fun g23=>?_,fun g23=>?_⟩
  ·replace g23:=nt g23
   have hbad:vL s q m=false:=by first | (simp [vL,g16];done) | (simp [vL,g23];done) | (simp [vL,c0];done) | (simpa using c0)
   refine ⟨?_,trivial⟩
   ·first | (rw [oP hbad]<;>rfl) | (rw [lW hem (by rw [←hE];omega)]<;>rfl) | (rw [lV hq (by rw [List.take_of_length_le (by omega)] at ha;exact ha),ho,List.take_of_length_le (by omega)])
  ·replace g23:=nf g23
   refine ⟨aM7 _,iJ _ _ _,fun c0=>?_,fun c0=>?_⟩
   ·replace c0:=nt c0
    have hbad:vL s q m=false:=by first | (simp [vL,g16];done) | (simp [vL,g23];done) | (simp [vL,c0];done) | (simpa using c0)
    refine ⟨?_,trivial⟩
    ·first | (rw [oP hbad]<;>rfl) | (rw [lW hem (by rw [←hE];omega)]<;>rfl) | (rw [lV hq (by rw [List.take_of_length_le (by omega)] at ha;exact ha),ho,List.take_of_length_le (by omega)])
   ·replace c0:=nf c0
    have hq:vL s q m=true:=by first | (simpa using c0;done) | (rw [vL,g16,g23,c0];rfl)
    obtain ⟨hq1,hq2,hq3,hm1,hm2,hm3,hm4,hm5⟩:=aCR hq
    have hml:=aHI m
    refine ⟨aOd m,List.length_map _,⟨0,([]:List aF),rfl,rfl,Nat.zero_le _,rfl,rfl⟩,fun k out ⟨hk,ho,ha⟩=>?_⟩
    have hlen:out.length≤28:=by rw [ho];have z1:=aD9 s q ((eX m).take k);have z2:=List.length_take_le k (eX m);omega
    refine ⟨fun c1=>?_,fun c1=>?_⟩
    ·replace c1:=yq c1
     refine ⟨by omega,List.length_map _,by omega,rfl,by omega,fun e37 h37=>?_⟩
     have he:=aOf hq (List.mem_of_getElem? h37)
     have hem:=List.mem_of_getElem? h37
     refine ⟨by omega,rfl,by omega,fun e44 h44=>?_⟩
     have hst:(cT s.catalogue e44.name).1=fC s q e37.toNat:=by rw [fC,bD h44]
     have hcs:=aB4 q e37.toNat hc
     rw [←hst] at hcs
     have hcA:=aCB h44
     refine ⟨iX (aM4 s.catalogue e44.name (by omega)) rfl,by omega,rfl,by omega,fun e54 h54=>?_⟩
     obtain rfl:=(bA h44 h54).symm
     have hE:kG (cT s.catalogue e44.name).1 e44=qcA s q e37:=by rw [qcA,hst,bD h44]
     have hzl:=aFL (cT s.catalogue e44.name).1 e44
     refine ⟨aM9 ((cT s.catalogue e44.name).1) _ (by omega) (by omega),List.length_map _,fun c2=>?_,fun c2=>?_⟩
     ·replace c2:=yq c2
      refine ⟨?_,trivial⟩
      ·first | (rw [oP hbad]<;>rfl) | (rw [lW hem (by rw [←hE];omega)]<;>rfl) | (rw [lV hq (by rw [List.take_of_length_le (by omega)] at ha;exact ha),ho,List.take_of_length_le (by omega)])
     ·replace c2:=nq c2
      refine ⟨rfl,rfl,fun _=>rfl,by omega,?_⟩
      refine ⟨⟨by omega,by omega⟩,?_⟩
      exact ⟨k+1,_,rfl,rfl,⟨by omega,by rw [ho,cA h37,aFR,hE],by rw [cA h37];exact aCS ha (by rw [←hE];exact c2)⟩,by omega⟩
    ·replace c1:=nq c1
     refine ⟨?_,trivial⟩
     ·first | (rw [oP hbad]<;>rfl) | (rw [lW hem (by rw [←hE];omega)]<;>rfl) | (rw [lV hq (by rw [List.take_of_length_le (by omega)] at ha;exact ha),ho,List.take_of_length_le (by omega)])
abbrev uJ (s:StoreD) (q:QueryD) (m:Int):AV × List (Nat × Rs):=(.own 0,[(0,.arr 149 3 true ((fD s q m).map aD))])
abbrev aB5 (s:StoreD) (q:QueryD) (m:Int):Prop:=dG Tryz.prog 52 [.agg [.sl 162 3 (s.database.tables.map aP),.int .i64 s.catalogue.version,.sl 121 4 (s.catalogue.tables.map aC),.sl 168 3 (s.dependencies.map aJ),.sl 170 4 (s.inclusions.map aM)],.agg [.int .i64 q.variableCount,.sl 131 2 (q.atoms.map bC)],.one (.int .i64 m)] (uJ s q m).1 (uJ s q m).2
theorem aK0 (s:StoreD) (q:QueryD) (m:Int) (hc:eD s≤1048576) (hcq:jY q≤1048576):aB5 s q m:=by
 refine aY bK aU Tryz.func52 (by kernel_rfl) (.call (vB (vL s q m)) []<| .br (.fin [(0,1000)]) (.loop (Nat × (List aF)) (Q2 Nat (List aF)) [7,8,9,10,17,18,19,20,21,22,23,24,25,26,27,28,29,30,31,32,33,34,35,36,37,38,39,40,41,43,44,45] [1000,3800,4500] (fun yy0=>[(8,vI (yy0.1:Int)),(7,.own 1000)]) (fun yy0=>[(1000,some (.arr 149 3 true (yy0.2.map aD)))]) (fun yy0=>yy0.1≤q.atoms.length∧yy0.2=qcL s q (kT (jQ m) yy0.1)∧aB2 s q (kT (jQ m) yy0.1)=true) (fun yy0=>q.atoms.length - yy0.1) (fun yy0=> .len q.atoms.length<| .br (.br (.back [(1000,1000)]) (cI (uH s q (yy0.1:Int))<| .elem _ bC q.atoms (fun e36=>cI (xM (fC s q (yy0.1:Int).toNat) e36)<| .len ((kG (fC s q (yy0.1:Int).toNat) e36).length)<| .br (.fin [(0,4200)]) (.app aF aD yy0.2 (kG (fC s q (yy0.1:Int).toNat) e36)<| .back [(1000,4500)])))) (.fin [(0,1000)])))) (p:=(s.database.tables.map aP).length≤9223372036854775807→(s.catalogue.tables.map aC).length≤9223372036854775807→(s.dependencies.map aJ).length≤9223372036854775807→(s.inclusions.map aM).length≤9223372036854775807→(q.atoms.map bC).length≤9223372036854775807→aFS s q m∧(((!(vL s q m))=true→[]=(fD s q m).map aD∧True)∧((!(vL s q m))=false→(∃(k:Nat) (out:List aF),(0:Int)=(k:Int)∧[]=out.map aD∧k≤q.atoms.length∧out=qcL s q (kT (jQ m) k)∧aB2 s q (kT (jQ m) k)=true)∧ ∀(k:Nat) (out:List aF),(k≤q.atoms.length∧out=qcL s q (kT (jQ m) k)∧aB2 s q (kT (jQ m) k)=true)→Lm bC q.atoms∧(((decide ((k:Int)<((q.atoms.length:Nat):Int)))=true→(0≤(k:Int)∧(k:Int)≤64)∧(((decide ((hZ .and .i64 (m/2^k) (1:Int))=(0:Int)))=true→dB ((k:Int)+(1:Int))∧ ∃(k' :Nat) (out' :List aF),((k:Int)+(1:Int))=(k' :Int)∧out.map aD=out'.map aD∧(k' ≤q.atoms.length∧out' =qcL s q (kT (jQ m) k')∧aB2 s q (kT (jQ m) k')=true)∧q.atoms.length - k' <q.atoms.length - k)∧((decide ((hZ .and .i64 (m/2^k) (1:Int))=(0:Int)))=false→aB3 s q (k:Int)∧(0≤(k:Int)∧Em bC q.atoms k fun e36=>aDB (fC s q (k:Int).toNat) e36∧(Lm aD (kG (fC s q (k:Int).toNat) e36)∧(((decide ((((kG (fC s q (k:Int).toNat) e36).length:Nat):Int)=(0:Int)))=true→[]=(fD s q m).map aD∧True)∧((decide ((((kG (fC s q (k:Int).toNat) e36).length:Nat):Int)=(0:Int)))=false→out.map aD=out.map aD∧(kG (fC s q (k:Int).toNat) e36).map aD=(kG (fC s q (k:Int).toNat) e36).map aD∧(∀x,eC (aD x)=true)∧(out.length+(kG (fC s q (k:Int).toNat) e36).length)*24≤140737488355328∧dB ((k:Int)+(1:Int))∧ ∃(k' :Nat) (out' :List aF),((k:Int)+(1:Int))=(k' :Int)∧(out++(kG (fC s q (k:Int).toNat) e36)).map aD=out'.map aD∧(k' ≤q.atoms.length∧out' =qcL s q (kT (jQ m) k')∧aB2 s q (kT (jQ m) k')=true)∧q.atoms.length - k' <q.atoms.length - k)))))))∧((decide ((k:Int)<((q.atoms.length:Nat):Int)))=false→out.map aD=(fD s q m).map aD∧True))))) (by kernel_rfl) ?_
 intro n0 n1 n2 n3 n4
 simp only [List.length_map] at n0 n1 n2 n3 n4
 have hS:eD s=bF s.database+bM s.catalogue+bW s.dependencies+cV s.inclusions:=rfl
 have hI:=iC s.inclusions
 have hQ:jY q=jF q.atoms:=rfl
 refine ⟨aOh s q m (by omega),fun c0=>?_,fun c0=>?_⟩
 ·replace c0:=nt c0
  have hbad:vL s q m=false:=by simpa using c0
  refine ⟨?_,trivial⟩
  ·first | (rw [oP hbad]<;>rfl) | (rw [lW hem (by rw [←hE];omega)]<;>rfl) | (rw [lV hq ha,ho])
 ·replace c0:=nf c0
  have hq:vL s q m=true:=by simpa using c0
  obtain ⟨hq1,hq2,hq3,hm1,hm2,hm3,hm4,hm5⟩:=aCR hq
  refine ⟨⟨0,([]:List aF),rfl,rfl,Nat.zero_le _,rfl,rfl⟩,fun k out ⟨hk,ho,ha⟩=>?_⟩
  have hlen:out.length≤28:=by rw [ho];have z1:=aD9 s q (kT (jQ m) k);have z2:=aEx (jQ m) k;omega
  refine ⟨List.length_map _,fun c1=>?_,fun c1=>?_⟩
  ·replace c1:=yq c1
   refine ⟨⟨by omega,by omega⟩,fun c2=>?_,fun c2=>?_⟩
   ·replace c2:=yq c2
    refine ⟨⟨by omega,by omega⟩,?_⟩
    exact ⟨k+1,_,rfl,rfl,⟨by omega,by first | (rw [ho,uE (aCP (by omega))];done) | (rw [ho,sX hb,aFR,hE]),by first | (rw [uE (aCP (by omega))];exact ha) | (rw [sX hb];exact aCS ha (by rw [←hE];exact c3))⟩,by omega⟩
   ·replace c2:=nq c2
    have hb:jQ m k=true:=by have z:=aOX (m:=m) (v:=k) ⟨by omega,by omega⟩ (by omega);rw [decide_eq_false c2] at z;simpa using z
    have hcs:=aB4 q ((k:Nat):Int).toNat hc
    refine ⟨aKZ s q (k:Int) (by omega) (by first | assumption | exact ⟨by omega,by omega⟩),by omega,rfl,by omega,fun e36 h36=>?_⟩
    have hE:kG (fC s q ((k:Nat):Int).toNat) e36=qcA s q ((k:Nat):Int):=by rw [qcA,Int.toNat_natCast,bD h36]
    have hzl:=aFL (fC s q ((k:Nat):Int).toNat) e36
    have hcA:=aCB h36
    refine ⟨aMa (fC s q (k:Int).toNat) _ (by omega) (by omega),List.length_map _,fun c3=>?_,fun c3=>?_⟩
    ·replace c3:=yq c3
     have hem:((k:Nat):Int)∈eX m:=by rw [aHr hq];exact aJP.2 ⟨by omega,by omega,by simpa using hb⟩
     refine ⟨?_,trivial⟩
     ·first | (rw [oP hbad]<;>rfl) | (rw [lW hem (by rw [←hE];omega)]<;>rfl) | (rw [lV hq ha,ho])
    ·replace c3:=nq c3
     refine ⟨rfl,rfl,fun _=>rfl,by omega,?_⟩
     refine ⟨⟨by omega,by omega⟩,?_⟩
     exact ⟨k+1,_,rfl,rfl,⟨by omega,by first | (rw [ho,uE (aCP (by omega))];done) | (rw [ho,sX hb,aFR,hE]),by first | (rw [uE (aCP (by omega))];exact ha) | (rw [sX hb];exact aCS ha (by rw [←hE];exact c3))⟩,by omega⟩
  ·replace c1:=nq c1
   have hkl:q.atoms.length=k:=by omega
   rw [←hkl,←aHr hq] at ho ha
   refine ⟨?_,trivial⟩
   ·first | (rw [oP hbad]<;>rfl) | (rw [lW hem (by rw [←hE];omega)]<;>rfl) | (rw [lV hq ha,ho])
def aA3 (n:Nat) (s:ByteArray):ByteArray:=if h:n=0 then s else aA3 (n/10) (uQ [IntKind.u8.wrap (48+Int.tmod (n:Int) 10)]++s)
 termination_by n
 decreasing_by omega
def aX (k:Int):ByteArray:=if k≤0 then ⟨#[109,48]⟩ else (⟨#[109]⟩:ByteArray)++aA3 k.toNat ⟨#[]⟩
theorem aHJ (s:ByteArray):aA3 0 s=s:=by rw [aA3];simp
theorem aOi {n:Nat} (h:0<n) (s:ByteArray):aA3 n s=aA3 (n/10) (uQ [IntKind.u8.wrap (48+Int.tmod (n:Int) 10)]++s):=by rw [aA3,dif_neg (by omega)]
theorem aA4 (l:List Int):(uQ l).size=l.length:=by simp [uQ,ByteArray.size]
def aOj (k:Int) (_:Int):Int:=k
def xN (_:Int):Nat:=1
theorem mL {α:Type} {s c:α→Nat} (h: ∀x,s x≤4+5*c x): ∀l:List α,bN s l≤5*vK c l
 | []=>by simp [bN,vK]
 | a::l=>by
   have h1:=h a
   have h2:=mL h l
   simp only [bN,vK,List.map_cons,List.sum_cons,List.length_cons] at*
   omega
theorem aB6 {α:Type} {s:α→Nat} (h: ∀x,s x≤4): ∀l:List α,bN s l≤5*l.length
 | []=>by simp [bN]
 | a::l=>by
   have h1:=h a
   have h2:=aB6 h l
   simp only [bN,List.map_cons,List.sum_cons,List.length_cons] at*
   omega
theorem aK1 {α:Type} {s c:α→Nat} (h: ∀x,s x≤4+5*c x) (l:List α) (k:Nat) (hk:k≤l.length):bN s (l.take k)≤5*(k+bN c (l.take k)):=by
 have:=mL h (l.take k)
 unfold vK at this
 rw [List.length_take,Nat.min_eq_left hk] at this
 exact this
theorem aRM {α:Type} {s:α→Nat} (h: ∀x,s x≤4) (l:List α) (k:Nat) (hk:k≤l.length):bN s (l.take k)≤5*k:=by
 have:=aB6 h (l.take k)
 rw [List.length_take,Nat.min_eq_left hk] at this
 exact this
abbrev nI (k:Int):Prop:=dG Tryz.prog 89 [.one (.int .i64 k)] (.p none (.str (aX k))) []
theorem yY (k:Int) (hk:k≤4611686018427387904):nI k:=by
 refine aY bK aU Tryz.func89 (by kernel_rfl) (.br (.fin []) (.loop (Nat × ByteArray) (Q2 Nat ByteArray) [0,3,6,7,8,9,10,11,12,13,14,15,16,17] [1200] (fun yy0=>[(0,vI (yy0.1:Int)),(3,.p none (.str yy0.2))]) (fun yy0=>[]) (fun yy0=>yy0.1≤4611686018427387904∧yy0.2.size+yy0.1≤4611686018427387904∧aA3 yy0.1 yy0.2=aA3 k.toNat ⟨#[]⟩) (fun yy0=>yy0.1) (fun yy0=> .br (.bytes [IntKind.u8.wrap ((48:Int)+(Int.tmod (yy0.1:Int) (10:Int)))]<| .back []) (.fin [])))) (p:=((decide (k≤(0:Int)))=true→(⟨#[109,48]⟩:ByteArray)=(aX k)∧True)∧((decide (k≤(0:Int)))=false→(∃(n:Nat) (s:ByteArray),k=(n:Int)∧(⟨#[]⟩:ByteArray)=s∧n≤4611686018427387904∧s.size+n≤4611686018427387904∧aA3 n s=aA3 k.toNat ⟨#[]⟩)∧ ∀(n:Nat) (s:ByteArray),(n≤4611686018427387904∧s.size+n≤4611686018427387904∧aA3 n s=aA3 k.toNat ⟨#[]⟩)→((decide ((0:Int)<(n:Int)))=true→(10:Int)≠0∧dB ((48:Int)+(Int.tmod (n:Int) (10:Int)))∧[[.int .u8 (IntKind.u8.wrap ((48:Int)+(Int.tmod (n:Int) (10:Int))))]]= [IntKind.u8.wrap ((48:Int)+(Int.tmod (n:Int) (10:Int)))].map byD∧(uQ [IntKind.u8.wrap ((48:Int)+(Int.tmod (n:Int) (10:Int)))]).size+s.size≤9223372036854775807∧(10:Int)≠0∧dB (Int.tdiv (n:Int) (10:Int))∧ ∃(n' :Nat) (s' :ByteArray),(Int.tdiv (n:Int) (10:Int))=(n' :Int)∧((uQ [IntKind.u8.wrap ((48:Int)+(Int.tmod (n:Int) (10:Int)))])++s)=s' ∧(n' ≤4611686018427387904∧s'.size+n' ≤4611686018427387904∧aA3 n' s' =aA3 k.toNat ⟨#[]⟩)∧n' <n)∧((decide ((0:Int)<(n:Int)))=false→(⟨#[109]⟩:ByteArray).size+s.size≤9223372036854775807∧((⟨#[109]⟩:ByteArray)++s)=(aX k)∧True))) (by kernel_rfl) ?_
 refine ⟨fun c0=>?_,fun c0=>?_⟩
 ·replace c0:=yq c0
  refine ⟨?_,trivial⟩
  ·first | (rw [aX,if_pos c0];done) | (rw [aX,if_neg c0];rw [show n=0 from by omega,aHJ] at hm;rw [hm])
 ·replace c0:=nq c0
  obtain ⟨n0,rfl⟩:=Int.eq_ofNat_of_zero_le (show 0≤k by omega)
  refine ⟨⟨n0,(⟨#[]⟩:ByteArray),rfl,rfl,by omega,by simp [ByteArray.size];omega,by simp⟩,fun n s ⟨hn,hs,hm⟩=>?_⟩
  refine ⟨fun c1=>?_,fun c1=>?_⟩
  ·replace c1:=yq c1
   have hd:=aOi (n:=n) (by omega) s
   have htm:Int.tmod (n:Int) 10=((n%10:Nat):Int):=rfl
   have htd:Int.tdiv (n:Int) 10=((n/10:Nat):Int):=rfl
   refine ⟨by omega,⟨by omega,by omega⟩,rfl,by first | (simp only [aA4,List.length_cons,List.length_nil];omega) | (show 1+s.size≤_;omega),by omega,⟨by omega,by omega⟩,?_⟩
   exact ⟨n/10,(uQ [IntKind.u8.wrap ((48:Int)+(Int.tmod (n:Int) (10:Int)))])++s,rfl,rfl,⟨by omega,by rw [ByteArray.size_append,aA4];simp;omega,by rw [←hd];exact hm⟩,by omega⟩
  ·replace c1:=nq c1
   refine ⟨by first | (simp only [aA4,List.length_cons,List.length_nil];omega) | (show 1+s.size≤_;omega),?_,trivial⟩
   ·first | (rw [aX,if_pos c0];done) | (rw [aX,if_neg c0];rw [show n=0 from by omega,aHJ] at hm;rw [hm])
def dK (k:Int) (l:List Int):List Int:=nV aOj xN k l
def cZ (l:List Int):Nat:=bN xN l
theorem jT (l:List Int):cZ l≤5*bX l:=aB6 (fun _=>by simp [xN]) l
def gF (k:Int) (l:List (List Int)):List (List Int):=nV dK cZ k l
def jH (l:List (List Int)):Nat:=bN cZ l
theorem tA (l:List (List Int)):jH l≤5*cM l:=mL (fun y=>by have:=jT y;omega) l
def aB7 (k:Int) (x:aR):aR:=⟨aX (k),k+1,gF (k+1+1) x.rows⟩
def iN (x:aR):Nat:=1+1+jH x.rows
theorem aFU (x:aR):iN x≤4+5*eN x:=by
 have:=tA x.rows
 unfold iN eN;omega
def aDa (k:Int) (l:List aR):List aR:=nV aB7 iN k l
def uK (l:List aR):Nat:=bN iN l
theorem aA5 (l:List aR):uK l≤5*gO l:=mL aFU l
def uL (k:Int) (x:aV):aV:=⟨aDa (k) x.tables⟩
def dE (x:aV):Nat:=uK x.tables
theorem zK (x:aV):dE x≤5*bF x:=by
 have:=aA5 x.tables
 unfold dE bF;omega
def mM (k:Int) (x:aG):aG:=⟨dK (k) x.columns,gF (k+((cZ x.columns:Nat):Int)) x.values,dK (k+((cZ x.columns:Nat):Int)+((jH x.values:Nat):Int)) x.counts⟩
def dS (x:aG):Nat:=cZ x.columns+jH x.values+cZ x.counts
theorem uV (x:aG):dS x≤4+5*bH x:=by
 have:=jT x.columns
 have:=tA x.values
 have:=jT x.counts
 unfold dS bH;omega
def jI (k:Int) (l:List aG):List aG:=nV mM dS k l
def jJ (l:List aG):Nat:=bN dS l
theorem oU (l:List aG):jJ l≤5*cQ l:=mL uV l
def mN (k:Int) (x:aB):aB:=⟨aX (k),k+1,k+1+1,jI (k+1+1+1) x.groups⟩
def dT (x:aB):Nat:=1+1+1+jJ x.groups
theorem uW (x:aB):dT x≤4+5*aW x:=by
 have:=oU x.groups
 unfold dT aW;omega
def pK (k:Int) (l:List aB):List aB:=nV mN dT k l
def jK (l:List aB):Nat:=bN dT l
theorem oV (l:List aB):jK l≤5*cX l:=mL uW l
def rU (k:Int) (x:bS):bS:=⟨x.version,pK (k) x.tables⟩
def dO (x:bS):Nat:=jK x.tables
theorem xO (x:bS):dO x≤5*bM x:=by
 have:=oV x.tables
 unfold dO bM;omega
def mO (k:Int) (x:aN):aN:=⟨aX (k),dK (k+1) x.src,k+1+((cZ x.src:Nat):Int)⟩
def dU (x:aN):Nat:=1+cZ x.src+1
theorem uX (x:aN):dU x≤4+5*bY x:=by
 have:=jT x.src
 unfold dU bY;omega
def pL (k:Int) (l:List aN):List aN:=nV mO dU k l
def eT (l:List aN):Nat:=bN dU l
theorem oW (l:List aN):eT l≤5*bW l:=mL uX l
def oQ (k:Int) (x:aL):aL:=⟨aX (k),k+1,aX (k+1+1),k+1+1+1⟩
def dY (x:aL):Nat:=1+1+1+1
theorem xP (x:aL):dY x≤4+5*cH x:=by
 unfold dY cH;omega
def rV (k:Int) (l:List aL):List aL:=nV oQ dY k l
def kM (l:List aL):Nat:=bN dY l
theorem qS (l:List aL):kM l≤5*cV l:=mL xP l
def rW (k:Int) (x:StoreD):StoreD:=⟨uL (k) x.database,rU (k+((dE x.database:Nat):Int)) x.catalogue,pL (k+((dE x.database:Nat):Int)+((dO x.catalogue:Nat):Int)) x.dependencies,rV (k+((dE x.database:Nat):Int)+((dO x.catalogue:Nat):Int)+((eT x.dependencies:Nat):Int)) x.inclusions⟩
def nT (x:StoreD):Nat:=dE x.database+dO x.catalogue+eT x.dependencies+kM x.inclusions
theorem aK2 (x:StoreD):nT x≤5*eD x:=by
 have:=zK x.database
 have:=xO x.catalogue
 have:=oW x.dependencies
 have:=qS x.inclusions
 unfold nT eD;omega
end Go.Proofs.YtokkjaflmcjlhaaGreat
