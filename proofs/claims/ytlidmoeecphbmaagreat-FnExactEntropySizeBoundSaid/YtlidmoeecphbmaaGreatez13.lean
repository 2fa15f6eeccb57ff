/-
  Contracts and plain laws, joined: part 14.
-/
import Derived.Test.YtlidmoeecphbmaaGreatez12
import Derived.Test.YtlidmoeecphbmaaGreatez11
import Derived.Test.YtlidmoeecphbmaaGreatez3
namespace Go.Proofs.YtlidmoeecphbmaaGreat
open Go.ChangeShapes Go.WideShapes Go.ChangeAt Go.RowKit
set_option linter.unusedVariables false
set_option linter.unusedSimpArgs false
set_option maxRecDepth 100000
set_option maxHeartbeats 4000000
abbrev aHe (s:StoreD)(q:QueryD)(m:Int):Prop:=Cn 42 [.agg [.sl 142 3 (s.database.tables.map aS),.int .i64 s.catalogue.version,.sl 88 4 (s.catalogue.tables.map aF),.sl 121 3 (s.dependencies.map aN),.sl 123 4 (s.inclusions.map aQ)],.agg [.int .i64 q.variableCount,.sl 125 2 (q.atoms.map bF)],.one (.int .i64 m)] (vB (rX s q m)) []
theorem aUw (s:StoreD)(q:QueryD)(m:Int)(hc:dD s<=1048576):aHe s q m:=by
 refine cq Tryz.func42 (.call (vB (eW s)) []<| .br (.call (vB (fP s.database q)) []<| .lit<| .br (.call (vI (lL q)) []<| .call (vB (eB m (1:Int) (lL q))) []<| .fin []) (.fin [])) (.fin [])) (p:=Lx (s.database.tables.map aS)<| Lx (s.catalogue.tables.map aF)<| Lx (s.dependencies.map aN)<| Lx (s.inclusions.map aQ)<| Lx (q.atoms.map bF)<| zP s/\Bb (eW s) (aBq s.database q/\Bb (fP s.database q) (zQ q/\eK m (1:Int) (lL q)/\(eB m (1:Int) (lL q))=(rX s q m)/\True) ((false)=(rX s q m)/\True)) ((false)=(rX s q m)/\True)) (by kernel_rfl) ?_;refine lx fun n0=>lx fun n1=>lx fun n2=>lx fun n3=>lx fun n4=>?_;have hS:dD s=bL s.database+bQ s.catalogue+bT s.dependencies+cF s.inclusions:=rfl;have hI:=cX s.inclusions;refine⟨aK4 _ (by omega),db (fun g9=>?_) fun g9=>?_⟩
 ·refine⟨aNk s.database _ (by omega),db (fun g15=>?_) fun g15=>?_⟩
  ·refine⟨aK5 _,iD _ _ _,?_,trivial⟩
   ·(rw[rX,g9,g15];rfl)
  ·apply et1
   ·(rw[rX,g9,g15];rfl)
 ·apply et1
  ·(rw[rX,g9];rfl)
abbrev aBs (s:StoreD)(q:QueryD)(m:Int):Prop:=Cn 39 [.agg [.sl 142 3 (s.database.tables.map aS),.int .i64 s.catalogue.version,.sl 88 4 (s.catalogue.tables.map aF),.sl 121 3 (s.dependencies.map aN),.sl 123 4 (s.inclusions.map aQ)],.agg [.int .i64 q.variableCount,.sl 125 2 (q.atoms.map bF)],.one (.int .i64 m)] (vB (rX s q m)) []
theorem aNo (s:StoreD)(q:QueryD)(m:Int)(hc:dD s<=1048576):aBs s q m:=by
 refine cq Tryz.func39 (.call (vB (eW s)) []<| .br (.call (vB (fP s.database q)) []<| .lit<| .br (.call (vI (lL q)) []<| .call (vB (eB m (1:Int) (lL q))) []<| .fin []) (.fin [])) (.fin [])) (p:=Lx (s.database.tables.map aS)<| Lx (s.catalogue.tables.map aF)<| Lx (s.dependencies.map aN)<| Lx (s.inclusions.map aQ)<| Lx (q.atoms.map bF)<| aEl s/\Bb (eW s) (aHa s.database q/\Bb (fP s.database q) (aEo q/\eV m (1:Int) (lL q)/\(eB m (1:Int) (lL q))=(rX s q m)/\True) ((false)=(rX s q m)/\True)) ((false)=(rX s q m)/\True)) (by kernel_rfl) ?_;refine lx fun n0=>lx fun n1=>lx fun n2=>lx fun n3=>lx fun n4=>?_;have hS:dD s=bL s.database+bQ s.catalogue+bT s.dependencies+cF s.inclusions:=rfl;have hI:=cX s.inclusions;refine⟨aSI _ (by omega),db (fun g9=>?_) fun g9=>?_⟩
 ·refine⟨aUs s.database _ (by omega),db (fun g15=>?_) fun g15=>?_⟩
  ·refine⟨aSL _,iV _ _ _,?_,trivial⟩
   ·(rw[rX,g9,g15];rfl)
  ·apply et1
   ·(rw[rX,g9,g15];rfl)
 ·apply et1
  ·(rw[rX,g9];rfl)
abbrev qP (s:StoreD)(q:QueryD)(i:Int):AV × List (Nat × Rs):=(.agg [.p none (.str ((eO s q i.toNat).name)),vI ((eO s q i.toNat).arity),vI ((eO s q i.toNat).rowCount),.p none (.sl 220 3 ((eO s q i.toNat).groups.map aD))],[])
abbrev wD (s:StoreD)(q:QueryD)(i:Int):Prop:=Cn 40 [.agg [.sl 142 3 (s.database.tables.map aS),.int .i64 s.catalogue.version,.sl 88 4 (s.catalogue.tables.map aF),.sl 121 3 (s.dependencies.map aN),.sl 123 4 (s.inclusions.map aQ)],.agg [.int .i64 q.variableCount,.sl 125 2 (q.atoms.map bF)],.one (.int .i64 i)] (qP s q i).1 (qP s q i).2
theorem aHf (s:StoreD)(q:QueryD)(i:Int)(hc:dD s<=1048576)(hi:0<=i/\i.toNat<q.atoms.length):wD s q i:=by
 refine cq Tryz.func40 (.elem _ bF q.atoms (fun e15=> .call (.tup [.agg [.p none (.str ((cW s.catalogue e15.name).1.name)),vI ((cW s.catalogue e15.name).1.arity),vI ((cW s.catalogue e15.name).1.rowCount),.p none (.sl 220 3 ((cW s.catalogue e15.name).1.groups.map aD))],vB ((cW s.catalogue e15.name).2)]) []<| .fin [])) (p:=Lx (s.database.tables.map aS)<| Lx (s.catalogue.tables.map aF)<| Lx (s.dependencies.map aN)<| Lx (s.inclusions.map aQ)<| Lx (q.atoms.map bF)<| 0<=i/\Em bF q.atoms ((i).toNat) fun e15=>qJ Tryz.prog 76 [.agg [.int .i64 s.catalogue.version,.sl 88 4 (s.catalogue.tables.map aF)],.one (.str e15.name)] (.tup [.agg [.p none (.str ((cW s.catalogue e15.name).1.name)),vI ((cW s.catalogue e15.name).1.arity),vI ((cW s.catalogue e15.name).1.rowCount),.p none (.sl 220 3 ((cW s.catalogue e15.name).1.groups.map aD))],vB ((cW s.catalogue e15.name).2)]) []/\((cW s.catalogue e15.name).1.name)=((eO s q i.toNat).name)/\((cW s.catalogue e15.name).1.arity)=((eO s q i.toNat).arity)/\((cW s.catalogue e15.name).1.rowCount)=((eO s q i.toNat).rowCount)/\(cW s.catalogue e15.name).1.groups.map aD=(eO s q i.toNat).groups.map aD/\True) (by kernel_rfl) ?_;refine lx fun n0=>lx fun n1=>lx fun n2=>lx fun n3=>lx fun n4=>?_;have hS:dD s=bL s.database+bQ s.catalogue+bT s.dependencies+cF s.inclusions:=rfl;have hI:=cX s.inclusions;refine⟨by omega,rfl,by omega,fun e15 h15=>?_⟩;refine⟨jG (aSK s.catalogue e15.name (by omega)) rfl,?_,?_,?_,?_,trivial⟩<;>((rw[eO,bM h15]<;>rfl))
theorem aDL {s:StoreD}(q:QueryD)(i:Nat)(hc:dD s<=1048576):bH (eO s q i)<=1048576:=by
 have h1:=aNh s.catalogue (q.atoms.getD i iP).name;have hS:dD s=bL s.database+bQ s.catalogue+bT s.dependencies+cF s.inclusions:=rfl;unfold eO;omega
abbrev wE (s:StoreD)(q:QueryD)(m:Int):AV × List (Nat × Rs):=(.own 0,[(0,.arr 192 3 true ((dU s q m).map aE))])
abbrev aDM (s:StoreD)(q:QueryD)(m:Int):Prop:=Cn 99 [.agg [.sl 142 3 (s.database.tables.map aS),.int .i64 s.catalogue.version,.sl 88 4 (s.catalogue.tables.map aF),.sl 121 3 (s.dependencies.map aN),.sl 123 4 (s.inclusions.map aQ)],.agg [.int .i64 q.variableCount,.sl 125 2 (q.atoms.map bF)],.one (.int .i64 m)] (wE s q m).1 (wE s q m).2
theorem aP2 (s:StoreD)(q:QueryD)(m:Int)(hc:dD s<=1048576)(hcq:fR q<=1048576):aDM s q m:=by
 refine cq Tryz.func99 (.call (vB (eW s)) []<| .br (.fin []) (.call (vB (fP s.database q)) []<| .lit<| .lit<| .br (.fin []) (.call (vI (lL q)) []<| .call (vB (eB m (1:Int) (lL q))) []<| .lit<| .lit<| .br (.fin []) (bI (wB m)<| .len ((dM m).length)<| .loop (Nat × (List aI)) (Q2 Nat (List aI)) ([7,9,10,11,12,30]++rg 34 30) [1000,3000,5600,6200] (fun yy0=>[(34,vI (yy0.1:Int)),(7,.own 3000)]) (fun yy0=>[(3000,some (.arr 192 3 true (yy0.2.map aE)))]) (fun yy0=>yy0.1<=(dM m).length/\yy0.2=qcL s q ((dM m).take yy0.1)/\aDJ s q ((dM m).take yy0.1)=true) (fun yy0=>(dM m).length - yy0.1) (fun yy0=> .br (.len ((dM m).length)<| .elem _ intD (dM m) (fun e37=> .elem _ bF q.atoms (fun e44=> .call (.tup [.agg [.p none (.str ((cW s.catalogue e44.name).1.name)),vI ((cW s.catalogue e44.name).1.arity),vI ((cW s.catalogue e44.name).1.rowCount),.p none (.sl 220 3 ((cW s.catalogue e44.name).1.groups.map aD))],vB ((cW s.catalogue e44.name).2)]) []<| .elem _ bF q.atoms (fun e54=>bI (zV ((cW s.catalogue e44.name).1) e54)<| .len ((mM ((cW s.catalogue e44.name).1) e54).length)<| .br (.fin []) (.app aI aE yy0.2 (mM ((cW s.catalogue e44.name).1) e54)<| .back [(3000,6200)]))))) (.fin [(0,3000)])))))) (p:=Lx (s.database.tables.map aS)<| Lx (s.catalogue.tables.map aF)<| Lx (s.dependencies.map aN)<| Lx (s.inclusions.map aQ)<| Lx (q.atoms.map bF)<| zP s/\Nr (eW s) ([]=(dU s q m).map aE/\True) (aBq s.database q/\Nr (fP s.database q) ([]=(dU s q m).map aE/\True) (zQ q/\(eK m (1:Int) (lL q)/\Nr (eB m (1:Int) (lL q)) ([]=(dU s q m).map aE/\True) (aBr m/\(Lm intD (dM m)/\((∃(k:Nat) (out:List aI),0=(k:Int)/\[]=out.map aE/\k<=(dM m).length/\out=qcL s q ((dM m).take k)/\aDJ s q ((dM m).take k)=true)/\ ∀(k:Nat) (out:List aI),(k<=(dM m).length/\out=qcL s q ((dM m).take k)/\aDJ s q ((dM m).take k)=true)->Br ((k:Int)<(((dM m).length:Nat):Int)) (0<=(k:Int)/\Lm intD (dM m)/\(k:Int)<(((dM m).length:Nat):Int)/\Em intD (dM m) k fun e37=>0<=e37/\Em bF q.atoms ((e37).toNat) fun e44=>qJ Tryz.prog 154 [.agg [.int .i64 s.catalogue.version,.sl 88 4 (s.catalogue.tables.map aF)],.one (.str e44.name)] (.tup [.agg [.p none (.str ((cW s.catalogue e44.name).1.name)),vI ((cW s.catalogue e44.name).1.arity),vI ((cW s.catalogue e44.name).1.rowCount),.p none (.sl 220 3 ((cW s.catalogue e44.name).1.groups.map aD))],vB ((cW s.catalogue e44.name).2)]) []/\0<=e37/\Em bF q.atoms ((e37).toNat) fun e54=>aEs ((cW s.catalogue e44.name).1) e54/\Lm aE (mM ((cW s.catalogue e44.name).1) e54)/\Br ((((mM ((cW s.catalogue e44.name).1) e54).length:Nat):Int)=0) ([]=(dU s q m).map aE/\True) (Ap aE out (mM ((cW s.catalogue e44.name).1) e54) 24 (bJ ((k:Int)+1)/\ ∃(k' :Nat) (out' :List aI),((k:Int)+1)=(k' :Int)/\(out++(mM ((cW s.catalogue e44.name).1) e54)).map aE=out'.map aE/\(k' <=(dM m).length/\out' =qcL s q ((dM m).take k')/\aDJ s q ((dM m).take k')=true)/\(dM m).length - k' <(dM m).length - k))) (out.map aE=(dU s q m).map aE/\True)))))))) (by kernel_rfl) ?_;refine lx fun n0=>lx fun n1=>lx fun n2=>lx fun n3=>lx fun n4=>?_;have hS:dD s=bL s.database+bQ s.catalogue+bT s.dependencies+cF s.inclusions:=rfl;have hI:=cX s.inclusions;have hQ:fR q=jB q.atoms:=rfl;refine⟨aK4 _ (by omega),dm (fun g16=>?_) fun g16=>?_⟩
 ·have hbad:rX s q m=false:=by (simp[rX,g16];done)
  apply et1
  ·(rw[aDK hbad]<;>rfl)
 ·refine⟨aNk s.database _ (by omega),dm (fun g23=>?_) fun g23=>?_⟩
  ·have hbad:rX s q m=false:=by (simp[rX,g23];done)
   apply et1
   ·(rw[aDK hbad]<;>rfl)
  ·refine⟨aK5 _,iD _ _ _,dm (fun c0=>?_) fun c0=>?_⟩
   ·have hbad:rX s q m=false:=by (simp[rX,c0];done)
    apply et1
    ·(rw[aDK hbad]<;>rfl)
   ·have hq:rX s q m=true:=by (rw[rX,g16,g23,c0];rfl)
    obtain⟨hq1,hq2,hq3,hm1,hm2,hm3,hm4,hm5⟩:=qY hq;have hml:=aEB m;refine⟨aNl m,aAq _,⟨0,([]:List aI),rfl,rfl,aBn _,rfl,rfl⟩,fun k out ⟨hk,ho,ha⟩=>?_⟩;have hlen:out.length<=28:=by rw[ho];have z1:=aFh s q ((dM m).take k);have z2:=List.length_take_le k (dM m);omega
    refine dd (fun c1=>?_) fun c1=>?_
    ·refine⟨by omega,aAq _,by omega,rfl,by omega,fun e37 h37=>?_⟩;have he:=aNm hq (aCX h37);have hem:=aCX h37;refine⟨by omega,rfl,by omega,fun e44 h44=>?_⟩;have hst:(cW s.catalogue e44.name).1=eO s q e37.toNat:=by rw[eO,bM h44]
     have hcs:=aDL q e37.toNat hc;rw[<-hst] at hcs;have hcA:=aDj h44;refine⟨jG (aSJ s.catalogue e44.name (by omega)) rfl,by omega,rfl,by omega,fun e54 h54=>?_⟩;obtain rfl:=(aX h44 h54).symm;have hE:mM (cW s.catalogue e44.name).1 e44=qcA s q e37:=by rw[qcA,hst,bM h44]
     have hzl:=aH4 (cW s.catalogue e44.name).1 e44;refine⟨aSP ((cW s.catalogue e44.name).1) _ (by omega) (by omega),aAq _,dd (fun c2=>?_) fun c2=>?_⟩
     ·apply et1
      ·(rw[aK8 hem (by rw[<-hE];omega)]<;>rfl)
     ·refine ap ?_ (fun _=>rfl) (by omega);refine⟨⟨by omega,by omega⟩,?_⟩;exact⟨k+1,_,rfl,rfl,⟨by omega,by rw[ho,bR h37,aNn,hE],by rw[bR h37];exact aK9 ha (by rw[<-hE];exact c2)⟩,by omega⟩
    ·apply et1
     ·(rw[aK7 hq (by rw[aIs (by omega)] at ha;exact ha),ho,aIs (by omega)])
abbrev wF (s:StoreD)(q:QueryD)(m:Int):AV × List (Nat × Rs):=(.own 0,[(0,.arr 192 3 true ((dU s q m).map aE))])
abbrev aDN (s:StoreD)(q:QueryD)(m:Int):Prop:=Cn 90 [.agg [.sl 142 3 (s.database.tables.map aS),.int .i64 s.catalogue.version,.sl 88 4 (s.catalogue.tables.map aF),.sl 121 3 (s.dependencies.map aN),.sl 123 4 (s.inclusions.map aQ)],.agg [.int .i64 q.variableCount,.sl 125 2 (q.atoms.map bF)],.one (.int .i64 m)] (wF s q m).1 (wF s q m).2
theorem aP3 (s:StoreD)(q:QueryD)(m:Int)(hc:dD s<=1048576)(hcq:fR q<=1048576):aDN s q m:=by
 refine cq Tryz.func90 (.call (vB (rX s q m)) []<| .br (.fin [(0,1000)]) (.loop (Nat × (List aI)) (Q2 Nat (List aI)) ([7,8,9,10]++rg 17 25++[43,44,45]) [1000,3800,4500] (fun yy0=>[(8,vI (yy0.1:Int)),(7,.own 1000)]) (fun yy0=>[(1000,some (.arr 192 3 true (yy0.2.map aE)))]) (fun yy0=>yy0.1<=q.atoms.length/\yy0.2=qcL s q (gB (fE m) yy0.1)/\aDJ s q (gB (fE m) yy0.1)=true) (fun yy0=>q.atoms.length - yy0.1) (fun yy0=> .len q.atoms.length<| .br (.br (.back [(1000,1000)]) (bI (qP s q (yy0.1:Int))<| .elem _ bF q.atoms (fun e36=>bI (zW (eO s q (yy0.1:Int).toNat) e36)<| .len ((mM (eO s q (yy0.1:Int).toNat) e36).length)<| .br (.fin [(0,4200)]) (.app aI aE yy0.2 (mM (eO s q (yy0.1:Int).toNat) e36)<| .back [(1000,4500)])))) (.fin [(0,1000)])))) (p:=Lx (s.database.tables.map aS)<| Lx (s.catalogue.tables.map aF)<| Lx (s.dependencies.map aN)<| Lx (s.inclusions.map aQ)<| Lx (q.atoms.map bF)<| aBs s q m/\Nr (rX s q m) ([]=(dU s q m).map aE/\True) ((∃(k:Nat) (out:List aI),0=(k:Int)/\[]=out.map aE/\k<=q.atoms.length/\out=qcL s q (gB (fE m) k)/\aDJ s q (gB (fE m) k)=true)/\ ∀(k:Nat) (out:List aI),(k<=q.atoms.length/\out=qcL s q (gB (fE m) k)/\aDJ s q (gB (fE m) k)=true)->Lm bF q.atoms/\Br ((k:Int)<(q.atoms.length:Int)) ((0<=(k:Int)/\(k:Int)<=64)/\Br ((cH .and .i64 (m/2^k) (1:Int))=0) (bJ ((k:Int)+1)/\ ∃(k' :Nat) (out' :List aI),((k:Int)+1)=(k' :Int)/\out.map aE=out'.map aE/\(k' <=q.atoms.length/\out' =qcL s q (gB (fE m) k')/\aDJ s q (gB (fE m) k')=true)/\q.atoms.length - k' <q.atoms.length - k) (wD s q (k:Int)/\0<=(k:Int)/\Em bF q.atoms k fun e36=>aEt (eO s q (k:Int).toNat) e36/\Lm aE (mM (eO s q (k:Int).toNat) e36)/\Br ((((mM (eO s q (k:Int).toNat) e36).length:Nat):Int)=0) ([]=(dU s q m).map aE/\True) (Ap aE out (mM (eO s q (k:Int).toNat) e36) 24 (bJ ((k:Int)+1)/\ ∃(k' :Nat) (out' :List aI),((k:Int)+1)=(k' :Int)/\(out++(mM (eO s q (k:Int).toNat) e36)).map aE=out'.map aE/\(k' <=q.atoms.length/\out' =qcL s q (gB (fE m) k')/\aDJ s q (gB (fE m) k')=true)/\q.atoms.length - k' <q.atoms.length - k)))) (out.map aE=(dU s q m).map aE/\True))) (by kernel_rfl) ?_;refine lx fun n0=>lx fun n1=>lx fun n2=>lx fun n3=>lx fun n4=>?_;have hS:dD s=bL s.database+bQ s.catalogue+bT s.dependencies+cF s.inclusions:=rfl;have hI:=cX s.inclusions;have hQ:fR q=jB q.atoms:=rfl;refine⟨aNo s q m (by omega),dm (fun c0=>?_) fun c0=>?_⟩
 ·have hbad:rX s q m=false:=by simpa using c0
  apply et1
  ·(rw[aDK hbad]<;>rfl)
 ·have hq:rX s q m=true:=by simpa using c0
  obtain⟨hq1,hq2,hq3,hm1,hm2,hm3,hm4,hm5⟩:=qY hq;refine⟨⟨0,([]:List aI),rfl,rfl,aBn _,rfl,rfl⟩,fun k out ⟨hk,ho,ha⟩=>?_⟩;have hlen:out.length<=28:=by rw[ho];have z1:=aFh s q (gB (fE m) k);have z2:=zG (fE m) k;omega
  refine⟨aAq _,dd (fun c1=>?_) fun c1=>?_⟩
  ·refine⟨⟨by omega,by omega⟩,dd (fun c2=>?_) fun c2=>?_⟩
   ·refine⟨⟨by omega,by omega⟩,?_⟩;exact⟨k+1,_,rfl,rfl,⟨by omega,by (rw[ho,vU (aBi (by omega))];done),by (rw[vU (aBi (by omega))];exact ha)⟩,by omega⟩
   ·have hb:fE m k=true:=by have z:=aUb (m:=m) (v:=k) ⟨by omega,by omega⟩ (by omega);rw[decide_eq_false c2] at z;simpa using z
    have hcs:=aDL q (k:Int).toNat hc;refine⟨aHf s q (k:Int) (by omega) (by exact⟨by omega,by omega⟩),by omega,rfl,by omega,fun e36 h36=>?_⟩;have hE:mM (eO s q (k:Int).toNat) e36=qcA s q (k:Int):=by rw[qcA,Int.toNat_natCast,bM h36]
    have hzl:=aH4 (eO s q (k:Int).toNat) e36;have hcA:=aDj h36;refine⟨aSQ (eO s q (k:Int).toNat) _ (by omega) (by omega),aAq _,dd (fun c3=>?_) fun c3=>?_⟩
    ·have hem:(k:Int)∈dM m:=by rw[aDI hq];exact aHQ.2 ⟨by omega,by omega,by simpa using hb⟩
     apply et1
     ·(rw[aK8 hem (by rw[<-hE];omega)]<;>rfl)
    ·refine ap ?_ (fun _=>rfl) (by omega);refine⟨⟨by omega,by omega⟩,?_⟩;exact⟨k+1,_,rfl,rfl,⟨by omega,by (rw[ho,uF hb,aNn,hE]),by (rw[uF hb];exact aK9 ha (by rw[<-hE];exact c3))⟩,by omega⟩
  ·have hkl:q.atoms.length=k:=by omega
   rw[<-hkl,<-aDI hq] at ho ha;apply et1
   ·(rw[aK7 hq ha,ho])
def cJ (n d:Int):Bool:=eB d 1 2147483647&&eB n (-2147483647) 2147483647&&decide (Int.gcd n d=1)
theorem aHg {n d:Int}(h:cJ n d=true):1<=d/\d<=2147483647/\ -2147483647<=n/\n<=2147483647/\Int.gcd n d=1:=by
 simp only[cJ,aBH,aWB] at h;obtain⟨⟨h1,h2⟩,h3⟩:=h;have:=eC h1;have:=eC h2;exact⟨by omega,by omega,by omega,by omega,h3⟩
def bO (n d:Int):Int × Int × Bool:=
 if d=0 then (0,0,false) else
 let n1:=if d<0 then -n else n
 let d1:=if d<0 then -d else d
 let g:Int:=Int.gcd n1 d1
 if cJ (n1.tdiv g) (d1.tdiv g)=true then (n1.tdiv g,d1.tdiv g,true) else (0,0,false)
def aLr (a b c d:Int):Int × Int × Bool:=if cJ a b=true/\cJ c d=true then bO (a*d+c*b) (b*d) else (0,0,false)
def aLs (a b c d:Int):Int × Int × Bool:=if cJ a b=true/\cJ c d=true then bO (a*d - c*b) (b*d) else (0,0,false)
def aSR (a b c d:Int):Int × Int × Bool:=if cJ a b=true/\cJ c d=true then bO (a*c) (b*d) else (0,0,false)
def aJM (a b c d:Int):Int × Int × Bool:=if cJ a b=true/\cJ c d=true then bO (a*d) (b*c) else (0,0,false)
def aUx (a b c d:Int):Int:=if cJ a b=true/\cJ c d=true then (if a*d<c*b then -1 else if c*b<a*d then 1 else 0) else 0
def aEu (n d:Int):Int:=if cJ n d=true then (if (n.tdiv d)*d<n then n.tdiv d+1 else n.tdiv d) else 0
theorem aNp (x y:Int):Int.gcd y (x.tmod y)=Int.gcd x y:=by
 rw[Int.gcd_comm x y];unfold Int.gcd;rw[Int.natAbs_tmod,Nat.gcd_comm y.natAbs (x.natAbs%y.natAbs),<-Nat.gcd_rec]
theorem aXG (x:Int):(Int.gcd x 0:Int)=(if x< -x then -x else x):=by
 rw[Int.gcd_zero_right];split<;>omega
theorem aDO {x y:Int}(h:y≠0):(x.tmod y).natAbs<y.natAbs:=by
 rw[Int.natAbs_tmod];exact Nat.mod_lt _ (by omega)
theorem aHh {x:Int}{n:Nat}(h:x.natAbs<n)(hn:n<=9223372036854775807): -9223372036854775807<=x/\x<=9223372036854775807:=by omega
theorem aUy (n g:Int)(hn: -9223372036854775807<=n/\n<=9223372036854775807): -9223372036854775807<=n.tdiv g/\n.tdiv g<=9223372036854775807:=by
 have h1:(n.tdiv g).natAbs=n.natAbs/g.natAbs:=Int.natAbs_tdiv n g;have h2:n.natAbs/g.natAbs<=n.natAbs:=Nat.div_le_self _ _;omega
theorem mE {n d:Int}(h:d≠0):1<=(Int.gcd n d:Int):=by
 have:0<Int.gcd n d:=Int.gcd_pos_of_ne_zero_right n h;omega
theorem mN (n:Int):bO n 0=(0,0,false):=by simp[bO]
theorem aSS {n d g:Int}(h:0<d)(hg:g=Int.gcd n d):bO n d=if cJ (n.tdiv g) (d.tdiv g)=true then (n.tdiv g,d.tdiv g,true) else (0,0,false):=by
 subst hg;unfold bO;rw[if_neg (by omega)];simp only[if_neg (show ¬d<0 by omega)]
theorem aST {n d g:Int}(h:d<0)(hg:g=Int.gcd (-n) (-d)):bO n d=if cJ ((-n).tdiv g) ((-d).tdiv g)=true then ((-n).tdiv g,(-d).tdiv g,true) else (0,0,false):=by
 subst hg;unfold bO;rw[if_neg (by omega)];simp only[if_pos h]
theorem eP {x y:Int}(hx: -2147483647<=x/\x<=2147483647)(hy: -2147483647<=y/\y<=2147483647): -4611686014132420609<=x*y/\x*y<=4611686014132420609:=by
 have h1:(x*y).natAbs=x.natAbs*y.natAbs:=Int.natAbs_mul x y;have h2:x.natAbs*y.natAbs<=2147483647*2147483647:=Nat.mul_le_mul (by omega) (by omega);omega
theorem aFi {a b c d:Int}(h:cJ a b=false\/cJ c d=false):aLr a b c d=(0,0,false):=by rcases h with h | h<;>simp[aLr,h]
theorem aHi {a b c d:Int}(h:cJ a b=true)(h' :cJ c d=true):aLr a b c d=bO (a*d+c*b) (b*d):=by simp[aLr,h,h']
theorem aQh {a b c d:Int}(h:cJ a b=false\/cJ c d=false):aLs a b c d=(0,0,false):=by rcases h with h | h<;>simp[aLs,h]
theorem aNq {a b c d:Int}(h:cJ a b=true)(h' :cJ c d=true):aLs a b c d=bO (a*d - c*b) (b*d):=by simp[aLs,h,h']
theorem aFj {a b c d:Int}(h:cJ a b=false\/cJ c d=false):aSR a b c d=(0,0,false):=by rcases h with h | h<;>simp[aSR,h]
theorem zX {a b c d:Int}(h:cJ a b=true)(h' :cJ c d=true):aSR a b c d=bO (a*c) (b*d):=by simp[aSR,h,h']
theorem aFk {a b c d:Int}(h:cJ a b=false\/cJ c d=false):aJM a b c d=(0,0,false):=by rcases h with h | h<;>simp[aJM,h]
theorem zY {a b c d:Int}(h:cJ a b=true)(h' :cJ c d=true):aJM a b c d=bO (a*d) (b*c):=by simp[aJM,h,h']
theorem aSU {a b d:Int}:aJM a b 0 d=(0,0,false):=by unfold aJM;split<;>simp[bO]
theorem aFl {a b c d:Int}(h:cJ a b=false\/cJ c d=false):aUx a b c d=0:=by rcases h with h | h<;>simp[aUx,h]
theorem uG {a b c d:Int}(h:cJ a b=true)(h' :cJ c d=true):aUx a b c d=if a*d<c*b then -1 else if c*b<a*d then 1 else 0:=by simp[aUx,h,h']
def aW (r:aB):Bool:=cJ r.num r.den
def iM (q:Int × Int × Bool):aB × Bool:=(⟨q.1,q.2.1⟩,q.2.2)
def fV (a b:aB):aB × Bool:=iM (aLr a.num a.den b.num b.den)
def nV (a b:aB):aB × Bool:=iM (aLs a.num a.den b.num b.den)
def dQ (a b:aB):aB × Bool:=iM (aSR a.num a.den b.num b.den)
def aZ (a b:aB):aB × Bool:=iM (aJM a.num a.den b.num b.den)
def fA (a b:aB):Int:=aUx a.num a.den b.num b.den
def iZ (a:aB):Int:=aEu a.num a.den
theorem cC {r:aB}(h:aW r=true):1<=r.den/\r.den<=2147483647/\ -2147483647<=r.num/\r.num<=2147483647/\Int.gcd r.num r.den=1:=aHg h
theorem fW {n d:Int}:Int.gcd (n.natAbs:Int) d=Int.gcd n d:=by simp[Int.gcd]
theorem oP {n d:Int}:cJ n d=(decide (1<=d/\d<=2147483647)&&(decide (-2147483647<=n/\n<=2147483647)&&decide (((Int.gcd n d:Nat):Int)=1))):=by
 have e:decide (((Int.gcd n d:Nat):Int)=1)=decide (Int.gcd n d=1):=by congr 1;simp;omega
 rw[e];simp only[cJ,Bool.and_assoc]
 congr 1
 ·simp[eB,Bool.decide_and]
 congr 1
 simp[eB,Bool.decide_and]
theorem nP {k:Int}(hk:1<=k): ∀i:Nat,1<=k^i
 | 0=>by simp
 | i+1=>by
   rw[Int.pow_succ];have h1:=nP hk i;have h2:1*1<=k^i*k:=Int.mul_le_mul h1 hk (by omega) (by omega);omega
theorem uH {k:Int}(hk:1<=k){i j:Nat}(h:i<=j):k^i<=k^j:=by
 obtain⟨t,rfl⟩:=Nat.exists_eq_add_of_le h;rw[Int.pow_add];have h1:=nP hk i;have h2:=nP hk t;have h3:k^i*1<=k^i*k^t:=Int.mul_le_mul_of_nonneg_left h2 (by omega);omega
theorem aXk {n:Nat}(h:n<=40):(2:Int)^n<=1099511627776:=by
 have:=uH (k:=2) (by omega) h;exact Int.le_trans this (by decide)
theorem aXl {n:Nat}(h:n<=12):(2:Int)^n<=4096:=by
 have:=uH (k:=2) (by omega) h;exact Int.le_trans this (by decide)
theorem fM {i:Nat}(h:i<=12):bJ ((1:Int)*2^i):=by
 have h1:=aXl h;have h2:=nP (k:=2) (by omega) i;exact⟨by omega,by omega⟩
abbrev jR (n:Int)(a:Int)(c:Int):Prop:=Cn 83 [.one (.int .i64 n),.one (.int .i64 a),.one (.int .i64 c)] (vB (decide (a<=n/\n<=c))) []
theorem nQ (n a c:Int):jR n a c:=by
 refine cq Tryz.func83 (.br (.fin []) (.fin [])) (p:=Br (a<=n) (((decide (n<=c))=(decide (a<=n/\n<=c)))/\True) (((false)=(decide (a<=n/\n<=c)))/\True)) (by kernel_rfl) ?_;refine dd (fun g10=>?_) fun g10=>?_
 ·apply et1
  ·(simp[*];done)
 ·apply et1
  ·(simp[*];done)
abbrev fB (n:Int)(a:Int)(c:Int):Prop:=Cn 74 [.one (.int .i64 n),.one (.int .i64 a),.one (.int .i64 c)] (vB (decide (a<=n/\n<=c))) []
theorem iT (n a c:Int):fB n a c:=by
 refine cq Tryz.func74 (.br (.fin []) (.fin [])) (p:=Br (a<=n) (((decide (n<=c))=(decide (a<=n/\n<=c)))/\True) (((false)=(decide (a<=n/\n<=c)))/\True)) (by kernel_rfl) ?_;refine dd (fun g10=>?_) fun g10=>?_
 ·apply et1
  ·(simp[*];done)
 ·apply et1
  ·(simp[*];done)
abbrev oQ (a:Int)(c:Int):Prop:=Cn 139 [.one (.int .i64 a),.one (.int .i64 c)] (vI ((Int.gcd a c:Nat):Int)) []
theorem zZ (a c:Int)(ha: -9223372036854775807<=a/\a<=9223372036854775807)(hc: -9223372036854775807<=c/\c<=9223372036854775807):oQ a c:=by
 refine cq Tryz.func139 (.loop (Int × Int) (Q2 Int Int) [0,1,5,6,7,8,9,10] [] (fun yy0=>[(0,vI yy0.1),(1,vI yy0.2)]) (fun yy0=>[]) (fun yy0=>(-9223372036854775807<=yy0.1/\yy0.1<=9223372036854775807)/\(-9223372036854775807<=yy0.2/\yy0.2<=9223372036854775807)/\Int.gcd yy0.1 yy0.2=Int.gcd a c) (fun yy0=>yy0.2.natAbs) (fun yy0=> .br (.back []) (.fin []))) (p:=(∃(x:Int) (y:Int),a=x/\c=y/\(-9223372036854775807<=x/\x<=9223372036854775807)/\(-9223372036854775807<=y/\y<=9223372036854775807)/\Int.gcd x y=Int.gcd a c)/\ ∀(x:Int) (y:Int),((-9223372036854775807<=x/\x<=9223372036854775807)/\(-9223372036854775807<=y/\y<=9223372036854775807)/\Int.gcd x y=Int.gcd a c)->Nb (y=0) (y≠0/\ ∃(x' :Int) (y' :Int),y=x' /\(Int.tmod x y)=y' /\((-9223372036854775807<=x' /\x' <=9223372036854775807)/\(-9223372036854775807<=y' /\y' <=9223372036854775807)/\Int.gcd x' y' =Int.gcd a c)/\y'.natAbs<y.natAbs) (bJ (-x)/\(if x<(-x) then (-x) else x)=((Int.gcd a c:Nat):Int)/\True)) (by kernel_rfl) ?_;refine⟨⟨a,c,rfl,rfl,ha,hc,rfl⟩,fun x y ⟨hx,hy,hg⟩=>?_⟩;refine dn (fun c0=>?_) fun c0=>?_
 ·refine⟨by omega,?_⟩;exact⟨y,Int.tmod x y,rfl,rfl,⟨hy,aHh (aDO c0) (by omega),by rw[aNp];exact hg⟩,aDO c0⟩
 ·refine⟨⟨by omega,by omega⟩,?_,trivial⟩
  ·subst c0;rw[<-hg,aXG]
abbrev wG (a:Int)(c:Int):Prop:=Cn 129 [.one (.int .i64 a),.one (.int .i64 c)] (vI ((Int.gcd a c:Nat):Int)) []
theorem aHj (a c:Int)(ha:0<=a/\a<=9223372036854775807)(hc:0<=c/\c<=9223372036854775807):wG a c:=by
 refine cq Tryz.func129 (.loop (Int × Int) (Q2 Int Int) ([0,1]++rg 5 8) [] (fun yy0=>[(0,vI yy0.1),(1,vI yy0.2)]) (fun yy0=>[]) (fun yy0=>(0<=yy0.1/\yy0.1<=9223372036854775807)/\(0<=yy0.2/\yy0.2<=9223372036854775807)/\Int.gcd yy0.1 yy0.2=Int.gcd a c) (fun yy0=>yy0.2.natAbs) (fun yy0=> .br (.back []) (.fin []))) (p:=(∃(x:Int) (y:Int),a=x/\c=y/\(0<=x/\x<=9223372036854775807)/\(0<=y/\y<=9223372036854775807)/\Int.gcd x y=Int.gcd a c)/\ ∀(x:Int) (y:Int),((0<=x/\x<=9223372036854775807)/\(0<=y/\y<=9223372036854775807)/\Int.gcd x y=Int.gcd a c)->Nb (y=0) (y≠0/\ ∃(x' :Int) (y' :Int),y=x' /\(Int.tmod x y)=y' /\((0<=x' /\x' <=9223372036854775807)/\(0<=y' /\y' <=9223372036854775807)/\Int.gcd x' y' =Int.gcd a c)/\y'.natAbs<y.natAbs) (x=((Int.gcd a c:Nat):Int)/\True)) (by kernel_rfl) ?_;refine⟨⟨a,c,rfl,rfl,ha,hc,rfl⟩,fun x y ⟨hx,hy,hg⟩=>?_⟩;refine dn (fun c0=>?_) fun c0=>?_
 ·refine⟨by omega,?_⟩;exact⟨y,Int.tmod x y,rfl,rfl,⟨hy,⟨Int.tmod_nonneg _ hx.1,(aHh (aDO c0) (by omega)).2⟩,by rw[aNp];exact hg⟩,aDO c0⟩
 ·apply et1
  ·subst c0;rw[<-hg,Int.gcd_zero_right];omega
abbrev wH (n:Int):Prop:=Cn 130 [.one (.int .i64 n)] (vI (n.natAbs:Int)) []
theorem aHk (n:Int)(hn: -9223372036854775807<=n/\n<=9223372036854775807):wH n:=by
 refine cq Tryz.func130 (.br (.fin []) (.fin [])) (p:=Br (n<0) (bJ (-n)/\(-n)=(n.natAbs:Int)/\True) (n=(n.natAbs:Int)/\True)) (by kernel_rfl) ?_;refine dd (fun c0=>?_) fun c0=>?_
 ·refine⟨⟨by omega,by omega⟩,?_,trivial⟩
  ·omega
 ·apply et1
  ·omega
abbrev fI (r:aB):Prop:=Cn 87 [.agg [.int .i64 r.num,.int .i64 r.den]] (vB (aW r)) []
theorem jI (r:aB):fI r:=by
 refine cq Tryz.func87 (.call (vB (decide (1<=r.den/\r.den<=2147483647))) []<| .br (.call (vB (decide ((-2147483647:Int)<=r.num/\r.num<=2147483647))) []<| .lit<| .br (.call (vI ((Int.gcd r.num r.den:Nat):Int)) []<| .fin []) (.fin [])) (.fin [])) (p:=jR r.den (1:Int) (2147483647:Int)/\Br (1<=r.den/\r.den<=2147483647) (jR r.num (-2147483647:Int) (2147483647:Int)/\Br ((-2147483647:Int)<=r.num/\r.num<=2147483647) (oQ r.num r.den/\(decide (((Int.gcd r.num r.den:Nat):Int)=1))=(aW r)/\True) ((false)=(aW r)/\True)) ((false)=(aW r)/\True)) (by kernel_rfl) ?_;refine⟨nQ _ _ _,dd (fun g6=>?_) fun g6=>?_⟩
 ·refine⟨nQ _ _ _,dd (fun g11=>?_) fun g11=>?_⟩
  ·refine⟨zZ _ _ (by omega) (by omega),?_,trivial⟩
   ·(try rw[fW]);rw[aW,oP];simp[*]
  ·apply et1
   ·(try rw[fW]);rw[aW,oP];simp[*]
 ·apply et1
  ·(try rw[fW]);rw[aW,oP];simp[*]
abbrev eQ (r:aB):Prop:=Cn 77 [.agg [.int .i64 r.num,.int .i64 r.den]] (vB (aW r)) []
theorem iA (r:aB):eQ r:=by
 refine cq Tryz.func77 (.call (vB (decide (1<=r.den/\r.den<=2147483647))) []<| .br (.call (vB (decide ((-2147483647:Int)<=r.num/\r.num<=2147483647))) []<| .lit<| .br (.call (vI (r.num.natAbs:Int)) []<| .call (vI ((Int.gcd (r.num.natAbs:Int) r.den:Nat):Int)) []<| .fin []) (.fin [])) (.fin [])) (p:=fB r.den (1:Int) (2147483647:Int)/\Br (1<=r.den/\r.den<=2147483647) (fB r.num (-2147483647:Int) (2147483647:Int)/\Br ((-2147483647:Int)<=r.num/\r.num<=2147483647) (wH r.num/\wG (r.num.natAbs:Int) r.den/\(decide (((Int.gcd (r.num.natAbs:Int) r.den:Nat):Int)=1))=(aW r)/\True) ((false)=(aW r)/\True)) ((false)=(aW r)/\True)) (by kernel_rfl) ?_;refine⟨iT _ _ _,dd (fun g6=>?_) fun g6=>?_⟩
 ·refine⟨iT _ _ _,dd (fun g11=>?_) fun g11=>?_⟩
  ·refine⟨aHk _ (by omega),aHj _ _ (by omega) (by omega),?_,trivial⟩
   ·(try rw[fW]);rw[aW,oP];simp[*]
  ·apply et1
   ·(try rw[fW]);rw[aW,oP];simp[*]
 ·apply et1
  ·(try rw[fW]);rw[aW,oP];simp[*]
def jU (m:Int)(l:List Int):Nat->Int
 | 0=>0
 | k+1=>if (k<4/\0<=l.getD k 0/\l.getD k 0<=3)/\cH .and .i64 (m/2^(l.getD k 0).toNat) 1=1 then cH .or .i64 (jU m l k) (1*2^k) else jU m l k
def jJ (m:Int)(l:List Int):Int:=jU m l l.length
theorem aKb {m:Int}{l:List Int}{k:Nat}{x:Int}(hx:l[k]? =some x)(h:(k<4/\0<=x/\x<=3)/\cH .and .i64 (m/2^x.toNat) 1=1):jU m l (k+1)=cH .or .i64 (jU m l k) (1*2^k):=by
 have e:l.getD k 0=x:=by simp[aJL,hx]
 rw[jU,e,if_pos h]
theorem aAA {m:Int}{l:List Int}{k:Nat}{x:Int}(hx:l[k]? =some x)(h: ¬((k<4/\0<=x/\x<=3)/\cH .and .i64 (m/2^x.toNat) 1=1)):jU m l (k+1)=jU m l k:=by
 have e:l.getD k 0=x:=by simp[aJL,hx]
 rw[jU,e,if_neg h]
theorem aP4 {m:Int}{l:List Int}{k:Nat}(h:4<=k):jU m l k=jU m l 4:=by
 induction k with
 | zero=>omega
 | succ k ih=>
   by_cases h4:k+1=4
   ·rw[h4]
   rw[jU,if_neg (by omega),ih (by omega)]
def mC (l:List Int)(c:aI):aI:=⟨jJ c.src l,jJ c.dst l,c.bits⟩
abbrev aEC (m:Int)(l:List Int):Prop:=Cn 160 [.one (.int .i64 m),.ref [.sl 3 1 (l.map intD)]] (vI (jJ m l)) []
theorem aQi (m:Int)(l:List Int):aEC m l:=by
 refine cq Tryz.func160 (.len l.length<| .loop (Nat × Int) (Q2 Nat Int) ([4,5,6]++rg 9 23) [] (fun yy0=>[(4,vI yy0.2),(9,vI (yy0.1:Int))]) (fun yy0=>[]) (fun yy0=>yy0.1<=l.length/\yy0.2=jU m l yy0.1) (fun yy0=>l.length - yy0.1) (fun yy0=> .br (.elem _ intD l (fun e12=> .br (.call (vB (decide (0<=e12/\e12<=3))) []<| .lit<| .br (.lit<| .lit<| .lit<| .lit<| .lit<| .br (.back []) (.back [])) (.back [])) (.back []))) (.fin []))) (p:=Lx (l.map intD)<| Lm intD l/\((∃(k:Nat) (o:Int),0=o/\0=(k:Int)/\k<=l.length/\o=jU m l k)/\ ∀(k:Nat) (o:Int),(k<=l.length/\o=jU m l k)->Br ((k:Int)<(l.length:Int)) (0<=(k:Int)/\Em intD l k fun e12=>Br ((k:Int)<4) (jR e12 (0:Int) (3:Int)/\Br (0<=e12/\e12<=3) ((0<=e12/\e12<=64)/\Br ((cH .and .i64 (m/2^(Int.toNat e12)) (1:Int))=1) ((0<=(k:Int)/\(k:Int)<=64)/\bJ ((1:Int)*2^k)/\bJ ((k:Int)+1)/\ ∃(k' :Nat) (o' :Int),(cH .or .i64 o ((1:Int)*2^k))=o' /\((k:Int)+1)=(k' :Int)/\(k' <=l.length/\o' =jU m l k')/\l.length - k' <l.length - k) (bJ ((k:Int)+1)/\ ∃(k' :Nat) (o' :Int),o=o' /\((k:Int)+1)=(k' :Int)/\(k' <=l.length/\o' =jU m l k')/\l.length - k' <l.length - k)) (bJ ((k:Int)+1)/\ ∃(k' :Nat) (o' :Int),o=o' /\((k:Int)+1)=(k' :Int)/\(k' <=l.length/\o' =jU m l k')/\l.length - k' <l.length - k)) (bJ ((k:Int)+1)/\ ∃(k' :Nat) (o' :Int),o=o' /\((k:Int)+1)=(k' :Int)/\(k' <=l.length/\o' =jU m l k')/\l.length - k' <l.length - k)) (o=(jJ m l)/\True))) (by kernel_rfl) ?_;refine lx fun n0=>?_;refine⟨aAq _,⟨0,(0:Int),rfl,rfl,aBn _,rfl⟩,fun k o ⟨hk,hv⟩=>?_⟩;refine dd (fun c0=>?_) fun c0=>?_
 ·refine⟨by omega,rfl,by omega,fun e12 h12=>?_⟩;have hk2:=h12;refine dd (fun g16=>?_) fun g16=>?_
  ·refine⟨nQ _ _ _,dd (fun g20=>?_) fun g20=>?_⟩
   ·refine⟨⟨by omega,by omega⟩,dd (fun c1=>?_) fun c1=>?_⟩
    ·refine⟨⟨by omega,by omega⟩,by exact fM (by omega),by exact⟨by omega,by omega⟩,?_⟩;exact⟨k+1,cH .or .i64 o ((1:Int)*2^k),rfl,rfl,⟨by omega,by (rw[aKb hk2 (by refine⟨⟨by omega,by omega,by omega⟩,by assumption⟩),hv];done)⟩,by omega⟩
    ·refine⟨by exact⟨by omega,by omega⟩,?_⟩;exact⟨k+1,o,rfl,rfl,⟨by omega,by (rw[aAA hk2 (by rintro⟨⟨_,_,_⟩,_⟩;omega),hv];done)⟩,by omega⟩
   ·refine⟨by exact⟨by omega,by omega⟩,?_⟩;exact⟨k+1,o,rfl,rfl,⟨by omega,by (rw[aAA hk2 (by rintro⟨⟨_,_,_⟩,_⟩;omega),hv];done)⟩,by omega⟩
  ·refine⟨by exact⟨by omega,by omega⟩,?_⟩;exact⟨k+1,o,rfl,rfl,⟨by omega,by (rw[aAA hk2 (by rintro⟨⟨_,_,_⟩,_⟩;omega),hv];done)⟩,by omega⟩
 ·apply et1
  ·rw[hv,jJ,show k=l.length by omega]
abbrev aED (m:Int)(l:List Int):Prop:=Cn 147 [.one (.int .i64 m),.one (.sl 3 1 (l.map intD))] (vI (jJ m l)) []
theorem aQj (m:Int)(l:List Int):aED m l:=by
 refine cq Tryz.func147 (.loop (Nat × Int) (Q2 Nat Int) (rg 5 31) [] (fun yy0=>[(5,vI yy0.2),(6,vI (yy0.1:Int))]) (fun yy0=>[]) (fun yy0=>(yy0.1<=l.length/\yy0.1<=4)/\yy0.2=jU m l yy0.1) (fun yy0=>l.length - yy0.1) (fun yy0=> .len l.length<| .br (.lit<| .lit<| .br (.elem _ intD l (fun e19=> .call (vB (decide (0<=e19/\e19<=3))) []<| .br (.elem _ intD l (fun e26=> .lit<| .lit<| .lit<| .lit<| .lit<| .br (.back []) (.back []))) (.back []))) (.fin [])) (.fin []))) (p:=Lx (l.map intD)<| (∃(k:Nat) (o:Int),0=o/\0=(k:Int)/\(k<=l.length/\k<=4)/\o=jU m l k)/\ ∀(k:Nat) (o:Int),((k<=l.length/\k<=4)/\o=jU m l k)->Lm intD l/\Br ((k:Int)<(l.length:Int)) (Br ((k:Int)<4) (0<=(k:Int)/\Em intD l k fun e19=>fB e19 (0:Int) (3:Int)/\Br (0<=e19/\e19<=3) (0<=(k:Int)/\Em intD l k fun e26=>(0<=e26/\e26<=64)/\Br ((cH .and .i64 (m/2^(Int.toNat e26)) (1:Int))=1) ((0<=(k:Int)/\(k:Int)<=64)/\bJ ((1:Int)*2^k)/\bJ ((k:Int)+1)/\ ∃(k' :Nat) (o' :Int),(cH .or .i64 o ((1:Int)*2^k))=o' /\((k:Int)+1)=(k' :Int)/\((k' <=l.length/\k' <=4)/\o' =jU m l k')/\l.length - k' <l.length - k) (bJ ((k:Int)+1)/\ ∃(k' :Nat) (o' :Int),o=o' /\((k:Int)+1)=(k' :Int)/\((k' <=l.length/\k' <=4)/\o' =jU m l k')/\l.length - k' <l.length - k)) (bJ ((k:Int)+1)/\ ∃(k' :Nat) (o' :Int),o=o' /\((k:Int)+1)=(k' :Int)/\((k' <=l.length/\k' <=4)/\o' =jU m l k')/\l.length - k' <l.length - k)) (o=(jJ m l)/\True)) (o=(jJ m l)/\True)) (by kernel_rfl) ?_;refine lx fun n0=>?_;refine⟨⟨0,(0:Int),rfl,rfl,⟨aBn _,by omega⟩,rfl⟩,fun k o ⟨hk,hv⟩=>?_⟩;refine⟨aAq _,dd (fun g11=>?_) fun g11=>?_⟩
 ·refine dd (fun c0=>?_) fun c0=>?_
  ·refine⟨by omega,rfl,by omega,fun e19 h19=>?_⟩;have hk2:=h19;refine⟨iT _ _ _,dd (fun g22=>?_) fun g22=>?_⟩
   ·refine⟨by omega,rfl,by omega,fun e26 h26=>?_⟩;obtain rfl:=(aX hk2 h26).symm;refine⟨⟨by omega,by omega⟩,dd (fun c1=>?_) fun c1=>?_⟩
    ·refine⟨⟨by omega,by omega⟩,by exact fM (by omega),by exact⟨by omega,by omega⟩,?_⟩;exact⟨k+1,cH .or .i64 o ((1:Int)*2^k),rfl,rfl,⟨by omega,by (rw[aKb hk2 (by refine⟨⟨by omega,by omega,by omega⟩,by assumption⟩),hv];done)⟩,by omega⟩
    ·refine⟨by exact⟨by omega,by omega⟩,?_⟩;exact⟨k+1,o,rfl,rfl,⟨by omega,by (rw[aAA hk2 (by rintro⟨⟨_,_,_⟩,_⟩;omega),hv];done)⟩,by omega⟩
   ·refine⟨by exact⟨by omega,by omega⟩,?_⟩;exact⟨k+1,o,rfl,rfl,⟨by omega,by (rw[aAA hk2 (by rintro⟨⟨_,_,_⟩,_⟩;omega),hv];done)⟩,by omega⟩
  ·apply et1
   ·(rw[hv,jJ,aP4 (k:=l.length) (by omega),show k=4 by omega];done)
 ·apply et1
  ·(rw[hv,jJ,show k=l.length by omega];done)
abbrev aBt (l:List aI)(v:List Int):AV × List (Nat × Rs):=(.own 0,[(0,.arr 192 3 true ((l.map (mC v)).map aE))])
abbrev aHl (l:List aI)(v:List Int):Prop:=Cn 102 [.one (.sl 192 3 (l.map aE)),.one (.sl 3 1 (v.map intD))] (aBt l v).1 (aBt l v).2
theorem aUz (l:List aI)(v:List Int)(hl:l.length<=1048576):aHl l v:=by
 refine cq Tryz.func102 (.len l.length<| .loop (Nat × (List aI)) (Q2 Nat (List aI)) ([6,8,10]++rg 13 19) [800,1000,2900,3000] (fun yy0=>[(6,.own 1000),(13,vI (yy0.1:Int))]) (fun yy0=>[(1000,some (.arr 192 3 true (yy0.2.map aE)))]) (fun yy0=>yy0.1<=l.length/\yy0.2=(l.take yy0.1).map (mC v)) (fun yy0=>l.length - yy0.1) (fun yy0=> .br (.elem _ aE l (fun e15=> .call (vI (jJ e15.src v)) []<| .call (vI (jJ e15.dst v)) []<| .app aI aE yy0.2 ([(⟨jJ e15.src v,jJ e15.dst v,e15.bits⟩:aI)]:List aI)<| .back [(1000,3000)])) (.fin [(0,1000)]))) (p:=Lx (l.map aE)<| Lx (v.map intD)<| Lm aE l/\((∃(k:Nat) (out:List aI),0=(k:Int)/\[]=out.map aE/\k<=l.length/\out=(l.take k).map (mC v))/\ ∀(k:Nat) (out:List aI),(k<=l.length/\out=(l.take k).map (mC v))->Br ((k:Int)<(l.length:Int)) (0<=(k:Int)/\Em aE l k fun e15=>aEC e15.src v/\aEC e15.dst v/\Ap aE out ([(⟨jJ e15.src v,jJ e15.dst v,e15.bits⟩:aI)]:List aI) 24 (bJ ((k:Int)+1)/\ ∃(k' :Nat) (out' :List aI),((k:Int)+1)=(k' :Int)/\(out++[(⟨jJ e15.src v,jJ e15.dst v,e15.bits⟩:aI)]).map aE=out'.map aE/\(k' <=l.length/\out' =(l.take k').map (mC v))/\l.length - k' <l.length - k)) (out.map aE=(l.map (mC v)).map aE/\True))) (by kernel_rfl) ?_;refine lx fun n0=>lx fun n1=>?_;refine⟨aAq _,⟨0,([]:List aI),rfl,rfl,aBn _,rfl⟩,fun k out ⟨hk,ho⟩=>?_⟩;refine dd (fun c0=>?_) fun c0=>?_
 ·refine⟨by omega,rfl,by omega,fun e15 h15=>?_⟩;have hk2:=h15;refine⟨aQi _ _,aQi _ _,?_⟩;refine ap ?_ (fun _=>rfl) (by simp[ho];omega);refine⟨⟨by omega,by omega⟩,?_⟩;exact⟨k+1,_,rfl,rfl,⟨by omega,by rw[ho,bR hk2,aLt];rfl⟩,by omega⟩
 ·apply et1
  ·rw[ho,aIs (by omega)]
abbrev aBu (l:List aI)(v:List Int):AV × List (Nat × Rs):=(.own 0,[(0,.arr 192 3 true ((l.map (mC v)).map aE))])
abbrev aHm (l:List aI)(v:List Int):Prop:=Cn 93 [.one (.sl 192 3 (l.map aE)),.one (.sl 3 1 (v.map intD))] (aBu l v).1 (aBu l v).2
theorem aVA (l:List aI)(v:List Int)(hl:l.length<=1048576):aHm l v:=by
 refine cq Tryz.func93 (.loop (Nat × (List aI)) (Q2 Nat (List aI)) (rg 5 32) [700,3500,3600] (fun yy0=>[(5,.own 700),(6,vI (yy0.1:Int))]) (fun yy0=>[(700,some (.arr 192 3 true (yy0.2.map aE)))]) (fun yy0=>yy0.1<=l.length/\yy0.2=(l.take yy0.1).map (mC v)) (fun yy0=>l.length - yy0.1) (fun yy0=> .len l.length<| .br (.elem _ aE l (fun e17=> .call (vI (jJ e17.src v)) []<| .elem _ aE l (fun e24=> .call (vI (jJ e24.dst v)) []<| .elem _ aE l (fun e31=> .app aI aE yy0.2 ([(⟨jJ e17.src v,jJ e24.dst v,e31.bits⟩:aI)]:List aI)<| .back [(700,3600)])))) (.fin [(0,700)]))) (p:=Lx (l.map aE)<| Lx (v.map intD)<| (∃(k:Nat) (out:List aI),0=(k:Int)/\[]=out.map aE/\k<=l.length/\out=(l.take k).map (mC v))/\ ∀(k:Nat) (out:List aI),(k<=l.length/\out=(l.take k).map (mC v))->Lm aE l/\Br ((k:Int)<(l.length:Int)) (0<=(k:Int)/\Em aE l k fun e17=>aED e17.src v/\0<=(k:Int)/\Em aE l k fun e24=>aED e24.dst v/\0<=(k:Int)/\Em aE l k fun e31=>Ap aE out ([(⟨jJ e17.src v,jJ e24.dst v,e31.bits⟩:aI)]:List aI) 24 (bJ ((k:Int)+1)/\ ∃(k' :Nat) (out' :List aI),((k:Int)+1)=(k' :Int)/\(out++[(⟨jJ e17.src v,jJ e24.dst v,e31.bits⟩:aI)]).map aE=out'.map aE/\(k' <=l.length/\out' =(l.take k').map (mC v))/\l.length - k' <l.length - k)) (out.map aE=(l.map (mC v)).map aE/\True)) (by kernel_rfl) ?_;refine lx fun n0=>lx fun n1=>?_;refine⟨⟨0,([]:List aI),rfl,rfl,aBn _,rfl⟩,fun k out ⟨hk,ho⟩=>?_⟩;refine⟨aAq _,dd (fun c0=>?_) fun c0=>?_⟩
 ·refine⟨by omega,rfl,by omega,fun e17 h17=>?_⟩;have hk2:=h17;refine⟨aQj _ _,by omega,rfl,by omega,fun e24 h24=>?_⟩;obtain rfl:=(aX hk2 h24).symm;refine⟨aQj _ _,by omega,rfl,by omega,fun e31 h31=>?_⟩;obtain rfl:=(aX hk2 h31).symm;refine ap ?_ (fun _=>rfl) (by simp[ho];omega);refine⟨⟨by omega,by omega⟩,?_⟩;exact⟨k+1,_,rfl,rfl,⟨by omega,by rw[ho,bR hk2,aLt];rfl⟩,by omega⟩
 ·apply et1
  ·rw[ho,aIs (by omega)]
end Go.Proofs.YtlidmoeecphbmaaGreat
