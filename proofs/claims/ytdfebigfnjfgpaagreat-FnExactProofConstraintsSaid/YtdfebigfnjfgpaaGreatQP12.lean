/-
  Contracts and plain laws, joined: part 13.
-/
import Derived.Test.YtdfebigfnjfgpaaGreatQP10
import Derived.Test.YtdfebigfnjfgpaaGreatQP11
import Derived.Test.YtdfebigfnjfgpaaGreatQP9
namespace Go.Proofs.YtdfebigfnjfgpaaGreat
open Go.ChangeShapes Go.WideShapes Go.ChangeAt Go.RowKit
set_option linter.unusedVariables false
set_option linter.unusedSimpArgs false
set_option maxRecDepth 100000
set_option maxHeartbeats 4000000
theorem aUv (l:List bZ) (a:List Int):(0:Int)=m4 (iM l 0 a 0):=by simp [m4,b4,iM,aFP]
theorem aRt (n:Nat) (l:List bZ) (a:List Int):List.replicate n false=(List.range n).map (iM l 0 a 0):=by
 apply List.ext_getElem?
 intro i
 rw [List.getElem?_map,List.getElem?_replicate]
 by_cases hi:i<n
 ·rw [if_pos hi,List.getElem?_range hi];simp [iM,aFP]
 ·rw [if_neg hi,show (List.range n)[i]? =none from List.getElem?_eq_none (by simp;omega)];rfl
theorem aRu {l:List Bool} {v:Bool}:decide (0≤lH (fun y=>v==y) l)=decide (v∈l):=by
 apply Bool.eq_iff_iff.2
 rw [decide_eq_true_eq,decide_eq_true_eq]
 constructor
 ·intro h
  obtain ⟨k,x,_,hx,hf⟩:=pG.2 h
  have h1:=List.find?_some hf
  have:v=x:=by simpa using h1
  rw [this];exact List.mem_of_getElem? hx
 ·intro h
  rcases Int.lt_or_le (lH (fun y=>v==y) l) 0 with q | q
  ·have:=pG.1 q
   rw [List.find?_eq_none] at this
   exact absurd (this v h) (by simp)
  ·exact q
abbrev aTr (l:List Bool) (v:Bool):Prop:=cX Tryz.prog 211 [.one (.sl 4 1 (l.map kF)),.one (.bool v)] (vI (lH (fun y=>v==y) l)) []
theorem ixB (l:List Bool) (v:Bool):aTr l v:=by
 refine aX bG aR Tryz.func211 (by kernel_rfl) (.len l.length<| .loop Nat (Q1 Nat) [5,8,9,10,11,12,13,14,15,16,18] [] (fun k=>[(8,vI (k:Int))]) (fun k=>[]) (fun k=>k≤l.length∧(l.take k).all (fun y=> !(v==y))=true) (fun k=>l.length - k) (fun k=> .br (.elem _ kF l (fun e14=> .br (.fin []) (.back []))) (.fin []))) (p:=(l.map kF).length≤9223372036854775807→Lm kF l∧((∃(k:Nat),(0:Int)=(k:Int)∧k≤l.length∧(l.take k).all (fun y=> !(v==y))=true)∧ ∀(k:Nat),(k≤l.length∧(l.take k).all (fun y=> !(v==y))=true)→((decide ((k:Int)<((l.length:Nat):Int)))=true→0≤(k:Int)∧Em kF l k fun e14=>((v==e14)=true→(k:Int)=(lH (fun y=>v==y) l)∧True)∧((v==e14)=false→cC ((k:Int)+(1:Int))∧ ∃(k' :Nat),((k:Int)+(1:Int))=(k' :Int)∧(k' ≤l.length∧(l.take k').all (fun y=> !(v==y))=true)∧l.length - k' <l.length - k))∧((decide ((k:Int)<((l.length:Nat):Int)))=false→(-1:Int)=(lH (fun y=>v==y) l)∧True))) (by kernel_rfl) ?_
 intro n0
 simp only [List.length_map] at n0
 refine ⟨List.length_map _,⟨0,rfl,Nat.zero_le _,rfl⟩,fun k ⟨hk,ha⟩=>?_⟩
 refine ⟨fun c0=>?_,fun c0=>?_⟩
 ·replace c0:=yq c0
  refine ⟨by omega,rfl,by omega,fun e14 h14=>?_⟩
  refine ⟨fun c1=>?_,fun c1=>?_⟩
  ·refine ⟨?_,trivial⟩
   ·first | (rw [aF9 h14 ha c1];done) | (rw [aCs (bE (by omega) ha)];done)
  ·refine ⟨⟨by omega,by omega⟩,?_⟩
   exact ⟨k+1,rfl,⟨by omega,cS h14 ha (by rw [c1];rfl)⟩,by omega⟩
 ·replace c0:=nq c0
  refine ⟨?_,trivial⟩
  ·first | (rw [aF9 h14 ha c1];done) | (rw [aCs (bE (by omega) ha)];done)
abbrev aTs (l:List Bool) (v:Bool):Prop:=cX Tryz.prog 182 [.one (.sl 4 1 (l.map kF)),.one (.bool v)] (vB (decide (v∈l))) []
theorem ctB (l:List Bool) (v:Bool):aTs l v:=by
 refine aX bG aR Tryz.func182 (by kernel_rfl) (.call (vI (lH (fun y=>v==y) l)) []<| .fin []) (p:=(l.map kF).length≤9223372036854775807→aTr l v∧(decide ((0:Int)≤(lH (fun y=>v==y) l)))=(decide (v∈l))∧True) (by kernel_rfl) ?_
 intro n0
 simp only [List.length_map] at n0
 refine ⟨ixB _ _,?_,trivial⟩
 ·exact aRu
abbrev wS (q:QueryD):Prop:=cX Tryz.prog 149 [.agg [.int .i64 q.variableCount,.sl 135 2 (q.atoms.map aZ)]] (vB (cL q)) []
theorem aHO (q:QueryD):wS q:=by
 refine aX bG aR Tryz.func149 (by kernel_rfl) (.call (vB (dW q.variableCount (1:Int) (4:Int))) []<| .br (.fin []) (.len q.atoms.length<| .call (vB (dW ((q.atoms.length:Nat):Int) (1:Int) (4:Int))) []<| .lit<| .lit<| .br (.fin []) (.mk ((q.variableCount).toNat) [.bool false] ((List.replicate ((q.variableCount).toNat) false).map kF)<| .len q.atoms.length<| .loop (Nat × (List Bool)) (Q2 Nat (List Bool)) [5,6,7,25,26,27,28,29,30,31,32,33,34,35,36,37,38,39,40,41,42,43,44,45,46,47,48,49,50,51,52,53,54,55,56,57,58,59,60,61,62,63,64,65,66] [500,2100] (fun yy0=>[(25,vI (yy0.1:Int))]) (fun yy0=>[(2100,some (.arr 4 1 true (yy0.2.map kF)))]) (fun yy0=>yy0.1≤q.atoms.length∧yy0.2=(List.range q.variableCount.toNat).map (iM q.atoms yy0.1 [] 0)∧(q.atoms.take yy0.1).all (eP q.variableCount)=true) (fun yy0=>q.atoms.length - yy0.1) (fun yy0=> .br (.elem _ aZ q.atoms (fun e27=> .call (vB (eJ e27.name)) []<| .br (.fin []) (.len e27.vars.length<| .call (vB (dW ((e27.vars.length:Nat):Int) (1:Int) (3:Int))) []<| .lit<| .lit<| .br (.fin []) (.len e27.vars.length<| .loop (Nat × (List Bool)) (Q2 Nat (List Bool)) [6,7,43,44,45,46,47,48,49,50,51,52,53,54,55,56,57,58,59,60,61,62,63,64,65] [2100] (fun yy1=>[(43,vI (yy1.1:Int))]) (fun yy1=>[(2100,some (.arr 4 1 true (yy1.2.map kF)))]) (fun yy1=>yy1.1≤e27.vars.length∧yy1.2=(List.range q.variableCount.toNat).map (iM q.atoms yy0.1 e27.vars yy1.1)∧(List.range yy1.1).all (kT q.variableCount e27.vars)=true) (fun yy1=>e27.vars.length - yy1.1) (fun yy1=> .br (.elem _ intD e27.vars (fun e46=> .call (vB (dW e46 (0:Int) (q.variableCount - (1:Int)))) []<| .br (.fin []) (.sub Int intD e27.vars<| .call (vB (decide (e46∈(e27.vars.take yy1.1)))) []<| .lit<| .br (.fin []) (.len yy1.2.length<| .set Bool kF yy1.2 (fun s14_3=>true) (fun s14_3=> .back [(2100,2100)]))))) (.back [(2100,2100)])))))) (.call (vB (decide (false∈yy0.2))) []<| .fin []))))) (p:=(q.atoms.map aZ).length≤9223372036854775807→fN q.variableCount (1:Int) (4:Int)∧(((!(dW q.variableCount (1:Int) (4:Int)))=true→(false)=(cL q)∧True)∧((!(dW q.variableCount (1:Int) (4:Int)))=false→Lm aZ q.atoms∧(fN ((q.atoms.length:Nat):Int) (1:Int) (4:Int)∧(((!(dW ((q.atoms.length:Nat):Int) (1:Int) (4:Int)))=true→(false)=(cL q)∧True)∧((!(dW ((q.atoms.length:Nat):Int) (1:Int) (4:Int)))=false→q.variableCount=(((q.variableCount).toNat:Nat):Int)∧q.variableCount=(((q.variableCount).toNat:Nat):Int)∧1*((q.variableCount).toNat)≤281474976710656∧((q.variableCount).toNat)≤9223372036854775807∧List.replicate ((q.variableCount).toNat) [.bool false]=(List.replicate ((q.variableCount).toNat) false).map kF∧(Lm aZ q.atoms∧((∃(k:Nat) (sn:List Bool),(0:Int)=(k:Int)∧(List.replicate ((q.variableCount).toNat) false).map kF=sn.map kF∧k≤q.atoms.length∧sn=(List.range q.variableCount.toNat).map (iM q.atoms k [] 0)∧(q.atoms.take k).all (eP q.variableCount)=true)∧ ∀(k:Nat) (sn:List Bool),(k≤q.atoms.length∧sn=(List.range q.variableCount.toNat).map (iM q.atoms k [] 0)∧(q.atoms.take k).all (eP q.variableCount)=true)→((decide ((k:Int)<((q.atoms.length:Nat):Int)))=true→0≤(k:Int)∧Em aZ q.atoms k fun e27=>zG e27.name∧(((!(eJ e27.name))=true→(false)=(cL q)∧True)∧((!(eJ e27.name))=false→Lm intD e27.vars∧(fN ((e27.vars.length:Nat):Int) (1:Int) (3:Int)∧(((!(dW ((e27.vars.length:Nat):Int) (1:Int) (3:Int)))=true→(false)=(cL q)∧True)∧((!(dW ((e27.vars.length:Nat):Int) (1:Int) (3:Int)))=false→Lm intD e27.vars∧((∃(i:Nat) (sm:List Bool),(0:Int)=(i:Int)∧sn.map kF=sm.map kF∧i≤e27.vars.length∧sm=(List.range q.variableCount.toNat).map (iM q.atoms k e27.vars i)∧(List.range i).all (kT q.variableCount e27.vars)=true)∧ ∀(i:Nat) (sm:List Bool),(i≤e27.vars.length∧sm=(List.range q.variableCount.toNat).map (iM q.atoms k e27.vars i)∧(List.range i).all (kT q.variableCount e27.vars)=true)→((decide ((i:Int)<((e27.vars.length:Nat):Int)))=true→0≤(i:Int)∧Em intD e27.vars i fun e46=>cC (q.variableCount - (1:Int))∧(fN e46 (0:Int) (q.variableCount - (1:Int))∧(((!(dW e46 (0:Int) (q.variableCount - (1:Int))))=true→(false)=(cL q)∧True)∧((!(dW e46 (0:Int) (q.variableCount - (1:Int))))=false→e27.vars.map intD=e27.vars.map intD∧0≤(i:Int)∧(i:Int)≤((e27.vars.length:Nat):Int)∧(aLw (e27.vars.take i) e46∧(((decide (e46∈(e27.vars.take i)))=true→(false)=(cL q)∧True)∧((decide (e46∈(e27.vars.take i)))=false→0≤e46∧Lm kF sm∧e46<((sm.length:Nat):Int)∧(sm.map kF=sm.map kF∧(e46).toNat<sm.length∧ ∀s14_3,sm[(e46).toNat]? =some s14_3→dT (kF s14_3)=true∧0+1≤(kF s14_3).length∧(kF s14_3).take 0++[.bool true]++(kF s14_3).drop (0+1)=kF true∧cC ((i:Int)+(1:Int))∧ ∃(i' :Nat) (sm' :List Bool),((i:Int)+(1:Int))=(i' :Int)∧(sm.set ((e46).toNat) true).map kF=sm'.map kF∧(i' ≤e27.vars.length∧sm' =(List.range q.variableCount.toNat).map (iM q.atoms k e27.vars i')∧(List.range i').all (kT q.variableCount e27.vars)=true)∧e27.vars.length - i' <e27.vars.length - i))))))))∧((decide ((i:Int)<((e27.vars.length:Nat):Int)))=false→cC ((k:Int)+(1:Int))∧ ∃(k' :Nat) (sn' :List Bool),((k:Int)+(1:Int))=(k' :Int)∧sm.map kF=sn'.map kF∧(k' ≤q.atoms.length∧sn' =(List.range q.variableCount.toNat).map (iM q.atoms k' [] 0)∧(q.atoms.take k').all (eP q.variableCount)=true)∧q.atoms.length - k' <q.atoms.length - k))))))))∧((decide ((k:Int)<((q.atoms.length:Nat):Int)))=false→aTs sn false∧(!(decide (false∈sn)))=(cL q)∧True))))))))) (by kernel_rfl) ?_
 intro n0
 simp only [List.length_map] at n0
 refine ⟨jG _ _ _,fun g12=>?_,fun g12=>?_⟩
 ·replace g12:=nt g12
  have hbad:(dW q.variableCount 1 4&&dW (q.atoms.length:Nat) 1 4)=false:=by first | (rw [g12];rfl) | (rw [g12,c0];rfl)
  refine ⟨?_,trivial⟩
  ·first | (exact (oG hbad).symm) | (exact (jT h27 hA).symm) | (rw [lU hpar hall,hs,iF (by omega),sT])
 ·replace g12:=nf g12
  refine ⟨List.length_map _,jG _ _ _,fun c0=>?_,fun c0=>?_⟩
  ·replace c0:=nt c0
   have hbad:(dW q.variableCount 1 4&&dW (q.atoms.length:Nat) 1 4)=false:=by first | (rw [g12];rfl) | (rw [g12,c0];rfl)
   refine ⟨?_,trivial⟩
   ·first | (exact (oG hbad).symm) | (exact (jT h27 hA).symm) | (rw [lU hpar hall,hs,iF (by omega),sT])
  ·replace c0:=nf c0
   have hpar:(dW q.variableCount 1 4&&dW (q.atoms.length:Nat) 1 4)=true:=by rw [g12,c0];rfl
   have hn:=eY g12
   refine ⟨by omega,by omega,by omega,by omega,by first | (rw [List.map_replicate];done) | (rw [List.map_replicate];rfl),List.length_map _,⟨0,List.replicate ((q.variableCount).toNat) false,rfl,rfl,Nat.zero_le _,aRt _ _ _,rfl⟩,fun k sn ⟨hk,hs,ha⟩=>?_⟩
   refine ⟨fun c1=>?_,fun c1=>?_⟩
   ·replace c1:=yq c1
    refine ⟨by omega,rfl,by omega,fun e27 h27=>?_⟩
    refine ⟨aJN _,fun g33=>?_,fun g33=>?_⟩
    ·replace g33:=nt g33
     have hA:eP q.variableCount e27=false:=by first | (rw [eP,g33];rfl) | (rw [eP,g33,c2];rfl)
     refine ⟨?_,trivial⟩
     ·first | (exact (oG hbad).symm) | (exact (jT h27 hA).symm) | (rw [lU hpar hall,hs,iF (by omega),sT])
    ·replace g33:=nf g33
     refine ⟨List.length_map _,jG _ _ _,fun c2=>?_,fun c2=>?_⟩
     ·replace c2:=nt c2
      have hA:eP q.variableCount e27=false:=by first | (rw [eP,g33];rfl) | (rw [eP,g33,c2];rfl)
      refine ⟨?_,trivial⟩
      ·first | (exact (oG hbad).symm) | (exact (jT h27 hA).symm) | (rw [lU hpar hall,hs,iF (by omega),sT])
     ·replace c2:=nf c2
      have w9:=eY c2
      refine ⟨List.length_map _,⟨0,sn,rfl,rfl,Nat.zero_le _,by rw [hs,aHA],rfl⟩,fun i sm ⟨hi,hm,hv⟩=>?_⟩
      have hml:sm.length=q.variableCount.toNat:=by rw [hm];simp
      refine ⟨fun c3=>?_,fun c3=>?_⟩
      ·replace c3:=yq c3
       refine ⟨by omega,rfl,by omega,fun e46 h46=>?_⟩
       have hx:=List.mem_of_getElem? h46
       refine ⟨by first | exact w1 | exact ⟨by omega,by omega⟩,jG _ _ _,fun g54=>?_,fun g54=>?_⟩
       ·replace g54:=nt g54
        have hp:kT q.variableCount e27.vars i=false:=by first | (rw [kT,bD h46,g54];rfl) | (rw [kT,bD h46,g54,c4];rfl)
        have hA:eP q.variableCount e27=false:=by rw [eP,zV,gB (by omega) hp];simp
        refine ⟨?_,trivial⟩
        ·first | (exact (oG hbad).symm) | (exact (jT h27 hA).symm) | (rw [lU hpar hall,hs,iF (by omega),sT])
       ·replace g54:=nf g54
        refine ⟨rfl,by omega,by omega,ctI _ _,fun c4=>?_,fun c4=>?_⟩
        ·have hp:kT q.variableCount e27.vars i=false:=by first | (rw [kT,bD h46,g54];rfl) | (rw [kT,bD h46,g54,c4];rfl)
         have hA:eP q.variableCount e27=false:=by rw [eP,zV,gB (by omega) hp];simp
         refine ⟨?_,trivial⟩
         ·first | (exact (oG hbad).symm) | (exact (jT h27 hA).symm) | (rw [lU hpar hall,hs,iF (by omega),sT])
        ·have hp:kT q.variableCount e27.vars i=true:=by rw [kT,bD h46,g54,c4];rfl
         have hb:=eY g54
         refine ⟨by omega,List.length_map _,by omega,rfl,by omega,fun s14_3 hs14_3=>⟨rfl,Nat.le_of_ble_eq_true rfl,rfl,?_⟩⟩
         refine ⟨by first | exact w1 | exact ⟨by omega,by omega⟩,?_⟩
         exact ⟨i+1,_,rfl,rfl,⟨by omega,by rw [hm,aRk,aHB h46 (by omega)],kD hv hp⟩,by omega⟩
      ·replace c3:=nq c3
       have hA:eP q.variableCount e27=true:=by rw [eP,g33,c2,zV,show e27.vars.length=i by omega,hv];rfl
       refine ⟨by first | exact w1 | exact ⟨by omega,by omega⟩,?_⟩
       exact ⟨k+1,_,rfl,rfl,⟨by omega,by rw [hm,aHC h27 (by omega) []],cS h27 ha hA⟩,by omega⟩
   ·replace c1:=nq c1
    have hall:=bE (by omega) ha
    refine ⟨ctB _ _,?_,trivial⟩
    ·first | (exact (oG hbad).symm) | (exact (jT h27 hA).symm) | (rw [lU hpar hall,hs,iF (by omega),sT])
abbrev wT (q:QueryD):Prop:=cX Tryz.prog 108 [.agg [.int .i64 q.variableCount,.sl 135 2 (q.atoms.map aZ)]] (vB (cL q)) []
theorem aHP (q:QueryD):wT q:=by
 refine aX bG aR Tryz.func108 (by kernel_rfl) (.call (vB (dW q.variableCount (1:Int) (4:Int))) []<| .br (.fin []) (.len q.atoms.length<| .call (vB (dW ((q.atoms.length:Nat):Int) (1:Int) (4:Int))) []<| .lit<| .lit<| .br (.fin []) (.loop (Nat × Int) (Q2 Nat Int) [3,4,5,6,18,19,20,21,22,23,24,25,26,27,28,29,30,31,32,33,34,35,36,37,38,39,40,41,42,43,44,45,46,47,48,49,50,51,52,53,54,55,56,57,58,59,60,61,62,63,64,65,66,67,68,69,70,71,72,73,74,75,76,77] [500] (fun yy0=>[(4,vI (yy0.1:Int)),(3,vI yy0.2)]) (fun yy0=>[]) (fun yy0=>yy0.1≤q.atoms.length∧yy0.2=m4 (iM q.atoms yy0.1 [] 0)∧(q.atoms.take yy0.1).all (eP q.variableCount)=true) (fun yy0=>q.atoms.length - yy0.1) (fun yy0=> .len q.atoms.length<| .br (.elem _ aZ q.atoms (fun e28=> .call (vB (eJ e28.name)) []<| .br (.fin []) (.len e28.vars.length<| .call (vB (dW ((e28.vars.length:Nat):Int) (1:Int) (3:Int))) []<| .lit<| .lit<| .br (.fin []) (.loop (Nat × Int) (Q2 Nat Int) [3,6,41,42,43,44,45,46,47,48,49,50,51,52,53,54,55,56,57,58,59,60,61,62,63,64,65,66,67,68,69,70,71,72,73,74,75,76,77] [] (fun yy1=>[(6,vI (yy1.1:Int)),(3,vI yy1.2)]) (fun yy1=>[]) (fun yy1=>yy1.1≤e28.vars.length∧yy1.2=m4 (iM q.atoms yy0.1 e28.vars yy1.1)∧(List.range yy1.1).all (kT q.variableCount e28.vars)=true) (fun yy1=>e28.vars.length - yy1.1) (fun yy1=> .len e28.vars.length<| .br (.elem _ intD e28.vars (fun e51=> .call (vB (dW e51 (0:Int) (q.variableCount - (1:Int)))) []<| .br (.fin []) (.sub Int intD e28.vars<| .elem _ intD e28.vars (fun e66=> .call (vB (decide (e66∈(e28.vars.take yy1.1)))) []<| .lit<| .br (.fin []) (.elem _ intD e28.vars (fun e74=> .back [])))))) (.back [])))))) (.fin []))))) (p:=(q.atoms.map aZ).length≤9223372036854775807→fO q.variableCount (1:Int) (4:Int)∧(((!(dW q.variableCount (1:Int) (4:Int)))=true→(false)=(cL q)∧True)∧((!(dW q.variableCount (1:Int) (4:Int)))=false→Lm aZ q.atoms∧(fO ((q.atoms.length:Nat):Int) (1:Int) (4:Int)∧(((!(dW ((q.atoms.length:Nat):Int) (1:Int) (4:Int)))=true→(false)=(cL q)∧True)∧((!(dW ((q.atoms.length:Nat):Int) (1:Int) (4:Int)))=false→(∃(k:Nat) (o:Int),(0:Int)=(k:Int)∧(0:Int)=o∧k≤q.atoms.length∧o=m4 (iM q.atoms k [] 0)∧(q.atoms.take k).all (eP q.variableCount)=true)∧ ∀(k:Nat) (o:Int),(k≤q.atoms.length∧o=m4 (iM q.atoms k [] 0)∧(q.atoms.take k).all (eP q.variableCount)=true)→Lm aZ q.atoms∧(((decide ((k:Int)<((q.atoms.length:Nat):Int)))=true→0≤(k:Int)∧Em aZ q.atoms k fun e28=>zH e28.name∧(((!(eJ e28.name))=true→(false)=(cL q)∧True)∧((!(eJ e28.name))=false→Lm intD e28.vars∧(fO ((e28.vars.length:Nat):Int) (1:Int) (3:Int)∧(((!(dW ((e28.vars.length:Nat):Int) (1:Int) (3:Int)))=true→(false)=(cL q)∧True)∧((!(dW ((e28.vars.length:Nat):Int) (1:Int) (3:Int)))=false→(∃(i:Nat) (p:Int),(0:Int)=(i:Int)∧o=p∧i≤e28.vars.length∧p=m4 (iM q.atoms k e28.vars i)∧(List.range i).all (kT q.variableCount e28.vars)=true)∧ ∀(i:Nat) (p:Int),(i≤e28.vars.length∧p=m4 (iM q.atoms k e28.vars i)∧(List.range i).all (kT q.variableCount e28.vars)=true)→Lm intD e28.vars∧(((decide ((i:Int)<((e28.vars.length:Nat):Int)))=true→0≤(i:Int)∧Em intD e28.vars i fun e51=>cC (q.variableCount - (1:Int))∧(fO e51 (0:Int) (q.variableCount - (1:Int))∧(((!(dW e51 (0:Int) (q.variableCount - (1:Int))))=true→(false)=(cL q)∧True)∧((!(dW e51 (0:Int) (q.variableCount - (1:Int))))=false→e28.vars.map intD=e28.vars.map intD∧0≤(i:Int)∧(i:Int)≤((e28.vars.length:Nat):Int)∧(0≤(i:Int)∧Em intD e28.vars i fun e66=>aRf (e28.vars.take i) e66∧(((decide (e66∈(e28.vars.take i)))=true→(false)=(cL q)∧True)∧((decide (e66∈(e28.vars.take i)))=false→0≤(i:Int)∧Em intD e28.vars i fun e74=>(0≤e74∧e74≤64)∧cC ((1:Int)*2^(Int.toNat e74))∧cC ((i:Int)+(1:Int))∧ ∃(i' :Nat) (p' :Int),((i:Int)+(1:Int))=(i' :Int)∧(cH .or .i64 p ((1:Int)*2^(Int.toNat e74)))=p' ∧(i' ≤e28.vars.length∧p' =m4 (iM q.atoms k e28.vars i')∧(List.range i').all (kT q.variableCount e28.vars)=true)∧e28.vars.length - i' <e28.vars.length - i)))))))∧((decide ((i:Int)<((e28.vars.length:Nat):Int)))=false→cC ((k:Int)+(1:Int))∧ ∃(k' :Nat) (o' :Int),((k:Int)+(1:Int))=(k' :Int)∧p=o' ∧(k' ≤q.atoms.length∧o' =m4 (iM q.atoms k' [] 0)∧(q.atoms.take k').all (eP q.variableCount)=true)∧q.atoms.length - k' <q.atoms.length - k))))))))∧((decide ((k:Int)<((q.atoms.length:Nat):Int)))=false→(0≤q.variableCount∧q.variableCount≤64)∧cC ((1:Int)*2^(Int.toNat q.variableCount))∧cC (((1:Int)*2^(Int.toNat q.variableCount)) - (1:Int))∧(decide (o=(((1:Int)*2^(Int.toNat q.variableCount)) - (1:Int))))=(cL q)∧True)))))))) (by kernel_rfl) ?_
 intro n0
 simp only [List.length_map] at n0
 refine ⟨jH _ _ _,fun g11=>?_,fun g11=>?_⟩
 ·replace g11:=nt g11
  have hbad:(dW q.variableCount 1 4&&dW (q.atoms.length:Nat) 1 4)=false:=by first | (rw [g11];rfl) | (rw [g11,c0];rfl)
  refine ⟨?_,trivial⟩
  ·first | (exact (oG hbad).symm) | (exact (jT h28 hA).symm) | (rw [lU hpar hall,hs,iF (by omega)];exact wP hn fun v hv=>sU hall hn.1 hv)
 ·replace g11:=nf g11
  refine ⟨List.length_map _,jH _ _ _,fun c0=>?_,fun c0=>?_⟩
  ·replace c0:=nt c0
   have hbad:(dW q.variableCount 1 4&&dW (q.atoms.length:Nat) 1 4)=false:=by first | (rw [g11];rfl) | (rw [g11,c0];rfl)
   refine ⟨?_,trivial⟩
   ·first | (exact (oG hbad).symm) | (exact (jT h28 hA).symm) | (rw [lU hpar hall,hs,iF (by omega)];exact wP hn fun v hv=>sU hall hn.1 hv)
  ·replace c0:=nf c0
   have hpar:(dW q.variableCount 1 4&&dW (q.atoms.length:Nat) 1 4)=true:=by rw [g11,c0];rfl
   have hn:=eY g11
   refine ⟨⟨0,(0:Int),rfl,rfl,Nat.zero_le _,aUv _ _,rfl⟩,fun k o ⟨hk,hs,ha⟩=>?_⟩
   refine ⟨List.length_map _,fun c1=>?_,fun c1=>?_⟩
   ·replace c1:=yq c1
    refine ⟨by omega,rfl,by omega,fun e28 h28=>?_⟩
    refine ⟨aJO _,fun g34=>?_,fun g34=>?_⟩
    ·replace g34:=nt g34
     have hA:eP q.variableCount e28=false:=by first | (rw [eP,g34];rfl) | (rw [eP,g34,c2];rfl)
     refine ⟨?_,trivial⟩
     ·first | (exact (oG hbad).symm) | (exact (jT h28 hA).symm) | (rw [lU hpar hall,hs,iF (by omega)];exact wP hn fun v hv=>sU hall hn.1 hv)
    ·replace g34:=nf g34
     refine ⟨List.length_map _,jH _ _ _,fun c2=>?_,fun c2=>?_⟩
     ·replace c2:=nt c2
      have hA:eP q.variableCount e28=false:=by first | (rw [eP,g34];rfl) | (rw [eP,g34,c2];rfl)
      refine ⟨?_,trivial⟩
      ·first | (exact (oG hbad).symm) | (exact (jT h28 hA).symm) | (rw [lU hpar hall,hs,iF (by omega)];exact wP hn fun v hv=>sU hall hn.1 hv)
     ·replace c2:=nf c2
      have w9:=eY c2
      refine ⟨⟨0,o,rfl,rfl,Nat.zero_le _,by rw [hs,aHA],rfl⟩,fun i p ⟨hi,hm,hv⟩=>?_⟩
      refine ⟨List.length_map _,fun c3=>?_,fun c3=>?_⟩
      ·replace c3:=yq c3
       refine ⟨by omega,rfl,by omega,fun e51 h51=>?_⟩
       have hx:=List.mem_of_getElem? h51
       refine ⟨by first | exact w1 | exact ⟨by omega,by omega⟩,jH _ _ _,fun g58=>?_,fun g58=>?_⟩
       ·replace g58:=nt g58
        have hp:kT q.variableCount e28.vars i=false:=by first | (rw [kT,bD h51,g58];rfl) | (rw [kT,bD h51,g58,c4];rfl)
        have hA:eP q.variableCount e28=false:=by rw [eP,zV,gB (by omega) hp];simp
        refine ⟨?_,trivial⟩
        ·first | (exact (oG hbad).symm) | (exact (jT h28 hA).symm) | (rw [lU hpar hall,hs,iF (by omega)];exact wP hn fun v hv=>sU hall hn.1 hv)
       ·replace g58:=nf g58
        refine ⟨rfl,by omega,by omega,by omega,rfl,by omega,fun e66 h66=>?_⟩
        obtain rfl:=(aY h51 h66).symm
        refine ⟨hsI _ _,fun c4=>?_,fun c4=>?_⟩
        ·have hp:kT q.variableCount e28.vars i=false:=by first | (rw [kT,bD h51,g58];rfl) | (rw [kT,bD h51,g58,c4];rfl)
         have hA:eP q.variableCount e28=false:=by rw [eP,zV,gB (by omega) hp];simp
         refine ⟨?_,trivial⟩
         ·first | (exact (oG hbad).symm) | (exact (jT h28 hA).symm) | (rw [lU hpar hall,hs,iF (by omega)];exact wP hn fun v hv=>sU hall hn.1 hv)
        ·have hp:kT q.variableCount e28.vars i=true:=by rw [kT,bD h51,g58,c4];rfl
         have hb:=eY g58
         obtain ⟨w1,w2,w3⟩:=aDv (x:=e51) (aBX (by omega) (by omega))
         refine ⟨by omega,rfl,by omega,fun e74 h74=>?_⟩
         obtain rfl:=(aY h51 h74).symm
         refine ⟨⟨by omega,by omega⟩,by first | exact w1 | exact ⟨by omega,by omega⟩,by first | exact w1 | exact ⟨by omega,by omega⟩,?_⟩
         exact ⟨i+1,_,rfl,rfl,⟨by omega,by rw [hm,aRi (by omega),aHB h51 (by omega)],kD hv hp⟩,by omega⟩
      ·replace c3:=nq c3
       have hA:eP q.variableCount e28=true:=by rw [eP,g34,c2,zV,show e28.vars.length=i by omega,hv];rfl
       refine ⟨by first | exact w1 | exact ⟨by omega,by omega⟩,?_⟩
       exact ⟨k+1,_,rfl,rfl,⟨by omega,by rw [hm,aHC h28 (by omega) []],cS h28 ha hA⟩,by omega⟩
   ·replace c1:=nq c1
    have hall:=bE (by omega) ha
    obtain ⟨w1,w2,w3⟩:=aDv (x:=q.variableCount - 1) (aBX (by omega) (by omega))
    have w4:=nD (n:=q.variableCount.toNat) ⟨by omega,by omega⟩
    refine ⟨⟨by omega,by omega⟩,by first | exact w1 | exact ⟨by omega,by omega⟩,by first | exact w1 | exact ⟨by omega,by omega⟩,?_,trivial⟩
    ·first | (exact (oG hbad).symm) | (exact (jT h28 hA).symm) | (rw [lU hpar hall,hs,iF (by omega)];exact wP hn fun v hv=>sU hall hn.1 hv)
abbrev zZ (d:aV) (f:aN):AV × List (Nat × Rs):=(.own 0,[(0,.arr 3 1 true ((kG d f).map intD))])
abbrev aE9 (d:aV) (f:aN):Prop:=cX Tryz.prog 208 [.agg [.sl 167 3 (d.tables.map aP)],.agg [.str f.name,.sl 3 1 (f.src.map intD),.int .i64 f.dst]] (zZ d f).1 (zZ d f).2
theorem aP6 (d:aV) (f:aN) (hc:bH d≤1048576):aE9 d f:=by
 refine aX bG aR Tryz.func208 (by kernel_rfl) (.call (vB (eQ d f)) []<| .br (.fin []) (.call (.tup [.agg [.p none (.str (((aI d f.name).1).name)),vI (((aI d f.name).1).arity),.p none (.sl 39 1 ((((aI d f.name).1).rows).map aC))],vB ((aI d f.name).2)]) []<| .len ((((aI d f.name).1).rows).length)<| .loop Nat (Q1 Nat) [7,8,9,10,11,12,13,14,29,30,31,32,33,34,35,36,37,38,39,40,41,42,43,44,45,46,47,48,49,50,51,52,53,54,55,56,57,58,59,60,61,62,63,64,65,66,67,68,69,70,71,72,73,77,78] [4800,5500] (fun k=>[(29,vI (k:Int))]) (fun k=>[]) (fun k=>k≤(aI d f.name).1.rows.length∧lT (aI d f.name).1.rows f.src f.dst k= []) (fun k=>(aI d f.name).1.rows.length - k) (fun k=> .br (.elem _ aC (((aI d f.name).1).rows) (fun e32=> .sub (List Int) aC (((aI d f.name).1).rows)<| .len (((((aI d f.name).1).rows).take k).length)<| .loop Nat (Q1 Nat) [9,10,11,12,13,14,39,40,41,42,43,44,45,46,47,48,49,50,51,52,53,54,55,56,57,58,59,60,61,62,63,64,65,66,67,68,69,70,71,72,73,77] [4800,5500] (fun i=>[(39,vI (i:Int))]) (fun i=>[]) (fun i=>i≤k∧lI (aI d f.name).1.rows f.src f.dst k i= []) (fun i=>k - i) (fun i=> .br (.elem _ aC ((((aI d f.name).1).rows).take k) (fun e42=>cB (pD e42 f.src)<| cB (pD e32 f.src)<| .call (vB (decide (((fF e42 f.src).1)=((fF e32 f.src).1)))) []<| .br (.elem _ intD e42 (fun e65=> .elem _ intD e32 (fun e70=> .lit<| .lit<| .lit<| .br (.fin [(0,7600)]) (.back [])))) (.back []))) (.back [])))) (.fin [])))) (p:=(d.tables.map aP).length≤9223372036854775807→(f.src.map intD).length≤9223372036854775807→wK d f∧(((!(eQ d f))=true→[]=(kG d f).map intD∧True)∧((!(eQ d f))=false→cX Tryz.prog 150 [.agg [.sl 167 3 (d.tables.map aP)],.one (.str f.name)] (.tup [.agg [.p none (.str (((aI d f.name).1).name)),vI (((aI d f.name).1).arity),.p none (.sl 39 1 ((((aI d f.name).1).rows).map aC))],vB ((aI d f.name).2)]) []∧(Lm aC (((aI d f.name).1).rows)∧((∃(k:Nat),(0:Int)=(k:Int)∧k≤(aI d f.name).1.rows.length∧lT (aI d f.name).1.rows f.src f.dst k= [])∧ ∀(k:Nat),(k≤(aI d f.name).1.rows.length∧lT (aI d f.name).1.rows f.src f.dst k= [])→((decide ((k:Int)<(((((aI d f.name).1).rows).length:Nat):Int)))=true→0≤(k:Int)∧Em aC (((aI d f.name).1).rows) k fun e32=>(((aI d f.name).1).rows).map aC=(((aI d f.name).1).rows).map aC∧0≤(k:Int)∧(k:Int)≤(((((aI d f.name).1).rows).length:Nat):Int)∧(Lm aC ((((aI d f.name).1).rows).take k)∧((∃(i:Nat),(0:Int)=(i:Int)∧i≤k∧lI (aI d f.name).1.rows f.src f.dst k i= [])∧ ∀(i:Nat),(i≤k∧lI (aI d f.name).1.rows f.src f.dst k i= [])→((decide ((i:Int)<((((((aI d f.name).1).rows).take k).length:Nat):Int)))=true→0≤(i:Int)∧Em aC ((((aI d f.name).1).rows).take k) i fun e42=>sN e42 f.src∧(sN e32 f.src∧(rT ((fF e42 f.src).1) ((fF e32 f.src).1)∧(((decide (((fF e42 f.src).1)=((fF e32 f.src).1)))=true→0≤f.dst∧Em intD e42 ((f.dst).toNat) fun e65=>0≤f.dst∧Em intD e32 ((f.dst).toNat) fun e70=>((!(decide (e65=e70)))=true→[[.int .i64 (i:Int)],[.int .i64 (k:Int)]]=(kG d f).map intD∧True)∧((!(decide (e65=e70)))=false→cC ((i:Int)+(1:Int))∧ ∃(i' :Nat),((i:Int)+(1:Int))=(i' :Int)∧(i' ≤k∧lI (aI d f.name).1.rows f.src f.dst k i' = [])∧k - i' <k - i))∧((decide (((fF e42 f.src).1)=((fF e32 f.src).1)))=false→cC ((i:Int)+(1:Int))∧ ∃(i' :Nat),((i:Int)+(1:Int))=(i' :Int)∧(i' ≤k∧lI (aI d f.name).1.rows f.src f.dst k i' = [])∧k - i' <k - i)))))∧((decide ((i:Int)<((((((aI d f.name).1).rows).take k).length:Nat):Int)))=false→cC ((k:Int)+(1:Int))∧ ∃(k' :Nat),((k:Int)+(1:Int))=(k' :Int)∧(k' ≤(aI d f.name).1.rows.length∧lT (aI d f.name).1.rows f.src f.dst k' = [])∧(aI d f.name).1.rows.length - k' <(aI d f.name).1.rows.length - k))))∧((decide ((k:Int)<(((((aI d f.name).1).rows).length:Nat):Int)))=false→[]=(kG d f).map intD∧True)))))) (by kernel_rfl) ?_
 intro n0 n1
 simp only [List.length_map] at n0 n1
 refine ⟨aGu _ _ (by omega),fun c0=>?_,fun c0=>?_⟩
 ·replace c0:=nt c0
  have hbad:kG d f= []:=by rw [kG,if_neg (by simpa using c0)]
  refine ⟨?_,trivial⟩
  ·first | (rw [hbad]<;>rfl) | (rw [hE]<;>rfl) | (rw [hV,hE]<;>rfl)
 ·replace c0:=nf c0
  have hok:eQ d f=true:=by simpa using c0
  obtain ⟨hT,hd0,hd1,hsl⟩:=aEY hok
  have hT8:=cN hT
  have hV:kG d f=lT (aI d f.name).1.rows f.src f.dst (aI d f.name).1.rows.length:=by rw [kG,if_pos hok]
  refine ⟨kJ (sR _ f.name (by omega)) rfl,List.length_map _,⟨0,rfl,Nat.zero_le _,rfl⟩,fun k ⟨hk,hv⟩=>?_⟩
  refine ⟨fun c1=>?_,fun c1=>?_⟩
  ·replace c1:=yq c1
   refine ⟨by omega,rfl,by first | omega | (simp only [List.length_take];omega),fun e32 h32=>?_⟩
   have hl32:=pV hT (List.mem_of_getElem? h32)
   refine ⟨rfl,by omega,by first | omega | (simp only [List.length_take];omega),List.length_map _,⟨0,rfl,Nat.zero_le _,rfl⟩,fun i ⟨hi,hw⟩=>?_⟩
   have htl:((aI d f.name).1.rows.take k).length=k:=by rw [List.length_take];omega
   refine ⟨fun c2=>?_,fun c2=>?_⟩
   ·replace c2:=yq c2
    refine ⟨by omega,rfl,by first | omega | (simp only [List.length_take];omega),fun e42 h42=>?_⟩
    have hx:(aI d f.name).1.rows[i]? =some e42:=by rw [List.getElem?_take_of_lt (by omega)] at h42;exact h42
    have hl42:=pV hT (List.mem_of_getElem? hx)
    have hb:=aOO (cols:=f.src) (c:=f.dst) hx h32
    refine ⟨aCi _ _ (by omega),aCi _ _ (by omega),aCd _ _,fun g61=>?_,fun g61=>?_⟩
    ·replace g61:=yq g61
     refine ⟨by omega,rfl,by first | omega | (simp only [List.length_take];omega),fun e65 h65=>?_⟩
     refine ⟨by omega,rfl,by first | omega | (simp only [List.length_take];omega),fun e70 h70=>?_⟩
     refine ⟨fun c3=>?_,fun c3=>?_⟩
     ·replace c3:=nq (nt c3)
      have hB:aNI (aI d f.name).1.rows f.src f.dst i k=true:=by rw [hb,bD h65,bD h70];simp [*]
      have hE:=aGs hv hw hB (by omega) (by omega:k<(aI d f.name).1.rows.length)
      refine ⟨?_,trivial⟩
      ·first | (rw [hbad]<;>rfl) | (rw [hE]<;>rfl) | (rw [hV,hE]<;>rfl)
     ·replace c3:=yq (nf c3)
      refine ⟨⟨by omega,by omega⟩,?_⟩
      exact ⟨i+1,rfl,⟨by omega,aCu hw (by rw [hb];first | (simp [g61];done) | (rw [bD h65,bD h70];simp [*];done))⟩,by omega⟩
    ·replace g61:=nq g61
     refine ⟨⟨by omega,by omega⟩,?_⟩
     exact ⟨i+1,rfl,⟨by omega,aCu hw (by rw [hb];first | (simp [g61];done) | (rw [bD h65,bD h70];simp [*];done))⟩,by omega⟩
   ·replace c2:=nq c2
    refine ⟨⟨by omega,by omega⟩,?_⟩
    exact ⟨k+1,rfl,⟨by omega,aGt hv (by obtain rfl:i=k:=(by omega);exact hw)⟩,by omega⟩
  ·replace c1:=nq c1
   have hE:kG d f= []:=by rw [hV,show (aI d f.name).1.rows.length=k by omega,hv]
   refine ⟨?_,trivial⟩
   ·first | (rw [hbad]<;>rfl) | (rw [hE]<;>rfl) | (rw [hV,hE]<;>rfl)
abbrev aAA (d:aV) (f:aN):AV × List (Nat × Rs):=(.own 0,[(0,.arr 3 1 true ((kG d f).map intD))])
abbrev aEa (d:aV) (f:aN):Prop:=cX Tryz.prog 214 [.agg [.sl 167 3 (d.tables.map aP)],.agg [.str f.name,.sl 3 1 (f.src.map intD),.int .i64 f.dst]] (aAA d f).1 (aAA d f).2
theorem aP7 (d:aV) (f:aN) (hc:bH d≤1048576):aEa d f:=by
 refine aX bG aR Tryz.func214 (by kernel_rfl) (.call (.tup [.agg [.p none (.str (((aI d f.name).1).name)),vI (((aI d f.name).1).arity),.p none (.sl 39 1 ((((aI d f.name).1).rows).map aC))],vB ((aI d f.name).2)]) []<| .loop Nat (Q1 Nat) [7,8,9,10,11,12,20,21,22,23,24,25,26,27,28,29,30,31,32,33,34,35,36,37,38,39,40,41,42,43,44,45,46,47,48,49,50,51,52,53,54,55,56,57,58,59,60,61,62,63,64,65,66,67,68,69,70,71,72,73,74,75,76,77,78,79,80,81,82,83] [4000,5600] (fun k=>[(7,vI (k:Int))]) (fun k=>[]) (fun k=>k≤(aI d f.name).1.rows.length∧lT (aI d f.name).1.rows f.src f.dst k= []) (fun k=>(aI d f.name).1.rows.length - k) (fun k=> .len ((((aI d f.name).1).rows).length)<| .br (.call (vB (eQ d f)) []<| .lit<| .br (.elem _ aC (((aI d f.name).1).rows) (fun e36=>cB (pE e36 f.src)<| .loop Nat (Q1 Nat) [10,11,12,43,44,45,46,47,48,49,50,51,52,53,54,55,56,57,58,59,60,61,62,63,64,65,66,67,68,69,70,71,72,73,74,75,76,77,78,79,80,81,82,83] [5600] (fun i=>[(10,vI (i:Int))]) (fun i=>[]) (fun i=>i≤k∧lI (aI d f.name).1.rows f.src f.dst k i= []) (fun i=>k - i) (fun i=> .br (.elem _ aC (((aI d f.name).1).rows) (fun e52=>cB (pE e52 f.src)<| .call (vI (cG ((fF e52 f.src).1) ((fF e36 f.src).1))) []<| .br (.elem _ aC (((aI d f.name).1).rows) (fun e67=> .elem _ intD e67 (fun e71=> .elem _ aC (((aI d f.name).1).rows) (fun e76=> .elem _ intD e76 (fun e80=> .lit<| .lit<| .lit<| .br (.fin [(0,8600)]) (.back [])))))) (.back []))) (.back [])))) (.fin [(0,8700)])) (.fin [(0,8700)]))) (p:=(d.tables.map aP).length≤9223372036854775807→(f.src.map intD).length≤9223372036854775807→cX Tryz.prog 168 [.agg [.sl 167 3 (d.tables.map aP)],.one (.str f.name)] (.tup [.agg [.p none (.str (((aI d f.name).1).name)),vI (((aI d f.name).1).arity),.p none (.sl 39 1 ((((aI d f.name).1).rows).map aC))],vB ((aI d f.name).2)]) []∧((∃(k:Nat),(0:Int)=(k:Int)∧k≤(aI d f.name).1.rows.length∧lT (aI d f.name).1.rows f.src f.dst k= [])∧ ∀(k:Nat),(k≤(aI d f.name).1.rows.length∧lT (aI d f.name).1.rows f.src f.dst k= [])→Lm aC (((aI d f.name).1).rows)∧(((decide ((k:Int)<(((((aI d f.name).1).rows).length:Nat):Int)))=true→wL d f∧(((eQ d f)=true→0≤(k:Int)∧Em aC (((aI d f.name).1).rows) k fun e36=>sO e36 f.src∧((∃(i:Nat),(0:Int)=(i:Int)∧i≤k∧lI (aI d f.name).1.rows f.src f.dst k i= [])∧ ∀(i:Nat),(i≤k∧lI (aI d f.name).1.rows f.src f.dst k i= [])→((decide ((i:Int)<(k:Int)))=true→0≤(i:Int)∧Em aC (((aI d f.name).1).rows) i fun e52=>sO e52 f.src∧(gL ((fF e52 f.src).1) ((fF e36 f.src).1)∧(((decide ((cG ((fF e52 f.src).1) ((fF e36 f.src).1))=(0:Int)))=true→0≤(i:Int)∧Em aC (((aI d f.name).1).rows) i fun e67=>0≤f.dst∧Em intD e67 ((f.dst).toNat) fun e71=>0≤(k:Int)∧Em aC (((aI d f.name).1).rows) k fun e76=>0≤f.dst∧Em intD e76 ((f.dst).toNat) fun e80=>((!(decide (e71=e80)))=true→[[.int .i64 (i:Int)],[.int .i64 (k:Int)]]=(kG d f).map intD∧True)∧((!(decide (e71=e80)))=false→cC ((i:Int)+(1:Int))∧ ∃(i' :Nat),((i:Int)+(1:Int))=(i' :Int)∧(i' ≤k∧lI (aI d f.name).1.rows f.src f.dst k i' = [])∧k - i' <k - i))∧((decide ((cG ((fF e52 f.src).1) ((fF e36 f.src).1))=(0:Int)))=false→cC ((i:Int)+(1:Int))∧ ∃(i' :Nat),((i:Int)+(1:Int))=(i' :Int)∧(i' ≤k∧lI (aI d f.name).1.rows f.src f.dst k i' = [])∧k - i' <k - i))))∧((decide ((i:Int)<(k:Int)))=false→cC ((k:Int)+(1:Int))∧ ∃(k' :Nat),((k:Int)+(1:Int))=(k' :Int)∧(k' ≤(aI d f.name).1.rows.length∧lT (aI d f.name).1.rows f.src f.dst k' = [])∧(aI d f.name).1.rows.length - k' <(aI d f.name).1.rows.length - k)))∧((eQ d f)=false→[]=(kG d f).map intD∧True)))∧((decide ((k:Int)<(((((aI d f.name).1).rows).length:Nat):Int)))=false→[]=(kG d f).map intD∧True)))) (by kernel_rfl) ?_
 intro n0 n1
 simp only [List.length_map] at n0 n1
 refine ⟨kJ (sS _ f.name (by omega)) rfl,⟨0,rfl,Nat.zero_le _,rfl⟩,fun k ⟨hk,hv⟩=>?_⟩
 refine ⟨List.length_map _,fun g25=>?_,fun g25=>?_⟩
 ·replace g25:=yq g25
  refine ⟨aGv _ _ (by omega),fun c0=>?_,fun c0=>?_⟩
  ·have hok:eQ d f=true:=c0
   obtain ⟨hT,hd0,hd1,hsl⟩:=aEY hok
   have hT8:=cN hT
   have hV:kG d f=lT (aI d f.name).1.rows f.src f.dst (aI d f.name).1.rows.length:=by rw [kG,if_pos hok]
   refine ⟨by omega,rfl,by omega,fun e36 h36=>?_⟩
   have hl36:=pV hT (List.mem_of_getElem? h36)
   refine ⟨aCj _ _ (by omega),⟨0,rfl,Nat.zero_le _,rfl⟩,fun i ⟨hi,hw⟩=>?_⟩
   refine ⟨fun c1=>?_,fun c1=>?_⟩
   ·replace c1:=yq c1
    refine ⟨by omega,rfl,by omega,fun e52 h52=>?_⟩
    have hl52:=pV hT (List.mem_of_getElem? h52)
    have hb:=aOO (cols:=f.src) (c:=f.dst) h52 h36
    refine ⟨aCj _ _ (by omega),jQ _ _,fun g63=>?_,fun g63=>?_⟩
    ·replace g63:=yq g63
     refine ⟨by omega,rfl,by omega,fun e67 h67=>?_⟩
     obtain rfl:=(aY h52 h67).symm
     refine ⟨by omega,rfl,by omega,fun e71 h71=>?_⟩
     refine ⟨by omega,rfl,by omega,fun e76 h76=>?_⟩
     obtain rfl:=(aY h36 h76).symm
     refine ⟨by omega,rfl,by omega,fun e80 h80=>?_⟩
     refine ⟨fun c2=>?_,fun c2=>?_⟩
     ·replace c2:=nq (nt c2)
      have hB:aNI (aI d f.name).1.rows f.src f.dst i k=true:=by rw [hb,bD h71,bD h80,fA.1 g63];simp [c2]
      have hE:=aGs hv hw hB (by omega) (by omega:k<(aI d f.name).1.rows.length)
      refine ⟨?_,trivial⟩
      ·first | (rw [hE]<;>rfl) | (rw [hV,hE]<;>rfl)
     ·replace c2:=yq (nf c2)
      refine ⟨⟨by omega,by omega⟩,?_⟩
      exact ⟨i+1,rfl,⟨by omega,aCu hw (by rw [hb];first | (simp [show ¬(fF e52 f.src).1=(fF e36 f.src).1 from fun q=>g63 (fA.2 q)];done) | (rw [bD h71,bD h80];simp [c2];done))⟩,by omega⟩
    ·replace g63:=nq g63
     refine ⟨⟨by omega,by omega⟩,?_⟩
     exact ⟨i+1,rfl,⟨by omega,aCu hw (by rw [hb];first | (simp [show ¬(fF e52 f.src).1=(fF e36 f.src).1 from fun q=>g63 (fA.2 q)];done) | (rw [bD h71,bD h80];simp [c2];done))⟩,by omega⟩
   ·replace c1:=nq c1
    refine ⟨⟨by omega,by omega⟩,?_⟩
    exact ⟨k+1,rfl,⟨by omega,aGt hv (by obtain rfl:i=k:=(by omega);exact hw)⟩,by omega⟩
  ·have hE:kG d f= []:=by first | (rw [kG,if_neg (by rw [c0];decide)];done) | (rw [kG];split<;>first | (rw [show (aI d f.name).1.rows.length=k by omega,hv];done) | rfl)
   refine ⟨?_,trivial⟩
   ·first | (rw [hE]<;>rfl) | (rw [hV,hE]<;>rfl)
 ·replace g25:=nq g25
  have hE:kG d f= []:=by first | (rw [kG,if_neg (by rw [c0];decide)];done) | (rw [kG];split<;>first | (rw [show (aI d f.name).1.rows.length=k by omega,hv];done) | rfl)
  refine ⟨?_,trivial⟩
  ·first | (rw [hE]<;>rfl) | (rw [hV,hE]<;>rfl)
abbrev aCz (d:aV) (f:aN):Prop:=cX Tryz.prog 179 [.agg [.sl 167 3 (d.tables.map aP)],.agg [.str f.name,.sl 3 1 (f.src.map intD),.int .i64 f.dst]] (vB (jD d f)) []
theorem aNO (d:aV) (f:aN) (hc:bH d≤1048576):aCz d f:=by
 refine aX bG aR Tryz.func179 (by kernel_rfl) (.call (vB (eQ d f)) []<| .br (cB (zZ d f)<| .len ((kG d f).length)<| .fin []) (.fin [])) (p:=(d.tables.map aP).length≤9223372036854775807→(f.src.map intD).length≤9223372036854775807→wK d f∧(((eQ d f)=true→aE9 d f∧Lm intD (kG d f)∧(decide ((((kG d f).length:Nat):Int)=(0:Int)))=(jD d f)∧True)∧((eQ d f)=false→(false)=(jD d f)∧True))) (by kernel_rfl) ?_
 intro n0 n1
 simp only [List.length_map] at n0 n1
 refine ⟨aGu _ _ (by omega),fun g8=>?_,fun g8=>?_⟩
 ·refine ⟨aP6 _ _ (by omega),List.length_map _,?_,trivial⟩
  ·first | (simp [jD, *];done) | (rw [jD,g8,qN];rfl)
 ·refine ⟨?_,trivial⟩
  ·first | (simp [jD, *];done) | (rw [jD,g8,qN];rfl)
abbrev aDA (d:aV) (f:aN):Prop:=cX Tryz.prog 193 [.agg [.sl 167 3 (d.tables.map aP)],.agg [.str f.name,.sl 3 1 (f.src.map intD),.int .i64 f.dst]] (vB (jD d f)) []
theorem aNP (d:aV) (f:aN) (hc:bH d≤1048576):aDA d f:=by
 refine aX bG aR Tryz.func193 (by kernel_rfl) (.call (vB (eQ d f)) []<| .br (cB (aAA d f)<| .len ((kG d f).length)<| .fin []) (.fin [])) (p:=(d.tables.map aP).length≤9223372036854775807→(f.src.map intD).length≤9223372036854775807→wL d f∧(((eQ d f)=true→aEa d f∧Lm intD (kG d f)∧(decide ((((kG d f).length:Nat):Int)=(0:Int)))=(jD d f)∧True)∧((eQ d f)=false→(false)=(jD d f)∧True))) (by kernel_rfl) ?_
 intro n0 n1
 simp only [List.length_map] at n0 n1
 refine ⟨aGv _ _ (by omega),fun g8=>?_,fun g8=>?_⟩
 ·refine ⟨aP7 _ _ (by omega),List.length_map _,?_,trivial⟩
  ·first | (simp [jD, *];done) | (rw [jD,g8,qN];rfl)
 ·refine ⟨?_,trivial⟩
  ·first | (simp [jD, *];done) | (rw [jD,g8,qN];rfl)
abbrev aAB (d:aV) (x:aL):AV × List (Nat × Rs):=(.own 0,[(0,.arr 3 1 true ((xJ d x).map intD))])
abbrev aEb (d:aV) (x:aL):Prop:=cX Tryz.prog 210 [.agg [.sl 167 3 (d.tables.map aP)],.agg [.str x.name,.int .i64 x.column,.str x.into,.int .i64 x.intoColumn]] (aAB d x).1 (aAB d x).2
theorem aP8 (d:aV) (x:aL) (hc:bH d≤1048576):aEb d x:=by
 refine aX bG aR Tryz.func210 (by kernel_rfl) (.call (vB (eL d x)) []<| .br (.fin []) (.call (.tup [.agg [.p none (.str (((aI d x.name).1).name)),vI (((aI d x.name).1).arity),.p none (.sl 39 1 ((((aI d x.name).1).rows).map aC))],vB ((aI d x.name).2)]) []<| .call (.tup [.agg [.p none (.str (((aI d x.into).1).name)),vI (((aI d x.into).1).arity),.p none (.sl 39 1 ((((aI d x.into).1).rows).map aC))],vB ((aI d x.into).2)]) []<| .len ((((aI d x.into).1).rows).length)<| .loop (Nat × (List Int)) (Q2 Nat (List Int)) [9,11,34,38,39,40,41,42,43,44,45,46,47,48,49,50] [3400,4800,4900] (fun yy0=>[(38,vI (yy0.1:Int)),(9,.own 3400)]) (fun yy0=>[(3400,some (.arr 3 1 true (yy0.2.map intD)))]) (fun yy0=>yy0.1≤(aI d x.into).1.rows.length∧yy0.2=iS ((aI d x.into).1.rows.take yy0.1) x.intoColumn) (fun yy0=>(aI d x.into).1.rows.length - yy0.1) (fun yy0=> .br (.elem _ aC (((aI d x.into).1).rows) (fun e40=> .elem _ intD e40 (fun e46=> .app Int intD yy0.2 ([e46]:List Int)<| .back [(3400,4900)]))) (.len ((((aI d x.name).1).rows).length)<| .loop (Nat × (List Int)) (Q2 Nat (List Int)) [12,14,15,51,55,56,57,58,59,60,61,62,63,64,65,66,67,68,69,70,71,72] [5100,7000,7100] (fun yy1=>[(55,vI (yy1.1:Int)),(12,.own 5100)]) (fun yy1=>[(5100,some (.arr 3 1 true (yy1.2.map intD)))]) (fun yy1=>yy1.1≤(aI d x.name).1.rows.length∧yy1.2=(iS ((aI d x.name).1.rows.take yy1.1) x.column).filter fun v=> !decide (v∈yy0.2)) (fun yy1=>(aI d x.name).1.rows.length - yy1.1) (fun yy1=> .br (.elem _ aC (((aI d x.name).1).rows) (fun e57=> .elem _ intD e57 (fun e62=> .call (vB (decide (e62∈yy0.2))) []<| .br (.app Int intD yy1.2 ([e62]:List Int)<| .back [(5100,7100)]) (.back [(5100,5100)])))) (.callx [.own 0] [(0,.arr 3 1 true (yy1.2.map intD))] [(0,5100)] (.tup []) [(0,.arr 3 1 true ((kH yy1.2).map intD))]<| .callx [.own 0] [(0,.arr 3 1 true ((kH yy1.2).map intD))] [(0,5100)] (.own 1) [(1,.arr 3 1 true ((tZ (kH yy1.2)).map intD))]<| .fin [(0,7601)])))))) (p:=(d.tables.map aP).length≤9223372036854775807→wN d x∧(((!(eL d x))=true→[]=(xJ d x).map intD∧True)∧((!(eL d x))=false→cX Tryz.prog 150 [.agg [.sl 167 3 (d.tables.map aP)],.one (.str x.name)] (.tup [.agg [.p none (.str (((aI d x.name).1).name)),vI (((aI d x.name).1).arity),.p none (.sl 39 1 ((((aI d x.name).1).rows).map aC))],vB ((aI d x.name).2)]) []∧(cX Tryz.prog 150 [.agg [.sl 167 3 (d.tables.map aP)],.one (.str x.into)] (.tup [.agg [.p none (.str (((aI d x.into).1).name)),vI (((aI d x.into).1).arity),.p none (.sl 39 1 ((((aI d x.into).1).rows).map aC))],vB ((aI d x.into).2)]) []∧(Lm aC (((aI d x.into).1).rows)∧((∃(k:Nat) (there:List Int),(0:Int)=(k:Int)∧[]=there.map intD∧k≤(aI d x.into).1.rows.length∧there=iS ((aI d x.into).1.rows.take k) x.intoColumn)∧ ∀(k:Nat) (there:List Int),(k≤(aI d x.into).1.rows.length∧there=iS ((aI d x.into).1.rows.take k) x.intoColumn)→((decide ((k:Int)<(((((aI d x.into).1).rows).length:Nat):Int)))=true→0≤(k:Int)∧Em aC (((aI d x.into).1).rows) k fun e40=>0≤x.intoColumn∧Em intD e40 ((x.intoColumn).toNat) fun e46=>there.map intD=there.map intD∧[[.int .i64 e46]]=([e46]:List Int).map intD∧(∀x,dT (intD x)=true)∧(there.length+([e46]:List Int).length)*8≤140737488355328∧cC ((k:Int)+(1:Int))∧ ∃(k' :Nat) (there' :List Int),((k:Int)+(1:Int))=(k' :Int)∧(there++[e46]).map intD=there'.map intD∧(k' ≤(aI d x.into).1.rows.length∧there' =iS ((aI d x.into).1.rows.take k') x.intoColumn)∧(aI d x.into).1.rows.length - k' <(aI d x.into).1.rows.length - k)∧((decide ((k:Int)<(((((aI d x.into).1).rows).length:Nat):Int)))=false→Lm aC (((aI d x.name).1).rows)∧((∃(j:Nat) (out:List Int),(0:Int)=(j:Int)∧[]=out.map intD∧j≤(aI d x.name).1.rows.length∧out=(iS ((aI d x.name).1.rows.take j) x.column).filter fun v=> !decide (v∈there))∧ ∀(j:Nat) (out:List Int),(j≤(aI d x.name).1.rows.length∧out=(iS ((aI d x.name).1.rows.take j) x.column).filter fun v=> !decide (v∈there))→((decide ((j:Int)<(((((aI d x.name).1).rows).length:Nat):Int)))=true→0≤(j:Int)∧Em aC (((aI d x.name).1).rows) j fun e57=>0≤x.column∧Em intD e57 ((x.column).toNat) fun e62=>aLw there e62∧(((!(decide (e62∈there)))=true→out.map intD=out.map intD∧[[.int .i64 e62]]=([e62]:List Int).map intD∧(∀x,dT (intD x)=true)∧(out.length+([e62]:List Int).length)*8≤140737488355328∧cC ((j:Int)+(1:Int))∧ ∃(j' :Nat) (out' :List Int),((j:Int)+(1:Int))=(j' :Int)∧(out++[e62]).map intD=out'.map intD∧(j' ≤(aI d x.name).1.rows.length∧out' =(iS ((aI d x.name).1.rows.take j') x.column).filter fun v=> !decide (v∈there))∧(aI d x.name).1.rows.length - j' <(aI d x.name).1.rows.length - j)∧((!(decide (e62∈there)))=false→cC ((j:Int)+(1:Int))∧ ∃(j' :Nat) (out' :List Int),((j:Int)+(1:Int))=(j' :Int)∧out.map intD=out'.map intD∧(j' ≤(aI d x.name).1.rows.length∧out' =(iS ((aI d x.name).1.rows.take j') x.column).filter fun v=> !decide (v∈there))∧(aI d x.name).1.rows.length - j' <(aI d x.name).1.rows.length - j)))∧((decide ((j:Int)<(((((aI d x.name).1).rows).length:Nat):Int)))=false→nA Tryz.prog 228 [.own 0] [(0,.arr 3 1 true (out.map intD))] (.tup []) [(0,.arr 3 1 true ((kH out).map intD))]∧out.map intD=out.map intD∧nA Tryz.prog 229 [.own 0] [(0,.arr 3 1 true ((kH out).map intD))] (.own 1) [(1,.arr 3 1 true ((tZ (kH out)).map intD))]∧(kH out).map intD=(kH out).map intD∧(tZ (kH out)).map intD=(xJ d x).map intD∧True))))))))) (by kernel_rfl) ?_
 intro n0
 simp only [List.length_map] at n0
 refine ⟨aGx _ _ (by omega),fun c0=>?_,fun c0=>?_⟩
 ·replace c0:=nt c0
  have hbad:xJ d x= []:=by rw [xJ,if_neg (by simpa using c0)]
  refine ⟨?_,trivial⟩
  ·first | (rw [hbad]<;>rfl) | (rw [hE]<;>rfl)
 ·replace c0:=nf c0
  have hok:eL d x=true:=by simpa using c0
  obtain ⟨hTa,hTb,hca,hcb⟩:=zU hok
  have hA8:=cN hTa
  have hB8:=cN hTb
  refine ⟨kJ (sR _ x.name (by omega)) rfl,kJ (sR _ x.into (by omega)) rfl,List.length_map _,⟨0,([]:List Int),rfl,rfl,Nat.zero_le _,rfl⟩,fun k there ⟨hk,hth⟩=>?_⟩
  have htl:there.length=k:=by rw [hth,iS,List.length_map,List.length_take];omega
  refine ⟨fun c1=>?_,fun c1=>?_⟩
  ·replace c1:=yq c1
   refine ⟨by omega,rfl,by omega,fun e40 h40=>?_⟩
   have hl40:=pV hTb (List.mem_of_getElem? h40)
   refine ⟨by omega,rfl,by omega,fun e46 h46=>?_⟩
   refine ⟨rfl,rfl,fun _=>rfl,by first | omega | (simp [hth];omega) | (simp;omega),?_⟩
   refine ⟨⟨by omega,by omega⟩,?_⟩
   exact ⟨k+1,_,rfl,rfl,⟨by omega,by rw [nC _ _ h40,←hth,bD h46]⟩,by omega⟩
  ·replace c1:=nq c1
   have hTH:there=iS (aI d x.into).1.rows x.intoColumn:=by rw [hth,List.take_of_length_le (by omega)]
   refine ⟨List.length_map _,⟨0,([]:List Int),rfl,rfl,Nat.zero_le _,rfl⟩,fun j out ⟨hj,ho⟩=>?_⟩
   have hol:out.length≤j:=by rw [ho];refine Nat.le_trans (List.length_filter_le _ _) ?_;simp [iS];omega
   refine ⟨fun c2=>?_,fun c2=>?_⟩
   ·replace c2:=yq c2
    refine ⟨by omega,rfl,by omega,fun e57 h57=>?_⟩
    have hl57:=pV hTa (List.mem_of_getElem? h57)
    refine ⟨by omega,rfl,by omega,fun e62 h62=>?_⟩
    refine ⟨ctI _ _,fun c3=>?_,fun c3=>?_⟩
    ·replace c3:=nt c3
     refine ⟨rfl,rfl,fun _=>rfl,by first | omega | (simp [hth];omega) | (simp;omega),?_⟩
     refine ⟨⟨by omega,by omega⟩,?_⟩
     exact ⟨j+1,_,rfl,rfl,⟨by omega,by rw [nC _ _ h57,List.filter_append,←ho,bD h62,List.filter_cons_of_pos (by simpa using c3)];rfl⟩,by omega⟩
    ·replace c3:=nf c3
     refine ⟨⟨by omega,by omega⟩,?_⟩
     exact ⟨j+1,_,rfl,rfl,⟨by omega,by rw [nC _ _ h57,List.filter_append,←ho,bD h62,List.filter_cons_of_neg (by simpa using c3)];simp⟩,by omega⟩
   ·replace c2:=nq c2
    have hE:xJ d x=tZ (kH out):=by rw [xJ,if_pos hok,aEZ,ho,hTH,List.take_of_length_le (by omega)]
    refine ⟨aJ6 out (by omega),rfl,aPN (kH out) (by first | omega | (rw [vG];omega)),rfl,?_,trivial⟩
    ·first | (rw [hbad]<;>rfl) | (rw [hE]<;>rfl)
abbrev aDB (d:aV) (x:aL):Prop:=cX Tryz.prog 180 [.agg [.sl 167 3 (d.tables.map aP)],.agg [.str x.name,.int .i64 x.column,.str x.into,.int .i64 x.intoColumn]] (vB (jE d x)) []
theorem aNQ (d:aV) (x:aL) (hc:bH d≤1048576):aDB d x:=by
 refine aX bG aR Tryz.func180 (by kernel_rfl) (.call (vB (eL d x)) []<| .br (cB (aAB d x)<| .len ((xJ d x).length)<| .fin []) (.fin [])) (p:=(d.tables.map aP).length≤9223372036854775807→wN d x∧(((eL d x)=true→aEb d x∧Lm intD (xJ d x)∧(decide ((((xJ d x).length:Nat):Int)=(0:Int)))=(jE d x)∧True)∧((eL d x)=false→(false)=(jE d x)∧True))) (by kernel_rfl) ?_
 intro n0
 simp only [List.length_map] at n0
 refine ⟨aGx _ _ (by omega),fun g8=>?_,fun g8=>?_⟩
 ·refine ⟨aP8 _ _ (by omega),List.length_map _,?_,trivial⟩
  ·first | (simp [jE, *];done) | (rw [jE,g8,qN,aJ8 g8];rfl)
 ·refine ⟨?_,trivial⟩
  ·first | (simp [jE, *];done) | (rw [jE,g8,qN,aJ8 g8];rfl)
end Go.Proofs.YtdfebigfnjfgpaaGreat
