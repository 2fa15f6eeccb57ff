/-
  Contracts and plain laws, joined: part 13.
-/
import Derived.Test.YtdfebigfnjfgpaaGreatQI10
import Derived.Test.YtdfebigfnjfgpaaGreatQI11
import Derived.Test.YtdfebigfnjfgpaaGreatQI9
namespace Go.Proofs.YtdfebigfnjfgpaaGreat
open Go.ChangeShapes Go.WideShapes Go.ChangeAt Go.RowKit
set_option linter.unusedVariables false
set_option linter.unusedSimpArgs false
set_option maxRecDepth 100000
set_option maxHeartbeats 4000000
theorem aUQ (l:List dS) (a:List Int):(0:Int)=m4 (iZ l 0 a 0):=by simp [m4,b4,iZ,aEg]
theorem aRK (n:Nat) (l:List dS) (a:List Int):List.replicate n false=(List.range n).map (iZ l 0 a 0):=by
 apply List.ext_getElem?
 intro i
 rw [List.getElem?_map,List.getElem?_replicate]
 by_cases hi:i<n
 ·rw [if_pos hi,List.getElem?_range hi];simp [iZ,aEg]
 ·rw [if_neg hi,show (List.range n)[i]? =none from List.getElem?_eq_none (by simp;omega)];rfl
theorem aRL {l:List Bool} {v:Bool}:decide (0≤lH (fun y=>v==y) l)=decide (v∈l):=by
 apply Bool.eq_iff_iff.2
 rw [decide_eq_true_eq,decide_eq_true_eq]
 constructor
 ·intro h
  obtain ⟨k,x,_,hx,hf⟩:=oX.2 h
  have h1:=List.find?_some hf
  have:v=x:=by simpa using h1
  rw [this];exact List.mem_of_getElem? hx
 ·intro h
  rcases Int.lt_or_le (lH (fun y=>v==y) l) 0 with q | q
  ·have:=oX.1 q
   rw [List.find?_eq_none] at this
   exact absurd (this v h) (by simp)
  ·exact q
abbrev aTK (l:List Bool) (v:Bool):Prop:=cT Tryz.prog 211 [.one (.sl 4 1 (l.map kJ)),.one (.bool v)] (vI (lH (fun y=>v==y) l)) []
theorem ixB (l:List Bool) (v:Bool):aTK l v:=by
 refine aT bE aL Tryz.func211 (by kernel_rfl) (.len l.length<| .loop Nat (Q1 Nat) [5,8,9,10,11,12,13,14,15,16,18] [] (fun k=>[(8,vI (k:Int))]) (fun k=>[]) (fun k=>k≤l.length∧(l.take k).all (fun y=> !(v==y))=true) (fun k=>l.length - k) (fun k=> .br (.elem _ kJ l (fun e14=> .br (.fin []) (.back []))) (.fin []))) (p:=(l.map kJ).length≤9223372036854775807→Lm kJ l∧((∃(k:Nat),(0:Int)=(k:Int)∧k≤l.length∧(l.take k).all (fun y=> !(v==y))=true)∧ ∀(k:Nat),(k≤l.length∧(l.take k).all (fun y=> !(v==y))=true)→((decide ((k:Int)<((l.length:Nat):Int)))=true→0≤(k:Int)∧Em kJ l k fun e14=>((v==e14)=true→(k:Int)=(lH (fun y=>v==y) l)∧True)∧((v==e14)=false→cC ((k:Int)+(1:Int))∧ ∃(k' :Nat),((k:Int)+(1:Int))=(k' :Int)∧(k' ≤l.length∧(l.take k').all (fun y=> !(v==y))=true)∧l.length - k' <l.length - k))∧((decide ((k:Int)<((l.length:Nat):Int)))=false→(-1:Int)=(lH (fun y=>v==y) l)∧True))) (by kernel_rfl) ?_
 intro n0
 simp only [List.length_map] at n0
 refine ⟨List.length_map _,⟨0,rfl,Nat.zero_le _,rfl⟩,fun k ⟨hk,ha⟩=>?_⟩
 refine ⟨fun c0=>?_,fun c0=>?_⟩
 ·replace c0:=yq c0
  refine ⟨by omega,rfl,by omega,fun e14 h14=>?_⟩
  refine ⟨fun c1=>?_,fun c1=>?_⟩
  ·refine ⟨?_,trivial⟩
   ·first | (rw [aFA h14 ha c1];done) | (rw [aCR (bB (by omega) ha)];done)
  ·refine ⟨⟨by omega,by omega⟩,?_⟩
   exact ⟨k+1,rfl,⟨by omega,cR h14 ha (by rw [c1];rfl)⟩,by omega⟩
 ·replace c0:=nq c0
  refine ⟨?_,trivial⟩
  ·first | (rw [aFA h14 ha c1];done) | (rw [aCR (bB (by omega) ha)];done)
abbrev aTL (l:List Bool) (v:Bool):Prop:=cT Tryz.prog 182 [.one (.sl 4 1 (l.map kJ)),.one (.bool v)] (vB (decide (v∈l))) []
theorem ctB (l:List Bool) (v:Bool):aTL l v:=by
 refine aT bE aL Tryz.func182 (by kernel_rfl) (.call (vI (lH (fun y=>v==y) l)) []<| .fin []) (p:=(l.map kJ).length≤9223372036854775807→aTK l v∧(decide ((0:Int)≤(lH (fun y=>v==y) l)))=(decide (v∈l))∧True) (by kernel_rfl) ?_
 intro n0
 simp only [List.length_map] at n0
 refine ⟨ixB _ _,?_,trivial⟩
 ·exact aRL
abbrev vJ (q:QueryD):Prop:=cT Tryz.prog 149 [.agg [.int .i64 q.variableCount,.sl 135 2 (q.atoms.map bH)]] (vB (cK q)) []
theorem aGd (q:QueryD):vJ q:=by
 refine aT bE aL Tryz.func149 (by kernel_rfl) (.call (vB (eB q.variableCount (1:Int) (4:Int))) []<| .br (.fin []) (.len q.atoms.length<| .call (vB (eB ((q.atoms.length:Nat):Int) (1:Int) (4:Int))) []<| .lit<| .lit<| .br (.fin []) (.mk ((q.variableCount).toNat) [.bool false] ((List.replicate ((q.variableCount).toNat) false).map kJ)<| .len q.atoms.length<| .loop (Nat × (List Bool)) (Q2 Nat (List Bool)) [5,6,7,25,26,27,28,29,30,31,32,33,34,35,36,37,38,39,40,41,42,43,44,45,46,47,48,49,50,51,52,53,54,55,56,57,58,59,60,61,62,63,64,65,66] [500,2100] (fun yy0=>[(25,vI (yy0.1:Int))]) (fun yy0=>[(2100,some (.arr 4 1 true (yy0.2.map kJ)))]) (fun yy0=>yy0.1≤q.atoms.length∧yy0.2=(List.range q.variableCount.toNat).map (iZ q.atoms yy0.1 [] 0)∧(q.atoms.take yy0.1).all (eW q.variableCount)=true) (fun yy0=>q.atoms.length - yy0.1) (fun yy0=> .br (.elem _ bH q.atoms (fun e27=> .call (vB (eO e27.name)) []<| .br (.fin []) (.len e27.vars.length<| .call (vB (eB ((e27.vars.length:Nat):Int) (1:Int) (3:Int))) []<| .lit<| .lit<| .br (.fin []) (.len e27.vars.length<| .loop (Nat × (List Bool)) (Q2 Nat (List Bool)) [6,7,43,44,45,46,47,48,49,50,51,52,53,54,55,56,57,58,59,60,61,62,63,64,65] [2100] (fun yy1=>[(43,vI (yy1.1:Int))]) (fun yy1=>[(2100,some (.arr 4 1 true (yy1.2.map kJ)))]) (fun yy1=>yy1.1≤e27.vars.length∧yy1.2=(List.range q.variableCount.toNat).map (iZ q.atoms yy0.1 e27.vars yy1.1)∧(List.range yy1.1).all (kU q.variableCount e27.vars)=true) (fun yy1=>e27.vars.length - yy1.1) (fun yy1=> .br (.elem _ intD e27.vars (fun e46=> .call (vB (eB e46 (0:Int) (q.variableCount - (1:Int)))) []<| .br (.fin []) (.sub Int intD e27.vars<| .call (vB (decide (e46∈(e27.vars.take yy1.1)))) []<| .lit<| .br (.fin []) (.len yy1.2.length<| .set Bool kJ yy1.2 (fun s14_3=>true) (fun s14_3=> .back [(2100,2100)]))))) (.back [(2100,2100)])))))) (.call (vB (decide (false∈yy0.2))) []<| .fin []))))) (p:=(q.atoms.map bH).length≤9223372036854775807→fS q.variableCount (1:Int) (4:Int)∧(((!(eB q.variableCount (1:Int) (4:Int)))=true→(false)=(cK q)∧True)∧((!(eB q.variableCount (1:Int) (4:Int)))=false→Lm bH q.atoms∧(fS ((q.atoms.length:Nat):Int) (1:Int) (4:Int)∧(((!(eB ((q.atoms.length:Nat):Int) (1:Int) (4:Int)))=true→(false)=(cK q)∧True)∧((!(eB ((q.atoms.length:Nat):Int) (1:Int) (4:Int)))=false→q.variableCount=(((q.variableCount).toNat:Nat):Int)∧q.variableCount=(((q.variableCount).toNat:Nat):Int)∧1*((q.variableCount).toNat)≤281474976710656∧((q.variableCount).toNat)≤9223372036854775807∧List.replicate ((q.variableCount).toNat) [.bool false]=(List.replicate ((q.variableCount).toNat) false).map kJ∧(Lm bH q.atoms∧((∃(k:Nat) (sn:List Bool),(0:Int)=(k:Int)∧(List.replicate ((q.variableCount).toNat) false).map kJ=sn.map kJ∧k≤q.atoms.length∧sn=(List.range q.variableCount.toNat).map (iZ q.atoms k [] 0)∧(q.atoms.take k).all (eW q.variableCount)=true)∧ ∀(k:Nat) (sn:List Bool),(k≤q.atoms.length∧sn=(List.range q.variableCount.toNat).map (iZ q.atoms k [] 0)∧(q.atoms.take k).all (eW q.variableCount)=true)→((decide ((k:Int)<((q.atoms.length:Nat):Int)))=true→0≤(k:Int)∧Em bH q.atoms k fun e27=>xV e27.name∧(((!(eO e27.name))=true→(false)=(cK q)∧True)∧((!(eO e27.name))=false→Lm intD e27.vars∧(fS ((e27.vars.length:Nat):Int) (1:Int) (3:Int)∧(((!(eB ((e27.vars.length:Nat):Int) (1:Int) (3:Int)))=true→(false)=(cK q)∧True)∧((!(eB ((e27.vars.length:Nat):Int) (1:Int) (3:Int)))=false→Lm intD e27.vars∧((∃(i:Nat) (sm:List Bool),(0:Int)=(i:Int)∧sn.map kJ=sm.map kJ∧i≤e27.vars.length∧sm=(List.range q.variableCount.toNat).map (iZ q.atoms k e27.vars i)∧(List.range i).all (kU q.variableCount e27.vars)=true)∧ ∀(i:Nat) (sm:List Bool),(i≤e27.vars.length∧sm=(List.range q.variableCount.toNat).map (iZ q.atoms k e27.vars i)∧(List.range i).all (kU q.variableCount e27.vars)=true)→((decide ((i:Int)<((e27.vars.length:Nat):Int)))=true→0≤(i:Int)∧Em intD e27.vars i fun e46=>cC (q.variableCount - (1:Int))∧(fS e46 (0:Int) (q.variableCount - (1:Int))∧(((!(eB e46 (0:Int) (q.variableCount - (1:Int))))=true→(false)=(cK q)∧True)∧((!(eB e46 (0:Int) (q.variableCount - (1:Int))))=false→e27.vars.map intD=e27.vars.map intD∧0≤(i:Int)∧(i:Int)≤((e27.vars.length:Nat):Int)∧(aLJ (e27.vars.take i) e46∧(((decide (e46∈(e27.vars.take i)))=true→(false)=(cK q)∧True)∧((decide (e46∈(e27.vars.take i)))=false→0≤e46∧Lm kJ sm∧e46<((sm.length:Nat):Int)∧(sm.map kJ=sm.map kJ∧(e46).toNat<sm.length∧ ∀s14_3,sm[(e46).toNat]? =some s14_3→eL (kJ s14_3)=true∧0+1≤(kJ s14_3).length∧(kJ s14_3).take 0++[.bool true]++(kJ s14_3).drop (0+1)=kJ true∧cC ((i:Int)+(1:Int))∧ ∃(i' :Nat) (sm' :List Bool),((i:Int)+(1:Int))=(i' :Int)∧(sm.set ((e46).toNat) true).map kJ=sm'.map kJ∧(i' ≤e27.vars.length∧sm' =(List.range q.variableCount.toNat).map (iZ q.atoms k e27.vars i')∧(List.range i').all (kU q.variableCount e27.vars)=true)∧e27.vars.length - i' <e27.vars.length - i))))))))∧((decide ((i:Int)<((e27.vars.length:Nat):Int)))=false→cC ((k:Int)+(1:Int))∧ ∃(k' :Nat) (sn' :List Bool),((k:Int)+(1:Int))=(k' :Int)∧sm.map kJ=sn'.map kJ∧(k' ≤q.atoms.length∧sn' =(List.range q.variableCount.toNat).map (iZ q.atoms k' [] 0)∧(q.atoms.take k').all (eW q.variableCount)=true)∧q.atoms.length - k' <q.atoms.length - k))))))))∧((decide ((k:Int)<((q.atoms.length:Nat):Int)))=false→aTL sn false∧(!(decide (false∈sn)))=(cK q)∧True))))))))) (by kernel_rfl) ?_
 intro n0
 simp only [List.length_map] at n0
 refine ⟨jQ _ _ _,fun g12=>?_,fun g12=>?_⟩
 ·replace g12:=nt g12
  have hbad:(eB q.variableCount 1 4&&eB (q.atoms.length:Nat) 1 4)=false:=by first | (rw [g12];rfl) | (rw [g12,c0];rfl)
  refine ⟨?_,trivial⟩
  ·first | (exact (oB hbad).symm) | (exact (kB h27 hA).symm) | (rw [lT hpar hall,hs,iR (by omega),rW])
 ·replace g12:=nf g12
  refine ⟨List.length_map _,jQ _ _ _,fun c0=>?_,fun c0=>?_⟩
  ·replace c0:=nt c0
   have hbad:(eB q.variableCount 1 4&&eB (q.atoms.length:Nat) 1 4)=false:=by first | (rw [g12];rfl) | (rw [g12,c0];rfl)
   refine ⟨?_,trivial⟩
   ·first | (exact (oB hbad).symm) | (exact (kB h27 hA).symm) | (rw [lT hpar hall,hs,iR (by omega),rW])
  ·replace c0:=nf c0
   have hpar:(eB q.variableCount 1 4&&eB (q.atoms.length:Nat) 1 4)=true:=by rw [g12,c0];rfl
   have hn:=eU g12
   refine ⟨by omega,by omega,by omega,by omega,by first | (rw [List.map_replicate];done) | (rw [List.map_replicate];rfl),List.length_map _,⟨0,List.replicate ((q.variableCount).toNat) false,rfl,rfl,Nat.zero_le _,aRK _ _ _,rfl⟩,fun k sn ⟨hk,hs,ha⟩=>?_⟩
   refine ⟨fun c1=>?_,fun c1=>?_⟩
   ·replace c1:=yq c1
    refine ⟨by omega,rfl,by omega,fun e27 h27=>?_⟩
    refine ⟨aI5 _,fun g33=>?_,fun g33=>?_⟩
    ·replace g33:=nt g33
     have hA:eW q.variableCount e27=false:=by first | (rw [eW,g33];rfl) | (rw [eW,g33,c2];rfl)
     refine ⟨?_,trivial⟩
     ·first | (exact (oB hbad).symm) | (exact (kB h27 hA).symm) | (rw [lT hpar hall,hs,iR (by omega),rW])
    ·replace g33:=nf g33
     refine ⟨List.length_map _,jQ _ _ _,fun c2=>?_,fun c2=>?_⟩
     ·replace c2:=nt c2
      have hA:eW q.variableCount e27=false:=by first | (rw [eW,g33];rfl) | (rw [eW,g33,c2];rfl)
      refine ⟨?_,trivial⟩
      ·first | (exact (oB hbad).symm) | (exact (kB h27 hA).symm) | (rw [lT hpar hall,hs,iR (by omega),rW])
     ·replace c2:=nf c2
      have w9:=eU c2
      refine ⟨List.length_map _,⟨0,sn,rfl,rfl,Nat.zero_le _,by rw [hs,aGZ],rfl⟩,fun i sm ⟨hi,hm,hv⟩=>?_⟩
      have hml:sm.length=q.variableCount.toNat:=by rw [hm];simp
      refine ⟨fun c3=>?_,fun c3=>?_⟩
      ·replace c3:=yq c3
       refine ⟨by omega,rfl,by omega,fun e46 h46=>?_⟩
       have hx:=List.mem_of_getElem? h46
       refine ⟨by first | exact w1 | exact ⟨by omega,by omega⟩,jQ _ _ _,fun g54=>?_,fun g54=>?_⟩
       ·replace g54:=nt g54
        have hp:kU q.variableCount e27.vars i=false:=by first | (rw [kU,bC h46,g54];rfl) | (rw [kU,bC h46,g54,c4];rfl)
        have hA:eW q.variableCount e27=false:=by rw [eW,yL,gH (by omega) hp];simp
        refine ⟨?_,trivial⟩
        ·first | (exact (oB hbad).symm) | (exact (kB h27 hA).symm) | (rw [lT hpar hall,hs,iR (by omega),rW])
       ·replace g54:=nf g54
        refine ⟨rfl,by omega,by omega,ctI _ _,fun c4=>?_,fun c4=>?_⟩
        ·have hp:kU q.variableCount e27.vars i=false:=by first | (rw [kU,bC h46,g54];rfl) | (rw [kU,bC h46,g54,c4];rfl)
         have hA:eW q.variableCount e27=false:=by rw [eW,yL,gH (by omega) hp];simp
         refine ⟨?_,trivial⟩
         ·first | (exact (oB hbad).symm) | (exact (kB h27 hA).symm) | (rw [lT hpar hall,hs,iR (by omega),rW])
        ·have hp:kU q.variableCount e27.vars i=true:=by rw [kU,bC h46,g54,c4];rfl
         have hb:=eU g54
         refine ⟨by omega,List.length_map _,by omega,rfl,by omega,fun s14_3 hs14_3=>⟨rfl,Nat.le_of_ble_eq_true rfl,rfl,?_⟩⟩
         refine ⟨by first | exact w1 | exact ⟨by omega,by omega⟩,?_⟩
         exact ⟨i+1,_,rfl,rfl,⟨by omega,by rw [hm,aRB,aG0 h46 (by omega)],kH hv hp⟩,by omega⟩
      ·replace c3:=nq c3
       have hA:eW q.variableCount e27=true:=by rw [eW,g33,c2,yL,show e27.vars.length=i by omega,hv];rfl
       refine ⟨by first | exact w1 | exact ⟨by omega,by omega⟩,?_⟩
       exact ⟨k+1,_,rfl,rfl,⟨by omega,by rw [hm,aG1 h27 (by omega) []],cR h27 ha hA⟩,by omega⟩
   ·replace c1:=nq c1
    have hall:=bB (by omega) ha
    refine ⟨ctB _ _,?_,trivial⟩
    ·first | (exact (oB hbad).symm) | (exact (kB h27 hA).symm) | (rw [lT hpar hall,hs,iR (by omega),rW])
abbrev vK (q:QueryD):Prop:=cT Tryz.prog 108 [.agg [.int .i64 q.variableCount,.sl 135 2 (q.atoms.map bH)]] (vB (cK q)) []
theorem aGe (q:QueryD):vK q:=by
 refine aT bE aL Tryz.func108 (by kernel_rfl) (.call (vB (eB q.variableCount (1:Int) (4:Int))) []<| .br (.fin []) (.len q.atoms.length<| .call (vB (eB ((q.atoms.length:Nat):Int) (1:Int) (4:Int))) []<| .lit<| .lit<| .br (.fin []) (.loop (Nat × Int) (Q2 Nat Int) [3,4,5,6,18,19,20,21,22,23,24,25,26,27,28,29,30,31,32,33,34,35,36,37,38,39,40,41,42,43,44,45,46,47,48,49,50,51,52,53,54,55,56,57,58,59,60,61,62,63,64,65,66,67,68,69,70,71,72,73,74,75,76,77] [500] (fun yy0=>[(4,vI (yy0.1:Int)),(3,vI yy0.2)]) (fun yy0=>[]) (fun yy0=>yy0.1≤q.atoms.length∧yy0.2=m4 (iZ q.atoms yy0.1 [] 0)∧(q.atoms.take yy0.1).all (eW q.variableCount)=true) (fun yy0=>q.atoms.length - yy0.1) (fun yy0=> .len q.atoms.length<| .br (.elem _ bH q.atoms (fun e28=> .call (vB (eO e28.name)) []<| .br (.fin []) (.len e28.vars.length<| .call (vB (eB ((e28.vars.length:Nat):Int) (1:Int) (3:Int))) []<| .lit<| .lit<| .br (.fin []) (.loop (Nat × Int) (Q2 Nat Int) [3,6,41,42,43,44,45,46,47,48,49,50,51,52,53,54,55,56,57,58,59,60,61,62,63,64,65,66,67,68,69,70,71,72,73,74,75,76,77] [] (fun yy1=>[(6,vI (yy1.1:Int)),(3,vI yy1.2)]) (fun yy1=>[]) (fun yy1=>yy1.1≤e28.vars.length∧yy1.2=m4 (iZ q.atoms yy0.1 e28.vars yy1.1)∧(List.range yy1.1).all (kU q.variableCount e28.vars)=true) (fun yy1=>e28.vars.length - yy1.1) (fun yy1=> .len e28.vars.length<| .br (.elem _ intD e28.vars (fun e51=> .call (vB (eB e51 (0:Int) (q.variableCount - (1:Int)))) []<| .br (.fin []) (.sub Int intD e28.vars<| .elem _ intD e28.vars (fun e66=> .call (vB (decide (e66∈(e28.vars.take yy1.1)))) []<| .lit<| .br (.fin []) (.elem _ intD e28.vars (fun e74=> .back [])))))) (.back [])))))) (.fin []))))) (p:=(q.atoms.map bH).length≤9223372036854775807→fT q.variableCount (1:Int) (4:Int)∧(((!(eB q.variableCount (1:Int) (4:Int)))=true→(false)=(cK q)∧True)∧((!(eB q.variableCount (1:Int) (4:Int)))=false→Lm bH q.atoms∧(fT ((q.atoms.length:Nat):Int) (1:Int) (4:Int)∧(((!(eB ((q.atoms.length:Nat):Int) (1:Int) (4:Int)))=true→(false)=(cK q)∧True)∧((!(eB ((q.atoms.length:Nat):Int) (1:Int) (4:Int)))=false→(∃(k:Nat) (o:Int),(0:Int)=(k:Int)∧(0:Int)=o∧k≤q.atoms.length∧o=m4 (iZ q.atoms k [] 0)∧(q.atoms.take k).all (eW q.variableCount)=true)∧ ∀(k:Nat) (o:Int),(k≤q.atoms.length∧o=m4 (iZ q.atoms k [] 0)∧(q.atoms.take k).all (eW q.variableCount)=true)→Lm bH q.atoms∧(((decide ((k:Int)<((q.atoms.length:Nat):Int)))=true→0≤(k:Int)∧Em bH q.atoms k fun e28=>xW e28.name∧(((!(eO e28.name))=true→(false)=(cK q)∧True)∧((!(eO e28.name))=false→Lm intD e28.vars∧(fT ((e28.vars.length:Nat):Int) (1:Int) (3:Int)∧(((!(eB ((e28.vars.length:Nat):Int) (1:Int) (3:Int)))=true→(false)=(cK q)∧True)∧((!(eB ((e28.vars.length:Nat):Int) (1:Int) (3:Int)))=false→(∃(i:Nat) (p:Int),(0:Int)=(i:Int)∧o=p∧i≤e28.vars.length∧p=m4 (iZ q.atoms k e28.vars i)∧(List.range i).all (kU q.variableCount e28.vars)=true)∧ ∀(i:Nat) (p:Int),(i≤e28.vars.length∧p=m4 (iZ q.atoms k e28.vars i)∧(List.range i).all (kU q.variableCount e28.vars)=true)→Lm intD e28.vars∧(((decide ((i:Int)<((e28.vars.length:Nat):Int)))=true→0≤(i:Int)∧Em intD e28.vars i fun e51=>cC (q.variableCount - (1:Int))∧(fT e51 (0:Int) (q.variableCount - (1:Int))∧(((!(eB e51 (0:Int) (q.variableCount - (1:Int))))=true→(false)=(cK q)∧True)∧((!(eB e51 (0:Int) (q.variableCount - (1:Int))))=false→e28.vars.map intD=e28.vars.map intD∧0≤(i:Int)∧(i:Int)≤((e28.vars.length:Nat):Int)∧(0≤(i:Int)∧Em intD e28.vars i fun e66=>aQw (e28.vars.take i) e66∧(((decide (e66∈(e28.vars.take i)))=true→(false)=(cK q)∧True)∧((decide (e66∈(e28.vars.take i)))=false→0≤(i:Int)∧Em intD e28.vars i fun e74=>(0≤e74∧e74≤64)∧cC ((1:Int)*2^(Int.toNat e74))∧cC ((i:Int)+(1:Int))∧ ∃(i' :Nat) (p' :Int),((i:Int)+(1:Int))=(i' :Int)∧(cF .or .i64 p ((1:Int)*2^(Int.toNat e74)))=p' ∧(i' ≤e28.vars.length∧p' =m4 (iZ q.atoms k e28.vars i')∧(List.range i').all (kU q.variableCount e28.vars)=true)∧e28.vars.length - i' <e28.vars.length - i)))))))∧((decide ((i:Int)<((e28.vars.length:Nat):Int)))=false→cC ((k:Int)+(1:Int))∧ ∃(k' :Nat) (o' :Int),((k:Int)+(1:Int))=(k' :Int)∧p=o' ∧(k' ≤q.atoms.length∧o' =m4 (iZ q.atoms k' [] 0)∧(q.atoms.take k').all (eW q.variableCount)=true)∧q.atoms.length - k' <q.atoms.length - k))))))))∧((decide ((k:Int)<((q.atoms.length:Nat):Int)))=false→(0≤q.variableCount∧q.variableCount≤64)∧cC ((1:Int)*2^(Int.toNat q.variableCount))∧cC (((1:Int)*2^(Int.toNat q.variableCount)) - (1:Int))∧(decide (o=(((1:Int)*2^(Int.toNat q.variableCount)) - (1:Int))))=(cK q)∧True)))))))) (by kernel_rfl) ?_
 intro n0
 simp only [List.length_map] at n0
 refine ⟨jR _ _ _,fun g11=>?_,fun g11=>?_⟩
 ·replace g11:=nt g11
  have hbad:(eB q.variableCount 1 4&&eB (q.atoms.length:Nat) 1 4)=false:=by first | (rw [g11];rfl) | (rw [g11,c0];rfl)
  refine ⟨?_,trivial⟩
  ·first | (exact (oB hbad).symm) | (exact (kB h28 hA).symm) | (rw [lT hpar hall,hs,iR (by omega)];exact vF hn fun v hv=>rX hall hn.1 hv)
 ·replace g11:=nf g11
  refine ⟨List.length_map _,jR _ _ _,fun c0=>?_,fun c0=>?_⟩
  ·replace c0:=nt c0
   have hbad:(eB q.variableCount 1 4&&eB (q.atoms.length:Nat) 1 4)=false:=by first | (rw [g11];rfl) | (rw [g11,c0];rfl)
   refine ⟨?_,trivial⟩
   ·first | (exact (oB hbad).symm) | (exact (kB h28 hA).symm) | (rw [lT hpar hall,hs,iR (by omega)];exact vF hn fun v hv=>rX hall hn.1 hv)
  ·replace c0:=nf c0
   have hpar:(eB q.variableCount 1 4&&eB (q.atoms.length:Nat) 1 4)=true:=by rw [g11,c0];rfl
   have hn:=eU g11
   refine ⟨⟨0,(0:Int),rfl,rfl,Nat.zero_le _,aUQ _ _,rfl⟩,fun k o ⟨hk,hs,ha⟩=>?_⟩
   refine ⟨List.length_map _,fun c1=>?_,fun c1=>?_⟩
   ·replace c1:=yq c1
    refine ⟨by omega,rfl,by omega,fun e28 h28=>?_⟩
    refine ⟨aI6 _,fun g34=>?_,fun g34=>?_⟩
    ·replace g34:=nt g34
     have hA:eW q.variableCount e28=false:=by first | (rw [eW,g34];rfl) | (rw [eW,g34,c2];rfl)
     refine ⟨?_,trivial⟩
     ·first | (exact (oB hbad).symm) | (exact (kB h28 hA).symm) | (rw [lT hpar hall,hs,iR (by omega)];exact vF hn fun v hv=>rX hall hn.1 hv)
    ·replace g34:=nf g34
     refine ⟨List.length_map _,jR _ _ _,fun c2=>?_,fun c2=>?_⟩
     ·replace c2:=nt c2
      have hA:eW q.variableCount e28=false:=by first | (rw [eW,g34];rfl) | (rw [eW,g34,c2];rfl)
      refine ⟨?_,trivial⟩
      ·first | (exact (oB hbad).symm) | (exact (kB h28 hA).symm) | (rw [lT hpar hall,hs,iR (by omega)];exact vF hn fun v hv=>rX hall hn.1 hv)
     ·replace c2:=nf c2
      have w9:=eU c2
      refine ⟨⟨0,o,rfl,rfl,Nat.zero_le _,by rw [hs,aGZ],rfl⟩,fun i p ⟨hi,hm,hv⟩=>?_⟩
      refine ⟨List.length_map _,fun c3=>?_,fun c3=>?_⟩
      ·replace c3:=yq c3
       refine ⟨by omega,rfl,by omega,fun e51 h51=>?_⟩
       have hx:=List.mem_of_getElem? h51
       refine ⟨by first | exact w1 | exact ⟨by omega,by omega⟩,jR _ _ _,fun g58=>?_,fun g58=>?_⟩
       ·replace g58:=nt g58
        have hp:kU q.variableCount e28.vars i=false:=by first | (rw [kU,bC h51,g58];rfl) | (rw [kU,bC h51,g58,c4];rfl)
        have hA:eW q.variableCount e28=false:=by rw [eW,yL,gH (by omega) hp];simp
        refine ⟨?_,trivial⟩
        ·first | (exact (oB hbad).symm) | (exact (kB h28 hA).symm) | (rw [lT hpar hall,hs,iR (by omega)];exact vF hn fun v hv=>rX hall hn.1 hv)
       ·replace g58:=nf g58
        refine ⟨rfl,by omega,by omega,by omega,rfl,by omega,fun e66 h66=>?_⟩
        obtain rfl:=(aY h51 h66).symm
        refine ⟨hsI _ _,fun c4=>?_,fun c4=>?_⟩
        ·have hp:kU q.variableCount e28.vars i=false:=by first | (rw [kU,bC h51,g58];rfl) | (rw [kU,bC h51,g58,c4];rfl)
         have hA:eW q.variableCount e28=false:=by rw [eW,yL,gH (by omega) hp];simp
         refine ⟨?_,trivial⟩
         ·first | (exact (oB hbad).symm) | (exact (kB h28 hA).symm) | (rw [lT hpar hall,hs,iR (by omega)];exact vF hn fun v hv=>rX hall hn.1 hv)
        ·have hp:kU q.variableCount e28.vars i=true:=by rw [kU,bC h51,g58,c4];rfl
         have hb:=eU g58
         obtain ⟨w1,w2,w3⟩:=aDR (x:=e51) (aAh (by omega) (by omega))
         refine ⟨by omega,rfl,by omega,fun e74 h74=>?_⟩
         obtain rfl:=(aY h51 h74).symm
         refine ⟨⟨by omega,by omega⟩,by first | exact w1 | exact ⟨by omega,by omega⟩,by first | exact w1 | exact ⟨by omega,by omega⟩,?_⟩
         exact ⟨i+1,_,rfl,rfl,⟨by omega,by rw [hm,aQz (by omega),aG0 h51 (by omega)],kH hv hp⟩,by omega⟩
      ·replace c3:=nq c3
       have hA:eW q.variableCount e28=true:=by rw [eW,g34,c2,yL,show e28.vars.length=i by omega,hv];rfl
       refine ⟨by first | exact w1 | exact ⟨by omega,by omega⟩,?_⟩
       exact ⟨k+1,_,rfl,rfl,⟨by omega,by rw [hm,aG1 h28 (by omega) []],cR h28 ha hA⟩,by omega⟩
   ·replace c1:=nq c1
    have hall:=bB (by omega) ha
    obtain ⟨w1,w2,w3⟩:=aDR (x:=q.variableCount - 1) (aAh (by omega) (by omega))
    have w4:=mZ (n:=q.variableCount.toNat) ⟨by omega,by omega⟩
    refine ⟨⟨by omega,by omega⟩,by first | exact w1 | exact ⟨by omega,by omega⟩,by first | exact w1 | exact ⟨by omega,by omega⟩,?_,trivial⟩
    ·first | (exact (oB hbad).symm) | (exact (kB h28 hA).symm) | (rw [lT hpar hall,hs,iR (by omega)];exact vF hn fun v hv=>rX hall hn.1 hv)
abbrev yP (d:aS) (f:aX):AV × List (Nat × Rs):=(.own 0,[(0,.arr 3 1 true ((kL d f).map intD))])
abbrev aDx (d:aS) (f:aX):Prop:=cT Tryz.prog 208 [.agg [.sl 167 3 (d.tables.map aR)],.agg [.str f.name,.sl 3 1 (f.src.map intD),.int .i64 f.dst]] (yP d f).1 (yP d f).2
theorem aOj (d:aS) (f:aX) (hc:bN d≤1048576):aDx d f:=by
 refine aT bE aL Tryz.func208 (by kernel_rfl) (.call (vB (eX d f)) []<| .br (.fin []) (.call (.tup [.agg [.p none (.str (((aG d f.name).1).name)),vI (((aG d f.name).1).arity),.p none (.sl 39 1 ((((aG d f.name).1).rows).map aA))],vB ((aG d f.name).2)]) []<| .len ((((aG d f.name).1).rows).length)<| .loop Nat (Q1 Nat) [7,8,9,10,11,12,13,14,29,30,31,32,33,34,35,36,37,38,39,40,41,42,43,44,45,46,47,48,49,50,51,52,53,54,55,56,57,58,59,60,61,62,63,64,65,66,67,68,69,70,71,72,73,77,78] [4800,5500] (fun k=>[(29,vI (k:Int))]) (fun k=>[]) (fun k=>k≤(aG d f.name).1.rows.length∧lS (aG d f.name).1.rows f.src f.dst k= []) (fun k=>(aG d f.name).1.rows.length - k) (fun k=> .br (.elem _ aA (((aG d f.name).1).rows) (fun e32=> .sub (List Int) aA (((aG d f.name).1).rows)<| .len (((((aG d f.name).1).rows).take k).length)<| .loop Nat (Q1 Nat) [9,10,11,12,13,14,39,40,41,42,43,44,45,46,47,48,49,50,51,52,53,54,55,56,57,58,59,60,61,62,63,64,65,66,67,68,69,70,71,72,73,77] [4800,5500] (fun i=>[(39,vI (i:Int))]) (fun i=>[]) (fun i=>i≤k∧lI (aG d f.name).1.rows f.src f.dst k i= []) (fun i=>k - i) (fun i=> .br (.elem _ aA ((((aG d f.name).1).rows).take k) (fun e42=>bV (oU e42 f.src)<| bV (oU e32 f.src)<| .call (vB (decide (((fK e42 f.src).1)=((fK e32 f.src).1)))) []<| .br (.elem _ intD e42 (fun e65=> .elem _ intD e32 (fun e70=> .lit<| .lit<| .lit<| .br (.fin [(0,7600)]) (.back [])))) (.back []))) (.back [])))) (.fin [])))) (p:=(d.tables.map aR).length≤9223372036854775807→(f.src.map intD).length≤9223372036854775807→uZ d f∧(((!(eX d f))=true→[]=(kL d f).map intD∧True)∧((!(eX d f))=false→cT Tryz.prog 150 [.agg [.sl 167 3 (d.tables.map aR)],.one (.str f.name)] (.tup [.agg [.p none (.str (((aG d f.name).1).name)),vI (((aG d f.name).1).arity),.p none (.sl 39 1 ((((aG d f.name).1).rows).map aA))],vB ((aG d f.name).2)]) []∧(Lm aA (((aG d f.name).1).rows)∧((∃(k:Nat),(0:Int)=(k:Int)∧k≤(aG d f.name).1.rows.length∧lS (aG d f.name).1.rows f.src f.dst k= [])∧ ∀(k:Nat),(k≤(aG d f.name).1.rows.length∧lS (aG d f.name).1.rows f.src f.dst k= [])→((decide ((k:Int)<(((((aG d f.name).1).rows).length:Nat):Int)))=true→0≤(k:Int)∧Em aA (((aG d f.name).1).rows) k fun e32=>(((aG d f.name).1).rows).map aA=(((aG d f.name).1).rows).map aA∧0≤(k:Int)∧(k:Int)≤(((((aG d f.name).1).rows).length:Nat):Int)∧(Lm aA ((((aG d f.name).1).rows).take k)∧((∃(i:Nat),(0:Int)=(i:Int)∧i≤k∧lI (aG d f.name).1.rows f.src f.dst k i= [])∧ ∀(i:Nat),(i≤k∧lI (aG d f.name).1.rows f.src f.dst k i= [])→((decide ((i:Int)<((((((aG d f.name).1).rows).take k).length:Nat):Int)))=true→0≤(i:Int)∧Em aA ((((aG d f.name).1).rows).take k) i fun e42=>rQ e42 f.src∧(rQ e32 f.src∧(qW ((fK e42 f.src).1) ((fK e32 f.src).1)∧(((decide (((fK e42 f.src).1)=((fK e32 f.src).1)))=true→0≤f.dst∧Em intD e42 ((f.dst).toNat) fun e65=>0≤f.dst∧Em intD e32 ((f.dst).toNat) fun e70=>((!(decide (e65=e70)))=true→[[.int .i64 (i:Int)],[.int .i64 (k:Int)]]=(kL d f).map intD∧True)∧((!(decide (e65=e70)))=false→cC ((i:Int)+(1:Int))∧ ∃(i' :Nat),((i:Int)+(1:Int))=(i' :Int)∧(i' ≤k∧lI (aG d f.name).1.rows f.src f.dst k i' = [])∧k - i' <k - i))∧((decide (((fK e42 f.src).1)=((fK e32 f.src).1)))=false→cC ((i:Int)+(1:Int))∧ ∃(i' :Nat),((i:Int)+(1:Int))=(i' :Int)∧(i' ≤k∧lI (aG d f.name).1.rows f.src f.dst k i' = [])∧k - i' <k - i)))))∧((decide ((i:Int)<((((((aG d f.name).1).rows).take k).length:Nat):Int)))=false→cC ((k:Int)+(1:Int))∧ ∃(k' :Nat),((k:Int)+(1:Int))=(k' :Int)∧(k' ≤(aG d f.name).1.rows.length∧lS (aG d f.name).1.rows f.src f.dst k' = [])∧(aG d f.name).1.rows.length - k' <(aG d f.name).1.rows.length - k))))∧((decide ((k:Int)<(((((aG d f.name).1).rows).length:Nat):Int)))=false→[]=(kL d f).map intD∧True)))))) (by kernel_rfl) ?_
 intro n0 n1
 simp only [List.length_map] at n0 n1
 refine ⟨aGT _ _ (by omega),fun c0=>?_,fun c0=>?_⟩
 ·replace c0:=nt c0
  have hbad:kL d f= []:=by rw [kL,if_neg (by simpa using c0)]
  refine ⟨?_,trivial⟩
  ·first | (rw [hbad]<;>rfl) | (rw [hE]<;>rfl) | (rw [hV,hE]<;>rfl)
 ·replace c0:=nf c0
  have hok:eX d f=true:=by simpa using c0
  obtain ⟨hT,hd0,hd1,hsl⟩:=aDm hok
  have hT8:=cN hT
  have hV:kL d f=lS (aG d f.name).1.rows f.src f.dst (aG d f.name).1.rows.length:=by rw [kL,if_pos hok]
  refine ⟨kO (rU _ f.name (by omega)) rfl,List.length_map _,⟨0,rfl,Nat.zero_le _,rfl⟩,fun k ⟨hk,hv⟩=>?_⟩
  refine ⟨fun c1=>?_,fun c1=>?_⟩
  ·replace c1:=yq c1
   refine ⟨by omega,rfl,by first | omega | (simp only [List.length_take];omega),fun e32 h32=>?_⟩
   have hl32:=pH hT (List.mem_of_getElem? h32)
   refine ⟨rfl,by omega,by first | omega | (simp only [List.length_take];omega),List.length_map _,⟨0,rfl,Nat.zero_le _,rfl⟩,fun i ⟨hi,hw⟩=>?_⟩
   have htl:((aG d f.name).1.rows.take k).length=k:=by rw [List.length_take];omega
   refine ⟨fun c2=>?_,fun c2=>?_⟩
   ·replace c2:=yq c2
    refine ⟨by omega,rfl,by first | omega | (simp only [List.length_take];omega),fun e42 h42=>?_⟩
    have hx:(aG d f.name).1.rows[i]? =some e42:=by rw [List.getElem?_take_of_lt (by omega)] at h42;exact h42
    have hl42:=pH hT (List.mem_of_getElem? hx)
    have hb:=aN0 (cols:=f.src) (c:=f.dst) hx h32
    refine ⟨aCH _ _ (by omega),aCH _ _ (by omega),aCC _ _,fun g61=>?_,fun g61=>?_⟩
    ·replace g61:=yq g61
     refine ⟨by omega,rfl,by first | omega | (simp only [List.length_take];omega),fun e65 h65=>?_⟩
     refine ⟨by omega,rfl,by first | omega | (simp only [List.length_take];omega),fun e70 h70=>?_⟩
     refine ⟨fun c3=>?_,fun c3=>?_⟩
     ·replace c3:=nq (nt c3)
      have hB:aMW (aG d f.name).1.rows f.src f.dst i k=true:=by rw [hb,bC h65,bC h70];simp [*]
      have hE:=aGR hv hw hB (by omega) (by omega:k<(aG d f.name).1.rows.length)
      refine ⟨?_,trivial⟩
      ·first | (rw [hbad]<;>rfl) | (rw [hE]<;>rfl) | (rw [hV,hE]<;>rfl)
     ·replace c3:=yq (nf c3)
      refine ⟨⟨by omega,by omega⟩,?_⟩
      exact ⟨i+1,rfl,⟨by omega,aCT hw (by rw [hb];first | (simp [g61];done) | (rw [bC h65,bC h70];simp [*];done))⟩,by omega⟩
    ·replace g61:=nq g61
     refine ⟨⟨by omega,by omega⟩,?_⟩
     exact ⟨i+1,rfl,⟨by omega,aCT hw (by rw [hb];first | (simp [g61];done) | (rw [bC h65,bC h70];simp [*];done))⟩,by omega⟩
   ·replace c2:=nq c2
    refine ⟨⟨by omega,by omega⟩,?_⟩
    exact ⟨k+1,rfl,⟨by omega,aGS hv (by obtain rfl:i=k:=(by omega);exact hw)⟩,by omega⟩
  ·replace c1:=nq c1
   have hE:kL d f= []:=by rw [hV,show (aG d f.name).1.rows.length=k by omega,hv]
   refine ⟨?_,trivial⟩
   ·first | (rw [hbad]<;>rfl) | (rw [hE]<;>rfl) | (rw [hV,hE]<;>rfl)
abbrev yQ (d:aS) (f:aX):AV × List (Nat × Rs):=(.own 0,[(0,.arr 3 1 true ((kL d f).map intD))])
abbrev aDy (d:aS) (f:aX):Prop:=cT Tryz.prog 214 [.agg [.sl 167 3 (d.tables.map aR)],.agg [.str f.name,.sl 3 1 (f.src.map intD),.int .i64 f.dst]] (yQ d f).1 (yQ d f).2
theorem aOk (d:aS) (f:aX) (hc:bN d≤1048576):aDy d f:=by
 refine aT bE aL Tryz.func214 (by kernel_rfl) (.call (.tup [.agg [.p none (.str (((aG d f.name).1).name)),vI (((aG d f.name).1).arity),.p none (.sl 39 1 ((((aG d f.name).1).rows).map aA))],vB ((aG d f.name).2)]) []<| .loop Nat (Q1 Nat) [7,8,9,10,11,12,20,21,22,23,24,25,26,27,28,29,30,31,32,33,34,35,36,37,38,39,40,41,42,43,44,45,46,47,48,49,50,51,52,53,54,55,56,57,58,59,60,61,62,63,64,65,66,67,68,69,70,71,72,73,74,75,76,77,78,79,80,81,82,83] [4000,5600] (fun k=>[(7,vI (k:Int))]) (fun k=>[]) (fun k=>k≤(aG d f.name).1.rows.length∧lS (aG d f.name).1.rows f.src f.dst k= []) (fun k=>(aG d f.name).1.rows.length - k) (fun k=> .len ((((aG d f.name).1).rows).length)<| .br (.call (vB (eX d f)) []<| .lit<| .br (.elem _ aA (((aG d f.name).1).rows) (fun e36=>bV (oV e36 f.src)<| .loop Nat (Q1 Nat) [10,11,12,43,44,45,46,47,48,49,50,51,52,53,54,55,56,57,58,59,60,61,62,63,64,65,66,67,68,69,70,71,72,73,74,75,76,77,78,79,80,81,82,83] [5600] (fun i=>[(10,vI (i:Int))]) (fun i=>[]) (fun i=>i≤k∧lI (aG d f.name).1.rows f.src f.dst k i= []) (fun i=>k - i) (fun i=> .br (.elem _ aA (((aG d f.name).1).rows) (fun e52=>bV (oV e52 f.src)<| .call (vI (cE ((fK e52 f.src).1) ((fK e36 f.src).1))) []<| .br (.elem _ aA (((aG d f.name).1).rows) (fun e67=> .elem _ intD e67 (fun e71=> .elem _ aA (((aG d f.name).1).rows) (fun e76=> .elem _ intD e76 (fun e80=> .lit<| .lit<| .lit<| .br (.fin [(0,8600)]) (.back [])))))) (.back []))) (.back [])))) (.fin [(0,8700)])) (.fin [(0,8700)]))) (p:=(d.tables.map aR).length≤9223372036854775807→(f.src.map intD).length≤9223372036854775807→cT Tryz.prog 168 [.agg [.sl 167 3 (d.tables.map aR)],.one (.str f.name)] (.tup [.agg [.p none (.str (((aG d f.name).1).name)),vI (((aG d f.name).1).arity),.p none (.sl 39 1 ((((aG d f.name).1).rows).map aA))],vB ((aG d f.name).2)]) []∧((∃(k:Nat),(0:Int)=(k:Int)∧k≤(aG d f.name).1.rows.length∧lS (aG d f.name).1.rows f.src f.dst k= [])∧ ∀(k:Nat),(k≤(aG d f.name).1.rows.length∧lS (aG d f.name).1.rows f.src f.dst k= [])→Lm aA (((aG d f.name).1).rows)∧(((decide ((k:Int)<(((((aG d f.name).1).rows).length:Nat):Int)))=true→vA d f∧(((eX d f)=true→0≤(k:Int)∧Em aA (((aG d f.name).1).rows) k fun e36=>rR e36 f.src∧((∃(i:Nat),(0:Int)=(i:Int)∧i≤k∧lI (aG d f.name).1.rows f.src f.dst k i= [])∧ ∀(i:Nat),(i≤k∧lI (aG d f.name).1.rows f.src f.dst k i= [])→((decide ((i:Int)<(k:Int)))=true→0≤(i:Int)∧Em aA (((aG d f.name).1).rows) i fun e52=>rR e52 f.src∧(gO ((fK e52 f.src).1) ((fK e36 f.src).1)∧(((decide ((cE ((fK e52 f.src).1) ((fK e36 f.src).1))=(0:Int)))=true→0≤(i:Int)∧Em aA (((aG d f.name).1).rows) i fun e67=>0≤f.dst∧Em intD e67 ((f.dst).toNat) fun e71=>0≤(k:Int)∧Em aA (((aG d f.name).1).rows) k fun e76=>0≤f.dst∧Em intD e76 ((f.dst).toNat) fun e80=>((!(decide (e71=e80)))=true→[[.int .i64 (i:Int)],[.int .i64 (k:Int)]]=(kL d f).map intD∧True)∧((!(decide (e71=e80)))=false→cC ((i:Int)+(1:Int))∧ ∃(i' :Nat),((i:Int)+(1:Int))=(i' :Int)∧(i' ≤k∧lI (aG d f.name).1.rows f.src f.dst k i' = [])∧k - i' <k - i))∧((decide ((cE ((fK e52 f.src).1) ((fK e36 f.src).1))=(0:Int)))=false→cC ((i:Int)+(1:Int))∧ ∃(i' :Nat),((i:Int)+(1:Int))=(i' :Int)∧(i' ≤k∧lI (aG d f.name).1.rows f.src f.dst k i' = [])∧k - i' <k - i))))∧((decide ((i:Int)<(k:Int)))=false→cC ((k:Int)+(1:Int))∧ ∃(k' :Nat),((k:Int)+(1:Int))=(k' :Int)∧(k' ≤(aG d f.name).1.rows.length∧lS (aG d f.name).1.rows f.src f.dst k' = [])∧(aG d f.name).1.rows.length - k' <(aG d f.name).1.rows.length - k)))∧((eX d f)=false→[]=(kL d f).map intD∧True)))∧((decide ((k:Int)<(((((aG d f.name).1).rows).length:Nat):Int)))=false→[]=(kL d f).map intD∧True)))) (by kernel_rfl) ?_
 intro n0 n1
 simp only [List.length_map] at n0 n1
 refine ⟨kO (rV _ f.name (by omega)) rfl,⟨0,rfl,Nat.zero_le _,rfl⟩,fun k ⟨hk,hv⟩=>?_⟩
 refine ⟨List.length_map _,fun g25=>?_,fun g25=>?_⟩
 ·replace g25:=yq g25
  refine ⟨aGU _ _ (by omega),fun c0=>?_,fun c0=>?_⟩
  ·have hok:eX d f=true:=c0
   obtain ⟨hT,hd0,hd1,hsl⟩:=aDm hok
   have hT8:=cN hT
   have hV:kL d f=lS (aG d f.name).1.rows f.src f.dst (aG d f.name).1.rows.length:=by rw [kL,if_pos hok]
   refine ⟨by omega,rfl,by omega,fun e36 h36=>?_⟩
   have hl36:=pH hT (List.mem_of_getElem? h36)
   refine ⟨aCI _ _ (by omega),⟨0,rfl,Nat.zero_le _,rfl⟩,fun i ⟨hi,hw⟩=>?_⟩
   refine ⟨fun c1=>?_,fun c1=>?_⟩
   ·replace c1:=yq c1
    refine ⟨by omega,rfl,by omega,fun e52 h52=>?_⟩
    have hl52:=pH hT (List.mem_of_getElem? h52)
    have hb:=aN0 (cols:=f.src) (c:=f.dst) h52 h36
    refine ⟨aCI _ _ (by omega),jZ _ _,fun g63=>?_,fun g63=>?_⟩
    ·replace g63:=yq g63
     refine ⟨by omega,rfl,by omega,fun e67 h67=>?_⟩
     obtain rfl:=(aY h52 h67).symm
     refine ⟨by omega,rfl,by omega,fun e71 h71=>?_⟩
     refine ⟨by omega,rfl,by omega,fun e76 h76=>?_⟩
     obtain rfl:=(aY h36 h76).symm
     refine ⟨by omega,rfl,by omega,fun e80 h80=>?_⟩
     refine ⟨fun c2=>?_,fun c2=>?_⟩
     ·replace c2:=nq (nt c2)
      have hB:aMW (aG d f.name).1.rows f.src f.dst i k=true:=by rw [hb,bC h71,bC h80,fH.1 g63];simp [c2]
      have hE:=aGR hv hw hB (by omega) (by omega:k<(aG d f.name).1.rows.length)
      refine ⟨?_,trivial⟩
      ·first | (rw [hE]<;>rfl) | (rw [hV,hE]<;>rfl)
     ·replace c2:=yq (nf c2)
      refine ⟨⟨by omega,by omega⟩,?_⟩
      exact ⟨i+1,rfl,⟨by omega,aCT hw (by rw [hb];first | (simp [show ¬(fK e52 f.src).1=(fK e36 f.src).1 from fun q=>g63 (fH.2 q)];done) | (rw [bC h71,bC h80];simp [c2];done))⟩,by omega⟩
    ·replace g63:=nq g63
     refine ⟨⟨by omega,by omega⟩,?_⟩
     exact ⟨i+1,rfl,⟨by omega,aCT hw (by rw [hb];first | (simp [show ¬(fK e52 f.src).1=(fK e36 f.src).1 from fun q=>g63 (fH.2 q)];done) | (rw [bC h71,bC h80];simp [c2];done))⟩,by omega⟩
   ·replace c1:=nq c1
    refine ⟨⟨by omega,by omega⟩,?_⟩
    exact ⟨k+1,rfl,⟨by omega,aGS hv (by obtain rfl:i=k:=(by omega);exact hw)⟩,by omega⟩
  ·have hE:kL d f= []:=by first | (rw [kL,if_neg (by rw [c0];decide)];done) | (rw [kL];split<;>first | (rw [show (aG d f.name).1.rows.length=k by omega,hv];done) | rfl)
   refine ⟨?_,trivial⟩
   ·first | (rw [hE]<;>rfl) | (rw [hV,hE]<;>rfl)
 ·replace g25:=nq g25
  have hE:kL d f= []:=by first | (rw [kL,if_neg (by rw [c0];decide)];done) | (rw [kL];split<;>first | (rw [show (aG d f.name).1.rows.length=k by omega,hv];done) | rfl)
  refine ⟨?_,trivial⟩
  ·first | (rw [hE]<;>rfl) | (rw [hV,hE]<;>rfl)
abbrev aCY (d:aS) (f:aX):Prop:=cT Tryz.prog 179 [.agg [.sl 167 3 (d.tables.map aR)],.agg [.str f.name,.sl 3 1 (f.src.map intD),.int .i64 f.dst]] (vB (jM d f)) []
theorem aM2 (d:aS) (f:aX) (hc:bN d≤1048576):aCY d f:=by
 refine aT bE aL Tryz.func179 (by kernel_rfl) (.call (vB (eX d f)) []<| .br (bV (yP d f)<| .len ((kL d f).length)<| .fin []) (.fin [])) (p:=(d.tables.map aR).length≤9223372036854775807→(f.src.map intD).length≤9223372036854775807→uZ d f∧(((eX d f)=true→aDx d f∧Lm intD (kL d f)∧(decide ((((kL d f).length:Nat):Int)=(0:Int)))=(jM d f)∧True)∧((eX d f)=false→(false)=(jM d f)∧True))) (by kernel_rfl) ?_
 intro n0 n1
 simp only [List.length_map] at n0 n1
 refine ⟨aGT _ _ (by omega),fun g8=>?_,fun g8=>?_⟩
 ·refine ⟨aOj _ _ (by omega),List.length_map _,?_,trivial⟩
  ·first | (simp [jM, *];done) | (rw [jM,g8,pZ];rfl)
 ·refine ⟨?_,trivial⟩
  ·first | (simp [jM, *];done) | (rw [jM,g8,pZ];rfl)
abbrev aCZ (d:aS) (f:aX):Prop:=cT Tryz.prog 193 [.agg [.sl 167 3 (d.tables.map aR)],.agg [.str f.name,.sl 3 1 (f.src.map intD),.int .i64 f.dst]] (vB (jM d f)) []
theorem aM3 (d:aS) (f:aX) (hc:bN d≤1048576):aCZ d f:=by
 refine aT bE aL Tryz.func193 (by kernel_rfl) (.call (vB (eX d f)) []<| .br (bV (yQ d f)<| .len ((kL d f).length)<| .fin []) (.fin [])) (p:=(d.tables.map aR).length≤9223372036854775807→(f.src.map intD).length≤9223372036854775807→vA d f∧(((eX d f)=true→aDy d f∧Lm intD (kL d f)∧(decide ((((kL d f).length:Nat):Int)=(0:Int)))=(jM d f)∧True)∧((eX d f)=false→(false)=(jM d f)∧True))) (by kernel_rfl) ?_
 intro n0 n1
 simp only [List.length_map] at n0 n1
 refine ⟨aGU _ _ (by omega),fun g8=>?_,fun g8=>?_⟩
 ·refine ⟨aOk _ _ (by omega),List.length_map _,?_,trivial⟩
  ·first | (simp [jM, *];done) | (rw [jM,g8,pZ];rfl)
 ·refine ⟨?_,trivial⟩
  ·first | (simp [jM, *];done) | (rw [jM,g8,pZ];rfl)
abbrev yR (d:aS) (x:aW):AV × List (Nat × Rs):=(.own 0,[(0,.arr 3 1 true ((wC d x).map intD))])
abbrev aDz (d:aS) (x:aW):Prop:=cT Tryz.prog 210 [.agg [.sl 167 3 (d.tables.map aR)],.agg [.str x.name,.int .i64 x.column,.str x.into,.int .i64 x.intoColumn]] (yR d x).1 (yR d x).2
theorem aOl (d:aS) (x:aW) (hc:bN d≤1048576):aDz d x:=by
 refine aT bE aL Tryz.func210 (by kernel_rfl) (.call (vB (eS d x)) []<| .br (.fin []) (.call (.tup [.agg [.p none (.str (((aG d x.name).1).name)),vI (((aG d x.name).1).arity),.p none (.sl 39 1 ((((aG d x.name).1).rows).map aA))],vB ((aG d x.name).2)]) []<| .call (.tup [.agg [.p none (.str (((aG d x.into).1).name)),vI (((aG d x.into).1).arity),.p none (.sl 39 1 ((((aG d x.into).1).rows).map aA))],vB ((aG d x.into).2)]) []<| .len ((((aG d x.into).1).rows).length)<| .loop (Nat × (List Int)) (Q2 Nat (List Int)) [9,11,34,38,39,40,41,42,43,44,45,46,47,48,49,50] [3400,4800,4900] (fun yy0=>[(38,vI (yy0.1:Int)),(9,.own 3400)]) (fun yy0=>[(3400,some (.arr 3 1 true (yy0.2.map intD)))]) (fun yy0=>yy0.1≤(aG d x.into).1.rows.length∧yy0.2=jC ((aG d x.into).1.rows.take yy0.1) x.intoColumn) (fun yy0=>(aG d x.into).1.rows.length - yy0.1) (fun yy0=> .br (.elem _ aA (((aG d x.into).1).rows) (fun e40=> .elem _ intD e40 (fun e46=> .app Int intD yy0.2 ([e46]:List Int)<| .back [(3400,4900)]))) (.len ((((aG d x.name).1).rows).length)<| .loop (Nat × (List Int)) (Q2 Nat (List Int)) [12,14,15,51,55,56,57,58,59,60,61,62,63,64,65,66,67,68,69,70,71,72] [5100,7000,7100] (fun yy1=>[(55,vI (yy1.1:Int)),(12,.own 5100)]) (fun yy1=>[(5100,some (.arr 3 1 true (yy1.2.map intD)))]) (fun yy1=>yy1.1≤(aG d x.name).1.rows.length∧yy1.2=(jC ((aG d x.name).1.rows.take yy1.1) x.column).filter fun v=> !decide (v∈yy0.2)) (fun yy1=>(aG d x.name).1.rows.length - yy1.1) (fun yy1=> .br (.elem _ aA (((aG d x.name).1).rows) (fun e57=> .elem _ intD e57 (fun e62=> .call (vB (decide (e62∈yy0.2))) []<| .br (.app Int intD yy1.2 ([e62]:List Int)<| .back [(5100,7100)]) (.back [(5100,5100)])))) (.callx [.own 0] [(0,.arr 3 1 true (yy1.2.map intD))] [(0,5100)] (.tup []) [(0,.arr 3 1 true ((kM yy1.2).map intD))]<| .callx [.own 0] [(0,.arr 3 1 true ((kM yy1.2).map intD))] [(0,5100)] (.own 1) [(1,.arr 3 1 true ((sV (kM yy1.2)).map intD))]<| .fin [(0,7601)])))))) (p:=(d.tables.map aR).length≤9223372036854775807→vD d x∧(((!(eS d x))=true→[]=(wC d x).map intD∧True)∧((!(eS d x))=false→cT Tryz.prog 150 [.agg [.sl 167 3 (d.tables.map aR)],.one (.str x.name)] (.tup [.agg [.p none (.str (((aG d x.name).1).name)),vI (((aG d x.name).1).arity),.p none (.sl 39 1 ((((aG d x.name).1).rows).map aA))],vB ((aG d x.name).2)]) []∧(cT Tryz.prog 150 [.agg [.sl 167 3 (d.tables.map aR)],.one (.str x.into)] (.tup [.agg [.p none (.str (((aG d x.into).1).name)),vI (((aG d x.into).1).arity),.p none (.sl 39 1 ((((aG d x.into).1).rows).map aA))],vB ((aG d x.into).2)]) []∧(Lm aA (((aG d x.into).1).rows)∧((∃(k:Nat) (there:List Int),(0:Int)=(k:Int)∧[]=there.map intD∧k≤(aG d x.into).1.rows.length∧there=jC ((aG d x.into).1.rows.take k) x.intoColumn)∧ ∀(k:Nat) (there:List Int),(k≤(aG d x.into).1.rows.length∧there=jC ((aG d x.into).1.rows.take k) x.intoColumn)→((decide ((k:Int)<(((((aG d x.into).1).rows).length:Nat):Int)))=true→0≤(k:Int)∧Em aA (((aG d x.into).1).rows) k fun e40=>0≤x.intoColumn∧Em intD e40 ((x.intoColumn).toNat) fun e46=>there.map intD=there.map intD∧[[.int .i64 e46]]=([e46]:List Int).map intD∧(∀x,eL (intD x)=true)∧(there.length+([e46]:List Int).length)*8≤140737488355328∧cC ((k:Int)+(1:Int))∧ ∃(k' :Nat) (there' :List Int),((k:Int)+(1:Int))=(k' :Int)∧(there++[e46]).map intD=there'.map intD∧(k' ≤(aG d x.into).1.rows.length∧there' =jC ((aG d x.into).1.rows.take k') x.intoColumn)∧(aG d x.into).1.rows.length - k' <(aG d x.into).1.rows.length - k)∧((decide ((k:Int)<(((((aG d x.into).1).rows).length:Nat):Int)))=false→Lm aA (((aG d x.name).1).rows)∧((∃(j:Nat) (out:List Int),(0:Int)=(j:Int)∧[]=out.map intD∧j≤(aG d x.name).1.rows.length∧out=(jC ((aG d x.name).1.rows.take j) x.column).filter fun v=> !decide (v∈there))∧ ∀(j:Nat) (out:List Int),(j≤(aG d x.name).1.rows.length∧out=(jC ((aG d x.name).1.rows.take j) x.column).filter fun v=> !decide (v∈there))→((decide ((j:Int)<(((((aG d x.name).1).rows).length:Nat):Int)))=true→0≤(j:Int)∧Em aA (((aG d x.name).1).rows) j fun e57=>0≤x.column∧Em intD e57 ((x.column).toNat) fun e62=>aLJ there e62∧(((!(decide (e62∈there)))=true→out.map intD=out.map intD∧[[.int .i64 e62]]=([e62]:List Int).map intD∧(∀x,eL (intD x)=true)∧(out.length+([e62]:List Int).length)*8≤140737488355328∧cC ((j:Int)+(1:Int))∧ ∃(j' :Nat) (out' :List Int),((j:Int)+(1:Int))=(j' :Int)∧(out++[e62]).map intD=out'.map intD∧(j' ≤(aG d x.name).1.rows.length∧out' =(jC ((aG d x.name).1.rows.take j') x.column).filter fun v=> !decide (v∈there))∧(aG d x.name).1.rows.length - j' <(aG d x.name).1.rows.length - j)∧((!(decide (e62∈there)))=false→cC ((j:Int)+(1:Int))∧ ∃(j' :Nat) (out' :List Int),((j:Int)+(1:Int))=(j' :Int)∧out.map intD=out'.map intD∧(j' ≤(aG d x.name).1.rows.length∧out' =(jC ((aG d x.name).1.rows.take j') x.column).filter fun v=> !decide (v∈there))∧(aG d x.name).1.rows.length - j' <(aG d x.name).1.rows.length - j)))∧((decide ((j:Int)<(((((aG d x.name).1).rows).length:Nat):Int)))=false→wQ Tryz.prog 228 [.own 0] [(0,.arr 3 1 true (out.map intD))] (.tup []) [(0,.arr 3 1 true ((kM out).map intD))]∧out.map intD=out.map intD∧wQ Tryz.prog 229 [.own 0] [(0,.arr 3 1 true ((kM out).map intD))] (.own 1) [(1,.arr 3 1 true ((sV (kM out)).map intD))]∧(kM out).map intD=(kM out).map intD∧(sV (kM out)).map intD=(wC d x).map intD∧True))))))))) (by kernel_rfl) ?_
 intro n0
 simp only [List.length_map] at n0
 refine ⟨aGW _ _ (by omega),fun c0=>?_,fun c0=>?_⟩
 ·replace c0:=nt c0
  have hbad:wC d x= []:=by rw [wC,if_neg (by simpa using c0)]
  refine ⟨?_,trivial⟩
  ·first | (rw [hbad]<;>rfl) | (rw [hE]<;>rfl)
 ·replace c0:=nf c0
  have hok:eS d x=true:=by simpa using c0
  obtain ⟨hTa,hTb,hca,hcb⟩:=yJ hok
  have hA8:=cN hTa
  have hB8:=cN hTb
  refine ⟨kO (rU _ x.name (by omega)) rfl,kO (rU _ x.into (by omega)) rfl,List.length_map _,⟨0,([]:List Int),rfl,rfl,Nat.zero_le _,rfl⟩,fun k there ⟨hk,hth⟩=>?_⟩
  have htl:there.length=k:=by rw [hth,jC,List.length_map,List.length_take];omega
  refine ⟨fun c1=>?_,fun c1=>?_⟩
  ·replace c1:=yq c1
   refine ⟨by omega,rfl,by omega,fun e40 h40=>?_⟩
   have hl40:=pH hTb (List.mem_of_getElem? h40)
   refine ⟨by omega,rfl,by omega,fun e46 h46=>?_⟩
   refine ⟨rfl,rfl,fun _=>rfl,by first | omega | (simp [hth];omega) | (simp;omega),?_⟩
   refine ⟨⟨by omega,by omega⟩,?_⟩
   exact ⟨k+1,_,rfl,rfl,⟨by omega,by rw [mY _ _ h40,←hth,bC h46]⟩,by omega⟩
  ·replace c1:=nq c1
   have hTH:there=jC (aG d x.into).1.rows x.intoColumn:=by rw [hth,List.take_of_length_le (by omega)]
   refine ⟨List.length_map _,⟨0,([]:List Int),rfl,rfl,Nat.zero_le _,rfl⟩,fun j out ⟨hj,ho⟩=>?_⟩
   have hol:out.length≤j:=by rw [ho];refine Nat.le_trans (List.length_filter_le _ _) ?_;simp [jC];omega
   refine ⟨fun c2=>?_,fun c2=>?_⟩
   ·replace c2:=yq c2
    refine ⟨by omega,rfl,by omega,fun e57 h57=>?_⟩
    have hl57:=pH hTa (List.mem_of_getElem? h57)
    refine ⟨by omega,rfl,by omega,fun e62 h62=>?_⟩
    refine ⟨ctI _ _,fun c3=>?_,fun c3=>?_⟩
    ·replace c3:=nt c3
     refine ⟨rfl,rfl,fun _=>rfl,by first | omega | (simp [hth];omega) | (simp;omega),?_⟩
     refine ⟨⟨by omega,by omega⟩,?_⟩
     exact ⟨j+1,_,rfl,rfl,⟨by omega,by rw [mY _ _ h57,List.filter_append,←ho,bC h62,List.filter_cons_of_pos (by simpa using c3)];rfl⟩,by omega⟩
    ·replace c3:=nf c3
     refine ⟨⟨by omega,by omega⟩,?_⟩
     exact ⟨j+1,_,rfl,rfl,⟨by omega,by rw [mY _ _ h57,List.filter_append,←ho,bC h62,List.filter_cons_of_neg (by simpa using c3)];simp⟩,by omega⟩
   ·replace c2:=nq c2
    have hE:wC d x=sV (kM out):=by rw [wC,if_pos hok,aDn,ho,hTH,List.take_of_length_le (by omega)]
    refine ⟨aIo out (by omega),rfl,aO0 (kM out) (by first | omega | (rw [tZ];omega)),rfl,?_,trivial⟩
    ·first | (rw [hbad]<;>rfl) | (rw [hE]<;>rfl)
abbrev aC0 (d:aS) (x:aW):Prop:=cT Tryz.prog 180 [.agg [.sl 167 3 (d.tables.map aR)],.agg [.str x.name,.int .i64 x.column,.str x.into,.int .i64 x.intoColumn]] (vB (jN d x)) []
theorem aM4 (d:aS) (x:aW) (hc:bN d≤1048576):aC0 d x:=by
 refine aT bE aL Tryz.func180 (by kernel_rfl) (.call (vB (eS d x)) []<| .br (bV (yR d x)<| .len ((wC d x).length)<| .fin []) (.fin [])) (p:=(d.tables.map aR).length≤9223372036854775807→vD d x∧(((eS d x)=true→aDz d x∧Lm intD (wC d x)∧(decide ((((wC d x).length:Nat):Int)=(0:Int)))=(jN d x)∧True)∧((eS d x)=false→(false)=(jN d x)∧True))) (by kernel_rfl) ?_
 intro n0
 simp only [List.length_map] at n0
 refine ⟨aGW _ _ (by omega),fun g8=>?_,fun g8=>?_⟩
 ·refine ⟨aOl _ _ (by omega),List.length_map _,?_,trivial⟩
  ·first | (simp [jN, *];done) | (rw [jN,g8,pZ,aIq g8];rfl)
 ·refine ⟨?_,trivial⟩
  ·first | (simp [jN, *];done) | (rw [jN,g8,pZ,aIq g8];rfl)
end Go.Proofs.YtdfebigfnjfgpaaGreat
