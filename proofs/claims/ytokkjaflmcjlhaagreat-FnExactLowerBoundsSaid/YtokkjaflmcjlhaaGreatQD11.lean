/-
  Contracts and plain laws, joined: part 12.
-/
import Derived.Test.YtokkjaflmcjlhaaGreatQD10
import Derived.Test.YtokkjaflmcjlhaaGreatQD9
namespace Go.Proofs.YtokkjaflmcjlhaaGreat
open Go.ChangeShapes Go.WideShapes Go.ChangeAt Go.RowKit
set_option linter.unusedVariables false
set_option linter.unusedSimpArgs false
set_option maxRecDepth 100000
set_option maxHeartbeats 4000000
theorem aTO (l:List bK) (a:List Int):(0:Int)=m4 (gW l 0 a 0):=by simp [m4,b4,gW,aEJ]
theorem aQL (n:Nat) (l:List bK) (a:List Int):List.replicate n false=(List.range n).map (gW l 0 a 0):=by
 apply List.ext_getElem?
 intro i
 rw [List.getElem?_map,List.getElem?_replicate]
 by_cases hi:i<n
 ·rw [if_pos hi,List.getElem?_range hi];simp [gW,aEJ]
 ·rw [if_neg hi,show (List.range n)[i]? =none from List.getElem?_eq_none (by simp;omega)];rfl
theorem aQM {l:List Bool} {v:Bool}:decide (0≤dB (fun y=>v==y) l)=decide (v∈l):=by
 apply Bool.eq_iff_iff.2
 rw [decide_eq_true_eq,decide_eq_true_eq]
 constructor
 ·intro h
  obtain ⟨k,x,_,hx,hf⟩:=lP.2 h
  have h1:=List.find?_some hf
  have:v=x:=by simpa using h1
  rw [this];exact List.mem_of_getElem? hx
 ·intro h
  rcases Int.lt_or_le (dB (fun y=>v==y) l) 0 with q | q
  ·have:=lP.1 q
   rw [List.find?_eq_none] at this
   exact absurd (this v h) (by simp)
  ·exact q
abbrev aSF (l:List Bool) (v:Bool):Prop:=cU Tryz.prog 280 [.one (.sl 4 1 (l.map jH)),.one (.bool v)] (vI (dB (fun y=>v==y) l)) []
theorem ixB (l:List Bool) (v:Bool):aSF l v:=by
 refine aV bF aS Tryz.func280 (by kernel_rfl) (.len l.length<| .loop Nat (Q1 Nat) [5,8,9,10,11,12,13,14,15,16,18] [] (fun k=>[(8,vI (k:Int))]) (fun k=>[]) (fun k=>k≤l.length∧(l.take k).all (fun y=> !(v==y))=true) (fun k=>l.length - k) (fun k=> .br (.elem _ jH l (fun e14=> .br (.fin []) (.back []))) (.fin []))) (p:=(l.map jH).length≤9223372036854775807→Lm jH l∧((∃(k:Nat),(0:Int)=(k:Int)∧k≤l.length∧(l.take k).all (fun y=> !(v==y))=true)∧ ∀(k:Nat),(k≤l.length∧(l.take k).all (fun y=> !(v==y))=true)→((decide ((k:Int)<((l.length:Nat):Int)))=true→0≤(k:Int)∧Em jH l k fun e14=>((v==e14)=true→(k:Int)=(dB (fun y=>v==y) l)∧True)∧((v==e14)=false→cG ((k:Int)+(1:Int))∧ ∃(k' :Nat),((k:Int)+(1:Int))=(k' :Int)∧(k' ≤l.length∧(l.take k').all (fun y=> !(v==y))=true)∧l.length - k' <l.length - k))∧((decide ((k:Int)<((l.length:Nat):Int)))=false→(-1:Int)=(dB (fun y=>v==y) l)∧True))) (by kernel_rfl) ?_
 intro n0
 simp only [List.length_map] at n0
 refine ⟨List.length_map _,⟨0,rfl,Nat.zero_le _,rfl⟩,fun k ⟨hk,ha⟩=>?_⟩
 refine ⟨fun c0=>?_,fun c0=>?_⟩
 ·replace c0:=yq c0
  refine ⟨by omega,rfl,by omega,fun e14 h14=>?_⟩
  refine ⟨fun c1=>?_,fun c1=>?_⟩
  ·refine ⟨?_,trivial⟩
   ·first | (rw [aAR h14 ha c1];done) | (rw [uZ (bJ (by omega) ha)];done)
  ·refine ⟨⟨by omega,by omega⟩,?_⟩
   exact ⟨k+1,rfl,⟨by omega,cY h14 ha (by rw [c1];rfl)⟩,by omega⟩
 ·replace c0:=nq c0
  refine ⟨?_,trivial⟩
  ·first | (rw [aAR h14 ha c1];done) | (rw [uZ (bJ (by omega) ha)];done)
abbrev aSG (l:List Bool) (v:Bool):Prop:=cU Tryz.prog 254 [.one (.sl 4 1 (l.map jH)),.one (.bool v)] (vB (decide (v∈l))) []
theorem ctB (l:List Bool) (v:Bool):aSG l v:=by
 refine aV bF aS Tryz.func254 (by kernel_rfl) (.call (vI (dB (fun y=>v==y) l)) []<| .fin []) (p:=(l.map jH).length≤9223372036854775807→aSF l v∧(decide ((0:Int)≤(dB (fun y=>v==y) l)))=(decide (v∈l))∧True) (by kernel_rfl) ?_
 intro n0
 simp only [List.length_map] at n0
 refine ⟨ixB _ _,?_,trivial⟩
 ·exact aQM
abbrev aBI (q:QueryD):Prop:=cU Tryz.prog 190 [.agg [.int .i64 q.variableCount,.sl 131 2 (q.atoms.map aU)]] (vB (bM q)) []
theorem aK5 (q:QueryD):aBI q:=by
 refine aV bF aS Tryz.func190 (by kernel_rfl) (.call (vB (dY q.variableCount (1:Int) (4:Int))) []<| .br (.fin []) (.len q.atoms.length<| .call (vB (dY ((q.atoms.length:Nat):Int) (1:Int) (4:Int))) []<| .lit<| .lit<| .br (.fin []) (.mk ((q.variableCount).toNat) [.bool false] ((List.replicate ((q.variableCount).toNat) false).map jH)<| .len q.atoms.length<| .loop (Nat × (List Bool)) (Q2 Nat (List Bool)) [5,6,7,25,26,27,28,29,30,31,32,33,34,35,36,37,38,39,40,41,42,43,44,45,46,47,48,49,50,51,52,53,54,55,56,57,58,59,60,61,62,63,64,65,66] [500,2100] (fun yy0=>[(25,vI (yy0.1:Int))]) (fun yy0=>[(2100,some (.arr 4 1 true (yy0.2.map jH)))]) (fun yy0=>yy0.1≤q.atoms.length∧yy0.2=(List.range q.variableCount.toNat).map (gW q.atoms yy0.1 [] 0)∧(q.atoms.take yy0.1).all (eA q.variableCount)=true) (fun yy0=>q.atoms.length - yy0.1) (fun yy0=> .br (.elem _ aU q.atoms (fun e27=> .call (vB (dW e27.name)) []<| .br (.fin []) (.len e27.vars.length<| .call (vB (dY ((e27.vars.length:Nat):Int) (1:Int) (3:Int))) []<| .lit<| .lit<| .br (.fin []) (.len e27.vars.length<| .loop (Nat × (List Bool)) (Q2 Nat (List Bool)) [6,7,43,44,45,46,47,48,49,50,51,52,53,54,55,56,57,58,59,60,61,62,63,64,65] [2100] (fun yy1=>[(43,vI (yy1.1:Int))]) (fun yy1=>[(2100,some (.arr 4 1 true (yy1.2.map jH)))]) (fun yy1=>yy1.1≤e27.vars.length∧yy1.2=(List.range q.variableCount.toNat).map (gW q.atoms yy0.1 e27.vars yy1.1)∧(List.range yy1.1).all (jN q.variableCount e27.vars)=true) (fun yy1=>e27.vars.length - yy1.1) (fun yy1=> .br (.elem _ intD e27.vars (fun e46=> .call (vB (dY e46 (0:Int) (q.variableCount - (1:Int)))) []<| .br (.fin []) (.sub Int intD e27.vars<| .call (vB (decide (e46∈(e27.vars.take yy1.1)))) []<| .lit<| .br (.fin []) (.len yy1.2.length<| .set Bool jH yy1.2 (fun s14_3=>true) (fun s14_3=> .back [(2100,2100)]))))) (.back [(2100,2100)])))))) (.call (vB (decide (false∈yy0.2))) []<| .fin []))))) (p:=(q.atoms.map aU).length≤9223372036854775807→fU q.variableCount (1:Int) (4:Int)∧(((!(dY q.variableCount (1:Int) (4:Int)))=true→(false)=(bM q)∧True)∧((!(dY q.variableCount (1:Int) (4:Int)))=false→Lm aU q.atoms∧(fU ((q.atoms.length:Nat):Int) (1:Int) (4:Int)∧(((!(dY ((q.atoms.length:Nat):Int) (1:Int) (4:Int)))=true→(false)=(bM q)∧True)∧((!(dY ((q.atoms.length:Nat):Int) (1:Int) (4:Int)))=false→q.variableCount=(((q.variableCount).toNat:Nat):Int)∧q.variableCount=(((q.variableCount).toNat:Nat):Int)∧1*((q.variableCount).toNat)≤281474976710656∧((q.variableCount).toNat)≤9223372036854775807∧List.replicate ((q.variableCount).toNat) [.bool false]=(List.replicate ((q.variableCount).toNat) false).map jH∧(Lm aU q.atoms∧((∃(k:Nat) (sn:List Bool),(0:Int)=(k:Int)∧(List.replicate ((q.variableCount).toNat) false).map jH=sn.map jH∧k≤q.atoms.length∧sn=(List.range q.variableCount.toNat).map (gW q.atoms k [] 0)∧(q.atoms.take k).all (eA q.variableCount)=true)∧ ∀(k:Nat) (sn:List Bool),(k≤q.atoms.length∧sn=(List.range q.variableCount.toNat).map (gW q.atoms k [] 0)∧(q.atoms.take k).all (eA q.variableCount)=true)→((decide ((k:Int)<((q.atoms.length:Nat):Int)))=true→0≤(k:Int)∧Em aU q.atoms k fun e27=>yG e27.name∧(((!(dW e27.name))=true→(false)=(bM q)∧True)∧((!(dW e27.name))=false→Lm intD e27.vars∧(fU ((e27.vars.length:Nat):Int) (1:Int) (3:Int)∧(((!(dY ((e27.vars.length:Nat):Int) (1:Int) (3:Int)))=true→(false)=(bM q)∧True)∧((!(dY ((e27.vars.length:Nat):Int) (1:Int) (3:Int)))=false→Lm intD e27.vars∧((∃(i:Nat) (sm:List Bool),(0:Int)=(i:Int)∧sn.map jH=sm.map jH∧i≤e27.vars.length∧sm=(List.range q.variableCount.toNat).map (gW q.atoms k e27.vars i)∧(List.range i).all (jN q.variableCount e27.vars)=true)∧ ∀(i:Nat) (sm:List Bool),(i≤e27.vars.length∧sm=(List.range q.variableCount.toNat).map (gW q.atoms k e27.vars i)∧(List.range i).all (jN q.variableCount e27.vars)=true)→((decide ((i:Int)<((e27.vars.length:Nat):Int)))=true→0≤(i:Int)∧Em intD e27.vars i fun e46=>cG (q.variableCount - (1:Int))∧(fU e46 (0:Int) (q.variableCount - (1:Int))∧(((!(dY e46 (0:Int) (q.variableCount - (1:Int))))=true→(false)=(bM q)∧True)∧((!(dY e46 (0:Int) (q.variableCount - (1:Int))))=false→e27.vars.map intD=e27.vars.map intD∧0≤(i:Int)∧(i:Int)≤((e27.vars.length:Nat):Int)∧(aFp (e27.vars.take i) e46∧(((decide (e46∈(e27.vars.take i)))=true→(false)=(bM q)∧True)∧((decide (e46∈(e27.vars.take i)))=false→0≤e46∧Lm jH sm∧e46<((sm.length:Nat):Int)∧(sm.map jH=sm.map jH∧(e46).toNat<sm.length∧ ∀s14_3,sm[(e46).toNat]? =some s14_3→eK (jH s14_3)=true∧0+1≤(jH s14_3).length∧(jH s14_3).take 0++[.bool true]++(jH s14_3).drop (0+1)=jH true∧cG ((i:Int)+(1:Int))∧ ∃(i' :Nat) (sm' :List Bool),((i:Int)+(1:Int))=(i' :Int)∧(sm.set ((e46).toNat) true).map jH=sm'.map jH∧(i' ≤e27.vars.length∧sm' =(List.range q.variableCount.toNat).map (gW q.atoms k e27.vars i')∧(List.range i').all (jN q.variableCount e27.vars)=true)∧e27.vars.length - i' <e27.vars.length - i))))))))∧((decide ((i:Int)<((e27.vars.length:Nat):Int)))=false→cG ((k:Int)+(1:Int))∧ ∃(k' :Nat) (sn' :List Bool),((k:Int)+(1:Int))=(k' :Int)∧sm.map jH=sn'.map jH∧(k' ≤q.atoms.length∧sn' =(List.range q.variableCount.toNat).map (gW q.atoms k' [] 0)∧(q.atoms.take k').all (eA q.variableCount)=true)∧q.atoms.length - k' <q.atoms.length - k))))))))∧((decide ((k:Int)<((q.atoms.length:Nat):Int)))=false→aSG sn false∧(!(decide (false∈sn)))=(bM q)∧True))))))))) (by kernel_rfl) ?_
 intro n0
 simp only [List.length_map] at n0
 refine ⟨kE _ _ _,fun g12=>?_,fun g12=>?_⟩
 ·replace g12:=nt g12
  have hbad:(dY q.variableCount 1 4&&dY (q.atoms.length:Nat) 1 4)=false:=by first | (rw [g12];rfl) | (rw [g12,c0];rfl)
  refine ⟨?_,trivial⟩
  ·first | (exact (nF hbad).symm) | (exact (iZ h27 hA).symm) | (rw [kZ hpar hall,hs,gM (by omega),rT])
 ·replace g12:=nf g12
  refine ⟨List.length_map _,kE _ _ _,fun c0=>?_,fun c0=>?_⟩
  ·replace c0:=nt c0
   have hbad:(dY q.variableCount 1 4&&dY (q.atoms.length:Nat) 1 4)=false:=by first | (rw [g12];rfl) | (rw [g12,c0];rfl)
   refine ⟨?_,trivial⟩
   ·first | (exact (nF hbad).symm) | (exact (iZ h27 hA).symm) | (rw [kZ hpar hall,hs,gM (by omega),rT])
  ·replace c0:=nf c0
   have hpar:(dY q.variableCount 1 4&&dY (q.atoms.length:Nat) 1 4)=true:=by rw [g12,c0];rfl
   have hn:=eJ g12
   refine ⟨by omega,by omega,by omega,by omega,by first | (rw [List.map_replicate];done) | (rw [List.map_replicate];rfl),List.length_map _,⟨0,List.replicate ((q.variableCount).toNat) false,rfl,rfl,Nat.zero_le _,aQL _ _ _,rfl⟩,fun k sn ⟨hk,hs,ha⟩=>?_⟩
   refine ⟨fun c1=>?_,fun c1=>?_⟩
   ·replace c1:=yq c1
    refine ⟨by omega,rfl,by omega,fun e27 h27=>?_⟩
    refine ⟨aHm _,fun g33=>?_,fun g33=>?_⟩
    ·replace g33:=nt g33
     have hA:eA q.variableCount e27=false:=by first | (rw [eA,g33];rfl) | (rw [eA,g33,c2];rfl)
     refine ⟨?_,trivial⟩
     ·first | (exact (nF hbad).symm) | (exact (iZ h27 hA).symm) | (rw [kZ hpar hall,hs,gM (by omega),rT])
    ·replace g33:=nf g33
     refine ⟨List.length_map _,kE _ _ _,fun c2=>?_,fun c2=>?_⟩
     ·replace c2:=nt c2
      have hA:eA q.variableCount e27=false:=by first | (rw [eA,g33];rfl) | (rw [eA,g33,c2];rfl)
      refine ⟨?_,trivial⟩
      ·first | (exact (nF hbad).symm) | (exact (iZ h27 hA).symm) | (rw [kZ hpar hall,hs,gM (by omega),rT])
     ·replace c2:=nf c2
      have w9:=eJ c2
      refine ⟨List.length_map _,⟨0,sn,rfl,rfl,Nat.zero_le _,by rw [hs,aGA],rfl⟩,fun i sm ⟨hi,hm,hv⟩=>?_⟩
      have hml:sm.length=q.variableCount.toNat:=by rw [hm];simp
      refine ⟨fun c3=>?_,fun c3=>?_⟩
      ·replace c3:=yq c3
       refine ⟨by omega,rfl,by omega,fun e46 h46=>?_⟩
       have hx:=List.mem_of_getElem? h46
       refine ⟨by first | exact w1 | exact ⟨by omega,by omega⟩,kE _ _ _,fun g54=>?_,fun g54=>?_⟩
       ·replace g54:=nt g54
        have hp:jN q.variableCount e27.vars i=false:=by first | (rw [jN,aZ h46,g54];rfl) | (rw [jN,aZ h46,g54,c4];rfl)
        have hA:eA q.variableCount e27=false:=by rw [eA,vH,fF (by omega) hp];simp
        refine ⟨?_,trivial⟩
        ·first | (exact (nF hbad).symm) | (exact (iZ h27 hA).symm) | (rw [kZ hpar hall,hs,gM (by omega),rT])
       ·replace g54:=nf g54
        refine ⟨rfl,by omega,by omega,ctI _ _,fun c4=>?_,fun c4=>?_⟩
        ·have hp:jN q.variableCount e27.vars i=false:=by first | (rw [jN,aZ h46,g54];rfl) | (rw [jN,aZ h46,g54,c4];rfl)
         have hA:eA q.variableCount e27=false:=by rw [eA,vH,fF (by omega) hp];simp
         refine ⟨?_,trivial⟩
         ·first | (exact (nF hbad).symm) | (exact (iZ h27 hA).symm) | (rw [kZ hpar hall,hs,gM (by omega),rT])
        ·have hp:jN q.variableCount e27.vars i=true:=by rw [jN,aZ h46,g54,c4];rfl
         have hb:=eJ g54
         refine ⟨by omega,List.length_map _,by omega,rfl,by omega,fun s14_3 hs14_3=>⟨rfl,Nat.le_of_ble_eq_true rfl,rfl,?_⟩⟩
         refine ⟨by first | exact w1 | exact ⟨by omega,by omega⟩,?_⟩
         exact ⟨i+1,_,rfl,rfl,⟨by omega,by rw [hm,aQJ,aGB h46 (by omega)],jG hv hp⟩,by omega⟩
      ·replace c3:=nq c3
       have hA:eA q.variableCount e27=true:=by rw [eA,g33,c2,vH,show e27.vars.length=i by omega,hv];rfl
       refine ⟨by first | exact w1 | exact ⟨by omega,by omega⟩,?_⟩
       exact ⟨k+1,_,rfl,rfl,⟨by omega,by rw [hm,aGC h27 (by omega) []],cY h27 ha hA⟩,by omega⟩
   ·replace c1:=nq c1
    have hall:=bJ (by omega) ha
    refine ⟨ctB _ _,?_,trivial⟩
    ·first | (exact (nF hbad).symm) | (exact (iZ h27 hA).symm) | (rw [kZ hpar hall,hs,gM (by omega),rT])
abbrev vK (q:QueryD):Prop:=cU Tryz.prog 169 [.agg [.int .i64 q.variableCount,.sl 131 2 (q.atoms.map aU)]] (vB (bM q)) []
theorem aGH (q:QueryD):vK q:=by
 refine aV bF aS Tryz.func169 (by kernel_rfl) (.call (vB (dY q.variableCount (1:Int) (4:Int))) []<| .br (.fin []) (.len q.atoms.length<| .call (vB (dY ((q.atoms.length:Nat):Int) (1:Int) (4:Int))) []<| .lit<| .lit<| .br (.fin []) (.loop (Nat × Int) (Q2 Nat Int) [3,4,5,6,18,19,20,21,22,23,24,25,26,27,28,29,30,31,32,33,34,35,36,37,38,39,40,41,42,43,44,45,46,47,48,49,50,51,52,53,54,55,56,57,58,59,60,61,62,63,64,65,66,67,68,69,70,71,72,73,74,75,76,77] [500] (fun yy0=>[(4,vI (yy0.1:Int)),(3,vI yy0.2)]) (fun yy0=>[]) (fun yy0=>yy0.1≤q.atoms.length∧yy0.2=m4 (gW q.atoms yy0.1 [] 0)∧(q.atoms.take yy0.1).all (eA q.variableCount)=true) (fun yy0=>q.atoms.length - yy0.1) (fun yy0=> .len q.atoms.length<| .br (.elem _ aU q.atoms (fun e28=> .call (vB (dW e28.name)) []<| .br (.fin []) (.len e28.vars.length<| .call (vB (dY ((e28.vars.length:Nat):Int) (1:Int) (3:Int))) []<| .lit<| .lit<| .br (.fin []) (.loop (Nat × Int) (Q2 Nat Int) [3,6,41,42,43,44,45,46,47,48,49,50,51,52,53,54,55,56,57,58,59,60,61,62,63,64,65,66,67,68,69,70,71,72,73,74,75,76,77] [] (fun yy1=>[(6,vI (yy1.1:Int)),(3,vI yy1.2)]) (fun yy1=>[]) (fun yy1=>yy1.1≤e28.vars.length∧yy1.2=m4 (gW q.atoms yy0.1 e28.vars yy1.1)∧(List.range yy1.1).all (jN q.variableCount e28.vars)=true) (fun yy1=>e28.vars.length - yy1.1) (fun yy1=> .len e28.vars.length<| .br (.elem _ intD e28.vars (fun e51=> .call (vB (dY e51 (0:Int) (q.variableCount - (1:Int)))) []<| .br (.fin []) (.sub Int intD e28.vars<| .elem _ intD e28.vars (fun e66=> .call (vB (decide (e66∈(e28.vars.take yy1.1)))) []<| .lit<| .br (.fin []) (.elem _ intD e28.vars (fun e74=> .back [])))))) (.back [])))))) (.fin []))))) (p:=(q.atoms.map aU).length≤9223372036854775807→fB q.variableCount (1:Int) (4:Int)∧(((!(dY q.variableCount (1:Int) (4:Int)))=true→(false)=(bM q)∧True)∧((!(dY q.variableCount (1:Int) (4:Int)))=false→Lm aU q.atoms∧(fB ((q.atoms.length:Nat):Int) (1:Int) (4:Int)∧(((!(dY ((q.atoms.length:Nat):Int) (1:Int) (4:Int)))=true→(false)=(bM q)∧True)∧((!(dY ((q.atoms.length:Nat):Int) (1:Int) (4:Int)))=false→(∃(k:Nat) (o:Int),(0:Int)=(k:Int)∧(0:Int)=o∧k≤q.atoms.length∧o=m4 (gW q.atoms k [] 0)∧(q.atoms.take k).all (eA q.variableCount)=true)∧ ∀(k:Nat) (o:Int),(k≤q.atoms.length∧o=m4 (gW q.atoms k [] 0)∧(q.atoms.take k).all (eA q.variableCount)=true)→Lm aU q.atoms∧(((decide ((k:Int)<((q.atoms.length:Nat):Int)))=true→0≤(k:Int)∧Em aU q.atoms k fun e28=>yH e28.name∧(((!(dW e28.name))=true→(false)=(bM q)∧True)∧((!(dW e28.name))=false→Lm intD e28.vars∧(fB ((e28.vars.length:Nat):Int) (1:Int) (3:Int)∧(((!(dY ((e28.vars.length:Nat):Int) (1:Int) (3:Int)))=true→(false)=(bM q)∧True)∧((!(dY ((e28.vars.length:Nat):Int) (1:Int) (3:Int)))=false→(∃(i:Nat) (p:Int),(0:Int)=(i:Int)∧o=p∧i≤e28.vars.length∧p=m4 (gW q.atoms k e28.vars i)∧(List.range i).all (jN q.variableCount e28.vars)=true)∧ ∀(i:Nat) (p:Int),(i≤e28.vars.length∧p=m4 (gW q.atoms k e28.vars i)∧(List.range i).all (jN q.variableCount e28.vars)=true)→Lm intD e28.vars∧(((decide ((i:Int)<((e28.vars.length:Nat):Int)))=true→0≤(i:Int)∧Em intD e28.vars i fun e51=>cG (q.variableCount - (1:Int))∧(fB e51 (0:Int) (q.variableCount - (1:Int))∧(((!(dY e51 (0:Int) (q.variableCount - (1:Int))))=true→(false)=(bM q)∧True)∧((!(dY e51 (0:Int) (q.variableCount - (1:Int))))=false→e28.vars.map intD=e28.vars.map intD∧0≤(i:Int)∧(i:Int)≤((e28.vars.length:Nat):Int)∧(0≤(i:Int)∧Em intD e28.vars i fun e66=>aKZ (e28.vars.take i) e66∧(((decide (e66∈(e28.vars.take i)))=true→(false)=(bM q)∧True)∧((decide (e66∈(e28.vars.take i)))=false→0≤(i:Int)∧Em intD e28.vars i fun e74=>(0≤e74∧e74≤64)∧cG ((1:Int)*2^(Int.toNat e74))∧cG ((i:Int)+(1:Int))∧ ∃(i' :Nat) (p' :Int),((i:Int)+(1:Int))=(i' :Int)∧(dD .or .i64 p ((1:Int)*2^(Int.toNat e74)))=p' ∧(i' ≤e28.vars.length∧p' =m4 (gW q.atoms k e28.vars i')∧(List.range i').all (jN q.variableCount e28.vars)=true)∧e28.vars.length - i' <e28.vars.length - i)))))))∧((decide ((i:Int)<((e28.vars.length:Nat):Int)))=false→cG ((k:Int)+(1:Int))∧ ∃(k' :Nat) (o' :Int),((k:Int)+(1:Int))=(k' :Int)∧p=o' ∧(k' ≤q.atoms.length∧o' =m4 (gW q.atoms k' [] 0)∧(q.atoms.take k').all (eA q.variableCount)=true)∧q.atoms.length - k' <q.atoms.length - k))))))))∧((decide ((k:Int)<((q.atoms.length:Nat):Int)))=false→(0≤q.variableCount∧q.variableCount≤64)∧cG ((1:Int)*2^(Int.toNat q.variableCount))∧cG (((1:Int)*2^(Int.toNat q.variableCount)) - (1:Int))∧(decide (o=(((1:Int)*2^(Int.toNat q.variableCount)) - (1:Int))))=(bM q)∧True)))))))) (by kernel_rfl) ?_
 intro n0
 simp only [List.length_map] at n0
 refine ⟨iW _ _ _,fun g11=>?_,fun g11=>?_⟩
 ·replace g11:=nt g11
  have hbad:(dY q.variableCount 1 4&&dY (q.atoms.length:Nat) 1 4)=false:=by first | (rw [g11];rfl) | (rw [g11,c0];rfl)
  refine ⟨?_,trivial⟩
  ·first | (exact (nF hbad).symm) | (exact (iZ h28 hA).symm) | (rw [kZ hpar hall,hs,gM (by omega)];exact vG hn fun v hv=>rU hall hn.1 hv)
 ·replace g11:=nf g11
  refine ⟨List.length_map _,iW _ _ _,fun c0=>?_,fun c0=>?_⟩
  ·replace c0:=nt c0
   have hbad:(dY q.variableCount 1 4&&dY (q.atoms.length:Nat) 1 4)=false:=by first | (rw [g11];rfl) | (rw [g11,c0];rfl)
   refine ⟨?_,trivial⟩
   ·first | (exact (nF hbad).symm) | (exact (iZ h28 hA).symm) | (rw [kZ hpar hall,hs,gM (by omega)];exact vG hn fun v hv=>rU hall hn.1 hv)
  ·replace c0:=nf c0
   have hpar:(dY q.variableCount 1 4&&dY (q.atoms.length:Nat) 1 4)=true:=by rw [g11,c0];rfl
   have hn:=eJ g11
   refine ⟨⟨0,(0:Int),rfl,rfl,Nat.zero_le _,aTO _ _,rfl⟩,fun k o ⟨hk,hs,ha⟩=>?_⟩
   refine ⟨List.length_map _,fun c1=>?_,fun c1=>?_⟩
   ·replace c1:=yq c1
    refine ⟨by omega,rfl,by omega,fun e28 h28=>?_⟩
    refine ⟨aHn _,fun g34=>?_,fun g34=>?_⟩
    ·replace g34:=nt g34
     have hA:eA q.variableCount e28=false:=by first | (rw [eA,g34];rfl) | (rw [eA,g34,c2];rfl)
     refine ⟨?_,trivial⟩
     ·first | (exact (nF hbad).symm) | (exact (iZ h28 hA).symm) | (rw [kZ hpar hall,hs,gM (by omega)];exact vG hn fun v hv=>rU hall hn.1 hv)
    ·replace g34:=nf g34
     refine ⟨List.length_map _,iW _ _ _,fun c2=>?_,fun c2=>?_⟩
     ·replace c2:=nt c2
      have hA:eA q.variableCount e28=false:=by first | (rw [eA,g34];rfl) | (rw [eA,g34,c2];rfl)
      refine ⟨?_,trivial⟩
      ·first | (exact (nF hbad).symm) | (exact (iZ h28 hA).symm) | (rw [kZ hpar hall,hs,gM (by omega)];exact vG hn fun v hv=>rU hall hn.1 hv)
     ·replace c2:=nf c2
      have w9:=eJ c2
      refine ⟨⟨0,o,rfl,rfl,Nat.zero_le _,by rw [hs,aGA],rfl⟩,fun i p ⟨hi,hm,hv⟩=>?_⟩
      refine ⟨List.length_map _,fun c3=>?_,fun c3=>?_⟩
      ·replace c3:=yq c3
       refine ⟨by omega,rfl,by omega,fun e51 h51=>?_⟩
       have hx:=List.mem_of_getElem? h51
       refine ⟨by first | exact w1 | exact ⟨by omega,by omega⟩,iW _ _ _,fun g58=>?_,fun g58=>?_⟩
       ·replace g58:=nt g58
        have hp:jN q.variableCount e28.vars i=false:=by first | (rw [jN,aZ h51,g58];rfl) | (rw [jN,aZ h51,g58,c4];rfl)
        have hA:eA q.variableCount e28=false:=by rw [eA,vH,fF (by omega) hp];simp
        refine ⟨?_,trivial⟩
        ·first | (exact (nF hbad).symm) | (exact (iZ h28 hA).symm) | (rw [kZ hpar hall,hs,gM (by omega)];exact vG hn fun v hv=>rU hall hn.1 hv)
       ·replace g58:=nf g58
        refine ⟨rfl,by omega,by omega,by omega,rfl,by omega,fun e66 h66=>?_⟩
        obtain rfl:=(aX h51 h66).symm
        refine ⟨hsI _ _,fun c4=>?_,fun c4=>?_⟩
        ·have hp:jN q.variableCount e28.vars i=false:=by first | (rw [jN,aZ h51,g58];rfl) | (rw [jN,aZ h51,g58,c4];rfl)
         have hA:eA q.variableCount e28=false:=by rw [eA,vH,fF (by omega) hp];simp
         refine ⟨?_,trivial⟩
         ·first | (exact (nF hbad).symm) | (exact (iZ h28 hA).symm) | (rw [kZ hpar hall,hs,gM (by omega)];exact vG hn fun v hv=>rU hall hn.1 hv)
        ·have hp:jN q.variableCount e28.vars i=true:=by rw [jN,aZ h51,g58,c4];rfl
         have hb:=eJ g58
         obtain ⟨w1,w2,w3⟩:=tF (x:=e51) (iG (by omega) (by omega))
         refine ⟨by omega,rfl,by omega,fun e74 h74=>?_⟩
         obtain rfl:=(aX h51 h74).symm
         refine ⟨⟨by omega,by omega⟩,by first | exact w1 | exact ⟨by omega,by omega⟩,by first | exact w1 | exact ⟨by omega,by omega⟩,?_⟩
         exact ⟨i+1,_,rfl,rfl,⟨by omega,by rw [hm,aA6 (by omega),aGB h51 (by omega)],jG hv hp⟩,by omega⟩
      ·replace c3:=nq c3
       have hA:eA q.variableCount e28=true:=by rw [eA,g34,c2,vH,show e28.vars.length=i by omega,hv];rfl
       refine ⟨by first | exact w1 | exact ⟨by omega,by omega⟩,?_⟩
       exact ⟨k+1,_,rfl,rfl,⟨by omega,by rw [hm,aGC h28 (by omega) []],cY h28 ha hA⟩,by omega⟩
   ·replace c1:=nq c1
    have hall:=bJ (by omega) ha
    obtain ⟨w1,w2,w3⟩:=tF (x:=q.variableCount - 1) (iG (by omega) (by omega))
    have w4:=fR (n:=q.variableCount.toNat) ⟨by omega,by omega⟩
    refine ⟨⟨by omega,by omega⟩,by first | exact w1 | exact ⟨by omega,by omega⟩,by first | exact w1 | exact ⟨by omega,by omega⟩,?_,trivial⟩
    ·first | (exact (nF hbad).symm) | (exact (iZ h28 hA).symm) | (rw [kZ hpar hall,hs,gM (by omega)];exact vG hn fun v hv=>rU hall hn.1 hv)
abbrev zA (d:aT) (f:aM):AV × List (Nat × Rs):=(.own 0,[(0,.arr 3 1 true ((jI d f).map intD))])
abbrev aDl (d:aT) (f:aM):Prop:=cU Tryz.prog 232 [.agg [.sl 162 3 (d.tables.map aL)],.agg [.str f.name,.sl 3 1 (f.src.map intD),.int .i64 f.dst]] (zA d f).1 (zA d f).2
theorem aNu (d:aT) (f:aM) (hc:bD d≤1048576):aDl d f:=by
 refine aV bF aS Tryz.func232 (by kernel_rfl) (.call (vB (eD d f)) []<| .br (.fin []) (.call (.tup [.agg [.p none (.str (((aJ d f.name).1).name)),vI (((aJ d f.name).1).arity),.p none (.sl 32 1 ((((aJ d f.name).1).rows).map aF))],vB ((aJ d f.name).2)]) []<| .len ((((aJ d f.name).1).rows).length)<| .loop Nat (Q1 Nat) [7,8,9,10,11,12,13,14,29,30,31,32,33,34,35,36,37,38,39,40,41,42,43,44,45,46,47,48,49,50,51,52,53,54,55,56,57,58,59,60,61,62,63,64,65,66,67,68,69,70,71,72,73,77,78] [4800,5500] (fun k=>[(29,vI (k:Int))]) (fun k=>[]) (fun k=>k≤(aJ d f.name).1.rows.length∧kY (aJ d f.name).1.rows f.src f.dst k= []) (fun k=>(aJ d f.name).1.rows.length - k) (fun k=> .br (.elem _ aF (((aJ d f.name).1).rows) (fun e32=> .sub (List Int) aF (((aJ d f.name).1).rows)<| .len (((((aJ d f.name).1).rows).take k).length)<| .loop Nat (Q1 Nat) [9,10,11,12,13,14,39,40,41,42,43,44,45,46,47,48,49,50,51,52,53,54,55,56,57,58,59,60,61,62,63,64,65,66,67,68,69,70,71,72,73,77] [4800,5500] (fun i=>[(39,vI (i:Int))]) (fun i=>[]) (fun i=>i≤k∧kN (aJ d f.name).1.rows f.src f.dst k i= []) (fun i=>k - i) (fun i=> .br (.elem _ aF ((((aJ d f.name).1).rows).take k) (fun e42=>bP (rN e42 f.src)<| bP (rN e32 f.src)<| .call (vB (decide (((fJ e42 f.src).1)=((fJ e32 f.src).1)))) []<| .br (.elem _ intD e42 (fun e65=> .elem _ intD e32 (fun e70=> .lit<| .lit<| .lit<| .br (.fin [(0,7600)]) (.back [])))) (.back []))) (.back [])))) (.fin [])))) (p:=(d.tables.map aL).length≤9223372036854775807→(f.src.map intD).length≤9223372036854775807→vA d f∧(((!(eD d f))=true→[]=(jI d f).map intD∧True)∧((!(eD d f))=false→cU Tryz.prog 148 [.agg [.sl 162 3 (d.tables.map aL)],.one (.str f.name)] (.tup [.agg [.p none (.str (((aJ d f.name).1).name)),vI (((aJ d f.name).1).arity),.p none (.sl 32 1 ((((aJ d f.name).1).rows).map aF))],vB ((aJ d f.name).2)]) []∧(Lm aF (((aJ d f.name).1).rows)∧((∃(k:Nat),(0:Int)=(k:Int)∧k≤(aJ d f.name).1.rows.length∧kY (aJ d f.name).1.rows f.src f.dst k= [])∧ ∀(k:Nat),(k≤(aJ d f.name).1.rows.length∧kY (aJ d f.name).1.rows f.src f.dst k= [])→((decide ((k:Int)<(((((aJ d f.name).1).rows).length:Nat):Int)))=true→0≤(k:Int)∧Em aF (((aJ d f.name).1).rows) k fun e32=>(((aJ d f.name).1).rows).map aF=(((aJ d f.name).1).rows).map aF∧0≤(k:Int)∧(k:Int)≤(((((aJ d f.name).1).rows).length:Nat):Int)∧(Lm aF ((((aJ d f.name).1).rows).take k)∧((∃(i:Nat),(0:Int)=(i:Int)∧i≤k∧kN (aJ d f.name).1.rows f.src f.dst k i= [])∧ ∀(i:Nat),(i≤k∧kN (aJ d f.name).1.rows f.src f.dst k i= [])→((decide ((i:Int)<((((((aJ d f.name).1).rows).take k).length:Nat):Int)))=true→0≤(i:Int)∧Em aF ((((aJ d f.name).1).rows).take k) i fun e42=>uW e42 f.src∧(uW e32 f.src∧(qU ((fJ e42 f.src).1) ((fJ e32 f.src).1)∧(((decide (((fJ e42 f.src).1)=((fJ e32 f.src).1)))=true→0≤f.dst∧Em intD e42 ((f.dst).toNat) fun e65=>0≤f.dst∧Em intD e32 ((f.dst).toNat) fun e70=>((!(decide (e65=e70)))=true→[[.int .i64 (i:Int)],[.int .i64 (k:Int)]]=(jI d f).map intD∧True)∧((!(decide (e65=e70)))=false→cG ((i:Int)+(1:Int))∧ ∃(i' :Nat),((i:Int)+(1:Int))=(i' :Int)∧(i' ≤k∧kN (aJ d f.name).1.rows f.src f.dst k i' = [])∧k - i' <k - i))∧((decide (((fJ e42 f.src).1)=((fJ e32 f.src).1)))=false→cG ((i:Int)+(1:Int))∧ ∃(i' :Nat),((i:Int)+(1:Int))=(i' :Int)∧(i' ≤k∧kN (aJ d f.name).1.rows f.src f.dst k i' = [])∧k - i' <k - i)))))∧((decide ((i:Int)<((((((aJ d f.name).1).rows).take k).length:Nat):Int)))=false→cG ((k:Int)+(1:Int))∧ ∃(k' :Nat),((k:Int)+(1:Int))=(k' :Int)∧(k' ≤(aJ d f.name).1.rows.length∧kY (aJ d f.name).1.rows f.src f.dst k' = [])∧(aJ d f.name).1.rows.length - k' <(aJ d f.name).1.rows.length - k))))∧((decide ((k:Int)<(((((aJ d f.name).1).rows).length:Nat):Int)))=false→[]=(jI d f).map intD∧True)))))) (by kernel_rfl) ?_
 intro n0 n1
 simp only [List.length_map] at n0 n1
 refine ⟨aFu _ _ (by omega),fun c0=>?_,fun c0=>?_⟩
 ·replace c0:=nt c0
  have hbad:jI d f= []:=by rw [jI,if_neg (by simpa using c0)]
  refine ⟨?_,trivial⟩
  ·first | (rw [hbad]<;>rfl) | (rw [hE]<;>rfl) | (rw [hV,hE]<;>rfl)
 ·replace c0:=nf c0
  have hok:eD d f=true:=by simpa using c0
  obtain ⟨hT,hd0,hd1,hsl⟩:=aDh hok
  have hT8:=cD hT
  have hV:jI d f=kY (aJ d f.name).1.rows f.src f.dst (aJ d f.name).1.rows.length:=by rw [jI,if_pos hok]
  refine ⟨jJ (rR _ f.name (by omega)) rfl,List.length_map _,⟨0,rfl,Nat.zero_le _,rfl⟩,fun k ⟨hk,hv⟩=>?_⟩
  refine ⟨fun c1=>?_,fun c1=>?_⟩
  ·replace c1:=yq c1
   refine ⟨by omega,rfl,by first | omega | (simp only [List.length_take];omega),fun e32 h32=>?_⟩
   have hl32:=oR hT (List.mem_of_getElem? h32)
   refine ⟨rfl,by omega,by first | omega | (simp only [List.length_take];omega),List.length_map _,⟨0,rfl,Nat.zero_le _,rfl⟩,fun i ⟨hi,hw⟩=>?_⟩
   have htl:((aJ d f.name).1.rows.take k).length=k:=by rw [List.length_take];omega
   refine ⟨fun c2=>?_,fun c2=>?_⟩
   ·replace c2:=yq c2
    refine ⟨by omega,rfl,by first | omega | (simp only [List.length_take];omega),fun e42 h42=>?_⟩
    have hx:(aJ d f.name).1.rows[i]? =some e42:=by rw [List.getElem?_take_of_lt (by omega)] at h42;exact h42
    have hl42:=oR hT (List.mem_of_getElem? hx)
    have hb:=aMc (cols:=f.src) (c:=f.dst) hx h32
    refine ⟨aF1 _ _ (by omega),aF1 _ _ (by omega),aBo _ _,fun g61=>?_,fun g61=>?_⟩
    ·replace g61:=yq g61
     refine ⟨by omega,rfl,by first | omega | (simp only [List.length_take];omega),fun e65 h65=>?_⟩
     refine ⟨by omega,rfl,by first | omega | (simp only [List.length_take];omega),fun e70 h70=>?_⟩
     refine ⟨fun c3=>?_,fun c3=>?_⟩
     ·replace c3:=nq (nt c3)
      have hB:aLa (aJ d f.name).1.rows f.src f.dst i k=true:=by rw [hb,aZ h65,aZ h70];simp [*]
      have hE:=aFs hv hw hB (by omega) (by omega:k<(aJ d f.name).1.rows.length)
      refine ⟨?_,trivial⟩
      ·first | (rw [hbad]<;>rfl) | (rw [hE]<;>rfl) | (rw [hV,hE]<;>rfl)
     ·replace c3:=yq (nf c3)
      refine ⟨⟨by omega,by omega⟩,?_⟩
      exact ⟨i+1,rfl,⟨by omega,aCE hw (by rw [hb];first | (simp [g61];done) | (rw [aZ h65,aZ h70];simp [*];done))⟩,by omega⟩
    ·replace g61:=nq g61
     refine ⟨⟨by omega,by omega⟩,?_⟩
     exact ⟨i+1,rfl,⟨by omega,aCE hw (by rw [hb];first | (simp [g61];done) | (rw [aZ h65,aZ h70];simp [*];done))⟩,by omega⟩
   ·replace c2:=nq c2
    refine ⟨⟨by omega,by omega⟩,?_⟩
    exact ⟨k+1,rfl,⟨by omega,aFt hv (by obtain rfl:i=k:=(by omega);exact hw)⟩,by omega⟩
  ·replace c1:=nq c1
   have hE:jI d f= []:=by rw [hV,show (aJ d f.name).1.rows.length=k by omega,hv]
   refine ⟨?_,trivial⟩
   ·first | (rw [hbad]<;>rfl) | (rw [hE]<;>rfl) | (rw [hV,hE]<;>rfl)
abbrev zB (d:aT) (f:aM):AV × List (Nat × Rs):=(.own 0,[(0,.arr 3 1 true ((jI d f).map intD))])
abbrev aDm (d:aT) (f:aM):Prop:=cU Tryz.prog 213 [.agg [.sl 162 3 (d.tables.map aL)],.agg [.str f.name,.sl 3 1 (f.src.map intD),.int .i64 f.dst]] (zB d f).1 (zB d f).2
theorem aNv (d:aT) (f:aM) (hc:bD d≤1048576):aDm d f:=by
 refine aV bF aS Tryz.func213 (by kernel_rfl) (.call (.tup [.agg [.p none (.str (((aJ d f.name).1).name)),vI (((aJ d f.name).1).arity),.p none (.sl 32 1 ((((aJ d f.name).1).rows).map aF))],vB ((aJ d f.name).2)]) []<| .loop Nat (Q1 Nat) [7,8,9,10,11,12,20,21,22,23,24,25,26,27,28,29,30,31,32,33,34,35,36,37,38,39,40,41,42,43,44,45,46,47,48,49,50,51,52,53,54,55,56,57,58,59,60,61,62,63,64,65,66,67,68,69,70,71,72,73,74,75,76,77,78,79,80,81,82,83] [4000,5600] (fun k=>[(7,vI (k:Int))]) (fun k=>[]) (fun k=>k≤(aJ d f.name).1.rows.length∧kY (aJ d f.name).1.rows f.src f.dst k= []) (fun k=>(aJ d f.name).1.rows.length - k) (fun k=> .len ((((aJ d f.name).1).rows).length)<| .br (.call (vB (eD d f)) []<| .lit<| .br (.elem _ aF (((aJ d f.name).1).rows) (fun e36=>bP (oC e36 f.src)<| .loop Nat (Q1 Nat) [10,11,12,43,44,45,46,47,48,49,50,51,52,53,54,55,56,57,58,59,60,61,62,63,64,65,66,67,68,69,70,71,72,73,74,75,76,77,78,79,80,81,82,83] [5600] (fun i=>[(10,vI (i:Int))]) (fun i=>[]) (fun i=>i≤k∧kN (aJ d f.name).1.rows f.src f.dst k i= []) (fun i=>k - i) (fun i=> .br (.elem _ aF (((aJ d f.name).1).rows) (fun e52=>bP (oC e52 f.src)<| .call (vI (bW ((fJ e52 f.src).1) ((fJ e36 f.src).1))) []<| .br (.elem _ aF (((aJ d f.name).1).rows) (fun e67=> .elem _ intD e67 (fun e71=> .elem _ aF (((aJ d f.name).1).rows) (fun e76=> .elem _ intD e76 (fun e80=> .lit<| .lit<| .lit<| .br (.fin [(0,8600)]) (.back [])))))) (.back []))) (.back [])))) (.fin [(0,8700)])) (.fin [(0,8700)]))) (p:=(d.tables.map aL).length≤9223372036854775807→(f.src.map intD).length≤9223372036854775807→cU Tryz.prog 132 [.agg [.sl 162 3 (d.tables.map aL)],.one (.str f.name)] (.tup [.agg [.p none (.str (((aJ d f.name).1).name)),vI (((aJ d f.name).1).arity),.p none (.sl 32 1 ((((aJ d f.name).1).rows).map aF))],vB ((aJ d f.name).2)]) []∧((∃(k:Nat),(0:Int)=(k:Int)∧k≤(aJ d f.name).1.rows.length∧kY (aJ d f.name).1.rows f.src f.dst k= [])∧ ∀(k:Nat),(k≤(aJ d f.name).1.rows.length∧kY (aJ d f.name).1.rows f.src f.dst k= [])→Lm aF (((aJ d f.name).1).rows)∧(((decide ((k:Int)<(((((aJ d f.name).1).rows).length:Nat):Int)))=true→vC d f∧(((eD d f)=true→0≤(k:Int)∧Em aF (((aJ d f.name).1).rows) k fun e36=>rO e36 f.src∧((∃(i:Nat),(0:Int)=(i:Int)∧i≤k∧kN (aJ d f.name).1.rows f.src f.dst k i= [])∧ ∀(i:Nat),(i≤k∧kN (aJ d f.name).1.rows f.src f.dst k i= [])→((decide ((i:Int)<(k:Int)))=true→0≤(i:Int)∧Em aF (((aJ d f.name).1).rows) i fun e52=>rO e52 f.src∧(gG ((fJ e52 f.src).1) ((fJ e36 f.src).1)∧(((decide ((bW ((fJ e52 f.src).1) ((fJ e36 f.src).1))=(0:Int)))=true→0≤(i:Int)∧Em aF (((aJ d f.name).1).rows) i fun e67=>0≤f.dst∧Em intD e67 ((f.dst).toNat) fun e71=>0≤(k:Int)∧Em aF (((aJ d f.name).1).rows) k fun e76=>0≤f.dst∧Em intD e76 ((f.dst).toNat) fun e80=>((!(decide (e71=e80)))=true→[[.int .i64 (i:Int)],[.int .i64 (k:Int)]]=(jI d f).map intD∧True)∧((!(decide (e71=e80)))=false→cG ((i:Int)+(1:Int))∧ ∃(i' :Nat),((i:Int)+(1:Int))=(i' :Int)∧(i' ≤k∧kN (aJ d f.name).1.rows f.src f.dst k i' = [])∧k - i' <k - i))∧((decide ((bW ((fJ e52 f.src).1) ((fJ e36 f.src).1))=(0:Int)))=false→cG ((i:Int)+(1:Int))∧ ∃(i' :Nat),((i:Int)+(1:Int))=(i' :Int)∧(i' ≤k∧kN (aJ d f.name).1.rows f.src f.dst k i' = [])∧k - i' <k - i))))∧((decide ((i:Int)<(k:Int)))=false→cG ((k:Int)+(1:Int))∧ ∃(k' :Nat),((k:Int)+(1:Int))=(k' :Int)∧(k' ≤(aJ d f.name).1.rows.length∧kY (aJ d f.name).1.rows f.src f.dst k' = [])∧(aJ d f.name).1.rows.length - k' <(aJ d f.name).1.rows.length - k)))∧((eD d f)=false→[]=(jI d f).map intD∧True)))∧((decide ((k:Int)<(((((aJ d f.name).1).rows).length:Nat):Int)))=false→[]=(jI d f).map intD∧True)))) (by kernel_rfl) ?_
 intro n0 n1
 simp only [List.length_map] at n0 n1
 refine ⟨jJ (rS _ f.name (by omega)) rfl,⟨0,rfl,Nat.zero_le _,rfl⟩,fun k ⟨hk,hv⟩=>?_⟩
 refine ⟨List.length_map _,fun g25=>?_,fun g25=>?_⟩
 ·replace g25:=yq g25
  refine ⟨aFv _ _ (by omega),fun c0=>?_,fun c0=>?_⟩
  ·have hok:eD d f=true:=c0
   obtain ⟨hT,hd0,hd1,hsl⟩:=aDh hok
   have hT8:=cD hT
   have hV:jI d f=kY (aJ d f.name).1.rows f.src f.dst (aJ d f.name).1.rows.length:=by rw [jI,if_pos hok]
   refine ⟨by omega,rfl,by omega,fun e36 h36=>?_⟩
   have hl36:=oR hT (List.mem_of_getElem? h36)
   refine ⟨aBt _ _ (by omega),⟨0,rfl,Nat.zero_le _,rfl⟩,fun i ⟨hi,hw⟩=>?_⟩
   refine ⟨fun c1=>?_,fun c1=>?_⟩
   ·replace c1:=yq c1
    refine ⟨by omega,rfl,by omega,fun e52 h52=>?_⟩
    have hl52:=oR hT (List.mem_of_getElem? h52)
    have hb:=aMc (cols:=f.src) (c:=f.dst) h52 h36
    refine ⟨aBt _ _ (by omega),kD _ _,fun g63=>?_,fun g63=>?_⟩
    ·replace g63:=yq g63
     refine ⟨by omega,rfl,by omega,fun e67 h67=>?_⟩
     obtain rfl:=(aX h52 h67).symm
     refine ⟨by omega,rfl,by omega,fun e71 h71=>?_⟩
     refine ⟨by omega,rfl,by omega,fun e76 h76=>?_⟩
     obtain rfl:=(aX h36 h76).symm
     refine ⟨by omega,rfl,by omega,fun e80 h80=>?_⟩
     refine ⟨fun c2=>?_,fun c2=>?_⟩
     ·replace c2:=nq (nt c2)
      have hB:aLa (aJ d f.name).1.rows f.src f.dst i k=true:=by rw [hb,aZ h71,aZ h80,fA.1 g63];simp [c2]
      have hE:=aFs hv hw hB (by omega) (by omega:k<(aJ d f.name).1.rows.length)
      refine ⟨?_,trivial⟩
      ·first | (rw [hE]<;>rfl) | (rw [hV,hE]<;>rfl)
     ·replace c2:=yq (nf c2)
      refine ⟨⟨by omega,by omega⟩,?_⟩
      exact ⟨i+1,rfl,⟨by omega,aCE hw (by rw [hb];first | (simp [show ¬(fJ e52 f.src).1=(fJ e36 f.src).1 from fun q=>g63 (fA.2 q)];done) | (rw [aZ h71,aZ h80];simp [c2];done))⟩,by omega⟩
    ·replace g63:=nq g63
     refine ⟨⟨by omega,by omega⟩,?_⟩
     exact ⟨i+1,rfl,⟨by omega,aCE hw (by rw [hb];first | (simp [show ¬(fJ e52 f.src).1=(fJ e36 f.src).1 from fun q=>g63 (fA.2 q)];done) | (rw [aZ h71,aZ h80];simp [c2];done))⟩,by omega⟩
   ·replace c1:=nq c1
    refine ⟨⟨by omega,by omega⟩,?_⟩
    exact ⟨k+1,rfl,⟨by omega,aFt hv (by obtain rfl:i=k:=(by omega);exact hw)⟩,by omega⟩
  ·have hE:jI d f= []:=by first | (rw [jI,if_neg (by rw [c0];decide)];done) | (rw [jI];split<;>first | (rw [show (aJ d f.name).1.rows.length=k by omega,hv];done) | rfl)
   refine ⟨?_,trivial⟩
   ·first | (rw [hE]<;>rfl) | (rw [hV,hE]<;>rfl)
 ·replace g25:=nq g25
  have hE:jI d f= []:=by first | (rw [jI,if_neg (by rw [c0];decide)];done) | (rw [jI];split<;>first | (rw [show (aJ d f.name).1.rows.length=k by omega,hv];done) | rfl)
  refine ⟨?_,trivial⟩
  ·first | (rw [hE]<;>rfl) | (rw [hV,hE]<;>rfl)
abbrev aCM (d:aT) (f:aM):Prop:=cU Tryz.prog 152 [.agg [.sl 162 3 (d.tables.map aL)],.agg [.str f.name,.sl 3 1 (f.src.map intD),.int .i64 f.dst]] (vB (iK d f)) []
theorem aLd (d:aT) (f:aM) (hc:bD d≤1048576):aCM d f:=by
 refine aV bF aS Tryz.func152 (by kernel_rfl) (.call (vB (eD d f)) []<| .br (bP (zA d f)<| .len ((jI d f).length)<| .fin []) (.fin [])) (p:=(d.tables.map aL).length≤9223372036854775807→(f.src.map intD).length≤9223372036854775807→vA d f∧(((eD d f)=true→aDl d f∧Lm intD (jI d f)∧(decide ((((jI d f).length:Nat):Int)=(0:Int)))=(iK d f)∧True)∧((eD d f)=false→(false)=(iK d f)∧True))) (by kernel_rfl) ?_
 intro n0 n1
 simp only [List.length_map] at n0 n1
 refine ⟨aFu _ _ (by omega),fun g8=>?_,fun g8=>?_⟩
 ·refine ⟨aNu _ _ (by omega),List.length_map _,?_,trivial⟩
  ·first | (simp [iK, *];done) | (rw [iK,g8,pL];rfl)
 ·refine ⟨?_,trivial⟩
  ·first | (simp [iK, *];done) | (rw [iK,g8,pL];rfl)
abbrev aCN (d:aT) (f:aM):Prop:=cU Tryz.prog 136 [.agg [.sl 162 3 (d.tables.map aL)],.agg [.str f.name,.sl 3 1 (f.src.map intD),.int .i64 f.dst]] (vB (iK d f)) []
theorem aLe (d:aT) (f:aM) (hc:bD d≤1048576):aCN d f:=by
 refine aV bF aS Tryz.func136 (by kernel_rfl) (.call (vB (eD d f)) []<| .br (bP (zB d f)<| .len ((jI d f).length)<| .fin []) (.fin [])) (p:=(d.tables.map aL).length≤9223372036854775807→(f.src.map intD).length≤9223372036854775807→vC d f∧(((eD d f)=true→aDm d f∧Lm intD (jI d f)∧(decide ((((jI d f).length:Nat):Int)=(0:Int)))=(iK d f)∧True)∧((eD d f)=false→(false)=(iK d f)∧True))) (by kernel_rfl) ?_
 intro n0 n1
 simp only [List.length_map] at n0 n1
 refine ⟨aFv _ _ (by omega),fun g8=>?_,fun g8=>?_⟩
 ·refine ⟨aNv _ _ (by omega),List.length_map _,?_,trivial⟩
  ·first | (simp [iK, *];done) | (rw [iK,g8,pL];rfl)
 ·refine ⟨?_,trivial⟩
  ·first | (simp [iK, *];done) | (rw [iK,g8,pL];rfl)
abbrev zC (d:aT) (x:aG):AV × List (Nat × Rs):=(.own 0,[(0,.arr 3 1 true ((wL d x).map intD))])
abbrev aDn (d:aT) (x:aG):Prop:=cU Tryz.prog 234 [.agg [.sl 162 3 (d.tables.map aL)],.agg [.str x.name,.int .i64 x.column,.str x.into,.int .i64 x.intoColumn]] (zC d x).1 (zC d x).2
theorem aNw (d:aT) (x:aG) (hc:bD d≤1048576):aDn d x:=by
 refine aV bF aS Tryz.func234 (by kernel_rfl) (.call (vB (dX d x)) []<| .br (.fin []) (.call (.tup [.agg [.p none (.str (((aJ d x.name).1).name)),vI (((aJ d x.name).1).arity),.p none (.sl 32 1 ((((aJ d x.name).1).rows).map aF))],vB ((aJ d x.name).2)]) []<| .call (.tup [.agg [.p none (.str (((aJ d x.into).1).name)),vI (((aJ d x.into).1).arity),.p none (.sl 32 1 ((((aJ d x.into).1).rows).map aF))],vB ((aJ d x.into).2)]) []<| .len ((((aJ d x.into).1).rows).length)<| .loop (Nat × (List Int)) (Q2 Nat (List Int)) [9,11,34,38,39,40,41,42,43,44,45,46,47,48,49,50] [3400,4800,4900] (fun yy0=>[(38,vI (yy0.1:Int)),(9,.own 3400)]) (fun yy0=>[(3400,some (.arr 3 1 true (yy0.2.map intD)))]) (fun yy0=>yy0.1≤(aJ d x.into).1.rows.length∧yy0.2=iC ((aJ d x.into).1.rows.take yy0.1) x.intoColumn) (fun yy0=>(aJ d x.into).1.rows.length - yy0.1) (fun yy0=> .br (.elem _ aF (((aJ d x.into).1).rows) (fun e40=> .elem _ intD e40 (fun e46=> .app Int intD yy0.2 ([e46]:List Int)<| .back [(3400,4900)]))) (.len ((((aJ d x.name).1).rows).length)<| .loop (Nat × (List Int)) (Q2 Nat (List Int)) [12,14,15,51,55,56,57,58,59,60,61,62,63,64,65,66,67,68,69,70,71,72] [5100,7000,7100] (fun yy1=>[(55,vI (yy1.1:Int)),(12,.own 5100)]) (fun yy1=>[(5100,some (.arr 3 1 true (yy1.2.map intD)))]) (fun yy1=>yy1.1≤(aJ d x.name).1.rows.length∧yy1.2=(iC ((aJ d x.name).1.rows.take yy1.1) x.column).filter fun v=> !decide (v∈yy0.2)) (fun yy1=>(aJ d x.name).1.rows.length - yy1.1) (fun yy1=> .br (.elem _ aF (((aJ d x.name).1).rows) (fun e57=> .elem _ intD e57 (fun e62=> .call (vB (decide (e62∈yy0.2))) []<| .br (.app Int intD yy1.2 ([e62]:List Int)<| .back [(5100,7100)]) (.back [(5100,5100)])))) (.callx [.own 0] [(0,.arr 3 1 true (yy1.2.map intD))] [(0,5100)] (.tup []) [(0,.arr 3 1 true ((qD yy1.2).map intD))]<| .callx [.own 0] [(0,.arr 3 1 true ((qD yy1.2).map intD))] [(0,5100)] (.own 1) [(1,.arr 3 1 true ((sP (qD yy1.2)).map intD))]<| .fin [(0,7601)])))))) (p:=(d.tables.map aL).length≤9223372036854775807→vE d x∧(((!(dX d x))=true→[]=(wL d x).map intD∧True)∧((!(dX d x))=false→cU Tryz.prog 148 [.agg [.sl 162 3 (d.tables.map aL)],.one (.str x.name)] (.tup [.agg [.p none (.str (((aJ d x.name).1).name)),vI (((aJ d x.name).1).arity),.p none (.sl 32 1 ((((aJ d x.name).1).rows).map aF))],vB ((aJ d x.name).2)]) []∧(cU Tryz.prog 148 [.agg [.sl 162 3 (d.tables.map aL)],.one (.str x.into)] (.tup [.agg [.p none (.str (((aJ d x.into).1).name)),vI (((aJ d x.into).1).arity),.p none (.sl 32 1 ((((aJ d x.into).1).rows).map aF))],vB ((aJ d x.into).2)]) []∧(Lm aF (((aJ d x.into).1).rows)∧((∃(k:Nat) (there:List Int),(0:Int)=(k:Int)∧[]=there.map intD∧k≤(aJ d x.into).1.rows.length∧there=iC ((aJ d x.into).1.rows.take k) x.intoColumn)∧ ∀(k:Nat) (there:List Int),(k≤(aJ d x.into).1.rows.length∧there=iC ((aJ d x.into).1.rows.take k) x.intoColumn)→((decide ((k:Int)<(((((aJ d x.into).1).rows).length:Nat):Int)))=true→0≤(k:Int)∧Em aF (((aJ d x.into).1).rows) k fun e40=>0≤x.intoColumn∧Em intD e40 ((x.intoColumn).toNat) fun e46=>there.map intD=there.map intD∧[[.int .i64 e46]]=([e46]:List Int).map intD∧(∀x,eK (intD x)=true)∧(there.length+([e46]:List Int).length)*8≤140737488355328∧cG ((k:Int)+(1:Int))∧ ∃(k' :Nat) (there' :List Int),((k:Int)+(1:Int))=(k' :Int)∧(there++[e46]).map intD=there'.map intD∧(k' ≤(aJ d x.into).1.rows.length∧there' =iC ((aJ d x.into).1.rows.take k') x.intoColumn)∧(aJ d x.into).1.rows.length - k' <(aJ d x.into).1.rows.length - k)∧((decide ((k:Int)<(((((aJ d x.into).1).rows).length:Nat):Int)))=false→Lm aF (((aJ d x.name).1).rows)∧((∃(j:Nat) (out:List Int),(0:Int)=(j:Int)∧[]=out.map intD∧j≤(aJ d x.name).1.rows.length∧out=(iC ((aJ d x.name).1.rows.take j) x.column).filter fun v=> !decide (v∈there))∧ ∀(j:Nat) (out:List Int),(j≤(aJ d x.name).1.rows.length∧out=(iC ((aJ d x.name).1.rows.take j) x.column).filter fun v=> !decide (v∈there))→((decide ((j:Int)<(((((aJ d x.name).1).rows).length:Nat):Int)))=true→0≤(j:Int)∧Em aF (((aJ d x.name).1).rows) j fun e57=>0≤x.column∧Em intD e57 ((x.column).toNat) fun e62=>aFp there e62∧(((!(decide (e62∈there)))=true→out.map intD=out.map intD∧[[.int .i64 e62]]=([e62]:List Int).map intD∧(∀x,eK (intD x)=true)∧(out.length+([e62]:List Int).length)*8≤140737488355328∧cG ((j:Int)+(1:Int))∧ ∃(j' :Nat) (out' :List Int),((j:Int)+(1:Int))=(j' :Int)∧(out++[e62]).map intD=out'.map intD∧(j' ≤(aJ d x.name).1.rows.length∧out' =(iC ((aJ d x.name).1.rows.take j') x.column).filter fun v=> !decide (v∈there))∧(aJ d x.name).1.rows.length - j' <(aJ d x.name).1.rows.length - j)∧((!(decide (e62∈there)))=false→cG ((j:Int)+(1:Int))∧ ∃(j' :Nat) (out' :List Int),((j:Int)+(1:Int))=(j' :Int)∧out.map intD=out'.map intD∧(j' ≤(aJ d x.name).1.rows.length∧out' =(iC ((aJ d x.name).1.rows.take j') x.column).filter fun v=> !decide (v∈there))∧(aJ d x.name).1.rows.length - j' <(aJ d x.name).1.rows.length - j)))∧((decide ((j:Int)<(((((aJ d x.name).1).rows).length:Nat):Int)))=false→lT Tryz.prog 248 [.own 0] [(0,.arr 3 1 true (out.map intD))] (.tup []) [(0,.arr 3 1 true ((qD out).map intD))]∧out.map intD=out.map intD∧lT Tryz.prog 273 [.own 0] [(0,.arr 3 1 true ((qD out).map intD))] (.own 1) [(1,.arr 3 1 true ((sP (qD out)).map intD))]∧(qD out).map intD=(qD out).map intD∧(sP (qD out)).map intD=(wL d x).map intD∧True))))))))) (by kernel_rfl) ?_
 intro n0
 simp only [List.length_map] at n0
 refine ⟨aFw _ _ (by omega),fun c0=>?_,fun c0=>?_⟩
 ·replace c0:=nt c0
  have hbad:wL d x= []:=by rw [wL,if_neg (by simpa using c0)]
  refine ⟨?_,trivial⟩
  ·first | (rw [hbad]<;>rfl) | (rw [hE]<;>rfl)
 ·replace c0:=nf c0
  have hok:dX d x=true:=by simpa using c0
  obtain ⟨hTa,hTb,hca,hcb⟩:=yW hok
  have hA8:=cD hTa
  have hB8:=cD hTb
  refine ⟨jJ (rR _ x.name (by omega)) rfl,jJ (rR _ x.into (by omega)) rfl,List.length_map _,⟨0,([]:List Int),rfl,rfl,Nat.zero_le _,rfl⟩,fun k there ⟨hk,hth⟩=>?_⟩
  have htl:there.length=k:=by rw [hth,iC,List.length_map,List.length_take];omega
  refine ⟨fun c1=>?_,fun c1=>?_⟩
  ·replace c1:=yq c1
   refine ⟨by omega,rfl,by omega,fun e40 h40=>?_⟩
   have hl40:=oR hTb (List.mem_of_getElem? h40)
   refine ⟨by omega,rfl,by omega,fun e46 h46=>?_⟩
   refine ⟨rfl,rfl,fun _=>rfl,by first | omega | (simp [hth];omega) | (simp;omega),?_⟩
   refine ⟨⟨by omega,by omega⟩,?_⟩
   exact ⟨k+1,_,rfl,rfl,⟨by omega,by rw [mH _ _ h40,←hth,aZ h46]⟩,by omega⟩
  ·replace c1:=nq c1
   have hTH:there=iC (aJ d x.into).1.rows x.intoColumn:=by rw [hth,List.take_of_length_le (by omega)]
   refine ⟨List.length_map _,⟨0,([]:List Int),rfl,rfl,Nat.zero_le _,rfl⟩,fun j out ⟨hj,ho⟩=>?_⟩
   have hol:out.length≤j:=by rw [ho];refine Nat.le_trans (List.length_filter_le _ _) ?_;simp [iC];omega
   refine ⟨fun c2=>?_,fun c2=>?_⟩
   ·replace c2:=yq c2
    refine ⟨by omega,rfl,by omega,fun e57 h57=>?_⟩
    have hl57:=oR hTa (List.mem_of_getElem? h57)
    refine ⟨by omega,rfl,by omega,fun e62 h62=>?_⟩
    refine ⟨ctI _ _,fun c3=>?_,fun c3=>?_⟩
    ·replace c3:=nt c3
     refine ⟨rfl,rfl,fun _=>rfl,by first | omega | (simp [hth];omega) | (simp;omega),?_⟩
     refine ⟨⟨by omega,by omega⟩,?_⟩
     exact ⟨j+1,_,rfl,rfl,⟨by omega,by rw [mH _ _ h57,List.filter_append,←ho,aZ h62,List.filter_cons_of_pos (by simpa using c3)];rfl⟩,by omega⟩
    ·replace c3:=nf c3
     refine ⟨⟨by omega,by omega⟩,?_⟩
     exact ⟨j+1,_,rfl,rfl,⟨by omega,by rw [mH _ _ h57,List.filter_append,←ho,aZ h62,List.filter_cons_of_neg (by simpa using c3)];simp⟩,by omega⟩
   ·replace c2:=nq c2
    have hE:wL d x=sP (qD out):=by rw [wL,if_pos hok,aDi,ho,hTH,List.take_of_length_le (by omega)]
    refine ⟨aNi out (by omega),rfl,aNj (qD out) (by first | omega | (rw [aAS];omega)),rfl,?_,trivial⟩
    ·first | (rw [hbad]<;>rfl) | (rw [hE]<;>rfl)
abbrev aCO (d:aT) (x:aG):Prop:=cU Tryz.prog 153 [.agg [.sl 162 3 (d.tables.map aL)],.agg [.str x.name,.int .i64 x.column,.str x.into,.int .i64 x.intoColumn]] (vB (iL d x)) []
theorem aLf (d:aT) (x:aG) (hc:bD d≤1048576):aCO d x:=by
 refine aV bF aS Tryz.func153 (by kernel_rfl) (.call (vB (dX d x)) []<| .br (bP (zC d x)<| .len ((wL d x).length)<| .fin []) (.fin [])) (p:=(d.tables.map aL).length≤9223372036854775807→vE d x∧(((dX d x)=true→aDn d x∧Lm intD (wL d x)∧(decide ((((wL d x).length:Nat):Int)=(0:Int)))=(iL d x)∧True)∧((dX d x)=false→(false)=(iL d x)∧True))) (by kernel_rfl) ?_
 intro n0
 simp only [List.length_map] at n0
 refine ⟨aFw _ _ (by omega),fun g8=>?_,fun g8=>?_⟩
 ·refine ⟨aNw _ _ (by omega),List.length_map _,?_,trivial⟩
  ·first | (simp [iL, *];done) | (rw [iL,g8,pL,aIC g8];rfl)
 ·refine ⟨?_,trivial⟩
  ·first | (simp [iL, *];done) | (rw [iL,g8,pL,aIC g8];rfl)
end Go.Proofs.YtokkjaflmcjlhaaGreat
