/-
  Contracts and plain laws, joined: part 21.
-/
import Derived.Test.YtdfebigfnjfgpaaGreatQP19
import Derived.Test.YtdfebigfnjfgpaaGreatQP17
namespace Go.Proofs.YtdfebigfnjfgpaaGreat
open Go.ChangeShapes Go.WideShapes Go.ChangeAt Go.RowKit
set_option linter.unusedVariables false
set_option linter.unusedSimpArgs false
set_option maxRecDepth 100000
set_option maxHeartbeats 4000000
abbrev aCI (l:List aF) (n:Int):AV × List (Nat × Rs):=(.tup [.agg [.own 0,.own 1,.own 2],vB ((dY l n).2)],[(0,.arr 3 1 true ((((dY l n).1).objective).map intD)),(1,.arr 39 1 true ((((dY l n).1).rows).map aC)),(2,.arr 3 1 true ((((dY l n).1).limits).map intD))])
abbrev aHn (l:List aF) (n:Int):Prop:=cX Tryz.prog 66 [.one (.sl 164 3 (l.map aE)),.one (.int .i64 n)] (aCI l n).1 (aCI l n).2
theorem aSV (l:List aF) (n:Int) (hl:l.length≤1048576) (hf:pA l):aHn l n:=by
 refine aX bG aR Tryz.func66 (by kernel_rfl) (.call (vB (decide ((1:Int)≤n∧n≤(4:Int)))) []<| .br (.fin []) (cB (nO n ([((1:Int)*2^(Int.toNat n)) - (1:Int)]:List Int) ([]:List Int))<| cB (uB n)<| .len ((cE n).length)<| .mk ((cE n).length) [.int .i64 (0:Int)] ((List.replicate ((cE n).length) (0:Int)).map intD)<| .loop (Nat × (List (List Int)) × (List Int)) (Q3 Nat (List (List Int)) (List Int)) [8,22,23,25,27,29,30,31,32,33,34,35,36,37,38,39,40,41,42,43,44,45,46,47,48,49,50,51,52,53,54,55,56,57,58,59,60,61,62,63,64,65,66,67,68,69,70,71,72,73,74,75,76,77,78,79,80,81,82,83,84,85,86,87,88,90,91,92,93,94,95,96,97,98,99,100,101,102,103,104,105,106,107,108,109,110,111,112,113,114,115,116,117,118] [700,2200,2700,9800,10400,10500,10600,10700,11600,11700] (fun yy0=>[(8,vI (yy0.1:Int))]) (fun yy0=>[(700,some (.box 80 [.own 2000,.own 2200,.own 2700])),(2200,some (.arr 39 1 true (yy0.2.1.map aC))),(2700,some (.arr 3 1 true (yy0.2.2.map intD)))]) (fun yy0=>yy0.1≤l.length∧yy0.2.1=cE n++(l.take yy0.1).map (oN n)∧yy0.2.2=List.replicate (cE n).length 0++(l.take yy0.1).map (·.bits)∧(l.take yy0.1).all (okC n)=true) (fun yy0=>l.length - yy0.1) (fun yy0=> .len l.length<| .br (.elem _ aE l (fun e37=> .call (vB (decide ((1:Int)≤e37.dst∧e37.dst≤(((1:Int)*2^(Int.toNat n)) - (1:Int))))) []<| .br (.fin []) (.elem _ aE l (fun e46=> .call (vB (decide ((0:Int)≤e46.src∧e46.src≤(((1:Int)*2^(Int.toNat n)) - (1:Int))))) []<| .lit<| .lit<| .br (.fin []) (.elem _ aE l (fun e56=> .elem _ aE l (fun e61=> .elem _ aE l (fun e67=> .lit<| .lit<| .lit<| .lit<| .br (.fin []) (.elem _ aE l (fun e75=> .elem _ aE l (fun e80=> .lit<| .lit<| .lit<| .lit<| .br (.fin []) (.lit<| .lit<| .br (.fin []) (.elem _ aE l (fun e95=> .elem _ aE l (fun e101=>cB (nO n ([e95.dst]:List Int) ([e101.src]:List Int))<| .appx (List Int) aC yy0.2.1 (eZ (dV n) ([e95.dst]:List Int) ([e101.src]:List Int))<| .elem _ aE l (fun e113=> .app Int intD yy0.2.2 ([e113.bits]:List Int)<| .back [(700,700),(2200,10700),(2700,11700)])))))))))))))))) (.call (vB (eM (⟨eZ (dV n) ([((1:Int)*2^(Int.toNat n)) - (1:Int)]:List Int) ([]:List Int),yy0.2.1,yy0.2.2⟩:eD))) []<| .br (.fin []) (.fin [(0,2000),(1,2200),(2,2700)]))))) (p:=(l.map aE).length≤9223372036854775807→iH n (1:Int) (4:Int)∧(((!(decide ((1:Int)≤n∧n≤(4:Int))))=true→(false)=((dY l n).2)∧[]=(((dY l n).1).objective).map intD∧[]=(((dY l n).1).rows).map aC∧[]=(((dY l n).1).limits).map intD∧True)∧((!(decide ((1:Int)≤n∧n≤(4:Int))))=false→(0≤n∧n≤64)∧(cC ((1:Int)*2^(Int.toNat n))∧(cC (((1:Int)*2^(Int.toNat n)) - (1:Int))∧(qS n ([((1:Int)*2^(Int.toNat n)) - (1:Int)]:List Int) ([]:List Int)∧(aAK n∧(Lm aC (cE n)∧((((cE n).length:Nat):Int)=(((cE n).length:Nat):Int)∧(((cE n).length:Nat):Int)=(((cE n).length:Nat):Int)∧8*((cE n).length)≤281474976710656∧((cE n).length)≤9223372036854775807∧List.replicate ((cE n).length) [.int .i64 (0:Int)]=(List.replicate ((cE n).length) (0:Int)).map intD∧((∃(k:Nat) (R:List (List Int)) (M:List Int),(0:Int)=(k:Int)∧(cE n).map aC=R.map aC∧(List.replicate ((cE n).length) (0:Int)).map intD=M.map intD∧k≤l.length∧R=cE n++(l.take k).map (oN n)∧M=List.replicate (cE n).length 0++(l.take k).map (·.bits)∧(l.take k).all (okC n)=true)∧ ∀(k:Nat) (R:List (List Int)) (M:List Int),(k≤l.length∧R=cE n++(l.take k).map (oN n)∧M=List.replicate (cE n).length 0++(l.take k).map (·.bits)∧(l.take k).all (okC n)=true)→Lm aE l∧(((decide ((k:Int)<((l.length:Nat):Int)))=true→0≤(k:Int)∧Em aE l k fun e37=>iH e37.dst (1:Int) (((1:Int)*2^(Int.toNat n)) - (1:Int))∧(((!(decide ((1:Int)≤e37.dst∧e37.dst≤(((1:Int)*2^(Int.toNat n)) - (1:Int)))))=true→(false)=((dY l n).2)∧[]=(((dY l n).1).objective).map intD∧[]=(((dY l n).1).rows).map aC∧[]=(((dY l n).1).limits).map intD∧True)∧((!(decide ((1:Int)≤e37.dst∧e37.dst≤(((1:Int)*2^(Int.toNat n)) - (1:Int)))))=false→0≤(k:Int)∧Em aE l k fun e46=>iH e46.src (0:Int) (((1:Int)*2^(Int.toNat n)) - (1:Int))∧(((!(decide ((0:Int)≤e46.src∧e46.src≤(((1:Int)*2^(Int.toNat n)) - (1:Int)))))=true→(false)=((dY l n).2)∧[]=(((dY l n).1).objective).map intD∧[]=(((dY l n).1).rows).map aC∧[]=(((dY l n).1).limits).map intD∧True)∧((!(decide ((0:Int)≤e46.src∧e46.src≤(((1:Int)*2^(Int.toNat n)) - (1:Int)))))=false→0≤(k:Int)∧Em aE l k fun e56=>0≤(k:Int)∧Em aE l k fun e61=>0≤(k:Int)∧Em aE l k fun e67=>((!(decide ((cH .and .i64 e56.src e61.dst)=e67.src)))=true→(false)=((dY l n).2)∧[]=(((dY l n).1).objective).map intD∧[]=(((dY l n).1).rows).map aC∧[]=(((dY l n).1).limits).map intD∧True)∧((!(decide ((cH .and .i64 e56.src e61.dst)=e67.src)))=false→0≤(k:Int)∧Em aE l k fun e75=>0≤(k:Int)∧Em aE l k fun e80=>((decide (e75.src=e80.dst))=true→(false)=((dY l n).2)∧[]=(((dY l n).1).objective).map intD∧[]=(((dY l n).1).rows).map aC∧[]=(((dY l n).1).limits).map intD∧True)∧((decide (e75.src=e80.dst))=false→((decide ((64:Int)≤(k:Int)))=true→(false)=((dY l n).2)∧[]=(((dY l n).1).objective).map intD∧[]=(((dY l n).1).rows).map aC∧[]=(((dY l n).1).limits).map intD∧True)∧((decide ((64:Int)≤(k:Int)))=false→0≤(k:Int)∧Em aE l k fun e95=>0≤(k:Int)∧Em aE l k fun e101=>qS n ([e95.dst]:List Int) ([e101.src]:List Int)∧R.map aC=R.map aC∧(eZ (dV n) ([e95.dst]:List Int) ([e101.src]:List Int)).map intD=(eZ (dV n) ([e95.dst]:List Int) ([e101.src]:List Int)).map intD∧(R.length+1)*24≤140737488355328∧0≤(k:Int)∧Em aE l k fun e113=>M.map intD=M.map intD∧[[.int .i64 e113.bits]]=([e113.bits]:List Int).map intD∧(∀x,dT (intD x)=true)∧(M.length+([e113.bits]:List Int).length)*8≤140737488355328∧cC ((k:Int)+(1:Int))∧ ∃(k' :Nat) (R' :List (List Int)) (M' :List Int),((k:Int)+(1:Int))=(k' :Int)∧(R++[eZ (dV n) ([e95.dst]:List Int) ([e101.src]:List Int)]).map aC=R'.map aC∧(M++[e113.bits]).map intD=M'.map intD∧(k' ≤l.length∧R' =cE n++(l.take k').map (oN n)∧M' =List.replicate (cE n).length 0++(l.take k').map (·.bits)∧(l.take k').all (okC n)=true)∧l.length - k' <l.length - k))))))))∧((decide ((k:Int)<((l.length:Nat):Int)))=false→aEs (⟨eZ (dV n) ([((1:Int)*2^(Int.toNat n)) - (1:Int)]:List Int) ([]:List Int),R,M⟩:eD)∧(((!(eM (⟨eZ (dV n) ([((1:Int)*2^(Int.toNat n)) - (1:Int)]:List Int) ([]:List Int),R,M⟩:eD)))=true→(false)=((dY l n).2)∧[]=(((dY l n).1).objective).map intD∧[]=(((dY l n).1).rows).map aC∧[]=(((dY l n).1).limits).map intD∧True)∧((!(eM (⟨eZ (dV n) ([((1:Int)*2^(Int.toNat n)) - (1:Int)]:List Int) ([]:List Int),R,M⟩:eD)))=false→(true)=((dY l n).2)∧(eZ (dV n) ([((1:Int)*2^(Int.toNat n)) - (1:Int)]:List Int) ([]:List Int)).map intD=(((dY l n).1).objective).map intD∧R.map aC=(((dY l n).1).rows).map aC∧M.map intD=(((dY l n).1).limits).map intD∧True)))))))))))))) (by kernel_rfl) ?_
 intro n0
 simp only [List.length_map] at n0
 refine ⟨lZ _ _ _,fun c0=>?_,fun c0=>?_⟩
 ·replace c0:=nq (nt c0)
  refine ⟨?_,?_,?_,?_,trivial⟩
  ·first | (rw [cZ (by omega)]<;>rfl) | (rcases hbad with hbad | hbad;(rw [dA hk2 hbad]<;>rfl);(rw [bI (by have:=(List.getElem?_eq_some_iff.1 hk2).1;omega)]<;>rfl)) | (rw [hfin]<;>rfl) | (rw [hfin,cA,hR]<;>rfl) | (rw [hfin,cA,hM]<;>rfl)
  ·first | (rw [cZ (by omega)]<;>rfl) | (rcases hbad with hbad | hbad;(rw [dA hk2 hbad]<;>rfl);(rw [bI (by have:=(List.getElem?_eq_some_iff.1 hk2).1;omega)]<;>rfl)) | (rw [hfin]<;>rfl) | (rw [hfin,cA,hR]<;>rfl) | (rw [hfin,cA,hM]<;>rfl)
  ·first | (rw [cZ (by omega)]<;>rfl) | (rcases hbad with hbad | hbad;(rw [dA hk2 hbad]<;>rfl);(rw [bI (by have:=(List.getElem?_eq_some_iff.1 hk2).1;omega)]<;>rfl)) | (rw [hfin]<;>rfl) | (rw [hfin,cA,hR]<;>rfl) | (rw [hfin,cA,hM]<;>rfl)
  ·first | (rw [cZ (by omega)]<;>rfl) | (rcases hbad with hbad | hbad;(rw [dA hk2 hbad]<;>rfl);(rw [bI (by have:=(List.getElem?_eq_some_iff.1 hk2).1;omega)]<;>rfl)) | (rw [hfin]<;>rfl) | (rw [hfin,cA,hR]<;>rfl) | (rw [hfin,cA,hM]<;>rfl)
 ·replace c0:=yq (nf c0)
  obtain ⟨b1,b2,b3⟩:=aAx (n:=n) (by omega)
  have hal:dV n=(1:Int)*2^n.toNat - 1:=rfl
  have hel:=aJk n
  refine ⟨⟨by omega,by omega⟩,by first | exact bK (by omega) | exact ⟨by omega,by omega⟩,by first | exact bK (by omega) | exact ⟨by omega,by omega⟩,aAy _ ([((1:Int)*2^(Int.toNat n)) - (1:Int)]:List Int) ([]:List Int) (by omega) (by first | exact aFR (by omega) | exact aFS (by omega) (by omega) | exact aMO) (by first | exact aFR (by omega) | exact aFS (by omega) (by omega) | exact aMO) (by simp) (by simp),aJh _,List.length_map _,rfl,rfl,by first | omega | (simp [hR,hM];omega) | (simp;omega),by first | omega | (simp [hR,hM];omega) | (simp;omega),by first | (rw [List.map_replicate];done) | (rw [List.map_replicate];rfl),⟨0,cE n,List.replicate ((cE n).length) (0:Int),rfl,rfl,rfl,Nat.zero_le _,by simp,by simp,rfl⟩,fun k R M ⟨hk,hR,hM,ha⟩=>?_⟩
  refine ⟨List.length_map _,fun c1=>?_,fun c1=>?_⟩
  ·replace c1:=yq c1
   refine ⟨by omega,rfl,by first | omega | (simp;omega),fun e37 h37=>?_⟩
   have hk2:=h37
   have hfc:=hf _ (List.mem_of_getElem? h37)
   have hfs:e37.src≤9223372036854775807:=hfc.1.2
   have hfd:e37.dst≤9223372036854775807:=hfc.2.1.2
   refine ⟨lZ _ _ _,fun g43=>?_,fun g43=>?_⟩
   ·replace g43:=nq (nt g43)
    have hbad:okC n e37=false∨64≤k:=by by_cases hq:64≤k;(exact .inr hq);(refine .inl (xA ?_);rintro ⟨q1,q2,q3,q4⟩;have:=aCF (a:=e37.src) (c:=e37.dst) q2 (by omega) (by omega) (by omega);omega)
    refine ⟨?_,?_,?_,?_,trivial⟩
    ·first | (rw [cZ (by omega)]<;>rfl) | (rcases hbad with hbad | hbad;(rw [dA hk2 hbad]<;>rfl);(rw [bI (by have:=(List.getElem?_eq_some_iff.1 hk2).1;omega)]<;>rfl)) | (rw [hfin]<;>rfl) | (rw [hfin,cA,hR]<;>rfl) | (rw [hfin,cA,hM]<;>rfl)
    ·first | (rw [cZ (by omega)]<;>rfl) | (rcases hbad with hbad | hbad;(rw [dA hk2 hbad]<;>rfl);(rw [bI (by have:=(List.getElem?_eq_some_iff.1 hk2).1;omega)]<;>rfl)) | (rw [hfin]<;>rfl) | (rw [hfin,cA,hR]<;>rfl) | (rw [hfin,cA,hM]<;>rfl)
    ·first | (rw [cZ (by omega)]<;>rfl) | (rcases hbad with hbad | hbad;(rw [dA hk2 hbad]<;>rfl);(rw [bI (by have:=(List.getElem?_eq_some_iff.1 hk2).1;omega)]<;>rfl)) | (rw [hfin]<;>rfl) | (rw [hfin,cA,hR]<;>rfl) | (rw [hfin,cA,hM]<;>rfl)
    ·first | (rw [cZ (by omega)]<;>rfl) | (rcases hbad with hbad | hbad;(rw [dA hk2 hbad]<;>rfl);(rw [bI (by have:=(List.getElem?_eq_some_iff.1 hk2).1;omega)]<;>rfl)) | (rw [hfin]<;>rfl) | (rw [hfin,cA,hR]<;>rfl) | (rw [hfin,cA,hM]<;>rfl)
   ·replace g43:=yq (nf g43)
    refine ⟨by omega,rfl,by first | omega | (simp;omega),fun e46 h46=>?_⟩
    obtain rfl:=(aY hk2 h46).symm
    refine ⟨lZ _ _ _,fun g53=>?_,fun g53=>?_⟩
    ·replace g53:=nq (nt g53)
     have hbad:okC n e37=false∨64≤k:=by by_cases hq:64≤k;(exact .inr hq);(refine .inl (xA ?_);rintro ⟨q1,q2,q3,q4⟩;have:=aCF (a:=e37.src) (c:=e37.dst) q2 (by omega) (by omega) (by omega);omega)
     refine ⟨?_,?_,?_,?_,trivial⟩
     ·first | (rw [cZ (by omega)]<;>rfl) | (rcases hbad with hbad | hbad;(rw [dA hk2 hbad]<;>rfl);(rw [bI (by have:=(List.getElem?_eq_some_iff.1 hk2).1;omega)]<;>rfl)) | (rw [hfin]<;>rfl) | (rw [hfin,cA,hR]<;>rfl) | (rw [hfin,cA,hM]<;>rfl)
     ·first | (rw [cZ (by omega)]<;>rfl) | (rcases hbad with hbad | hbad;(rw [dA hk2 hbad]<;>rfl);(rw [bI (by have:=(List.getElem?_eq_some_iff.1 hk2).1;omega)]<;>rfl)) | (rw [hfin]<;>rfl) | (rw [hfin,cA,hR]<;>rfl) | (rw [hfin,cA,hM]<;>rfl)
     ·first | (rw [cZ (by omega)]<;>rfl) | (rcases hbad with hbad | hbad;(rw [dA hk2 hbad]<;>rfl);(rw [bI (by have:=(List.getElem?_eq_some_iff.1 hk2).1;omega)]<;>rfl)) | (rw [hfin]<;>rfl) | (rw [hfin,cA,hR]<;>rfl) | (rw [hfin,cA,hM]<;>rfl)
     ·first | (rw [cZ (by omega)]<;>rfl) | (rcases hbad with hbad | hbad;(rw [dA hk2 hbad]<;>rfl);(rw [bI (by have:=(List.getElem?_eq_some_iff.1 hk2).1;omega)]<;>rfl)) | (rw [hfin]<;>rfl) | (rw [hfin,cA,hR]<;>rfl) | (rw [hfin,cA,hM]<;>rfl)
    ·replace g53:=yq (nf g53)
     refine ⟨by omega,rfl,by first | omega | (simp;omega),fun e56 h56=>?_⟩
     obtain rfl:=(aY hk2 h56).symm
     refine ⟨by omega,rfl,by first | omega | (simp;omega),fun e61 h61=>?_⟩
     obtain rfl:=(aY hk2 h61).symm
     refine ⟨by omega,rfl,by first | omega | (simp;omega),fun e67 h67=>?_⟩
     obtain rfl:=(aY hk2 h67).symm
     refine ⟨fun g72=>?_,fun g72=>?_⟩
     ·replace g72:=nq (nt g72)
      have hbad:okC n e37=false∨64≤k:=by by_cases hq:64≤k;(exact .inr hq);(refine .inl (xA ?_);rintro ⟨q1,q2,q3,q4⟩;have:=aCF (a:=e37.src) (c:=e37.dst) q2 (by omega) (by omega) (by omega);omega)
      refine ⟨?_,?_,?_,?_,trivial⟩
      ·first | (rw [cZ (by omega)]<;>rfl) | (rcases hbad with hbad | hbad;(rw [dA hk2 hbad]<;>rfl);(rw [bI (by have:=(List.getElem?_eq_some_iff.1 hk2).1;omega)]<;>rfl)) | (rw [hfin]<;>rfl) | (rw [hfin,cA,hR]<;>rfl) | (rw [hfin,cA,hM]<;>rfl)
      ·first | (rw [cZ (by omega)]<;>rfl) | (rcases hbad with hbad | hbad;(rw [dA hk2 hbad]<;>rfl);(rw [bI (by have:=(List.getElem?_eq_some_iff.1 hk2).1;omega)]<;>rfl)) | (rw [hfin]<;>rfl) | (rw [hfin,cA,hR]<;>rfl) | (rw [hfin,cA,hM]<;>rfl)
      ·first | (rw [cZ (by omega)]<;>rfl) | (rcases hbad with hbad | hbad;(rw [dA hk2 hbad]<;>rfl);(rw [bI (by have:=(List.getElem?_eq_some_iff.1 hk2).1;omega)]<;>rfl)) | (rw [hfin]<;>rfl) | (rw [hfin,cA,hR]<;>rfl) | (rw [hfin,cA,hM]<;>rfl)
      ·first | (rw [cZ (by omega)]<;>rfl) | (rcases hbad with hbad | hbad;(rw [dA hk2 hbad]<;>rfl);(rw [bI (by have:=(List.getElem?_eq_some_iff.1 hk2).1;omega)]<;>rfl)) | (rw [hfin]<;>rfl) | (rw [hfin,cA,hR]<;>rfl) | (rw [hfin,cA,hM]<;>rfl)
     ·replace g72:=yq (nf g72)
      refine ⟨by omega,rfl,by first | omega | (simp;omega),fun e75 h75=>?_⟩
      obtain rfl:=(aY hk2 h75).symm
      refine ⟨by omega,rfl,by first | omega | (simp;omega),fun e80 h80=>?_⟩
      obtain rfl:=(aY hk2 h80).symm
      refine ⟨fun g85=>?_,fun g85=>?_⟩
      ·replace g85:=yq g85
       have hbad:okC n e37=false∨64≤k:=by by_cases hq:64≤k;(exact .inr hq);(refine .inl (xA ?_);rintro ⟨q1,q2,q3,q4⟩;have:=aCF (a:=e37.src) (c:=e37.dst) q2 (by omega) (by omega) (by omega);omega)
       refine ⟨?_,?_,?_,?_,trivial⟩
       ·first | (rw [cZ (by omega)]<;>rfl) | (rcases hbad with hbad | hbad;(rw [dA hk2 hbad]<;>rfl);(rw [bI (by have:=(List.getElem?_eq_some_iff.1 hk2).1;omega)]<;>rfl)) | (rw [hfin]<;>rfl) | (rw [hfin,cA,hR]<;>rfl) | (rw [hfin,cA,hM]<;>rfl)
       ·first | (rw [cZ (by omega)]<;>rfl) | (rcases hbad with hbad | hbad;(rw [dA hk2 hbad]<;>rfl);(rw [bI (by have:=(List.getElem?_eq_some_iff.1 hk2).1;omega)]<;>rfl)) | (rw [hfin]<;>rfl) | (rw [hfin,cA,hR]<;>rfl) | (rw [hfin,cA,hM]<;>rfl)
       ·first | (rw [cZ (by omega)]<;>rfl) | (rcases hbad with hbad | hbad;(rw [dA hk2 hbad]<;>rfl);(rw [bI (by have:=(List.getElem?_eq_some_iff.1 hk2).1;omega)]<;>rfl)) | (rw [hfin]<;>rfl) | (rw [hfin,cA,hR]<;>rfl) | (rw [hfin,cA,hM]<;>rfl)
       ·first | (rw [cZ (by omega)]<;>rfl) | (rcases hbad with hbad | hbad;(rw [dA hk2 hbad]<;>rfl);(rw [bI (by have:=(List.getElem?_eq_some_iff.1 hk2).1;omega)]<;>rfl)) | (rw [hfin]<;>rfl) | (rw [hfin,cA,hR]<;>rfl) | (rw [hfin,cA,hM]<;>rfl)
      ·replace g85:=nq g85
       refine ⟨fun c2=>?_,fun c2=>?_⟩
       ·replace c2:=yq c2
        have hbad:okC n e37=false∨64≤k:=by by_cases hq:64≤k;(exact .inr hq);(refine .inl (xA ?_);rintro ⟨q1,q2,q3,q4⟩;have:=aCF (a:=e37.src) (c:=e37.dst) q2 (by omega) (by omega) (by omega);omega)
        refine ⟨?_,?_,?_,?_,trivial⟩
        ·first | (rw [cZ (by omega)]<;>rfl) | (rcases hbad with hbad | hbad;(rw [dA hk2 hbad]<;>rfl);(rw [bI (by have:=(List.getElem?_eq_some_iff.1 hk2).1;omega)]<;>rfl)) | (rw [hfin]<;>rfl) | (rw [hfin,cA,hR]<;>rfl) | (rw [hfin,cA,hM]<;>rfl)
        ·first | (rw [cZ (by omega)]<;>rfl) | (rcases hbad with hbad | hbad;(rw [dA hk2 hbad]<;>rfl);(rw [bI (by have:=(List.getElem?_eq_some_iff.1 hk2).1;omega)]<;>rfl)) | (rw [hfin]<;>rfl) | (rw [hfin,cA,hR]<;>rfl) | (rw [hfin,cA,hM]<;>rfl)
        ·first | (rw [cZ (by omega)]<;>rfl) | (rcases hbad with hbad | hbad;(rw [dA hk2 hbad]<;>rfl);(rw [bI (by have:=(List.getElem?_eq_some_iff.1 hk2).1;omega)]<;>rfl)) | (rw [hfin]<;>rfl) | (rw [hfin,cA,hR]<;>rfl) | (rw [hfin,cA,hM]<;>rfl)
        ·first | (rw [cZ (by omega)]<;>rfl) | (rcases hbad with hbad | hbad;(rw [dA hk2 hbad]<;>rfl);(rw [bI (by have:=(List.getElem?_eq_some_iff.1 hk2).1;omega)]<;>rfl)) | (rw [hfin]<;>rfl) | (rw [hfin,cA,hR]<;>rfl) | (rw [hfin,cA,hM]<;>rfl)
       ·replace c2:=nq c2
        have hle:=aCF (a:=e37.src) (c:=e37.dst) (by omega) (by omega) (by omega) (by omega)
        refine ⟨by omega,rfl,by first | omega | (simp;omega),fun e95 h95=>?_⟩
        have q95:=aY hk2 h95
        have r95:e95.src=e37.src∧e95.dst=e37.dst∧e95.bits=e37.bits:=by rw [q95];exact ⟨rfl,rfl,rfl⟩
        refine ⟨by omega,rfl,by first | omega | (simp;omega),fun e101 h101=>?_⟩
        have q101:=aY hk2 h101
        have r101:e101.src=e37.src∧e101.dst=e37.dst∧e101.bits=e37.bits:=by rw [q101];exact ⟨rfl,rfl,rfl⟩
        refine ⟨aAy _ ([e95.dst]:List Int) ([e101.src]:List Int) (by omega) (by first | exact aFR (by omega) | exact aFS (by omega) (by omega) | exact aMO) (by first | exact aFR (by omega) | exact aFS (by omega) (by omega) | exact aMO) (by simp) (by simp),rfl,rfl,by first | omega | (simp [hR,hM];omega) | (simp;omega),by omega,rfl,by first | omega | (simp;omega),fun e113 h113=>?_⟩
        have q113:=aY hk2 h113
        have r113:e113.src=e37.src∧e113.dst=e37.dst∧e113.bits=e37.bits:=by rw [q113];exact ⟨rfl,rfl,rfl⟩
        refine ⟨rfl,rfl,fun _=>rfl,by first | omega | (simp [hR,hM];omega) | (simp;omega),?_⟩
        refine ⟨by first | exact bK (by omega) | exact ⟨by omega,by omega⟩,?_⟩
        exact ⟨k+1,_,_,rfl,rfl,rfl,⟨by omega,by rw [hR,bP hk2,List.map_append,List.append_assoc,r95.2.1,r101.1];rfl,by rw [hM,bP hk2,List.map_append,List.append_assoc,r113.2.2];rfl,cS hk2 ha (aN3 ⟨by omega,by omega,by omega,by omega⟩)⟩,by omega⟩
  ·replace c1:=nq c1
   have hkl:k=l.length:=by omega
   subst hkl
   rw [List.take_length] at hR hM ha
   refine ⟨aPo (⟨eZ (dV n) ([((1:Int)*2^(Int.toNat n)) - (1:Int)]:List Int) ([]:List Int),R,M⟩:eD),fun c3=>?_,fun c3=>?_⟩
   ·replace c3:=nt c3
    have hfin:dY l n=(oC,false):=aN4 (by rw [←c3,cA,hR,hM])
    refine ⟨?_,?_,?_,?_,trivial⟩
    ·first | (rw [cZ (by omega)]<;>rfl) | (rcases hbad with hbad | hbad;(rw [dA hk2 hbad]<;>rfl);(rw [bI (by have:=(List.getElem?_eq_some_iff.1 hk2).1;omega)]<;>rfl)) | (rw [hfin]<;>rfl) | (rw [hfin,cA,hR]<;>rfl) | (rw [hfin,cA,hM]<;>rfl)
    ·first | (rw [cZ (by omega)]<;>rfl) | (rcases hbad with hbad | hbad;(rw [dA hk2 hbad]<;>rfl);(rw [bI (by have:=(List.getElem?_eq_some_iff.1 hk2).1;omega)]<;>rfl)) | (rw [hfin]<;>rfl) | (rw [hfin,cA,hR]<;>rfl) | (rw [hfin,cA,hM]<;>rfl)
    ·first | (rw [cZ (by omega)]<;>rfl) | (rcases hbad with hbad | hbad;(rw [dA hk2 hbad]<;>rfl);(rw [bI (by have:=(List.getElem?_eq_some_iff.1 hk2).1;omega)]<;>rfl)) | (rw [hfin]<;>rfl) | (rw [hfin,cA,hR]<;>rfl) | (rw [hfin,cA,hM]<;>rfl)
    ·first | (rw [cZ (by omega)]<;>rfl) | (rcases hbad with hbad | hbad;(rw [dA hk2 hbad]<;>rfl);(rw [bI (by have:=(List.getElem?_eq_some_iff.1 hk2).1;omega)]<;>rfl)) | (rw [hfin]<;>rfl) | (rw [hfin,cA,hR]<;>rfl) | (rw [hfin,cA,hM]<;>rfl)
   ·replace c3:=nf c3
    have hfin:dY l n=(cA n l,true):=aMT (by omega) ha (by rw [←c3,cA,hR,hM])
    refine ⟨?_,?_,?_,?_,trivial⟩
    ·first | (rw [cZ (by omega)]<;>rfl) | (rcases hbad with hbad | hbad;(rw [dA hk2 hbad]<;>rfl);(rw [bI (by have:=(List.getElem?_eq_some_iff.1 hk2).1;omega)]<;>rfl)) | (rw [hfin]<;>rfl) | (rw [hfin,cA,hR]<;>rfl) | (rw [hfin,cA,hM]<;>rfl)
    ·first | (rw [cZ (by omega)]<;>rfl) | (rcases hbad with hbad | hbad;(rw [dA hk2 hbad]<;>rfl);(rw [bI (by have:=(List.getElem?_eq_some_iff.1 hk2).1;omega)]<;>rfl)) | (rw [hfin]<;>rfl) | (rw [hfin,cA,hR]<;>rfl) | (rw [hfin,cA,hM]<;>rfl)
    ·first | (rw [cZ (by omega)]<;>rfl) | (rcases hbad with hbad | hbad;(rw [dA hk2 hbad]<;>rfl);(rw [bI (by have:=(List.getElem?_eq_some_iff.1 hk2).1;omega)]<;>rfl)) | (rw [hfin]<;>rfl) | (rw [hfin,cA,hR]<;>rfl) | (rw [hfin,cA,hM]<;>rfl)
    ·first | (rw [cZ (by omega)]<;>rfl) | (rcases hbad with hbad | hbad;(rw [dA hk2 hbad]<;>rfl);(rw [bI (by have:=(List.getElem?_eq_some_iff.1 hk2).1;omega)]<;>rfl)) | (rw [hfin]<;>rfl) | (rw [hfin,cA,hR]<;>rfl) | (rw [hfin,cA,hM]<;>rfl)
theorem aTd (s:StoreD) (q:QueryD) (m:Int): ∀r∈(dX s q m).1.rows,r.length≤1048576:=by
 intro r hr
 have h1:=aCG s q m
 have e1:sK (dX s q m).1=bS (dX s q m).1.objective+cM (dX s q m).1.rows+bS (dX s q m).1.limits:=rfl
 obtain ⟨k,hk⟩:=List.getElem?_of_mem hr
 have h2:=nG hk
 have e:bS r=r.length:=rfl
 omega
theorem aHo {l:List RationalD} {n:Nat} (h:gO l n=true):l.length=n:=by
 rw [gO,Bool.and_eq_true,decide_eq_true_eq] at h
 omega
abbrev aAP (s:StoreD) (q:QueryD) (m:Int):AV × List (Nat × Rs):=(.tup [.agg [.own 0,.own 1,.own 2],.own 3,vB ((dX s q m).2)],[(0,.arr 3 1 true ((((dX s q m).1).objective).map intD)),(1,.arr 39 1 true ((((dX s q m).1).rows).map aC)),(2,.arr 3 1 true ((((dX s q m).1).limits).map intD)),(3,.arr 164 3 true ((bT s q m).map aE))])
abbrev aEy (s:StoreD) (q:QueryD) (m:Int):Prop:=cX Tryz.prog 39 [.agg [.sl 167 3 (s.database.tables.map aP),.int .i64 s.catalogue.version,.sl 161 4 (s.catalogue.tables.map aD),.sl 131 3 (s.dependencies.map aJ),.sl 133 4 (s.inclusions.map aM)],.agg [.int .i64 q.variableCount,.sl 135 2 (q.atoms.map aZ)],.one (.int .i64 m)] (aAP s q m).1 (aAP s q m).2
theorem aPs (s:StoreD) (q:QueryD) (m:Int) (hc:dU s≤1048576) (hcq:gF q≤1048576):aEy s q m:=by
 refine aX bG aR Tryz.func39 (by kernel_rfl) (cB (wW s q m)<| .len ((bT s q m).length)<| .br (.fin []) (cB (aAE q m)<| cB (aBx (bT s q m) (cJ q m))<| .len ((cJ q m).length)<| cB (aCH ((bT s q m).map (mT (cJ q m))) (((cJ q m).length:Nat):Int))<| .fin [(0,3000),(1,3001),(2,3002),(3,1600)])) (p:=(s.database.tables.map aP).length≤9223372036854775807→(s.catalogue.tables.map aD).length≤9223372036854775807→(s.dependencies.map aJ).length≤9223372036854775807→(s.inclusions.map aM).length≤9223372036854775807→(q.atoms.map aZ).length≤9223372036854775807→aDI s q m∧(Lm aE (bT s q m)∧(((decide ((((bT s q m).length:Nat):Int)=(0:Int)))=true→(false)=((dX s q m).2)∧[]=(((dX s q m).1).objective).map intD∧[]=(((dX s q m).1).rows).map aC∧[]=(((dX s q m).1).limits).map intD∧[]=(bT s q m).map aE∧True)∧((decide ((((bT s q m).length:Nat):Int)=(0:Int)))=false→aEm q m∧aH6 (bT s q m) (cJ q m)∧Lm intD (cJ q m)∧aHm ((bT s q m).map (mT (cJ q m))) (((cJ q m).length:Nat):Int)∧((dY ((bT s q m).map (mT (cJ q m))) (((cJ q m).length:Nat):Int)).2)=((dX s q m).2)∧(((dY ((bT s q m).map (mT (cJ q m))) (((cJ q m).length:Nat):Int)).1).objective).map intD=(((dX s q m).1).objective).map intD∧(((dY ((bT s q m).map (mT (cJ q m))) (((cJ q m).length:Nat):Int)).1).rows).map aC=(((dX s q m).1).rows).map aC∧(((dY ((bT s q m).map (mT (cJ q m))) (((cJ q m).length:Nat):Int)).1).limits).map intD=(((dX s q m).1).limits).map intD∧(bT s q m).map aE=(bT s q m).map aE∧True)))) (by kernel_rfl) ?_
 intro n0 n1 n2 n3 n4
 simp only [List.length_map] at n0 n1 n2 n3 n4
 have hS:dU s=bH s.database+bO s.catalogue+bY s.dependencies+cR s.inclusions:=rfl
 have hI:=fK s.inclusions
 have hQ:gF q=jA q.atoms:=rfl
 have hql:=vK s q m
 have hff:=aMU (s:=s) (q:=q) (m:=m) (cJ q m)
 have hq28:((bT s q m).map (mT (cJ q m))).length≤28:=by rw [List.length_map];exact hql
 refine ⟨aNV s q m (by omega) (by omega),List.length_map _,fun c0=>?_,fun c0=>?_⟩
 ·replace c0:=yq c0
  refine ⟨?_,?_,?_,?_,?_,trivial⟩
  ·first | (rw [jW (by omega)]<;>rfl) | (rw [iC (by omega)]<;>rfl) | (rw [List.eq_nil_of_length_eq_zero (show (bT s q m).length=0 by omega)];rfl)
  ·first | (rw [jW (by omega)]<;>rfl) | (rw [iC (by omega)]<;>rfl) | (rw [List.eq_nil_of_length_eq_zero (show (bT s q m).length=0 by omega)];rfl)
  ·first | (rw [jW (by omega)]<;>rfl) | (rw [iC (by omega)]<;>rfl) | (rw [List.eq_nil_of_length_eq_zero (show (bT s q m).length=0 by omega)];rfl)
  ·first | (rw [jW (by omega)]<;>rfl) | (rw [iC (by omega)]<;>rfl) | (rw [List.eq_nil_of_length_eq_zero (show (bT s q m).length=0 by omega)];rfl)
  ·first | (rw [jW (by omega)]<;>rfl) | (rw [iC (by omega)]<;>rfl) | (rw [List.eq_nil_of_length_eq_zero (show (bT s q m).length=0 by omega)];rfl)
 ·replace c0:=nq c0
  refine ⟨aPk _ m,aSJ _ _ (by omega),List.length_map _,aSU ((bT s q m).map (mT (cJ q m))) (((cJ q m).length:Nat):Int) (by omega) (by assumption),?_,?_,?_,?_,rfl,trivial⟩
  ·first | (rw [jW (by omega)]<;>rfl) | (rw [iC (by omega)]<;>rfl) | (rw [List.eq_nil_of_length_eq_zero (show (bT s q m).length=0 by omega)];rfl)
  ·first | (rw [jW (by omega)]<;>rfl) | (rw [iC (by omega)]<;>rfl) | (rw [List.eq_nil_of_length_eq_zero (show (bT s q m).length=0 by omega)];rfl)
  ·first | (rw [jW (by omega)]<;>rfl) | (rw [iC (by omega)]<;>rfl) | (rw [List.eq_nil_of_length_eq_zero (show (bT s q m).length=0 by omega)];rfl)
  ·first | (rw [jW (by omega)]<;>rfl) | (rw [iC (by omega)]<;>rfl) | (rw [List.eq_nil_of_length_eq_zero (show (bT s q m).length=0 by omega)];rfl)
abbrev aAQ (s:StoreD) (q:QueryD) (m:Int):AV × List (Nat × Rs):=(.tup [.agg [.own 0,.own 1,.own 2],vB ((dX s q m).2)],[(0,.arr 3 1 true ((((dX s q m).1).objective).map intD)),(1,.arr 39 1 true ((((dX s q m).1).rows).map aC)),(2,.arr 3 1 true ((((dX s q m).1).limits).map intD))])
abbrev aEz (s:StoreD) (q:QueryD) (m:Int):Prop:=cX Tryz.prog 30 [.agg [.sl 167 3 (s.database.tables.map aP),.int .i64 s.catalogue.version,.sl 161 4 (s.catalogue.tables.map aD),.sl 131 3 (s.dependencies.map aJ),.sl 133 4 (s.inclusions.map aM)],.agg [.int .i64 q.variableCount,.sl 135 2 (q.atoms.map aZ)],.one (.int .i64 m)] (aAQ s q m).1 (aAQ s q m).2
theorem aPt (s:StoreD) (q:QueryD) (m:Int) (hc:dU s≤1048576) (hcq:gF q≤1048576):aEz s q m:=by
 refine aX bG aR Tryz.func30 (by kernel_rfl) (cB (wX s q m)<| .len ((bT s q m).length)<| .br (.fin []) (cB (uA q m)<| cB (aBy (bT s q m) (cJ q m))<| .len ((cJ q m).length)<| cB (aCI ((bT s q m).map (mT (cJ q m))) (((cJ q m).length:Nat):Int))<| .fin [(0,2900),(1,2901),(2,2902)])) (p:=(s.database.tables.map aP).length≤9223372036854775807→(s.catalogue.tables.map aD).length≤9223372036854775807→(s.dependencies.map aJ).length≤9223372036854775807→(s.inclusions.map aM).length≤9223372036854775807→(q.atoms.map aZ).length≤9223372036854775807→aDJ s q m∧(Lm aE (bT s q m)∧(((decide ((((bT s q m).length:Nat):Int)=(0:Int)))=true→(false)=((dX s q m).2)∧[]=(((dX s q m).1).objective).map intD∧[]=(((dX s q m).1).rows).map aC∧[]=(((dX s q m).1).limits).map intD∧True)∧((decide ((((bT s q m).length:Nat):Int)=(0:Int)))=false→aAF q m∧aH7 (bT s q m) (cJ q m)∧Lm intD (cJ q m)∧aHn ((bT s q m).map (mT (cJ q m))) (((cJ q m).length:Nat):Int)∧((dY ((bT s q m).map (mT (cJ q m))) (((cJ q m).length:Nat):Int)).2)=((dX s q m).2)∧(((dY ((bT s q m).map (mT (cJ q m))) (((cJ q m).length:Nat):Int)).1).objective).map intD=(((dX s q m).1).objective).map intD∧(((dY ((bT s q m).map (mT (cJ q m))) (((cJ q m).length:Nat):Int)).1).rows).map aC=(((dX s q m).1).rows).map aC∧(((dY ((bT s q m).map (mT (cJ q m))) (((cJ q m).length:Nat):Int)).1).limits).map intD=(((dX s q m).1).limits).map intD∧True)))) (by kernel_rfl) ?_
 intro n0 n1 n2 n3 n4
 simp only [List.length_map] at n0 n1 n2 n3 n4
 have hS:dU s=bH s.database+bO s.catalogue+bY s.dependencies+cR s.inclusions:=rfl
 have hI:=fK s.inclusions
 have hQ:gF q=jA q.atoms:=rfl
 have hql:=vK s q m
 have hff:=aMU (s:=s) (q:=q) (m:=m) (cJ q m)
 have hq28:((bT s q m).map (mT (cJ q m))).length≤28:=by rw [List.length_map];exact hql
 refine ⟨aNW s q m (by omega) (by omega),List.length_map _,fun c0=>?_,fun c0=>?_⟩
 ·replace c0:=yq c0
  refine ⟨?_,?_,?_,?_,trivial⟩
  ·first | (rw [jW (by omega)]<;>rfl) | (rw [iC (by omega)]<;>rfl) | (rw [List.eq_nil_of_length_eq_zero (show (bT s q m).length=0 by omega)];rfl)
  ·first | (rw [jW (by omega)]<;>rfl) | (rw [iC (by omega)]<;>rfl) | (rw [List.eq_nil_of_length_eq_zero (show (bT s q m).length=0 by omega)];rfl)
  ·first | (rw [jW (by omega)]<;>rfl) | (rw [iC (by omega)]<;>rfl) | (rw [List.eq_nil_of_length_eq_zero (show (bT s q m).length=0 by omega)];rfl)
  ·first | (rw [jW (by omega)]<;>rfl) | (rw [iC (by omega)]<;>rfl) | (rw [List.eq_nil_of_length_eq_zero (show (bT s q m).length=0 by omega)];rfl)
 ·replace c0:=nq c0
  refine ⟨aJc _ m,aSK _ _ (by omega),List.length_map _,aSV ((bT s q m).map (mT (cJ q m))) (((cJ q m).length:Nat):Int) (by omega) (by assumption),?_,?_,?_,?_,trivial⟩
  ·first | (rw [jW (by omega)]<;>rfl) | (rw [iC (by omega)]<;>rfl) | (rw [List.eq_nil_of_length_eq_zero (show (bT s q m).length=0 by omega)];rfl)
  ·first | (rw [jW (by omega)]<;>rfl) | (rw [iC (by omega)]<;>rfl) | (rw [List.eq_nil_of_length_eq_zero (show (bT s q m).length=0 by omega)];rfl)
  ·first | (rw [jW (by omega)]<;>rfl) | (rw [iC (by omega)]<;>rfl) | (rw [List.eq_nil_of_length_eq_zero (show (bT s q m).length=0 by omega)];rfl)
  ·first | (rw [jW (by omega)]<;>rfl) | (rw [iC (by omega)]<;>rfl) | (rw [List.eq_nil_of_length_eq_zero (show (bT s q m).length=0 by omega)];rfl)
abbrev aHp (l:List RationalD) (n:Int):Prop:=cX Tryz.prog 82 [.one (.sl 70 2 (l.map aW)),.one (.int .i64 n)] (vB (decide ((l.length:Int)=n)&&l.all fP)) []
theorem aSW (l:List RationalD) (n:Int):aHp l n:=by
 refine aX bG aR Tryz.func82 (by kernel_rfl) (.len l.length<| .loop Nat (Q1 Nat) [6,9,10,11,12,13,14,15,16] [600] (fun k=>[(9,vI (k:Int))]) (fun k=>[]) (fun k=>k≤l.length∧(l.take k).all fP=true) (fun k=>l.length - k) (fun k=> .br (.elem _ aW l (fun e11=> .call (vB (fP e11)) []<| .br (.fin []) (.back []))) (.len l.length<| .fin []))) (p:=(l.map aW).length≤9223372036854775807→Lm aW l∧((∃(k:Nat),(0:Int)=(k:Int)∧k≤l.length∧(l.take k).all fP=true)∧ ∀(k:Nat),(k≤l.length∧(l.take k).all fP=true)→((decide ((k:Int)<((l.length:Nat):Int)))=true→0≤(k:Int)∧Em aW l k fun e11=>aH3 e11∧(((!(fP e11))=true→(false)=(decide ((l.length:Int)=n)&&l.all fP)∧True)∧((!(fP e11))=false→cC ((k:Int)+(1:Int))∧ ∃(k' :Nat),((k:Int)+(1:Int))=(k' :Int)∧(k' ≤l.length∧(l.take k').all fP=true)∧l.length - k' <l.length - k)))∧((decide ((k:Int)<((l.length:Nat):Int)))=false→Lm aW l∧(decide (((l.length:Nat):Int)=n))=(decide ((l.length:Int)=n)&&l.all fP)∧True))) (by kernel_rfl) ?_
 intro n0
 simp only [List.length_map] at n0
 refine ⟨List.length_map _,⟨0,rfl,Nat.zero_le _,rfl⟩,fun k ⟨hk,ha⟩=>?_⟩
 refine ⟨fun c0=>?_,fun c0=>?_⟩
 ·replace c0:=yq c0
  refine ⟨by omega,rfl,by omega,fun e11 h11=>?_⟩
  refine ⟨aSH e11,fun c1=>?_,fun c1=>?_⟩
  ·replace c1:=nt c1
   refine ⟨?_,trivial⟩
   ·first | (rw [bU h11 c1,Bool.and_false];done) | (rw [bE (by omega) ha,Bool.and_true];done)
  ·replace c1:=nf c1
   refine ⟨⟨by omega,by omega⟩,?_⟩
   exact ⟨k+1,rfl,⟨by omega,cS h11 ha c1⟩,by omega⟩
 ·replace c0:=nq c0
  refine ⟨List.length_map _,?_,trivial⟩
  ·first | (rw [bU h11 c1,Bool.and_false];done) | (rw [bE (by omega) ha,Bool.and_true];done)
abbrev aJm (l:List RationalD) (n:Int):Prop:=cX Tryz.prog 40 [.one (.sl 70 2 (l.map aW)),.one (.int .i64 n)] (vB (gO l n)) []
theorem aTe (l:List RationalD) (n:Int):aJm l n:=by
 refine aX bG aR Tryz.func40 (by kernel_rfl) (.len l.length<| .loop Nat (Q1 Nat) [6,9,10,11,12,13,14,15,16] [600] (fun k=>[(9,vI (k:Int))]) (fun k=>[]) (fun k=>k≤l.length∧(l.take k).all (fun r=> !decide (r.num<0))=true) (fun k=>l.length - k) (fun k=> .br (.elem _ aW l (fun e11=> .br (.fin []) (.back []))) (.call (vB (decide ((l.length:Int)=n)&&l.all fP)) []<| .fin []))) (p:=(l.map aW).length≤9223372036854775807→Lm aW l∧((∃(k:Nat),(0:Int)=(k:Int)∧k≤l.length∧(l.take k).all (fun r=> !decide (r.num<0))=true)∧ ∀(k:Nat),(k≤l.length∧(l.take k).all (fun r=> !decide (r.num<0))=true)→((decide ((k:Int)<((l.length:Nat):Int)))=true→0≤(k:Int)∧Em aW l k fun e11=>((decide (e11.num<(0:Int)))=true→(false)=(gO l n)∧True)∧((decide (e11.num<(0:Int)))=false→cC ((k:Int)+(1:Int))∧ ∃(k' :Nat),((k:Int)+(1:Int))=(k' :Int)∧(k' ≤l.length∧(l.take k').all (fun r=> !decide (r.num<0))=true)∧l.length - k' <l.length - k))∧((decide ((k:Int)<((l.length:Nat):Int)))=false→aHp l n∧(decide ((l.length:Int)=n)&&l.all fP)=(gO l n)∧True))) (by kernel_rfl) ?_
 intro n0
 simp only [List.length_map] at n0
 refine ⟨List.length_map _,⟨0,rfl,Nat.zero_le _,rfl⟩,fun k ⟨hk,ha⟩=>?_⟩
 refine ⟨fun c0=>?_,fun c0=>?_⟩
 ·replace c0:=yq c0
  refine ⟨by omega,rfl,by omega,fun e11 h11=>?_⟩
  refine ⟨fun c1=>?_,fun c1=>?_⟩
  ·replace c1:=yq c1
   refine ⟨?_,trivial⟩
   ·first | (rw [rO,bU (p:=fun r:RationalD=> !decide (r.num<0)) h11 (by rw [decide_eq_true c1];rfl),Bool.and_false];done) | (rw [rO,bE (by omega) ha,Bool.and_true];done)
  ·replace c1:=nq c1
   refine ⟨⟨by omega,by omega⟩,?_⟩
   exact ⟨k+1,rfl,⟨by omega,cS h11 ha (by rw [decide_eq_false c1];rfl)⟩,by omega⟩
 ·replace c0:=nq c0
  refine ⟨aSW l n,?_,trivial⟩
  ·first | (rw [rO,bU (p:=fun r:RationalD=> !decide (r.num<0)) h11 (by rw [decide_eq_true c1];rfl),Bool.and_false];done) | (rw [rO,bE (by omega) ha,Bool.and_true];done)
abbrev aHq (l:List RationalD):Prop:=cX Tryz.prog 31 [.one (.sl 70 2 (l.map aW))] (vB (l.all uM)) []
theorem aSX (l:List RationalD):aHq l:=by
 refine aX bG aR Tryz.func31 (by kernel_rfl) (.loop Nat (Q1 Nat) [3,4,5,6,7,8,9,10,11,12,13,14,15,16,17,18,19,20,21,22,23] [] (fun k=>[(3,vI (k:Int))]) (fun k=>[]) (fun k=>k≤l.length∧(l.take k).all uM=true) (fun k=>l.length - k) (fun k=> .len l.length<| .br (.elem _ aW l (fun e12=> .call (vB (fP e12)) []<| .br (.fin []) (.elem _ aW l (fun e19=> .lit<| .lit<| .lit<| .lit<| .br (.fin []) (.back []))))) (.fin []))) (p:=(l.map aW).length≤9223372036854775807→(∃(k:Nat),(0:Int)=(k:Int)∧k≤l.length∧(l.take k).all uM=true)∧ ∀(k:Nat),(k≤l.length∧(l.take k).all uM=true)→Lm aW l∧(((decide ((k:Int)<((l.length:Nat):Int)))=true→0≤(k:Int)∧Em aW l k fun e12=>aH4 e12∧(((!(fP e12))=true→(false)=(l.all uM)∧True)∧((!(fP e12))=false→0≤(k:Int)∧Em aW l k fun e19=>((decide (e19.num<(0:Int)))=true→(false)=(l.all uM)∧True)∧((decide (e19.num<(0:Int)))=false→cC ((k:Int)+(1:Int))∧ ∃(k' :Nat),((k:Int)+(1:Int))=(k' :Int)∧(k' ≤l.length∧(l.take k').all uM=true)∧l.length - k' <l.length - k))))∧((decide ((k:Int)<((l.length:Nat):Int)))=false→(true)=(l.all uM)∧True))) (by kernel_rfl) ?_
 intro n0
 simp only [List.length_map] at n0
 refine ⟨⟨0,rfl,Nat.zero_le _,rfl⟩,fun k ⟨hk,ha⟩=>?_⟩
 refine ⟨List.length_map _,fun c0=>?_,fun c0=>?_⟩
 ·replace c0:=yq c0
  refine ⟨by omega,rfl,by omega,fun e12 h12=>?_⟩
  refine ⟨aSI e12,fun g16=>?_,fun g16=>?_⟩
  ·replace g16:=nt g16
   refine ⟨?_,trivial⟩
   ·first | (rw [bU h12 (by rw [uM,g16];rfl)];done) | (rw [bU h12 (by rw [uM,g16,decide_eq_true c1];rfl)];done) | (rw [bE (by omega) ha];done)
  ·replace g16:=nf g16
   refine ⟨by omega,rfl,by omega,fun e19 h19=>?_⟩
   obtain rfl:=(aY h12 h19).symm
   refine ⟨fun c1=>?_,fun c1=>?_⟩
   ·replace c1:=yq c1
    refine ⟨?_,trivial⟩
    ·first | (rw [bU h12 (by rw [uM,g16];rfl)];done) | (rw [bU h12 (by rw [uM,g16,decide_eq_true c1];rfl)];done) | (rw [bE (by omega) ha];done)
   ·replace c1:=nq c1
    refine ⟨⟨by omega,by omega⟩,?_⟩
    exact ⟨k+1,rfl,⟨by omega,cS h12 ha (by rw [uM,g16,decide_eq_false c1];rfl)⟩,by omega⟩
 ·replace c0:=nq c0
  refine ⟨?_,trivial⟩
  ·first | (rw [bU h12 (by rw [uM,g16];rfl)];done) | (rw [bU h12 (by rw [uM,g16,decide_eq_true c1];rfl)];done) | (rw [bE (by omega) ha];done)
end Go.Proofs.YtdfebigfnjfgpaaGreat
