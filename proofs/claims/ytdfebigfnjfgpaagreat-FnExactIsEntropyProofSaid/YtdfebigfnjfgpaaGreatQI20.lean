/-
  Contracts and plain laws, joined: part 21.
-/
import Derived.Test.YtdfebigfnjfgpaaGreatQI17
import Derived.Test.YtdfebigfnjfgpaaGreatQI19
namespace Go.Proofs.YtdfebigfnjfgpaaGreat
open Go.ChangeShapes Go.WideShapes Go.ChangeAt Go.RowKit
set_option linter.unusedVariables false
set_option linter.unusedSimpArgs false
set_option maxRecDepth 100000
set_option maxHeartbeats 4000000
abbrev aB3 (l:List aD) (n:Int):AV × List (Nat × Rs):=(.tup [.agg [.own 0,.own 1,.own 2],vB ((eI l n).2)],[(0,.arr 3 1 true ((((eI l n).1).objective).map intD)),(1,.arr 39 1 true ((((eI l n).1).rows).map aA)),(2,.arr 3 1 true ((((eI l n).1).limits).map intD))])
abbrev aHE (l:List aD) (n:Int):Prop:=cT Tryz.prog 66 [.one (.sl 164 3 (l.map aC)),.one (.int .i64 n)] (aB3 l n).1 (aB3 l n).2
theorem aRc (l:List aD) (n:Int) (hl:l.length≤1048576) (hf:oR l):aHE l n:=by
 refine aT bE aL Tryz.func66 (by kernel_rfl) (.call (vB (decide ((1:Int)≤n∧n≤(4:Int)))) []<| .br (.fin []) (bV (nK n ([((1:Int)*2^(Int.toNat n)) - (1:Int)]:List Int) ([]:List Int))<| bV (zB n)<| .len ((dX n).length)<| .mk ((dX n).length) [.int .i64 (0:Int)] ((List.replicate ((dX n).length) (0:Int)).map intD)<| .loop (Nat × (List (List Int)) × (List Int)) (Q3 Nat (List (List Int)) (List Int)) [8,22,23,25,27,29,30,31,32,33,34,35,36,37,38,39,40,41,42,43,44,45,46,47,48,49,50,51,52,53,54,55,56,57,58,59,60,61,62,63,64,65,66,67,68,69,70,71,72,73,74,75,76,77,78,79,80,81,82,83,84,85,86,87,88,90,91,92,93,94,95,96,97,98,99,100,101,102,103,104,105,106,107,108,109,110,111,112,113,114,115,116,117,118] [700,2200,2700,9800,10400,10500,10600,10700,11600,11700] (fun yy0=>[(8,vI (yy0.1:Int))]) (fun yy0=>[(700,some (.box 80 [.own 2000,.own 2200,.own 2700])),(2200,some (.arr 39 1 true (yy0.2.1.map aA))),(2700,some (.arr 3 1 true (yy0.2.2.map intD)))]) (fun yy0=>yy0.1≤l.length∧yy0.2.1=dX n++(l.take yy0.1).map (oE n)∧yy0.2.2=List.replicate (dX n).length 0++(l.take yy0.1).map (·.bits)∧(l.take yy0.1).all (okC n)=true) (fun yy0=>l.length - yy0.1) (fun yy0=> .len l.length<| .br (.elem _ aC l (fun e37=> .call (vB (decide ((1:Int)≤e37.dst∧e37.dst≤(((1:Int)*2^(Int.toNat n)) - (1:Int))))) []<| .br (.fin []) (.elem _ aC l (fun e46=> .call (vB (decide ((0:Int)≤e46.src∧e46.src≤(((1:Int)*2^(Int.toNat n)) - (1:Int))))) []<| .lit<| .lit<| .br (.fin []) (.elem _ aC l (fun e56=> .elem _ aC l (fun e61=> .elem _ aC l (fun e67=> .lit<| .lit<| .lit<| .lit<| .br (.fin []) (.elem _ aC l (fun e75=> .elem _ aC l (fun e80=> .lit<| .lit<| .lit<| .lit<| .br (.fin []) (.lit<| .lit<| .br (.fin []) (.elem _ aC l (fun e95=> .elem _ aC l (fun e101=>bV (nK n ([e95.dst]:List Int) ([e101.src]:List Int))<| .appx (List Int) aA yy0.2.1 (fF (eA n) ([e95.dst]:List Int) ([e101.src]:List Int))<| .elem _ aC l (fun e113=> .app Int intD yy0.2.2 ([e113.bits]:List Int)<| .back [(700,700),(2200,10700),(2700,11700)])))))))))))))))) (.call (vB (dD (⟨fF (eA n) ([((1:Int)*2^(Int.toNat n)) - (1:Int)]:List Int) ([]:List Int),yy0.2.1,yy0.2.2⟩:cM))) []<| .br (.fin []) (.fin [(0,2000),(1,2200),(2,2700)]))))) (p:=(l.map aC).length≤9223372036854775807→iV n (1:Int) (4:Int)∧(((!(decide ((1:Int)≤n∧n≤(4:Int))))=true→(false)=((eI l n).2)∧[]=(((eI l n).1).objective).map intD∧[]=(((eI l n).1).rows).map aA∧[]=(((eI l n).1).limits).map intD∧True)∧((!(decide ((1:Int)≤n∧n≤(4:Int))))=false→(0≤n∧n≤64)∧(cC ((1:Int)*2^(Int.toNat n))∧(cC (((1:Int)*2^(Int.toNat n)) - (1:Int))∧(qD n ([((1:Int)*2^(Int.toNat n)) - (1:Int)]:List Int) ([]:List Int)∧(aEQ n∧(Lm aA (dX n)∧((((dX n).length:Nat):Int)=(((dX n).length:Nat):Int)∧(((dX n).length:Nat):Int)=(((dX n).length:Nat):Int)∧8*((dX n).length)≤281474976710656∧((dX n).length)≤9223372036854775807∧List.replicate ((dX n).length) [.int .i64 (0:Int)]=(List.replicate ((dX n).length) (0:Int)).map intD∧((∃(k:Nat) (R:List (List Int)) (M:List Int),(0:Int)=(k:Int)∧(dX n).map aA=R.map aA∧(List.replicate ((dX n).length) (0:Int)).map intD=M.map intD∧k≤l.length∧R=dX n++(l.take k).map (oE n)∧M=List.replicate (dX n).length 0++(l.take k).map (·.bits)∧(l.take k).all (okC n)=true)∧ ∀(k:Nat) (R:List (List Int)) (M:List Int),(k≤l.length∧R=dX n++(l.take k).map (oE n)∧M=List.replicate (dX n).length 0++(l.take k).map (·.bits)∧(l.take k).all (okC n)=true)→Lm aC l∧(((decide ((k:Int)<((l.length:Nat):Int)))=true→0≤(k:Int)∧Em aC l k fun e37=>iV e37.dst (1:Int) (((1:Int)*2^(Int.toNat n)) - (1:Int))∧(((!(decide ((1:Int)≤e37.dst∧e37.dst≤(((1:Int)*2^(Int.toNat n)) - (1:Int)))))=true→(false)=((eI l n).2)∧[]=(((eI l n).1).objective).map intD∧[]=(((eI l n).1).rows).map aA∧[]=(((eI l n).1).limits).map intD∧True)∧((!(decide ((1:Int)≤e37.dst∧e37.dst≤(((1:Int)*2^(Int.toNat n)) - (1:Int)))))=false→0≤(k:Int)∧Em aC l k fun e46=>iV e46.src (0:Int) (((1:Int)*2^(Int.toNat n)) - (1:Int))∧(((!(decide ((0:Int)≤e46.src∧e46.src≤(((1:Int)*2^(Int.toNat n)) - (1:Int)))))=true→(false)=((eI l n).2)∧[]=(((eI l n).1).objective).map intD∧[]=(((eI l n).1).rows).map aA∧[]=(((eI l n).1).limits).map intD∧True)∧((!(decide ((0:Int)≤e46.src∧e46.src≤(((1:Int)*2^(Int.toNat n)) - (1:Int)))))=false→0≤(k:Int)∧Em aC l k fun e56=>0≤(k:Int)∧Em aC l k fun e61=>0≤(k:Int)∧Em aC l k fun e67=>((!(decide ((cF .and .i64 e56.src e61.dst)=e67.src)))=true→(false)=((eI l n).2)∧[]=(((eI l n).1).objective).map intD∧[]=(((eI l n).1).rows).map aA∧[]=(((eI l n).1).limits).map intD∧True)∧((!(decide ((cF .and .i64 e56.src e61.dst)=e67.src)))=false→0≤(k:Int)∧Em aC l k fun e75=>0≤(k:Int)∧Em aC l k fun e80=>((decide (e75.src=e80.dst))=true→(false)=((eI l n).2)∧[]=(((eI l n).1).objective).map intD∧[]=(((eI l n).1).rows).map aA∧[]=(((eI l n).1).limits).map intD∧True)∧((decide (e75.src=e80.dst))=false→((decide ((64:Int)≤(k:Int)))=true→(false)=((eI l n).2)∧[]=(((eI l n).1).objective).map intD∧[]=(((eI l n).1).rows).map aA∧[]=(((eI l n).1).limits).map intD∧True)∧((decide ((64:Int)≤(k:Int)))=false→0≤(k:Int)∧Em aC l k fun e95=>0≤(k:Int)∧Em aC l k fun e101=>qD n ([e95.dst]:List Int) ([e101.src]:List Int)∧R.map aA=R.map aA∧(fF (eA n) ([e95.dst]:List Int) ([e101.src]:List Int)).map intD=(fF (eA n) ([e95.dst]:List Int) ([e101.src]:List Int)).map intD∧(R.length+1)*24≤140737488355328∧0≤(k:Int)∧Em aC l k fun e113=>M.map intD=M.map intD∧[[.int .i64 e113.bits]]=([e113.bits]:List Int).map intD∧(∀x,eL (intD x)=true)∧(M.length+([e113.bits]:List Int).length)*8≤140737488355328∧cC ((k:Int)+(1:Int))∧ ∃(k' :Nat) (R' :List (List Int)) (M' :List Int),((k:Int)+(1:Int))=(k' :Int)∧(R++[fF (eA n) ([e95.dst]:List Int) ([e101.src]:List Int)]).map aA=R'.map aA∧(M++[e113.bits]).map intD=M'.map intD∧(k' ≤l.length∧R' =dX n++(l.take k').map (oE n)∧M' =List.replicate (dX n).length 0++(l.take k').map (·.bits)∧(l.take k').all (okC n)=true)∧l.length - k' <l.length - k))))))))∧((decide ((k:Int)<((l.length:Nat):Int)))=false→sX (⟨fF (eA n) ([((1:Int)*2^(Int.toNat n)) - (1:Int)]:List Int) ([]:List Int),R,M⟩:cM)∧(((!(dD (⟨fF (eA n) ([((1:Int)*2^(Int.toNat n)) - (1:Int)]:List Int) ([]:List Int),R,M⟩:cM)))=true→(false)=((eI l n).2)∧[]=(((eI l n).1).objective).map intD∧[]=(((eI l n).1).rows).map aA∧[]=(((eI l n).1).limits).map intD∧True)∧((!(dD (⟨fF (eA n) ([((1:Int)*2^(Int.toNat n)) - (1:Int)]:List Int) ([]:List Int),R,M⟩:cM)))=false→(true)=((eI l n).2)∧(fF (eA n) ([((1:Int)*2^(Int.toNat n)) - (1:Int)]:List Int) ([]:List Int)).map intD=(((eI l n).1).objective).map intD∧R.map aA=(((eI l n).1).rows).map aA∧M.map intD=(((eI l n).1).limits).map intD∧True)))))))))))))) (by kernel_rfl) ?_
 intro n0
 simp only [List.length_map] at n0
 refine ⟨lX _ _ _,fun c0=>?_,fun c0=>?_⟩
 ·replace c0:=nq (nt c0)
  refine ⟨?_,?_,?_,?_,trivial⟩
  ·first | (rw [dA (by omega)]<;>rfl) | (rcases hbad with hbad | hbad;(rw [dB hk2 hbad]<;>rfl);(rw [bG (by have:=(List.getElem?_eq_some_iff.1 hk2).1;omega)]<;>rfl)) | (rw [hfin]<;>rfl) | (rw [hfin,cB,hR]<;>rfl) | (rw [hfin,cB,hM]<;>rfl)
  ·first | (rw [dA (by omega)]<;>rfl) | (rcases hbad with hbad | hbad;(rw [dB hk2 hbad]<;>rfl);(rw [bG (by have:=(List.getElem?_eq_some_iff.1 hk2).1;omega)]<;>rfl)) | (rw [hfin]<;>rfl) | (rw [hfin,cB,hR]<;>rfl) | (rw [hfin,cB,hM]<;>rfl)
  ·first | (rw [dA (by omega)]<;>rfl) | (rcases hbad with hbad | hbad;(rw [dB hk2 hbad]<;>rfl);(rw [bG (by have:=(List.getElem?_eq_some_iff.1 hk2).1;omega)]<;>rfl)) | (rw [hfin]<;>rfl) | (rw [hfin,cB,hR]<;>rfl) | (rw [hfin,cB,hM]<;>rfl)
  ·first | (rw [dA (by omega)]<;>rfl) | (rcases hbad with hbad | hbad;(rw [dB hk2 hbad]<;>rfl);(rw [bG (by have:=(List.getElem?_eq_some_iff.1 hk2).1;omega)]<;>rfl)) | (rw [hfin]<;>rfl) | (rw [hfin,cB,hR]<;>rfl) | (rw [hfin,cB,hM]<;>rfl)
 ·replace c0:=yq (nf c0)
  obtain ⟨b1,b2,b3⟩:=aAU (n:=n) (by omega)
  have hal:eA n=(1:Int)*2^n.toNat - 1:=rfl
  have hel:=aIz n
  refine ⟨⟨by omega,by omega⟩,by first | exact bK (by omega) | exact ⟨by omega,by omega⟩,by first | exact bK (by omega) | exact ⟨by omega,by omega⟩,aAV _ ([((1:Int)*2^(Int.toNat n)) - (1:Int)]:List Int) ([]:List Int) (by omega) (by first | exact aEi (by omega) | exact aEj (by omega) (by omega) | exact aL1) (by first | exact aEi (by omega) | exact aEj (by omega) (by omega) | exact aL1) (by simp) (by simp),aPD _,List.length_map _,rfl,rfl,by first | omega | (simp [hR,hM];omega) | (simp;omega),by first | omega | (simp [hR,hM];omega) | (simp;omega),by first | (rw [List.map_replicate];done) | (rw [List.map_replicate];rfl),⟨0,dX n,List.replicate ((dX n).length) (0:Int),rfl,rfl,rfl,Nat.zero_le _,by simp,by simp,rfl⟩,fun k R M ⟨hk,hR,hM,ha⟩=>?_⟩
  refine ⟨List.length_map _,fun c1=>?_,fun c1=>?_⟩
  ·replace c1:=yq c1
   refine ⟨by omega,rfl,by first | omega | (simp;omega),fun e37 h37=>?_⟩
   have hk2:=h37
   have hfc:=hf _ (List.mem_of_getElem? h37)
   have hfs:e37.src≤9223372036854775807:=hfc.1.2
   have hfd:e37.dst≤9223372036854775807:=hfc.2.1.2
   refine ⟨lX _ _ _,fun g43=>?_,fun g43=>?_⟩
   ·replace g43:=nq (nt g43)
    have hbad:okC n e37=false∨64≤k:=by by_cases hq:64≤k;(exact .inr hq);(refine .inl (vR ?_);rintro ⟨q1,q2,q3,q4⟩;have:=aBV (a:=e37.src) (c:=e37.dst) q2 (by omega) (by omega) (by omega);omega)
    refine ⟨?_,?_,?_,?_,trivial⟩
    ·first | (rw [dA (by omega)]<;>rfl) | (rcases hbad with hbad | hbad;(rw [dB hk2 hbad]<;>rfl);(rw [bG (by have:=(List.getElem?_eq_some_iff.1 hk2).1;omega)]<;>rfl)) | (rw [hfin]<;>rfl) | (rw [hfin,cB,hR]<;>rfl) | (rw [hfin,cB,hM]<;>rfl)
    ·first | (rw [dA (by omega)]<;>rfl) | (rcases hbad with hbad | hbad;(rw [dB hk2 hbad]<;>rfl);(rw [bG (by have:=(List.getElem?_eq_some_iff.1 hk2).1;omega)]<;>rfl)) | (rw [hfin]<;>rfl) | (rw [hfin,cB,hR]<;>rfl) | (rw [hfin,cB,hM]<;>rfl)
    ·first | (rw [dA (by omega)]<;>rfl) | (rcases hbad with hbad | hbad;(rw [dB hk2 hbad]<;>rfl);(rw [bG (by have:=(List.getElem?_eq_some_iff.1 hk2).1;omega)]<;>rfl)) | (rw [hfin]<;>rfl) | (rw [hfin,cB,hR]<;>rfl) | (rw [hfin,cB,hM]<;>rfl)
    ·first | (rw [dA (by omega)]<;>rfl) | (rcases hbad with hbad | hbad;(rw [dB hk2 hbad]<;>rfl);(rw [bG (by have:=(List.getElem?_eq_some_iff.1 hk2).1;omega)]<;>rfl)) | (rw [hfin]<;>rfl) | (rw [hfin,cB,hR]<;>rfl) | (rw [hfin,cB,hM]<;>rfl)
   ·replace g43:=yq (nf g43)
    refine ⟨by omega,rfl,by first | omega | (simp;omega),fun e46 h46=>?_⟩
    obtain rfl:=(aY hk2 h46).symm
    refine ⟨lX _ _ _,fun g53=>?_,fun g53=>?_⟩
    ·replace g53:=nq (nt g53)
     have hbad:okC n e37=false∨64≤k:=by by_cases hq:64≤k;(exact .inr hq);(refine .inl (vR ?_);rintro ⟨q1,q2,q3,q4⟩;have:=aBV (a:=e37.src) (c:=e37.dst) q2 (by omega) (by omega) (by omega);omega)
     refine ⟨?_,?_,?_,?_,trivial⟩
     ·first | (rw [dA (by omega)]<;>rfl) | (rcases hbad with hbad | hbad;(rw [dB hk2 hbad]<;>rfl);(rw [bG (by have:=(List.getElem?_eq_some_iff.1 hk2).1;omega)]<;>rfl)) | (rw [hfin]<;>rfl) | (rw [hfin,cB,hR]<;>rfl) | (rw [hfin,cB,hM]<;>rfl)
     ·first | (rw [dA (by omega)]<;>rfl) | (rcases hbad with hbad | hbad;(rw [dB hk2 hbad]<;>rfl);(rw [bG (by have:=(List.getElem?_eq_some_iff.1 hk2).1;omega)]<;>rfl)) | (rw [hfin]<;>rfl) | (rw [hfin,cB,hR]<;>rfl) | (rw [hfin,cB,hM]<;>rfl)
     ·first | (rw [dA (by omega)]<;>rfl) | (rcases hbad with hbad | hbad;(rw [dB hk2 hbad]<;>rfl);(rw [bG (by have:=(List.getElem?_eq_some_iff.1 hk2).1;omega)]<;>rfl)) | (rw [hfin]<;>rfl) | (rw [hfin,cB,hR]<;>rfl) | (rw [hfin,cB,hM]<;>rfl)
     ·first | (rw [dA (by omega)]<;>rfl) | (rcases hbad with hbad | hbad;(rw [dB hk2 hbad]<;>rfl);(rw [bG (by have:=(List.getElem?_eq_some_iff.1 hk2).1;omega)]<;>rfl)) | (rw [hfin]<;>rfl) | (rw [hfin,cB,hR]<;>rfl) | (rw [hfin,cB,hM]<;>rfl)
    ·replace g53:=yq (nf g53)
     refine ⟨by omega,rfl,by first | omega | (simp;omega),fun e56 h56=>?_⟩
     obtain rfl:=(aY hk2 h56).symm
     refine ⟨by omega,rfl,by first | omega | (simp;omega),fun e61 h61=>?_⟩
     obtain rfl:=(aY hk2 h61).symm
     refine ⟨by omega,rfl,by first | omega | (simp;omega),fun e67 h67=>?_⟩
     obtain rfl:=(aY hk2 h67).symm
     refine ⟨fun g72=>?_,fun g72=>?_⟩
     ·replace g72:=nq (nt g72)
      have hbad:okC n e37=false∨64≤k:=by by_cases hq:64≤k;(exact .inr hq);(refine .inl (vR ?_);rintro ⟨q1,q2,q3,q4⟩;have:=aBV (a:=e37.src) (c:=e37.dst) q2 (by omega) (by omega) (by omega);omega)
      refine ⟨?_,?_,?_,?_,trivial⟩
      ·first | (rw [dA (by omega)]<;>rfl) | (rcases hbad with hbad | hbad;(rw [dB hk2 hbad]<;>rfl);(rw [bG (by have:=(List.getElem?_eq_some_iff.1 hk2).1;omega)]<;>rfl)) | (rw [hfin]<;>rfl) | (rw [hfin,cB,hR]<;>rfl) | (rw [hfin,cB,hM]<;>rfl)
      ·first | (rw [dA (by omega)]<;>rfl) | (rcases hbad with hbad | hbad;(rw [dB hk2 hbad]<;>rfl);(rw [bG (by have:=(List.getElem?_eq_some_iff.1 hk2).1;omega)]<;>rfl)) | (rw [hfin]<;>rfl) | (rw [hfin,cB,hR]<;>rfl) | (rw [hfin,cB,hM]<;>rfl)
      ·first | (rw [dA (by omega)]<;>rfl) | (rcases hbad with hbad | hbad;(rw [dB hk2 hbad]<;>rfl);(rw [bG (by have:=(List.getElem?_eq_some_iff.1 hk2).1;omega)]<;>rfl)) | (rw [hfin]<;>rfl) | (rw [hfin,cB,hR]<;>rfl) | (rw [hfin,cB,hM]<;>rfl)
      ·first | (rw [dA (by omega)]<;>rfl) | (rcases hbad with hbad | hbad;(rw [dB hk2 hbad]<;>rfl);(rw [bG (by have:=(List.getElem?_eq_some_iff.1 hk2).1;omega)]<;>rfl)) | (rw [hfin]<;>rfl) | (rw [hfin,cB,hR]<;>rfl) | (rw [hfin,cB,hM]<;>rfl)
     ·replace g72:=yq (nf g72)
      refine ⟨by omega,rfl,by first | omega | (simp;omega),fun e75 h75=>?_⟩
      obtain rfl:=(aY hk2 h75).symm
      refine ⟨by omega,rfl,by first | omega | (simp;omega),fun e80 h80=>?_⟩
      obtain rfl:=(aY hk2 h80).symm
      refine ⟨fun g85=>?_,fun g85=>?_⟩
      ·replace g85:=yq g85
       have hbad:okC n e37=false∨64≤k:=by by_cases hq:64≤k;(exact .inr hq);(refine .inl (vR ?_);rintro ⟨q1,q2,q3,q4⟩;have:=aBV (a:=e37.src) (c:=e37.dst) q2 (by omega) (by omega) (by omega);omega)
       refine ⟨?_,?_,?_,?_,trivial⟩
       ·first | (rw [dA (by omega)]<;>rfl) | (rcases hbad with hbad | hbad;(rw [dB hk2 hbad]<;>rfl);(rw [bG (by have:=(List.getElem?_eq_some_iff.1 hk2).1;omega)]<;>rfl)) | (rw [hfin]<;>rfl) | (rw [hfin,cB,hR]<;>rfl) | (rw [hfin,cB,hM]<;>rfl)
       ·first | (rw [dA (by omega)]<;>rfl) | (rcases hbad with hbad | hbad;(rw [dB hk2 hbad]<;>rfl);(rw [bG (by have:=(List.getElem?_eq_some_iff.1 hk2).1;omega)]<;>rfl)) | (rw [hfin]<;>rfl) | (rw [hfin,cB,hR]<;>rfl) | (rw [hfin,cB,hM]<;>rfl)
       ·first | (rw [dA (by omega)]<;>rfl) | (rcases hbad with hbad | hbad;(rw [dB hk2 hbad]<;>rfl);(rw [bG (by have:=(List.getElem?_eq_some_iff.1 hk2).1;omega)]<;>rfl)) | (rw [hfin]<;>rfl) | (rw [hfin,cB,hR]<;>rfl) | (rw [hfin,cB,hM]<;>rfl)
       ·first | (rw [dA (by omega)]<;>rfl) | (rcases hbad with hbad | hbad;(rw [dB hk2 hbad]<;>rfl);(rw [bG (by have:=(List.getElem?_eq_some_iff.1 hk2).1;omega)]<;>rfl)) | (rw [hfin]<;>rfl) | (rw [hfin,cB,hR]<;>rfl) | (rw [hfin,cB,hM]<;>rfl)
      ·replace g85:=nq g85
       refine ⟨fun c2=>?_,fun c2=>?_⟩
       ·replace c2:=yq c2
        have hbad:okC n e37=false∨64≤k:=by by_cases hq:64≤k;(exact .inr hq);(refine .inl (vR ?_);rintro ⟨q1,q2,q3,q4⟩;have:=aBV (a:=e37.src) (c:=e37.dst) q2 (by omega) (by omega) (by omega);omega)
        refine ⟨?_,?_,?_,?_,trivial⟩
        ·first | (rw [dA (by omega)]<;>rfl) | (rcases hbad with hbad | hbad;(rw [dB hk2 hbad]<;>rfl);(rw [bG (by have:=(List.getElem?_eq_some_iff.1 hk2).1;omega)]<;>rfl)) | (rw [hfin]<;>rfl) | (rw [hfin,cB,hR]<;>rfl) | (rw [hfin,cB,hM]<;>rfl)
        ·first | (rw [dA (by omega)]<;>rfl) | (rcases hbad with hbad | hbad;(rw [dB hk2 hbad]<;>rfl);(rw [bG (by have:=(List.getElem?_eq_some_iff.1 hk2).1;omega)]<;>rfl)) | (rw [hfin]<;>rfl) | (rw [hfin,cB,hR]<;>rfl) | (rw [hfin,cB,hM]<;>rfl)
        ·first | (rw [dA (by omega)]<;>rfl) | (rcases hbad with hbad | hbad;(rw [dB hk2 hbad]<;>rfl);(rw [bG (by have:=(List.getElem?_eq_some_iff.1 hk2).1;omega)]<;>rfl)) | (rw [hfin]<;>rfl) | (rw [hfin,cB,hR]<;>rfl) | (rw [hfin,cB,hM]<;>rfl)
        ·first | (rw [dA (by omega)]<;>rfl) | (rcases hbad with hbad | hbad;(rw [dB hk2 hbad]<;>rfl);(rw [bG (by have:=(List.getElem?_eq_some_iff.1 hk2).1;omega)]<;>rfl)) | (rw [hfin]<;>rfl) | (rw [hfin,cB,hR]<;>rfl) | (rw [hfin,cB,hM]<;>rfl)
       ·replace c2:=nq c2
        have hle:=aBV (a:=e37.src) (c:=e37.dst) (by omega) (by omega) (by omega) (by omega)
        refine ⟨by omega,rfl,by first | omega | (simp;omega),fun e95 h95=>?_⟩
        have q95:=aY hk2 h95
        have r95:e95.src=e37.src∧e95.dst=e37.dst∧e95.bits=e37.bits:=by rw [q95];exact ⟨rfl,rfl,rfl⟩
        refine ⟨by omega,rfl,by first | omega | (simp;omega),fun e101 h101=>?_⟩
        have q101:=aY hk2 h101
        have r101:e101.src=e37.src∧e101.dst=e37.dst∧e101.bits=e37.bits:=by rw [q101];exact ⟨rfl,rfl,rfl⟩
        refine ⟨aAV _ ([e95.dst]:List Int) ([e101.src]:List Int) (by omega) (by first | exact aEi (by omega) | exact aEj (by omega) (by omega) | exact aL1) (by first | exact aEi (by omega) | exact aEj (by omega) (by omega) | exact aL1) (by simp) (by simp),rfl,rfl,by first | omega | (simp [hR,hM];omega) | (simp;omega),by omega,rfl,by first | omega | (simp;omega),fun e113 h113=>?_⟩
        have q113:=aY hk2 h113
        have r113:e113.src=e37.src∧e113.dst=e37.dst∧e113.bits=e37.bits:=by rw [q113];exact ⟨rfl,rfl,rfl⟩
        refine ⟨rfl,rfl,fun _=>rfl,by first | omega | (simp [hR,hM];omega) | (simp;omega),?_⟩
        refine ⟨by first | exact bK (by omega) | exact ⟨by omega,by omega⟩,?_⟩
        exact ⟨k+1,_,_,rfl,rfl,rfl,⟨by omega,by rw [hR,bO hk2,List.map_append,List.append_assoc,r95.2.1,r101.1];rfl,by rw [hM,bO hk2,List.map_append,List.append_assoc,r113.2.2];rfl,cR hk2 ha (aMd ⟨by omega,by omega,by omega,by omega⟩)⟩,by omega⟩
  ·replace c1:=nq c1
   have hkl:k=l.length:=by omega
   subst hkl
   rw [List.take_length] at hR hM ha
   refine ⟨aDY (⟨fF (eA n) ([((1:Int)*2^(Int.toNat n)) - (1:Int)]:List Int) ([]:List Int),R,M⟩:cM),fun c3=>?_,fun c3=>?_⟩
   ·replace c3:=nt c3
    have hfin:eI l n=(nW,false):=aMe (by rw [←c3,cB,hR,hM])
    refine ⟨?_,?_,?_,?_,trivial⟩
    ·first | (rw [dA (by omega)]<;>rfl) | (rcases hbad with hbad | hbad;(rw [dB hk2 hbad]<;>rfl);(rw [bG (by have:=(List.getElem?_eq_some_iff.1 hk2).1;omega)]<;>rfl)) | (rw [hfin]<;>rfl) | (rw [hfin,cB,hR]<;>rfl) | (rw [hfin,cB,hM]<;>rfl)
    ·first | (rw [dA (by omega)]<;>rfl) | (rcases hbad with hbad | hbad;(rw [dB hk2 hbad]<;>rfl);(rw [bG (by have:=(List.getElem?_eq_some_iff.1 hk2).1;omega)]<;>rfl)) | (rw [hfin]<;>rfl) | (rw [hfin,cB,hR]<;>rfl) | (rw [hfin,cB,hM]<;>rfl)
    ·first | (rw [dA (by omega)]<;>rfl) | (rcases hbad with hbad | hbad;(rw [dB hk2 hbad]<;>rfl);(rw [bG (by have:=(List.getElem?_eq_some_iff.1 hk2).1;omega)]<;>rfl)) | (rw [hfin]<;>rfl) | (rw [hfin,cB,hR]<;>rfl) | (rw [hfin,cB,hM]<;>rfl)
    ·first | (rw [dA (by omega)]<;>rfl) | (rcases hbad with hbad | hbad;(rw [dB hk2 hbad]<;>rfl);(rw [bG (by have:=(List.getElem?_eq_some_iff.1 hk2).1;omega)]<;>rfl)) | (rw [hfin]<;>rfl) | (rw [hfin,cB,hR]<;>rfl) | (rw [hfin,cB,hM]<;>rfl)
   ·replace c3:=nf c3
    have hfin:eI l n=(cB n l,true):=aL4 (by omega) ha (by rw [←c3,cB,hR,hM])
    refine ⟨?_,?_,?_,?_,trivial⟩
    ·first | (rw [dA (by omega)]<;>rfl) | (rcases hbad with hbad | hbad;(rw [dB hk2 hbad]<;>rfl);(rw [bG (by have:=(List.getElem?_eq_some_iff.1 hk2).1;omega)]<;>rfl)) | (rw [hfin]<;>rfl) | (rw [hfin,cB,hR]<;>rfl) | (rw [hfin,cB,hM]<;>rfl)
    ·first | (rw [dA (by omega)]<;>rfl) | (rcases hbad with hbad | hbad;(rw [dB hk2 hbad]<;>rfl);(rw [bG (by have:=(List.getElem?_eq_some_iff.1 hk2).1;omega)]<;>rfl)) | (rw [hfin]<;>rfl) | (rw [hfin,cB,hR]<;>rfl) | (rw [hfin,cB,hM]<;>rfl)
    ·first | (rw [dA (by omega)]<;>rfl) | (rcases hbad with hbad | hbad;(rw [dB hk2 hbad]<;>rfl);(rw [bG (by have:=(List.getElem?_eq_some_iff.1 hk2).1;omega)]<;>rfl)) | (rw [hfin]<;>rfl) | (rw [hfin,cB,hR]<;>rfl) | (rw [hfin,cB,hM]<;>rfl)
    ·first | (rw [dA (by omega)]<;>rfl) | (rcases hbad with hbad | hbad;(rw [dB hk2 hbad]<;>rfl);(rw [bG (by have:=(List.getElem?_eq_some_iff.1 hk2).1;omega)]<;>rfl)) | (rw [hfin]<;>rfl) | (rw [hfin,cB,hR]<;>rfl) | (rw [hfin,cB,hM]<;>rfl)
theorem aSw (s:StoreD) (q:QueryD) (m:Int): ∀r∈(fO s q m).1.rows,r.length≤1048576:=by
 intro r hr
 have h1:=aMj s q m
 have e1:xT (fO s q m).1=cG (fO s q m).1.objective+cX (fO s q m).1.rows+cG (fO s q m).1.limits:=rfl
 obtain ⟨k,hk⟩:=List.getElem?_of_mem hr
 have h2:=nC hk
 have e:cG r=r.length:=rfl
 omega
abbrev zC (s:StoreD) (q:QueryD) (m:Int):AV × List (Nat × Rs):=(.tup [.agg [.own 0,.own 1,.own 2],.own 3,vB ((fO s q m).2)],[(0,.arr 3 1 true ((((fO s q m).1).objective).map intD)),(1,.arr 39 1 true ((((fO s q m).1).rows).map aA)),(2,.arr 3 1 true ((((fO s q m).1).limits).map intD)),(3,.arr 164 3 true ((dI s q m).map aC))])
abbrev aEW (s:StoreD) (q:QueryD) (m:Int):Prop:=cT Tryz.prog 39 [.agg [.sl 167 3 (s.database.tables.map aR),.int .i64 s.catalogue.version,.sl 161 4 (s.catalogue.tables.map aE),.sl 131 3 (s.dependencies.map aM),.sl 133 4 (s.inclusions.map aQ)],.agg [.int .i64 q.variableCount,.sl 135 2 (q.atoms.map bH)],.one (.int .i64 m)] (zC s q m).1 (zC s q m).2
theorem aPF (s:StoreD) (q:QueryD) (m:Int) (hc:eG s≤1048576) (hcq:iJ q≤1048576):aEW s q m:=by
 refine aT bE aL Tryz.func39 (by kernel_rfl) (bV (vN s q m)<| .len ((dI s q m).length)<| .br (.fin []) (bV (yU q m)<| bV (aBR (dI s q m) (eT q m))<| .len ((eT q m).length)<| bV (aB2 ((dI s q m).map (mQ (eT q m))) (((eT q m).length:Nat):Int))<| .fin [(0,3000),(1,3001),(2,3002),(3,1600)])) (p:=(s.database.tables.map aR).length≤9223372036854775807→(s.catalogue.tables.map aE).length≤9223372036854775807→(s.dependencies.map aM).length≤9223372036854775807→(s.inclusions.map aQ).length≤9223372036854775807→(q.atoms.map bH).length≤9223372036854775807→aC7 s q m∧(Lm aC (dI s q m)∧(((decide ((((dI s q m).length:Nat):Int)=(0:Int)))=true→(false)=((fO s q m).2)∧[]=(((fO s q m).1).objective).map intD∧[]=(((fO s q m).1).rows).map aA∧[]=(((fO s q m).1).limits).map intD∧[]=(dI s q m).map aC∧True)∧((decide ((((dI s q m).length:Nat):Int)=(0:Int)))=false→aEK q m∧aGs (dI s q m) (eT q m)∧Lm intD (eT q m)∧aHD ((dI s q m).map (mQ (eT q m))) (((eT q m).length:Nat):Int)∧((eI ((dI s q m).map (mQ (eT q m))) (((eT q m).length:Nat):Int)).2)=((fO s q m).2)∧(((eI ((dI s q m).map (mQ (eT q m))) (((eT q m).length:Nat):Int)).1).objective).map intD=(((fO s q m).1).objective).map intD∧(((eI ((dI s q m).map (mQ (eT q m))) (((eT q m).length:Nat):Int)).1).rows).map aA=(((fO s q m).1).rows).map aA∧(((eI ((dI s q m).map (mQ (eT q m))) (((eT q m).length:Nat):Int)).1).limits).map intD=(((fO s q m).1).limits).map intD∧(dI s q m).map aC=(dI s q m).map aC∧True)))) (by kernel_rfl) ?_
 intro n0 n1 n2 n3 n4
 simp only [List.length_map] at n0 n1 n2 n3 n4
 have hS:eG s=bN s.database+bT s.catalogue+cH s.dependencies+dL s.inclusions:=rfl
 have hI:=fP s.inclusions
 have hQ:iJ q=kY q.atoms:=rfl
 have hql:=aIw s q m
 have hff:=aL8 (s:=s) (q:=q) (m:=m) (eT q m)
 have hq28:((dI s q m).map (mQ (eT q m))).length≤28:=by rw [List.length_map];exact hql
 refine ⟨aM9 s q m (by omega) (by omega),List.length_map _,fun c0=>?_,fun c0=>?_⟩
 ·replace c0:=yq c0
  refine ⟨?_,?_,?_,?_,?_,trivial⟩
  ·first | (rw [kC (by omega)]<;>rfl) | (rw [iN (by omega)]<;>rfl) | (rw [List.eq_nil_of_length_eq_zero (show (dI s q m).length=0 by omega)];rfl)
  ·first | (rw [kC (by omega)]<;>rfl) | (rw [iN (by omega)]<;>rfl) | (rw [List.eq_nil_of_length_eq_zero (show (dI s q m).length=0 by omega)];rfl)
  ·first | (rw [kC (by omega)]<;>rfl) | (rw [iN (by omega)]<;>rfl) | (rw [List.eq_nil_of_length_eq_zero (show (dI s q m).length=0 by omega)];rfl)
  ·first | (rw [kC (by omega)]<;>rfl) | (rw [iN (by omega)]<;>rfl) | (rw [List.eq_nil_of_length_eq_zero (show (dI s q m).length=0 by omega)];rfl)
  ·first | (rw [kC (by omega)]<;>rfl) | (rw [iN (by omega)]<;>rfl) | (rw [List.eq_nil_of_length_eq_zero (show (dI s q m).length=0 by omega)];rfl)
 ·replace c0:=nq c0
  refine ⟨aOx _ m,aRZ _ _ (by omega),List.length_map _,aRb ((dI s q m).map (mQ (eT q m))) (((eT q m).length:Nat):Int) (by omega) (by assumption),?_,?_,?_,?_,rfl,trivial⟩
  ·first | (rw [kC (by omega)]<;>rfl) | (rw [iN (by omega)]<;>rfl) | (rw [List.eq_nil_of_length_eq_zero (show (dI s q m).length=0 by omega)];rfl)
  ·first | (rw [kC (by omega)]<;>rfl) | (rw [iN (by omega)]<;>rfl) | (rw [List.eq_nil_of_length_eq_zero (show (dI s q m).length=0 by omega)];rfl)
  ·first | (rw [kC (by omega)]<;>rfl) | (rw [iN (by omega)]<;>rfl) | (rw [List.eq_nil_of_length_eq_zero (show (dI s q m).length=0 by omega)];rfl)
  ·first | (rw [kC (by omega)]<;>rfl) | (rw [iN (by omega)]<;>rfl) | (rw [List.eq_nil_of_length_eq_zero (show (dI s q m).length=0 by omega)];rfl)
abbrev zD (s:StoreD) (q:QueryD) (m:Int):AV × List (Nat × Rs):=(.tup [.agg [.own 0,.own 1,.own 2],vB ((fO s q m).2)],[(0,.arr 3 1 true ((((fO s q m).1).objective).map intD)),(1,.arr 39 1 true ((((fO s q m).1).rows).map aA)),(2,.arr 3 1 true ((((fO s q m).1).limits).map intD))])
abbrev aEX (s:StoreD) (q:QueryD) (m:Int):Prop:=cT Tryz.prog 30 [.agg [.sl 167 3 (s.database.tables.map aR),.int .i64 s.catalogue.version,.sl 161 4 (s.catalogue.tables.map aE),.sl 131 3 (s.dependencies.map aM),.sl 133 4 (s.inclusions.map aQ)],.agg [.int .i64 q.variableCount,.sl 135 2 (q.atoms.map bH)],.one (.int .i64 m)] (zD s q m).1 (zD s q m).2
theorem aPG (s:StoreD) (q:QueryD) (m:Int) (hc:eG s≤1048576) (hcq:iJ q≤1048576):aEX s q m:=by
 refine aT bE aL Tryz.func30 (by kernel_rfl) (bV (vO s q m)<| .len ((dI s q m).length)<| .br (.fin []) (bV (yV q m)<| bV (aBS (dI s q m) (eT q m))<| .len ((eT q m).length)<| bV (aB3 ((dI s q m).map (mQ (eT q m))) (((eT q m).length:Nat):Int))<| .fin [(0,2900),(1,2901),(2,2902)])) (p:=(s.database.tables.map aR).length≤9223372036854775807→(s.catalogue.tables.map aE).length≤9223372036854775807→(s.dependencies.map aM).length≤9223372036854775807→(s.inclusions.map aQ).length≤9223372036854775807→(q.atoms.map bH).length≤9223372036854775807→aC8 s q m∧(Lm aC (dI s q m)∧(((decide ((((dI s q m).length:Nat):Int)=(0:Int)))=true→(false)=((fO s q m).2)∧[]=(((fO s q m).1).objective).map intD∧[]=(((fO s q m).1).rows).map aA∧[]=(((fO s q m).1).limits).map intD∧True)∧((decide ((((dI s q m).length:Nat):Int)=(0:Int)))=false→aEL q m∧aGt (dI s q m) (eT q m)∧Lm intD (eT q m)∧aHE ((dI s q m).map (mQ (eT q m))) (((eT q m).length:Nat):Int)∧((eI ((dI s q m).map (mQ (eT q m))) (((eT q m).length:Nat):Int)).2)=((fO s q m).2)∧(((eI ((dI s q m).map (mQ (eT q m))) (((eT q m).length:Nat):Int)).1).objective).map intD=(((fO s q m).1).objective).map intD∧(((eI ((dI s q m).map (mQ (eT q m))) (((eT q m).length:Nat):Int)).1).rows).map aA=(((fO s q m).1).rows).map aA∧(((eI ((dI s q m).map (mQ (eT q m))) (((eT q m).length:Nat):Int)).1).limits).map intD=(((fO s q m).1).limits).map intD∧True)))) (by kernel_rfl) ?_
 intro n0 n1 n2 n3 n4
 simp only [List.length_map] at n0 n1 n2 n3 n4
 have hS:eG s=bN s.database+bT s.catalogue+cH s.dependencies+dL s.inclusions:=rfl
 have hI:=fP s.inclusions
 have hQ:iJ q=kY q.atoms:=rfl
 have hql:=aIw s q m
 have hff:=aL8 (s:=s) (q:=q) (m:=m) (eT q m)
 have hq28:((dI s q m).map (mQ (eT q m))).length≤28:=by rw [List.length_map];exact hql
 refine ⟨aMa s q m (by omega) (by omega),List.length_map _,fun c0=>?_,fun c0=>?_⟩
 ·replace c0:=yq c0
  refine ⟨?_,?_,?_,?_,trivial⟩
  ·first | (rw [kC (by omega)]<;>rfl) | (rw [iN (by omega)]<;>rfl) | (rw [List.eq_nil_of_length_eq_zero (show (dI s q m).length=0 by omega)];rfl)
  ·first | (rw [kC (by omega)]<;>rfl) | (rw [iN (by omega)]<;>rfl) | (rw [List.eq_nil_of_length_eq_zero (show (dI s q m).length=0 by omega)];rfl)
  ·first | (rw [kC (by omega)]<;>rfl) | (rw [iN (by omega)]<;>rfl) | (rw [List.eq_nil_of_length_eq_zero (show (dI s q m).length=0 by omega)];rfl)
  ·first | (rw [kC (by omega)]<;>rfl) | (rw [iN (by omega)]<;>rfl) | (rw [List.eq_nil_of_length_eq_zero (show (dI s q m).length=0 by omega)];rfl)
 ·replace c0:=nq c0
  refine ⟨aOy _ m,aR0 _ _ (by omega),List.length_map _,aRc ((dI s q m).map (mQ (eT q m))) (((eT q m).length:Nat):Int) (by omega) (by assumption),?_,?_,?_,?_,trivial⟩
  ·first | (rw [kC (by omega)]<;>rfl) | (rw [iN (by omega)]<;>rfl) | (rw [List.eq_nil_of_length_eq_zero (show (dI s q m).length=0 by omega)];rfl)
  ·first | (rw [kC (by omega)]<;>rfl) | (rw [iN (by omega)]<;>rfl) | (rw [List.eq_nil_of_length_eq_zero (show (dI s q m).length=0 by omega)];rfl)
  ·first | (rw [kC (by omega)]<;>rfl) | (rw [iN (by omega)]<;>rfl) | (rw [List.eq_nil_of_length_eq_zero (show (dI s q m).length=0 by omega)];rfl)
  ·first | (rw [kC (by omega)]<;>rfl) | (rw [iN (by omega)]<;>rfl) | (rw [List.eq_nil_of_length_eq_zero (show (dI s q m).length=0 by omega)];rfl)
abbrev aAY (n:Int):Prop:=cT Tryz.prog 100 [.one (.int .i64 n)] (.agg [vI ((bF n).num),vI ((bF n).den)]) []
theorem aJn (n:Int):aAY n:=by
 refine aT bE aL Tryz.func100 (by kernel_rfl) (.fin []) (p:=n=((bF n).num)∧(1:Int)=((bF n).den)∧True) (by kernel_rfl) ?_
 refine ⟨?_,?_,trivial⟩
 ·rfl
 ·rfl
abbrev aAZ (n:Int):Prop:=cT Tryz.prog 95 [.one (.int .i64 n)] (.agg [vI ((bF n).num),vI ((bF n).den)]) []
theorem aJo (n:Int):aAZ n:=by
 refine aT bE aL Tryz.func95 (by kernel_rfl) (.fin []) (p:=n=((bF n).num)∧(1:Int)=((bF n).den)∧True) (by kernel_rfl) ?_
 refine ⟨?_,?_,trivial⟩
 ·rfl
 ·rfl
abbrev sZ (l:List Int) (xs:List RationalD):AV × List (Nat × Rs):=(.tup [.agg [vI (((iF l xs).1).num),vI (((iF l xs).1).den)],vB ((iF l xs).2)],[])
abbrev zE (l:List Int) (xs:List RationalD):Prop:=cT Tryz.prog 99 [.one (.sl 3 1 (l.map intD)),.one (.sl 70 2 (xs.map aU))] (sZ l xs).1 (sZ l xs).2
theorem aJB (l:List Int) (xs:List RationalD):zE l xs:=by
 refine aT bE aL Tryz.func99 (by kernel_rfl) (.call (.agg [vI ((bF (0:Int)).num),vI ((bF (0:Int)).den)]) []<| .len l.length<| .len xs.length<| .br (.fin []) (.len l.length<| .loop (Nat × RationalD) (Q2 Nat RationalD) [7,8,9,10,11,12,22,23,24,25,26,27,28,29,30,31,32,33,34,35,36,37,38,39,40,41,42,43,44,45,46,47,48,50,51] [600,900,1100] (fun yy0=>[(22,vI (yy0.1:Int))]) (fun yy0=>[(600,some (.box 70 [vI yy0.2.num,vI yy0.2.den]))]) (fun yy0=>yy0.1≤l.length∧iH (l.drop yy0.1) (xs.drop yy0.1) yy0.2=iH l xs (bF 0)) (fun yy0=>l.length - yy0.1) (fun yy0=> .br (.elem _ intD l (fun e25=> .call (.agg [vI ((bF e25).num),vI ((bF e25).den)]) []<| .elem _ aU xs (fun e32=>bV (aBX (bF e25) e32)<| bV (aBW yy0.2 ((dQ (bF e25) e32).1))<| .br (.fin []) (.lit<| .lit<| .br (.fin []) (.back [(600,600)]))))) (.fin [])))) (p:=(l.map intD).length≤9223372036854775807→(xs.map aU).length≤9223372036854775807→aAY (0:Int)∧(Lm intD l∧(Lm aU xs∧(((!(decide (((l.length:Nat):Int)=((xs.length:Nat):Int))))=true→(0:Int)=(((iF l xs).1).num)∧(0:Int)=(((iF l xs).1).den)∧(false)=((iF l xs).2)∧True)∧((!(decide (((l.length:Nat):Int)=((xs.length:Nat):Int))))=false→Lm intD l∧((∃(k:Nat) (s:RationalD),(0:Int)=(k:Int)∧((bF (0:Int)).num)=s.num∧((bF (0:Int)).den)=s.den∧k≤l.length∧iH (l.drop k) (xs.drop k) s=iH l xs (bF 0))∧ ∀(k:Nat) (s:RationalD),(k≤l.length∧iH (l.drop k) (xs.drop k) s=iH l xs (bF 0))→((decide ((k:Int)<((l.length:Nat):Int)))=true→0≤(k:Int)∧Em intD l k fun e25=>aAY e25∧(0≤(k:Int)∧Em aU xs k fun e32=>aGz (bF e25) e32∧(aGy s ((dQ (bF e25) e32).1)∧(((!((dQ (bF e25) e32).2))=true→(0:Int)=(((iF l xs).1).num)∧(0:Int)=(((iF l xs).1).den)∧(false)=((iF l xs).2)∧True)∧((!((dQ (bF e25) e32).2))=false→((!((eH s ((dQ (bF e25) e32).1)).2))=true→(0:Int)=(((iF l xs).1).num)∧(0:Int)=(((iF l xs).1).den)∧(false)=((iF l xs).2)∧True)∧((!((eH s ((dQ (bF e25) e32).1)).2))=false→cC ((k:Int)+(1:Int))∧ ∃(k' :Nat) (s' :RationalD),((k:Int)+(1:Int))=(k' :Int)∧(((eH s ((dQ (bF e25) e32).1)).1).num)=s'.num∧(((eH s ((dQ (bF e25) e32).1)).1).den)=s'.den∧(k' ≤l.length∧iH (l.drop k') (xs.drop k') s' =iH l xs (bF 0))∧l.length - k' <l.length - k))))))∧((decide ((k:Int)<((l.length:Nat):Int)))=false→s.num=(((iF l xs).1).num)∧s.den=(((iF l xs).1).den)∧(true)=((iF l xs).2)∧True))))))) (by kernel_rfl) ?_
 intro n0 n1
 simp only [List.length_map] at n0 n1
 refine ⟨aJn (0:Int),List.length_map _,List.length_map _,fun c0=>?_,fun c0=>?_⟩
 ·replace c0:=nq (nt c0)
  refine ⟨?_,?_,?_,trivial⟩
  ·first | (rw [gE (by omega)]<;>rfl) | (rw [bZ (by omega),←hd,cY h25 h32 (.inl g45)]<;>rfl) | (rw [bZ (by omega),←hd,cY h25 h32 (.inr c2)]<;>rfl) | (rw [bZ (by omega),←hd,eP (by omega)]<;>rfl)
  ·first | (rw [gE (by omega)]<;>rfl) | (rw [bZ (by omega),←hd,cY h25 h32 (.inl g45)]<;>rfl) | (rw [bZ (by omega),←hd,cY h25 h32 (.inr c2)]<;>rfl) | (rw [bZ (by omega),←hd,eP (by omega)]<;>rfl)
  ·first | (rw [gE (by omega)]<;>rfl) | (rw [bZ (by omega),←hd,cY h25 h32 (.inl g45)]<;>rfl) | (rw [bZ (by omega),←hd,cY h25 h32 (.inr c2)]<;>rfl) | (rw [bZ (by omega),←hd,eP (by omega)]<;>rfl)
 ·replace c0:=yq (nf c0)
  refine ⟨List.length_map _,⟨0,bF 0,rfl,rfl,rfl,Nat.zero_le _,rfl⟩,fun k s ⟨hk,hd⟩=>?_⟩
  refine ⟨fun c1=>?_,fun c1=>?_⟩
  ·replace c1:=yq c1
   refine ⟨by omega,rfl,by omega,fun e25 h25=>?_⟩
   refine ⟨aJn e25,by omega,rfl,by omega,fun e32 h32=>?_⟩
   refine ⟨aR8 (bF e25) e32,aR7 s ((dQ (bF e25) e32).1),fun g45=>?_,fun g45=>?_⟩
   ·replace g45:=nt g45
    refine ⟨?_,?_,?_,trivial⟩
    ·first | (rw [gE (by omega)]<;>rfl) | (rw [bZ (by omega),←hd,cY h25 h32 (.inl g45)]<;>rfl) | (rw [bZ (by omega),←hd,cY h25 h32 (.inr c2)]<;>rfl) | (rw [bZ (by omega),←hd,eP (by omega)]<;>rfl)
    ·first | (rw [gE (by omega)]<;>rfl) | (rw [bZ (by omega),←hd,cY h25 h32 (.inl g45)]<;>rfl) | (rw [bZ (by omega),←hd,cY h25 h32 (.inr c2)]<;>rfl) | (rw [bZ (by omega),←hd,eP (by omega)]<;>rfl)
    ·first | (rw [gE (by omega)]<;>rfl) | (rw [bZ (by omega),←hd,cY h25 h32 (.inl g45)]<;>rfl) | (rw [bZ (by omega),←hd,cY h25 h32 (.inr c2)]<;>rfl) | (rw [bZ (by omega),←hd,eP (by omega)]<;>rfl)
   ·replace g45:=nf g45
    refine ⟨fun c2=>?_,fun c2=>?_⟩
    ·replace c2:=nt c2
     refine ⟨?_,?_,?_,trivial⟩
     ·first | (rw [gE (by omega)]<;>rfl) | (rw [bZ (by omega),←hd,cY h25 h32 (.inl g45)]<;>rfl) | (rw [bZ (by omega),←hd,cY h25 h32 (.inr c2)]<;>rfl) | (rw [bZ (by omega),←hd,eP (by omega)]<;>rfl)
     ·first | (rw [gE (by omega)]<;>rfl) | (rw [bZ (by omega),←hd,cY h25 h32 (.inl g45)]<;>rfl) | (rw [bZ (by omega),←hd,cY h25 h32 (.inr c2)]<;>rfl) | (rw [bZ (by omega),←hd,eP (by omega)]<;>rfl)
     ·first | (rw [gE (by omega)]<;>rfl) | (rw [bZ (by omega),←hd,cY h25 h32 (.inl g45)]<;>rfl) | (rw [bZ (by omega),←hd,cY h25 h32 (.inr c2)]<;>rfl) | (rw [bZ (by omega),←hd,eP (by omega)]<;>rfl)
    ·replace c2:=nf c2
     refine ⟨⟨by omega,by omega⟩,?_⟩
     exact ⟨k+1,(eH s (dQ (bF e25) e32).1).1,rfl,rfl,rfl,⟨by omega,by rw [←hd,aL7 h25 h32 g45 c2]⟩,by omega⟩
  ·replace c1:=nq c1
   refine ⟨?_,?_,?_,trivial⟩
   ·first | (rw [gE (by omega)]<;>rfl) | (rw [bZ (by omega),←hd,cY h25 h32 (.inl g45)]<;>rfl) | (rw [bZ (by omega),←hd,cY h25 h32 (.inr c2)]<;>rfl) | (rw [bZ (by omega),←hd,eP (by omega)]<;>rfl)
   ·first | (rw [gE (by omega)]<;>rfl) | (rw [bZ (by omega),←hd,cY h25 h32 (.inl g45)]<;>rfl) | (rw [bZ (by omega),←hd,cY h25 h32 (.inr c2)]<;>rfl) | (rw [bZ (by omega),←hd,eP (by omega)]<;>rfl)
   ·first | (rw [gE (by omega)]<;>rfl) | (rw [bZ (by omega),←hd,cY h25 h32 (.inl g45)]<;>rfl) | (rw [bZ (by omega),←hd,cY h25 h32 (.inr c2)]<;>rfl) | (rw [bZ (by omega),←hd,eP (by omega)]<;>rfl)
abbrev vS (l:List Int) (xs:List RationalD):AV × List (Nat × Rs):=(.tup [.agg [vI (((iH l xs (bF 0)).1).num),vI (((iH l xs (bF 0)).1).den)],vB ((iH l xs (bF 0)).2)],[])
abbrev aB4 (l:List Int) (xs:List RationalD):Prop:=cT Tryz.prog 92 [.one (.sl 3 1 (l.map intD)),.one (.sl 70 2 (xs.map aU))] (vS l xs).1 (vS l xs).2
theorem aL9 (l:List Int) (xs:List RationalD):aB4 l xs:=by
 refine aT bE aL Tryz.func92 (by kernel_rfl) (.call (.agg [vI ((bF (0:Int)).num),vI ((bF (0:Int)).den)]) []<| .loop (Nat × RationalD) (Q2 Nat RationalD) [7,8,9,10,11,13,14,15,16,17,18,19,20,21,22,23,24,25,26,27,28,29,30,31,32,33,34,35,36,37,38,39,40,41,42,43,44,45,46,47,48,49,51] [600,800,1000] (fun yy0=>[(7,vI (yy0.1:Int))]) (fun yy0=>[(600,some (.box 70 [vI yy0.2.num,vI yy0.2.den]))]) (fun yy0=>yy0.1≤l.length∧iH (l.drop yy0.1) (xs.drop yy0.1) yy0.2=iH l xs (bF 0)) (fun yy0=>l.length - yy0.1) (fun yy0=> .len l.length<| .br (.len xs.length<| .lit<| .lit<| .br (.elem _ intD l (fun e28=> .call (.agg [vI ((bF e28).num),vI ((bF e28).den)]) []<| .elem _ aU xs (fun e33=>bV (aBZ (bF e28) e33)<| bV (aBY yy0.2 ((dQ (bF e28) e33).1))<| .br (.fin []) (.lit<| .lit<| .br (.fin []) (.back [(600,600)]))))) (.fin [])) (.fin []))) (p:=(l.map intD).length≤9223372036854775807→(xs.map aU).length≤9223372036854775807→aAZ (0:Int)∧((∃(k:Nat) (s:RationalD),(0:Int)=(k:Int)∧((bF (0:Int)).num)=s.num∧((bF (0:Int)).den)=s.den∧k≤l.length∧iH (l.drop k) (xs.drop k) s=iH l xs (bF 0))∧ ∀(k:Nat) (s:RationalD),(k≤l.length∧iH (l.drop k) (xs.drop k) s=iH l xs (bF 0))→Lm intD l∧(((decide ((k:Int)<((l.length:Nat):Int)))=true→Lm aU xs∧(((decide ((k:Int)<((xs.length:Nat):Int)))=true→0≤(k:Int)∧Em intD l k fun e28=>aAZ e28∧(0≤(k:Int)∧Em aU xs k fun e33=>aHB (bF e28) e33∧(aHA s ((dQ (bF e28) e33).1)∧(((!((dQ (bF e28) e33).2))=true→(0:Int)=(((iH l xs (bF 0)).1).num)∧(0:Int)=(((iH l xs (bF 0)).1).den)∧(false)=((iH l xs (bF 0)).2)∧True)∧((!((dQ (bF e28) e33).2))=false→((!((eH s ((dQ (bF e28) e33).1)).2))=true→(0:Int)=(((iH l xs (bF 0)).1).num)∧(0:Int)=(((iH l xs (bF 0)).1).den)∧(false)=((iH l xs (bF 0)).2)∧True)∧((!((eH s ((dQ (bF e28) e33).1)).2))=false→cC ((k:Int)+(1:Int))∧ ∃(k' :Nat) (s' :RationalD),((k:Int)+(1:Int))=(k' :Int)∧(((eH s ((dQ (bF e28) e33).1)).1).num)=s'.num∧(((eH s ((dQ (bF e28) e33).1)).1).den)=s'.den∧(k' ≤l.length∧iH (l.drop k') (xs.drop k') s' =iH l xs (bF 0))∧l.length - k' <l.length - k))))))∧((decide ((k:Int)<((xs.length:Nat):Int)))=false→s.num=(((iH l xs (bF 0)).1).num)∧s.den=(((iH l xs (bF 0)).1).den)∧(true)=((iH l xs (bF 0)).2)∧True)))∧((decide ((k:Int)<((l.length:Nat):Int)))=false→s.num=(((iH l xs (bF 0)).1).num)∧s.den=(((iH l xs (bF 0)).1).den)∧(true)=((iH l xs (bF 0)).2)∧True)))) (by kernel_rfl) ?_
 intro n0 n1
 simp only [List.length_map] at n0 n1
 refine ⟨aJo (0:Int),⟨0,bF 0,rfl,rfl,rfl,Nat.zero_le _,rfl⟩,fun k s ⟨hk,hd⟩=>?_⟩
 refine ⟨List.length_map _,fun g17=>?_,fun g17=>?_⟩
 ·replace g17:=yq g17
  refine ⟨List.length_map _,fun c0=>?_,fun c0=>?_⟩
  ·replace c0:=yq c0
   refine ⟨by omega,rfl,by omega,fun e28 h28=>?_⟩
   refine ⟨aJo e28,by omega,rfl,by omega,fun e33 h33=>?_⟩
   refine ⟨aRa (bF e28) e33,aR9 s ((dQ (bF e28) e33).1),fun g46=>?_,fun g46=>?_⟩
   ·replace g46:=nt g46
    refine ⟨?_,?_,?_,trivial⟩
    ·first | (rw [←hd,cY h28 h33 (.inl g46)]<;>rfl) | (rw [←hd,cY h28 h33 (.inr c1)]<;>rfl) | (rw [←hd,eP (by omega)]<;>rfl)
    ·first | (rw [←hd,cY h28 h33 (.inl g46)]<;>rfl) | (rw [←hd,cY h28 h33 (.inr c1)]<;>rfl) | (rw [←hd,eP (by omega)]<;>rfl)
    ·first | (rw [←hd,cY h28 h33 (.inl g46)]<;>rfl) | (rw [←hd,cY h28 h33 (.inr c1)]<;>rfl) | (rw [←hd,eP (by omega)]<;>rfl)
   ·replace g46:=nf g46
    refine ⟨fun c1=>?_,fun c1=>?_⟩
    ·replace c1:=nt c1
     refine ⟨?_,?_,?_,trivial⟩
     ·first | (rw [←hd,cY h28 h33 (.inl g46)]<;>rfl) | (rw [←hd,cY h28 h33 (.inr c1)]<;>rfl) | (rw [←hd,eP (by omega)]<;>rfl)
     ·first | (rw [←hd,cY h28 h33 (.inl g46)]<;>rfl) | (rw [←hd,cY h28 h33 (.inr c1)]<;>rfl) | (rw [←hd,eP (by omega)]<;>rfl)
     ·first | (rw [←hd,cY h28 h33 (.inl g46)]<;>rfl) | (rw [←hd,cY h28 h33 (.inr c1)]<;>rfl) | (rw [←hd,eP (by omega)]<;>rfl)
    ·replace c1:=nf c1
     refine ⟨⟨by omega,by omega⟩,?_⟩
     exact ⟨k+1,(eH s (dQ (bF e28) e33).1).1,rfl,rfl,rfl,⟨by omega,by rw [←hd,aL7 h28 h33 g46 c1]⟩,by omega⟩
  ·replace c0:=nq c0
   refine ⟨?_,?_,?_,trivial⟩
   ·first | (rw [←hd,cY h28 h33 (.inl g46)]<;>rfl) | (rw [←hd,cY h28 h33 (.inr c1)]<;>rfl) | (rw [←hd,eP (by omega)]<;>rfl)
   ·first | (rw [←hd,cY h28 h33 (.inl g46)]<;>rfl) | (rw [←hd,cY h28 h33 (.inr c1)]<;>rfl) | (rw [←hd,eP (by omega)]<;>rfl)
   ·first | (rw [←hd,cY h28 h33 (.inl g46)]<;>rfl) | (rw [←hd,cY h28 h33 (.inr c1)]<;>rfl) | (rw [←hd,eP (by omega)]<;>rfl)
 ·replace g17:=nq g17
  refine ⟨?_,?_,?_,trivial⟩
  ·first | (rw [←hd,cY h28 h33 (.inl g46)]<;>rfl) | (rw [←hd,cY h28 h33 (.inr c1)]<;>rfl) | (rw [←hd,eP (by omega)]<;>rfl)
  ·first | (rw [←hd,cY h28 h33 (.inl g46)]<;>rfl) | (rw [←hd,cY h28 h33 (.inr c1)]<;>rfl) | (rw [←hd,eP (by omega)]<;>rfl)
  ·first | (rw [←hd,cY h28 h33 (.inl g46)]<;>rfl) | (rw [←hd,cY h28 h33 (.inr c1)]<;>rfl) | (rw [←hd,eP (by omega)]<;>rfl)
end Go.Proofs.YtdfebigfnjfgpaaGreat
