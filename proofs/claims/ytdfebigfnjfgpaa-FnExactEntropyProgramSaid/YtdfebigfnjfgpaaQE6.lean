/-
  Contracts and plain laws, joined: part 7.
-/
import Derived.Test.YtdfebigfnjfgpaaQE5
import Derived.Test.YtdfebigfnjfgpaaQE3
namespace Go.Proofs.Ytdfebigfnjfgpaa
open Go.ChangeShapes Go.WideShapes Go.ChangeAt Go.RowKit
set_option linter.unusedVariables false
set_option linter.unusedSimpArgs false
set_option maxRecDepth 100000
set_option maxHeartbeats 4000000
abbrev kA (l:List SizeConstraintD) (n:Int):AV × List (Nat × Rs):=(.tup [.agg [.own 0,.own 1,.own 2],vB ((aV l n).2)],[(0,.arr 3 1 true ((((aV l n).1).objective).map aD)),(1,.arr 24 1 true ((((aV l n).1).rows).map aE)),(2,.arr 3 1 true ((((aV l n).1).limits).map aD))])
abbrev mV (l:List SizeConstraintD) (n:Int):Prop:=jP Try.prog 7 [.one (.sl 41 3 (l.map aA)),.one (.int .i64 n)] (kA l n).1 (kA l n).2
theorem xF (l:List SizeConstraintD) (n:Int) (hl:l.length≤1048576) (hf:cY l):mV l n:=by
 refine eM gL cO Try.func7 (by kernel_rfl) (.call (vB (decide ((1:Int)≤n∧n≤(4:Int)))) []<| .br (.fin []) (.mk ((((1:Int)*2^(Int.toNat n)) - (1:Int)).toNat) [.int .i64 (0:Int)] ((List.replicate ((((1:Int)*2^(Int.toNat n)) - (1:Int)).toNat) (0:Int)).map aD)<| .call (.own 0) [(0,.arr 24 1 true ((bD n).map aE))]<| .len ((List.replicate ((((1:Int)*2^(Int.toNat n)) - (1:Int)).toNat) (0:Int)).length)<| .set Int aD (List.replicate ((((1:Int)*2^(Int.toNat n)) - (1:Int)).toNat) (0:Int)) (fun s5_5=>(1:Int)) (fun s5_5=> .len ((bD n).length)<| .mk ((bD n).length) [.int .i64 (0:Int)] ((List.replicate ((bD n).length) (0:Int)).map aD)<| .len l.length<| .loop (Nat × (List (List Int)) × (List Int)) (Q3 Nat (List (List Int)) (List Int)) [9,10,21,22,29,31,35,36,37,38,39,40,41,42,43,44,45,46,47,48,49,50,51,52,53,54,55,56,57,58,59,60,61,62,63,64,65,67,68,69,70,71,72,73,74,75,76,77,78,79,80,81,82,83,84,85,86,87,88,89,90,91,92,93,94,95] [700,900,2100,3100,6800,8500,8600,9200,9300] (fun yy0=>[(35,vI (yy0.1:Int))]) (fun yy0=>[(700,some (.box 27 [.own 1900,.own 2100,.own 3100])),(2100,some (.arr 24 1 true (yy0.2.1.map aE))),(3100,some (.arr 3 1 true (yy0.2.2.map aD)))]) (fun yy0=>yy0.1≤l.length∧yy0.2.1=bD n++(l.take yy0.1).map (fC n)∧yy0.2.2=List.replicate (bD n).length 0++(l.take yy0.1).map (·.bits)∧(l.take yy0.1).all (pB n)=true) (fun yy0=>l.length - yy0.1) (fun yy0=> .br (.elem _ aA l (fun e37=> .call (vB (decide ((1:Int)≤e37.dst∧e37.dst≤(((1:Int)*2^(Int.toNat n)) - (1:Int))))) []<| .br (.fin []) (.lit<| .lit<| .lit<| .br (.fin []) (.lit<| .lit<| .lit<| .lit<| .lit<| .lit<| .lit<| .lit<| .br (.fin []) (.lit<| .lit<| .lit<| .lit<| .lit<| .br (.fin []) (.mk ((((1:Int)*2^(Int.toNat n)) - (1:Int)).toNat) [.int .i64 (0:Int)] ((List.replicate ((((1:Int)*2^(Int.toNat n)) - (1:Int)).toNat) (0:Int)).map aD)<| .len ((List.replicate ((((1:Int)*2^(Int.toNat n)) - (1:Int)).toNat) (0:Int)).length)<| .set Int aD (List.replicate ((((1:Int)*2^(Int.toNat n)) - (1:Int)).toNat) (0:Int)) (fun s13_5=>(1:Int)) (fun s13_5=> .br (.len (((List.replicate ((((1:Int)*2^(Int.toNat n)) - (1:Int)).toNat) (0:Int)).set ((e37.dst - (1:Int)).toNat) (1:Int)).length)<| .set Int aD ((List.replicate ((((1:Int)*2^(Int.toNat n)) - (1:Int)).toNat) (0:Int)).set ((e37.dst - (1:Int)).toNat) (1:Int)) (fun s15_5=>(-1:Int)) (fun s15_5=> .appx (List Int) aE yy0.2.1 (((List.replicate ((((1:Int)*2^(Int.toNat n)) - (1:Int)).toNat) (0:Int)).set ((e37.dst - (1:Int)).toNat) (1:Int)).set ((e37.src - (1:Int)).toNat) (-1:Int))<| .app Int aD yy0.2.2 ([e37.bits]:List Int)<| .back [(700,700),(2100,8600),(3100,9300)])) (.appx (List Int) aE yy0.2.1 ((List.replicate ((((1:Int)*2^(Int.toNat n)) - (1:Int)).toNat) (0:Int)).set ((e37.dst - (1:Int)).toNat) (1:Int))<| .app Int aD yy0.2.2 ([e37.bits]:List Int)<| .back [(700,700),(2100,8600),(3100,9300)])))))))) (.call (vB (bK (⟨(List.replicate ((((1:Int)*2^(Int.toNat n)) - (1:Int)).toNat) (0:Int)).set (((((1:Int)*2^(Int.toNat n)) - (1:Int)) - (1:Int)).toNat) (1:Int),yy0.2.1,yy0.2.2⟩:aQ))) []<| .br (.fin []) (.fin [(0,1900),(1,2100),(2,3100)])))))) (p:=(l.map aA).length≤9223372036854775807→fR n (1:Int) (4:Int)∧(((!(decide ((1:Int)≤n∧n≤(4:Int))))=true→(false)=((aV l n).2)∧[]=(((aV l n).1).objective).map aD∧[]=(((aV l n).1).rows).map aE∧[]=(((aV l n).1).limits).map aD∧True)∧((!(decide ((1:Int)≤n∧n≤(4:Int))))=false→(0≤n∧n≤64)∧(dV ((1:Int)*2^(Int.toNat n))∧(dV (((1:Int)*2^(Int.toNat n)) - (1:Int))∧((((1:Int)*2^(Int.toNat n)) - (1:Int))=(((((1:Int)*2^(Int.toNat n)) - (1:Int)).toNat:Nat):Int)∧(((1:Int)*2^(Int.toNat n)) - (1:Int))=(((((1:Int)*2^(Int.toNat n)) - (1:Int)).toNat:Nat):Int)∧8*((((1:Int)*2^(Int.toNat n)) - (1:Int)).toNat)≤281474976710656∧((((1:Int)*2^(Int.toNat n)) - (1:Int)).toNat)≤9223372036854775807∧List.replicate ((((1:Int)*2^(Int.toNat n)) - (1:Int)).toNat) [.int .i64 (0:Int)]=(List.replicate ((((1:Int)*2^(Int.toNat n)) - (1:Int)).toNat) (0:Int)).map aD∧(jP Try.prog 19 [.one (.int .i64 n)] (.own 0) [(0,.arr 24 1 true ((bD n).map aE))]∧(dV ((((1:Int)*2^(Int.toNat n)) - (1:Int)) - (1:Int))∧(0≤((((1:Int)*2^(Int.toNat n)) - (1:Int)) - (1:Int))∧Lm aD (List.replicate ((((1:Int)*2^(Int.toNat n)) - (1:Int)).toNat) (0:Int))∧((((1:Int)*2^(Int.toNat n)) - (1:Int)) - (1:Int))<(((List.replicate ((((1:Int)*2^(Int.toNat n)) - (1:Int)).toNat) (0:Int)).length:Nat):Int)∧((List.replicate ((((1:Int)*2^(Int.toNat n)) - (1:Int)).toNat) (0:Int)).map aD=(List.replicate ((((1:Int)*2^(Int.toNat n)) - (1:Int)).toNat) (0:Int)).map aD∧((((1:Int)*2^(Int.toNat n)) - (1:Int)) - (1:Int)).toNat<(List.replicate ((((1:Int)*2^(Int.toNat n)) - (1:Int)).toNat) (0:Int)).length∧ ∀s5_5,(List.replicate ((((1:Int)*2^(Int.toNat n)) - (1:Int)).toNat) (0:Int))[((((1:Int)*2^(Int.toNat n)) - (1:Int)) - (1:Int)).toNat]? =some s5_5→dZ (aD s5_5)=true∧0+1≤(aD s5_5).length∧(aD s5_5).take 0++[.int .i64 (1:Int)]++(aD s5_5).drop (0+1)=aD (1:Int)∧(Lm aE (bD n)∧((((bD n).length:Nat):Int)=(((bD n).length:Nat):Int)∧(((bD n).length:Nat):Int)=(((bD n).length:Nat):Int)∧8*((bD n).length)≤281474976710656∧((bD n).length)≤9223372036854775807∧List.replicate ((bD n).length) [.int .i64 (0:Int)]=(List.replicate ((bD n).length) (0:Int)).map aD∧(Lm aA l∧((∃(k:Nat) (R:List (List Int)) (M:List Int),(0:Int)=(k:Int)∧(bD n).map aE=R.map aE∧(List.replicate ((bD n).length) (0:Int)).map aD=M.map aD∧k≤l.length∧R=bD n++(l.take k).map (fC n)∧M=List.replicate (bD n).length 0++(l.take k).map (·.bits)∧(l.take k).all (pB n)=true)∧ ∀(k:Nat) (R:List (List Int)) (M:List Int),(k≤l.length∧R=bD n++(l.take k).map (fC n)∧M=List.replicate (bD n).length 0++(l.take k).map (·.bits)∧(l.take k).all (pB n)=true)→((decide ((k:Int)<((l.length:Nat):Int)))=true→0≤(k:Int)∧Em aA l k fun e37=>fR e37.dst (1:Int) (((1:Int)*2^(Int.toNat n)) - (1:Int))∧(((!(decide ((1:Int)≤e37.dst∧e37.dst≤(((1:Int)*2^(Int.toNat n)) - (1:Int)))))=true→(false)=((aV l n).2)∧[]=(((aV l n).1).objective).map aD∧[]=(((aV l n).1).rows).map aE∧[]=(((aV l n).1).limits).map aD∧True)∧((!(decide ((1:Int)≤e37.dst∧e37.dst≤(((1:Int)*2^(Int.toNat n)) - (1:Int)))))=false→((decide (e37.src<(0:Int)))=true→(false)=((aV l n).2)∧[]=(((aV l n).1).objective).map aD∧[]=(((aV l n).1).rows).map aE∧[]=(((aV l n).1).limits).map aD∧True)∧((decide (e37.src<(0:Int)))=false→((!(decide ((bI .and .i64 e37.src e37.dst)=e37.src)))=true→(false)=((aV l n).2)∧[]=(((aV l n).1).objective).map aD∧[]=(((aV l n).1).rows).map aE∧[]=(((aV l n).1).limits).map aD∧True)∧((!(decide ((bI .and .i64 e37.src e37.dst)=e37.src)))=false→((decide (e37.src=e37.dst))=true→(false)=((aV l n).2)∧[]=(((aV l n).1).objective).map aD∧[]=(((aV l n).1).rows).map aE∧[]=(((aV l n).1).limits).map aD∧True)∧((decide (e37.src=e37.dst))=false→(((1:Int)*2^(Int.toNat n)) - (1:Int))=(((((1:Int)*2^(Int.toNat n)) - (1:Int)).toNat:Nat):Int)∧(((1:Int)*2^(Int.toNat n)) - (1:Int))=(((((1:Int)*2^(Int.toNat n)) - (1:Int)).toNat:Nat):Int)∧8*((((1:Int)*2^(Int.toNat n)) - (1:Int)).toNat)≤281474976710656∧((((1:Int)*2^(Int.toNat n)) - (1:Int)).toNat)≤9223372036854775807∧List.replicate ((((1:Int)*2^(Int.toNat n)) - (1:Int)).toNat) [.int .i64 (0:Int)]=(List.replicate ((((1:Int)*2^(Int.toNat n)) - (1:Int)).toNat) (0:Int)).map aD∧(dV (e37.dst - (1:Int))∧(0≤(e37.dst - (1:Int))∧Lm aD (List.replicate ((((1:Int)*2^(Int.toNat n)) - (1:Int)).toNat) (0:Int))∧(e37.dst - (1:Int))<(((List.replicate ((((1:Int)*2^(Int.toNat n)) - (1:Int)).toNat) (0:Int)).length:Nat):Int)∧((List.replicate ((((1:Int)*2^(Int.toNat n)) - (1:Int)).toNat) (0:Int)).map aD=(List.replicate ((((1:Int)*2^(Int.toNat n)) - (1:Int)).toNat) (0:Int)).map aD∧(e37.dst - (1:Int)).toNat<(List.replicate ((((1:Int)*2^(Int.toNat n)) - (1:Int)).toNat) (0:Int)).length∧ ∀s13_5,(List.replicate ((((1:Int)*2^(Int.toNat n)) - (1:Int)).toNat) (0:Int))[(e37.dst - (1:Int)).toNat]? =some s13_5→dZ (aD s13_5)=true∧0+1≤(aD s13_5).length∧(aD s13_5).take 0++[.int .i64 (1:Int)]++(aD s13_5).drop (0+1)=aD (1:Int)∧(((decide ((0:Int)<e37.src))=true→dV (e37.src - (1:Int))∧(0≤(e37.src - (1:Int))∧Lm aD ((List.replicate ((((1:Int)*2^(Int.toNat n)) - (1:Int)).toNat) (0:Int)).set ((e37.dst - (1:Int)).toNat) (1:Int))∧(e37.src - (1:Int))<((((List.replicate ((((1:Int)*2^(Int.toNat n)) - (1:Int)).toNat) (0:Int)).set ((e37.dst - (1:Int)).toNat) (1:Int)).length:Nat):Int)∧(((List.replicate ((((1:Int)*2^(Int.toNat n)) - (1:Int)).toNat) (0:Int)).set ((e37.dst - (1:Int)).toNat) (1:Int)).map aD=((List.replicate ((((1:Int)*2^(Int.toNat n)) - (1:Int)).toNat) (0:Int)).set ((e37.dst - (1:Int)).toNat) (1:Int)).map aD∧(e37.src - (1:Int)).toNat<((List.replicate ((((1:Int)*2^(Int.toNat n)) - (1:Int)).toNat) (0:Int)).set ((e37.dst - (1:Int)).toNat) (1:Int)).length∧ ∀s15_5,((List.replicate ((((1:Int)*2^(Int.toNat n)) - (1:Int)).toNat) (0:Int)).set ((e37.dst - (1:Int)).toNat) (1:Int))[(e37.src - (1:Int)).toNat]? =some s15_5→dZ (aD s15_5)=true∧0+1≤(aD s15_5).length∧(aD s15_5).take 0++[.int .i64 (-1:Int)]++(aD s15_5).drop (0+1)=aD (-1:Int)∧R.map aE=R.map aE∧(((List.replicate ((((1:Int)*2^(Int.toNat n)) - (1:Int)).toNat) (0:Int)).set ((e37.dst - (1:Int)).toNat) (1:Int)).set ((e37.src - (1:Int)).toNat) (-1:Int)).map aD=(((List.replicate ((((1:Int)*2^(Int.toNat n)) - (1:Int)).toNat) (0:Int)).set ((e37.dst - (1:Int)).toNat) (1:Int)).set ((e37.src - (1:Int)).toNat) (-1:Int)).map aD∧(R.length+1)*24≤140737488355328∧M.map aD=M.map aD∧[[.int .i64 e37.bits]]=([e37.bits]:List Int).map aD∧(∀x,dZ (aD x)=true)∧(M.length+([e37.bits]:List Int).length)*8≤140737488355328∧dV ((k:Int)+(1:Int))∧ ∃(k' :Nat) (R' :List (List Int)) (M' :List Int),((k:Int)+(1:Int))=(k' :Int)∧(R++[((List.replicate ((((1:Int)*2^(Int.toNat n)) - (1:Int)).toNat) (0:Int)).set ((e37.dst - (1:Int)).toNat) (1:Int)).set ((e37.src - (1:Int)).toNat) (-1:Int)]).map aE=R'.map aE∧(M++[e37.bits]).map aD=M'.map aD∧(k' ≤l.length∧R' =bD n++(l.take k').map (fC n)∧M' =List.replicate (bD n).length 0++(l.take k').map (·.bits)∧(l.take k').all (pB n)=true)∧l.length - k' <l.length - k)))∧((decide ((0:Int)<e37.src))=false→R.map aE=R.map aE∧((List.replicate ((((1:Int)*2^(Int.toNat n)) - (1:Int)).toNat) (0:Int)).set ((e37.dst - (1:Int)).toNat) (1:Int)).map aD=((List.replicate ((((1:Int)*2^(Int.toNat n)) - (1:Int)).toNat) (0:Int)).set ((e37.dst - (1:Int)).toNat) (1:Int)).map aD∧(R.length+1)*24≤140737488355328∧M.map aD=M.map aD∧[[.int .i64 e37.bits]]=([e37.bits]:List Int).map aD∧(∀x,dZ (aD x)=true)∧(M.length+([e37.bits]:List Int).length)*8≤140737488355328∧dV ((k:Int)+(1:Int))∧ ∃(k' :Nat) (R' :List (List Int)) (M' :List Int),((k:Int)+(1:Int))=(k' :Int)∧(R++[(List.replicate ((((1:Int)*2^(Int.toNat n)) - (1:Int)).toNat) (0:Int)).set ((e37.dst - (1:Int)).toNat) (1:Int)]).map aE=R'.map aE∧(M++[e37.bits]).map aD=M'.map aD∧(k' ≤l.length∧R' =bD n++(l.take k').map (fC n)∧M' =List.replicate (bD n).length 0++(l.take k').map (·.bits)∧(l.take k').all (pB n)=true)∧l.length - k' <l.length - k)))))))))))∧((decide ((k:Int)<((l.length:Nat):Int)))=false→pO (⟨(List.replicate ((((1:Int)*2^(Int.toNat n)) - (1:Int)).toNat) (0:Int)).set (((((1:Int)*2^(Int.toNat n)) - (1:Int)) - (1:Int)).toNat) (1:Int),R,M⟩:aQ)∧(((!(bK (⟨(List.replicate ((((1:Int)*2^(Int.toNat n)) - (1:Int)).toNat) (0:Int)).set (((((1:Int)*2^(Int.toNat n)) - (1:Int)) - (1:Int)).toNat) (1:Int),R,M⟩:aQ)))=true→(false)=((aV l n).2)∧[]=(((aV l n).1).objective).map aD∧[]=(((aV l n).1).rows).map aE∧[]=(((aV l n).1).limits).map aD∧True)∧((!(bK (⟨(List.replicate ((((1:Int)*2^(Int.toNat n)) - (1:Int)).toNat) (0:Int)).set (((((1:Int)*2^(Int.toNat n)) - (1:Int)) - (1:Int)).toNat) (1:Int),R,M⟩:aQ)))=false→(true)=((aV l n).2)∧((List.replicate ((((1:Int)*2^(Int.toNat n)) - (1:Int)).toNat) (0:Int)).set (((((1:Int)*2^(Int.toNat n)) - (1:Int)) - (1:Int)).toNat) (1:Int)).map aD=(((aV l n).1).objective).map aD∧R.map aE=(((aV l n).1).rows).map aE∧M.map aD=(((aV l n).1).limits).map aD∧True))))))))))))))))) (by kernel_rfl) ?_
 intro n0
 simp only [List.length_map] at n0
 refine ⟨lW _ _ _,fun c0=>?_,fun c0=>?_⟩
 ·replace c0:=nq (nt c0)
  refine ⟨?_,?_,?_,?_,trivial⟩
  ·first | (rw [aS (by omega)]<;>rfl) | (rw [aT hk2 hbad]<;>rfl) | (rw [aG (by omega)]<;>rfl) | (rw [hfin]<;>rfl) | (rw [hfin,aL,hR]<;>rfl) | (rw [hfin,aL,hM]<;>rfl) | (rw [hfin,aL,bM (by omega)]<;>rfl)
  ·first | (rw [aS (by omega)]<;>rfl) | (rw [aT hk2 hbad]<;>rfl) | (rw [aG (by omega)]<;>rfl) | (rw [hfin]<;>rfl) | (rw [hfin,aL,hR]<;>rfl) | (rw [hfin,aL,hM]<;>rfl) | (rw [hfin,aL,bM (by omega)]<;>rfl)
  ·first | (rw [aS (by omega)]<;>rfl) | (rw [aT hk2 hbad]<;>rfl) | (rw [aG (by omega)]<;>rfl) | (rw [hfin]<;>rfl) | (rw [hfin,aL,hR]<;>rfl) | (rw [hfin,aL,hM]<;>rfl) | (rw [hfin,aL,bM (by omega)]<;>rfl)
  ·first | (rw [aS (by omega)]<;>rfl) | (rw [aT hk2 hbad]<;>rfl) | (rw [aG (by omega)]<;>rfl) | (rw [hfin]<;>rfl) | (rw [hfin,aL,hR]<;>rfl) | (rw [hfin,aL,hM]<;>rfl) | (rw [hfin,aL,bM (by omega)]<;>rfl)
 ·replace c0:=yq (nf c0)
  obtain ⟨b1,b2,b3⟩:=lY (n:=n) (by omega)
  have hal:bE n=(1:Int)*2^n.toNat - 1:=rfl
  have hel:=uA n
  refine ⟨⟨by omega,by omega⟩,by first | exact aJ (by omega) | exact ⟨by omega,by omega⟩,by first | exact aJ (by omega) | exact ⟨by omega,by omega⟩,by omega,by omega,by first | omega | (simp [hR,hM];omega) | (simp;omega),by first | omega | (simp [hR,hM];omega) | (simp;omega),by first | (rw [List.map_replicate];done) | (rw [List.map_replicate];rfl),by rw [←uY];exact aAd _,by first | exact aJ (by omega) | exact ⟨by omega,by omega⟩,by omega,List.length_map _,by first | omega | (simp;omega),rfl,by first | omega | (simp;omega),fun s5_5 hs5_5=>⟨rfl,Nat.le_of_ble_eq_true rfl,rfl,?_⟩⟩
  refine ⟨List.length_map _,rfl,rfl,by first | omega | (simp [hR,hM];omega) | (simp;omega),by first | omega | (simp [hR,hM];omega) | (simp;omega),by first | (rw [List.map_replicate];done) | (rw [List.map_replicate];rfl),List.length_map _,⟨0,bD n,List.replicate ((bD n).length) (0:Int),rfl,rfl,rfl,Nat.zero_le _,by simp,by simp,rfl⟩,fun k R M ⟨hk,hR,hM,ha⟩=>?_⟩
  refine ⟨fun c1=>?_,fun c1=>?_⟩
  ·replace c1:=yq c1
   refine ⟨by omega,rfl,by first | omega | (simp;omega),fun e37 h37=>?_⟩
   have hk2:=h37
   have hfc:=hf _ (List.mem_of_getElem? h37)
   have hfs:e37.src≤9223372036854775807:=hfc.1.2
   have hfd:e37.dst≤9223372036854775807:=hfc.2.1.2
   refine ⟨lW _ _ _,fun g44=>?_,fun g44=>?_⟩
   ·replace g44:=nq (nt g44)
    have hbad:pB n e37=false:=jZ (by rintro ⟨q1,q2,q3,q4⟩;omega)
    refine ⟨?_,?_,?_,?_,trivial⟩
    ·first | (rw [aS (by omega)]<;>rfl) | (rw [aT hk2 hbad]<;>rfl) | (rw [aG (by omega)]<;>rfl) | (rw [hfin]<;>rfl) | (rw [hfin,aL,hR]<;>rfl) | (rw [hfin,aL,hM]<;>rfl) | (rw [hfin,aL,bM (by omega)]<;>rfl)
    ·first | (rw [aS (by omega)]<;>rfl) | (rw [aT hk2 hbad]<;>rfl) | (rw [aG (by omega)]<;>rfl) | (rw [hfin]<;>rfl) | (rw [hfin,aL,hR]<;>rfl) | (rw [hfin,aL,hM]<;>rfl) | (rw [hfin,aL,bM (by omega)]<;>rfl)
    ·first | (rw [aS (by omega)]<;>rfl) | (rw [aT hk2 hbad]<;>rfl) | (rw [aG (by omega)]<;>rfl) | (rw [hfin]<;>rfl) | (rw [hfin,aL,hR]<;>rfl) | (rw [hfin,aL,hM]<;>rfl) | (rw [hfin,aL,bM (by omega)]<;>rfl)
    ·first | (rw [aS (by omega)]<;>rfl) | (rw [aT hk2 hbad]<;>rfl) | (rw [aG (by omega)]<;>rfl) | (rw [hfin]<;>rfl) | (rw [hfin,aL,hR]<;>rfl) | (rw [hfin,aL,hM]<;>rfl) | (rw [hfin,aL,bM (by omega)]<;>rfl)
   ·replace g44:=yq (nf g44)
    refine ⟨fun g49=>?_,fun g49=>?_⟩
    ·replace g49:=yq g49
     have hbad:pB n e37=false:=jZ (by rintro ⟨q1,q2,q3,q4⟩;omega)
     refine ⟨?_,?_,?_,?_,trivial⟩
     ·first | (rw [aS (by omega)]<;>rfl) | (rw [aT hk2 hbad]<;>rfl) | (rw [aG (by omega)]<;>rfl) | (rw [hfin]<;>rfl) | (rw [hfin,aL,hR]<;>rfl) | (rw [hfin,aL,hM]<;>rfl) | (rw [hfin,aL,bM (by omega)]<;>rfl)
     ·first | (rw [aS (by omega)]<;>rfl) | (rw [aT hk2 hbad]<;>rfl) | (rw [aG (by omega)]<;>rfl) | (rw [hfin]<;>rfl) | (rw [hfin,aL,hR]<;>rfl) | (rw [hfin,aL,hM]<;>rfl) | (rw [hfin,aL,bM (by omega)]<;>rfl)
     ·first | (rw [aS (by omega)]<;>rfl) | (rw [aT hk2 hbad]<;>rfl) | (rw [aG (by omega)]<;>rfl) | (rw [hfin]<;>rfl) | (rw [hfin,aL,hR]<;>rfl) | (rw [hfin,aL,hM]<;>rfl) | (rw [hfin,aL,bM (by omega)]<;>rfl)
     ·first | (rw [aS (by omega)]<;>rfl) | (rw [aT hk2 hbad]<;>rfl) | (rw [aG (by omega)]<;>rfl) | (rw [hfin]<;>rfl) | (rw [hfin,aL,hR]<;>rfl) | (rw [hfin,aL,hM]<;>rfl) | (rw [hfin,aL,bM (by omega)]<;>rfl)
    ·replace g49:=nq g49
     refine ⟨fun g59=>?_,fun g59=>?_⟩
     ·replace g59:=nq (nt g59)
      have hbad:pB n e37=false:=jZ (by rintro ⟨q1,q2,q3,q4⟩;omega)
      refine ⟨?_,?_,?_,?_,trivial⟩
      ·first | (rw [aS (by omega)]<;>rfl) | (rw [aT hk2 hbad]<;>rfl) | (rw [aG (by omega)]<;>rfl) | (rw [hfin]<;>rfl) | (rw [hfin,aL,hR]<;>rfl) | (rw [hfin,aL,hM]<;>rfl) | (rw [hfin,aL,bM (by omega)]<;>rfl)
      ·first | (rw [aS (by omega)]<;>rfl) | (rw [aT hk2 hbad]<;>rfl) | (rw [aG (by omega)]<;>rfl) | (rw [hfin]<;>rfl) | (rw [hfin,aL,hR]<;>rfl) | (rw [hfin,aL,hM]<;>rfl) | (rw [hfin,aL,bM (by omega)]<;>rfl)
      ·first | (rw [aS (by omega)]<;>rfl) | (rw [aT hk2 hbad]<;>rfl) | (rw [aG (by omega)]<;>rfl) | (rw [hfin]<;>rfl) | (rw [hfin,aL,hR]<;>rfl) | (rw [hfin,aL,hM]<;>rfl) | (rw [hfin,aL,bM (by omega)]<;>rfl)
      ·first | (rw [aS (by omega)]<;>rfl) | (rw [aT hk2 hbad]<;>rfl) | (rw [aG (by omega)]<;>rfl) | (rw [hfin]<;>rfl) | (rw [hfin,aL,hR]<;>rfl) | (rw [hfin,aL,hM]<;>rfl) | (rw [hfin,aL,bM (by omega)]<;>rfl)
     ·replace g59:=yq (nf g59)
      refine ⟨fun c2=>?_,fun c2=>?_⟩
      ·replace c2:=yq c2
       have hbad:pB n e37=false:=jZ (by rintro ⟨q1,q2,q3,q4⟩;omega)
       refine ⟨?_,?_,?_,?_,trivial⟩
       ·first | (rw [aS (by omega)]<;>rfl) | (rw [aT hk2 hbad]<;>rfl) | (rw [aG (by omega)]<;>rfl) | (rw [hfin]<;>rfl) | (rw [hfin,aL,hR]<;>rfl) | (rw [hfin,aL,hM]<;>rfl) | (rw [hfin,aL,bM (by omega)]<;>rfl)
       ·first | (rw [aS (by omega)]<;>rfl) | (rw [aT hk2 hbad]<;>rfl) | (rw [aG (by omega)]<;>rfl) | (rw [hfin]<;>rfl) | (rw [hfin,aL,hR]<;>rfl) | (rw [hfin,aL,hM]<;>rfl) | (rw [hfin,aL,bM (by omega)]<;>rfl)
       ·first | (rw [aS (by omega)]<;>rfl) | (rw [aT hk2 hbad]<;>rfl) | (rw [aG (by omega)]<;>rfl) | (rw [hfin]<;>rfl) | (rw [hfin,aL,hR]<;>rfl) | (rw [hfin,aL,hM]<;>rfl) | (rw [hfin,aL,bM (by omega)]<;>rfl)
       ·first | (rw [aS (by omega)]<;>rfl) | (rw [aT hk2 hbad]<;>rfl) | (rw [aG (by omega)]<;>rfl) | (rw [hfin]<;>rfl) | (rw [hfin,aL,hR]<;>rfl) | (rw [hfin,aL,hM]<;>rfl) | (rw [hfin,aL,bM (by omega)]<;>rfl)
      ·replace c2:=nq c2
       have hle:=mU (a:=e37.src) (c:=e37.dst) (by omega) (by omega) (by omega) (by omega)
       refine ⟨by omega,by omega,by first | omega | (simp [hR,hM];omega) | (simp;omega),by first | omega | (simp [hR,hM];omega) | (simp;omega),by first | (rw [List.map_replicate];done) | (rw [List.map_replicate];rfl),by first | exact aJ (by omega) | exact ⟨by omega,by omega⟩,by omega,List.length_map _,by first | omega | (simp;omega),rfl,by first | omega | (simp;omega),fun s13_5 hs13_5=>⟨rfl,Nat.le_of_ble_eq_true rfl,rfl,?_⟩⟩
       refine ⟨fun c3=>?_,fun c3=>?_⟩
       ·replace c3:=yq c3
        refine ⟨by first | exact aJ (by omega) | exact ⟨by omega,by omega⟩,by omega,List.length_map _,by first | omega | (simp;omega),rfl,by first | omega | (simp;omega),fun s15_5 hs15_5=>⟨rfl,Nat.le_of_ble_eq_true rfl,rfl,?_⟩⟩
        refine ⟨rfl,rfl,by first | omega | (simp [hR,hM];omega) | (simp;omega),rfl,rfl,fun _=>rfl,by first | omega | (simp [hR,hM];omega) | (simp;omega),?_⟩
        refine ⟨by first | exact aJ (by omega) | exact ⟨by omega,by omega⟩,?_⟩
        exact ⟨k+1,_,_,rfl,rfl,rfl,⟨by omega,by first | (rw [hR,cV hk2,List.map_append,List.append_assoc,List.map_cons,List.map_nil,rY (by omega) c3];done) | (rw [hR,cV hk2,List.map_append,List.append_assoc,List.map_cons,List.map_nil,rZ (by omega) c3];done),by rw [hM,cV hk2,List.map_append,List.append_assoc];rfl,eG hk2 ha (yO ⟨by omega,by omega,by omega,by omega⟩)⟩,by omega⟩
       ·replace c3:=nq c3
        refine ⟨rfl,rfl,by first | omega | (simp [hR,hM];omega) | (simp;omega),rfl,rfl,fun _=>rfl,by first | omega | (simp [hR,hM];omega) | (simp;omega),?_⟩
        refine ⟨by first | exact aJ (by omega) | exact ⟨by omega,by omega⟩,?_⟩
        exact ⟨k+1,_,_,rfl,rfl,rfl,⟨by omega,by first | (rw [hR,cV hk2,List.map_append,List.append_assoc,List.map_cons,List.map_nil,rY (by omega) c3];done) | (rw [hR,cV hk2,List.map_append,List.append_assoc,List.map_cons,List.map_nil,rZ (by omega) c3];done),by rw [hM,cV hk2,List.map_append,List.append_assoc];rfl,eG hk2 ha (yO ⟨by omega,by omega,by omega,by omega⟩)⟩,by omega⟩
  ·replace c1:=nq c1
   have hkl:k=l.length:=by omega
   subst hkl
   rw [List.take_length] at hR hM ha
   have hrs: ∀r∈R,r.length≤1048576:=by rw [hR];exact aBx (by omega)
   refine ⟨aAb (⟨(List.replicate ((((1:Int)*2^(Int.toNat n)) - (1:Int)).toNat) (0:Int)).set (((((1:Int)*2^(Int.toNat n)) - (1:Int)) - (1:Int)).toNat) (1:Int),R,M⟩:aQ) (by first | assumption | exact hrs),fun c4=>?_,fun c4=>?_⟩
   ·replace c4:=nt c4
    have hfin:aV l n=(iH,false):=yP (by rw [←c4,aL,bM (by omega),hR,hM])
    refine ⟨?_,?_,?_,?_,trivial⟩
    ·first | (rw [aS (by omega)]<;>rfl) | (rw [aT hk2 hbad]<;>rfl) | (rw [aG (by omega)]<;>rfl) | (rw [hfin]<;>rfl) | (rw [hfin,aL,hR]<;>rfl) | (rw [hfin,aL,hM]<;>rfl) | (rw [hfin,aL,bM (by omega)]<;>rfl)
    ·first | (rw [aS (by omega)]<;>rfl) | (rw [aT hk2 hbad]<;>rfl) | (rw [aG (by omega)]<;>rfl) | (rw [hfin]<;>rfl) | (rw [hfin,aL,hR]<;>rfl) | (rw [hfin,aL,hM]<;>rfl) | (rw [hfin,aL,bM (by omega)]<;>rfl)
    ·first | (rw [aS (by omega)]<;>rfl) | (rw [aT hk2 hbad]<;>rfl) | (rw [aG (by omega)]<;>rfl) | (rw [hfin]<;>rfl) | (rw [hfin,aL,hR]<;>rfl) | (rw [hfin,aL,hM]<;>rfl) | (rw [hfin,aL,bM (by omega)]<;>rfl)
    ·first | (rw [aS (by omega)]<;>rfl) | (rw [aT hk2 hbad]<;>rfl) | (rw [aG (by omega)]<;>rfl) | (rw [hfin]<;>rfl) | (rw [hfin,aL,hR]<;>rfl) | (rw [hfin,aL,hM]<;>rfl) | (rw [hfin,aL,bM (by omega)]<;>rfl)
   ·replace c4:=nf c4
    have hfin:aV l n=(aL n l,true):=xE (by omega) ha (by rw [←c4,aL,bM (by omega),hR,hM])
    refine ⟨?_,?_,?_,?_,trivial⟩
    ·first | (rw [aS (by omega)]<;>rfl) | (rw [aT hk2 hbad]<;>rfl) | (rw [aG (by omega)]<;>rfl) | (rw [hfin]<;>rfl) | (rw [hfin,aL,hR]<;>rfl) | (rw [hfin,aL,hM]<;>rfl) | (rw [hfin,aL,bM (by omega)]<;>rfl)
    ·first | (rw [aS (by omega)]<;>rfl) | (rw [aT hk2 hbad]<;>rfl) | (rw [aG (by omega)]<;>rfl) | (rw [hfin]<;>rfl) | (rw [hfin,aL,hR]<;>rfl) | (rw [hfin,aL,hM]<;>rfl) | (rw [hfin,aL,bM (by omega)]<;>rfl)
    ·first | (rw [aS (by omega)]<;>rfl) | (rw [aT hk2 hbad]<;>rfl) | (rw [aG (by omega)]<;>rfl) | (rw [hfin]<;>rfl) | (rw [hfin,aL,hR]<;>rfl) | (rw [hfin,aL,hM]<;>rfl) | (rw [hfin,aL,bM (by omega)]<;>rfl)
    ·first | (rw [aS (by omega)]<;>rfl) | (rw [aT hk2 hbad]<;>rfl) | (rw [aG (by omega)]<;>rfl) | (rw [hfin]<;>rfl) | (rw [hfin,aL,hR]<;>rfl) | (rw [hfin,aL,hM]<;>rfl) | (rw [hfin,aL,bM (by omega)]<;>rfl)
abbrev mW (l:List SizeConstraintD) (n:Int):AV × List (Nat × Rs):=(.tup [.agg [.own 0,.own 1,.own 2],vB ((aV l n).2)],[(0,.arr 3 1 true ((((aV l n).1).objective).map aD)),(1,.arr 24 1 true ((((aV l n).1).rows).map aE)),(2,.arr 3 1 true ((((aV l n).1).limits).map aD))])
abbrev sB (l:List SizeConstraintD) (n:Int):Prop:=jP Try.prog 5 [.one (.sl 41 3 (l.map aA)),.one (.int .i64 n)] (mW l n).1 (mW l n).2
theorem aBy (l:List SizeConstraintD) (n:Int) (hl:l.length≤1048576) (hf:cY l):sB l n:=by
 refine eM gL cO Try.func5 (by kernel_rfl) (.call (vB (decide ((1:Int)≤n∧n≤(4:Int)))) []<| .br (.fin []) (kF (fT n ([((1:Int)*2^(Int.toNat n)) - (1:Int)]:List Int) ([]:List Int))<| kF (lN n)<| .len ((bD n).length)<| .mk ((bD n).length) [.int .i64 (0:Int)] ((List.replicate ((bD n).length) (0:Int)).map aD)<| .loop (Nat × (List (List Int)) × (List Int)) (Q3 Nat (List (List Int)) (List Int)) [8,22,23,25,27,29,30,31,32,33,34,35,36,37,38,39,40,41,42,43,44,45,46,47,48,49,50,51,52,53,54,55,56,57,58,59,60,61,62,63,64,65,66,67,68,69,70,71,72,73,74,75,76,77,78,79,80,81,82,83,84,85,86,87,88,90,91,92,93,94,95,96,97,98,99,100,101,102,103,104,105,106,107,108,109,110,111,112,113,114,115,116,117,118] [700,2200,2700,9800,10400,10500,10600,10700,11600,11700] (fun yy0=>[(8,vI (yy0.1:Int))]) (fun yy0=>[(700,some (.box 27 [.own 2000,.own 2200,.own 2700])),(2200,some (.arr 24 1 true (yy0.2.1.map aE))),(2700,some (.arr 3 1 true (yy0.2.2.map aD)))]) (fun yy0=>yy0.1≤l.length∧yy0.2.1=bD n++(l.take yy0.1).map (fC n)∧yy0.2.2=List.replicate (bD n).length 0++(l.take yy0.1).map (·.bits)∧(l.take yy0.1).all (pB n)=true) (fun yy0=>l.length - yy0.1) (fun yy0=> .len l.length<| .br (.elem _ aA l (fun e37=> .call (vB (decide ((1:Int)≤e37.dst∧e37.dst≤(((1:Int)*2^(Int.toNat n)) - (1:Int))))) []<| .br (.fin []) (.elem _ aA l (fun e46=> .call (vB (decide ((0:Int)≤e46.src∧e46.src≤(((1:Int)*2^(Int.toNat n)) - (1:Int))))) []<| .lit<| .lit<| .br (.fin []) (.elem _ aA l (fun e56=> .elem _ aA l (fun e61=> .elem _ aA l (fun e67=> .lit<| .lit<| .lit<| .lit<| .br (.fin []) (.elem _ aA l (fun e75=> .elem _ aA l (fun e80=> .lit<| .lit<| .lit<| .lit<| .br (.fin []) (.lit<| .lit<| .br (.fin []) (.elem _ aA l (fun e95=> .elem _ aA l (fun e101=>kF (fT n ([e95.dst]:List Int) ([e101.src]:List Int))<| .appx (List Int) aE yy0.2.1 (bQ (bE n) ([e95.dst]:List Int) ([e101.src]:List Int))<| .elem _ aA l (fun e113=> .app Int aD yy0.2.2 ([e113.bits]:List Int)<| .back [(700,700),(2200,10700),(2700,11700)])))))))))))))))) (.call (vB (bK (⟨bQ (bE n) ([((1:Int)*2^(Int.toNat n)) - (1:Int)]:List Int) ([]:List Int),yy0.2.1,yy0.2.2⟩:aQ))) []<| .br (.fin []) (.fin [(0,2000),(1,2200),(2,2700)]))))) (p:=(l.map aA).length≤9223372036854775807→eE n (1:Int) (4:Int)∧(((!(decide ((1:Int)≤n∧n≤(4:Int))))=true→(false)=((aV l n).2)∧[]=(((aV l n).1).objective).map aD∧[]=(((aV l n).1).rows).map aE∧[]=(((aV l n).1).limits).map aD∧True)∧((!(decide ((1:Int)≤n∧n≤(4:Int))))=false→(0≤n∧n≤64)∧(dV ((1:Int)*2^(Int.toNat n))∧(dV (((1:Int)*2^(Int.toNat n)) - (1:Int))∧(iI n ([((1:Int)*2^(Int.toNat n)) - (1:Int)]:List Int) ([]:List Int)∧(pN n∧(Lm aE (bD n)∧((((bD n).length:Nat):Int)=(((bD n).length:Nat):Int)∧(((bD n).length:Nat):Int)=(((bD n).length:Nat):Int)∧8*((bD n).length)≤281474976710656∧((bD n).length)≤9223372036854775807∧List.replicate ((bD n).length) [.int .i64 (0:Int)]=(List.replicate ((bD n).length) (0:Int)).map aD∧((∃(k:Nat) (R:List (List Int)) (M:List Int),(0:Int)=(k:Int)∧(bD n).map aE=R.map aE∧(List.replicate ((bD n).length) (0:Int)).map aD=M.map aD∧k≤l.length∧R=bD n++(l.take k).map (fC n)∧M=List.replicate (bD n).length 0++(l.take k).map (·.bits)∧(l.take k).all (pB n)=true)∧ ∀(k:Nat) (R:List (List Int)) (M:List Int),(k≤l.length∧R=bD n++(l.take k).map (fC n)∧M=List.replicate (bD n).length 0++(l.take k).map (·.bits)∧(l.take k).all (pB n)=true)→Lm aA l∧(((decide ((k:Int)<((l.length:Nat):Int)))=true→0≤(k:Int)∧Em aA l k fun e37=>eE e37.dst (1:Int) (((1:Int)*2^(Int.toNat n)) - (1:Int))∧(((!(decide ((1:Int)≤e37.dst∧e37.dst≤(((1:Int)*2^(Int.toNat n)) - (1:Int)))))=true→(false)=((aV l n).2)∧[]=(((aV l n).1).objective).map aD∧[]=(((aV l n).1).rows).map aE∧[]=(((aV l n).1).limits).map aD∧True)∧((!(decide ((1:Int)≤e37.dst∧e37.dst≤(((1:Int)*2^(Int.toNat n)) - (1:Int)))))=false→0≤(k:Int)∧Em aA l k fun e46=>eE e46.src (0:Int) (((1:Int)*2^(Int.toNat n)) - (1:Int))∧(((!(decide ((0:Int)≤e46.src∧e46.src≤(((1:Int)*2^(Int.toNat n)) - (1:Int)))))=true→(false)=((aV l n).2)∧[]=(((aV l n).1).objective).map aD∧[]=(((aV l n).1).rows).map aE∧[]=(((aV l n).1).limits).map aD∧True)∧((!(decide ((0:Int)≤e46.src∧e46.src≤(((1:Int)*2^(Int.toNat n)) - (1:Int)))))=false→0≤(k:Int)∧Em aA l k fun e56=>0≤(k:Int)∧Em aA l k fun e61=>0≤(k:Int)∧Em aA l k fun e67=>((!(decide ((bI .and .i64 e56.src e61.dst)=e67.src)))=true→(false)=((aV l n).2)∧[]=(((aV l n).1).objective).map aD∧[]=(((aV l n).1).rows).map aE∧[]=(((aV l n).1).limits).map aD∧True)∧((!(decide ((bI .and .i64 e56.src e61.dst)=e67.src)))=false→0≤(k:Int)∧Em aA l k fun e75=>0≤(k:Int)∧Em aA l k fun e80=>((decide (e75.src=e80.dst))=true→(false)=((aV l n).2)∧[]=(((aV l n).1).objective).map aD∧[]=(((aV l n).1).rows).map aE∧[]=(((aV l n).1).limits).map aD∧True)∧((decide (e75.src=e80.dst))=false→((decide ((64:Int)≤(k:Int)))=true→(false)=((aV l n).2)∧[]=(((aV l n).1).objective).map aD∧[]=(((aV l n).1).rows).map aE∧[]=(((aV l n).1).limits).map aD∧True)∧((decide ((64:Int)≤(k:Int)))=false→0≤(k:Int)∧Em aA l k fun e95=>0≤(k:Int)∧Em aA l k fun e101=>iI n ([e95.dst]:List Int) ([e101.src]:List Int)∧R.map aE=R.map aE∧(bQ (bE n) ([e95.dst]:List Int) ([e101.src]:List Int)).map aD=(bQ (bE n) ([e95.dst]:List Int) ([e101.src]:List Int)).map aD∧(R.length+1)*24≤140737488355328∧0≤(k:Int)∧Em aA l k fun e113=>M.map aD=M.map aD∧[[.int .i64 e113.bits]]=([e113.bits]:List Int).map aD∧(∀x,dZ (aD x)=true)∧(M.length+([e113.bits]:List Int).length)*8≤140737488355328∧dV ((k:Int)+(1:Int))∧ ∃(k' :Nat) (R' :List (List Int)) (M' :List Int),((k:Int)+(1:Int))=(k' :Int)∧(R++[bQ (bE n) ([e95.dst]:List Int) ([e101.src]:List Int)]).map aE=R'.map aE∧(M++[e113.bits]).map aD=M'.map aD∧(k' ≤l.length∧R' =bD n++(l.take k').map (fC n)∧M' =List.replicate (bD n).length 0++(l.take k').map (·.bits)∧(l.take k').all (pB n)=true)∧l.length - k' <l.length - k))))))))∧((decide ((k:Int)<((l.length:Nat):Int)))=false→pP (⟨bQ (bE n) ([((1:Int)*2^(Int.toNat n)) - (1:Int)]:List Int) ([]:List Int),R,M⟩:aQ)∧(((!(bK (⟨bQ (bE n) ([((1:Int)*2^(Int.toNat n)) - (1:Int)]:List Int) ([]:List Int),R,M⟩:aQ)))=true→(false)=((aV l n).2)∧[]=(((aV l n).1).objective).map aD∧[]=(((aV l n).1).rows).map aE∧[]=(((aV l n).1).limits).map aD∧True)∧((!(bK (⟨bQ (bE n) ([((1:Int)*2^(Int.toNat n)) - (1:Int)]:List Int) ([]:List Int),R,M⟩:aQ)))=false→(true)=((aV l n).2)∧(bQ (bE n) ([((1:Int)*2^(Int.toNat n)) - (1:Int)]:List Int) ([]:List Int)).map aD=(((aV l n).1).objective).map aD∧R.map aE=(((aV l n).1).rows).map aE∧M.map aD=(((aV l n).1).limits).map aD∧True)))))))))))))) (by kernel_rfl) ?_
 intro n0
 simp only [List.length_map] at n0
 refine ⟨iU _ _ _,fun c0=>?_,fun c0=>?_⟩
 ·replace c0:=nq (nt c0)
  refine ⟨?_,?_,?_,?_,trivial⟩
  ·first | (rw [aS (by omega)]<;>rfl) | (rcases hbad with hbad | hbad;(rw [aT hk2 hbad]<;>rfl);(rw [aG (by have:=(List.getElem?_eq_some_iff.1 hk2).1;omega)]<;>rfl)) | (rw [hfin]<;>rfl) | (rw [hfin,aL,hR]<;>rfl) | (rw [hfin,aL,hM]<;>rfl)
  ·first | (rw [aS (by omega)]<;>rfl) | (rcases hbad with hbad | hbad;(rw [aT hk2 hbad]<;>rfl);(rw [aG (by have:=(List.getElem?_eq_some_iff.1 hk2).1;omega)]<;>rfl)) | (rw [hfin]<;>rfl) | (rw [hfin,aL,hR]<;>rfl) | (rw [hfin,aL,hM]<;>rfl)
  ·first | (rw [aS (by omega)]<;>rfl) | (rcases hbad with hbad | hbad;(rw [aT hk2 hbad]<;>rfl);(rw [aG (by have:=(List.getElem?_eq_some_iff.1 hk2).1;omega)]<;>rfl)) | (rw [hfin]<;>rfl) | (rw [hfin,aL,hR]<;>rfl) | (rw [hfin,aL,hM]<;>rfl)
  ·first | (rw [aS (by omega)]<;>rfl) | (rcases hbad with hbad | hbad;(rw [aT hk2 hbad]<;>rfl);(rw [aG (by have:=(List.getElem?_eq_some_iff.1 hk2).1;omega)]<;>rfl)) | (rw [hfin]<;>rfl) | (rw [hfin,aL,hR]<;>rfl) | (rw [hfin,aL,hM]<;>rfl)
 ·replace c0:=yq (nf c0)
  obtain ⟨b1,b2,b3⟩:=lY (n:=n) (by omega)
  have hal:bE n=(1:Int)*2^n.toNat - 1:=rfl
  have hel:=uA n
  refine ⟨⟨by omega,by omega⟩,by first | exact aJ (by omega) | exact ⟨by omega,by omega⟩,by first | exact aJ (by omega) | exact ⟨by omega,by omega⟩,oC _ ([((1:Int)*2^(Int.toNat n)) - (1:Int)]:List Int) ([]:List Int) (by omega) (by first | exact pW (by omega) | exact pX (by omega) (by omega) | exact xA) (by first | exact pW (by omega) | exact pX (by omega) (by omega) | exact xA) (by simp) (by simp),aAa _,List.length_map _,rfl,rfl,by first | omega | (simp [hR,hM];omega) | (simp;omega),by first | omega | (simp [hR,hM];omega) | (simp;omega),by first | (rw [List.map_replicate];done) | (rw [List.map_replicate];rfl),⟨0,bD n,List.replicate ((bD n).length) (0:Int),rfl,rfl,rfl,Nat.zero_le _,by simp,by simp,rfl⟩,fun k R M ⟨hk,hR,hM,ha⟩=>?_⟩
  refine ⟨List.length_map _,fun c1=>?_,fun c1=>?_⟩
  ·replace c1:=yq c1
   refine ⟨by omega,rfl,by first | omega | (simp;omega),fun e37 h37=>?_⟩
   have hk2:=h37
   have hfc:=hf _ (List.mem_of_getElem? h37)
   have hfs:e37.src≤9223372036854775807:=hfc.1.2
   have hfd:e37.dst≤9223372036854775807:=hfc.2.1.2
   refine ⟨iU _ _ _,fun g43=>?_,fun g43=>?_⟩
   ·replace g43:=nq (nt g43)
    have hbad:pB n e37=false∨64≤k:=by by_cases hq:64≤k;(exact .inr hq);(refine .inl (jZ ?_);rintro ⟨q1,q2,q3,q4⟩;have:=mU (a:=e37.src) (c:=e37.dst) q2 (by omega) (by omega) (by omega);omega)
    refine ⟨?_,?_,?_,?_,trivial⟩
    ·first | (rw [aS (by omega)]<;>rfl) | (rcases hbad with hbad | hbad;(rw [aT hk2 hbad]<;>rfl);(rw [aG (by have:=(List.getElem?_eq_some_iff.1 hk2).1;omega)]<;>rfl)) | (rw [hfin]<;>rfl) | (rw [hfin,aL,hR]<;>rfl) | (rw [hfin,aL,hM]<;>rfl)
    ·first | (rw [aS (by omega)]<;>rfl) | (rcases hbad with hbad | hbad;(rw [aT hk2 hbad]<;>rfl);(rw [aG (by have:=(List.getElem?_eq_some_iff.1 hk2).1;omega)]<;>rfl)) | (rw [hfin]<;>rfl) | (rw [hfin,aL,hR]<;>rfl) | (rw [hfin,aL,hM]<;>rfl)
    ·first | (rw [aS (by omega)]<;>rfl) | (rcases hbad with hbad | hbad;(rw [aT hk2 hbad]<;>rfl);(rw [aG (by have:=(List.getElem?_eq_some_iff.1 hk2).1;omega)]<;>rfl)) | (rw [hfin]<;>rfl) | (rw [hfin,aL,hR]<;>rfl) | (rw [hfin,aL,hM]<;>rfl)
    ·first | (rw [aS (by omega)]<;>rfl) | (rcases hbad with hbad | hbad;(rw [aT hk2 hbad]<;>rfl);(rw [aG (by have:=(List.getElem?_eq_some_iff.1 hk2).1;omega)]<;>rfl)) | (rw [hfin]<;>rfl) | (rw [hfin,aL,hR]<;>rfl) | (rw [hfin,aL,hM]<;>rfl)
   ·replace g43:=yq (nf g43)
    refine ⟨by omega,rfl,by first | omega | (simp;omega),fun e46 h46=>?_⟩
    obtain rfl:=(cF hk2 h46).symm
    refine ⟨iU _ _ _,fun g53=>?_,fun g53=>?_⟩
    ·replace g53:=nq (nt g53)
     have hbad:pB n e37=false∨64≤k:=by by_cases hq:64≤k;(exact .inr hq);(refine .inl (jZ ?_);rintro ⟨q1,q2,q3,q4⟩;have:=mU (a:=e37.src) (c:=e37.dst) q2 (by omega) (by omega) (by omega);omega)
     refine ⟨?_,?_,?_,?_,trivial⟩
     ·first | (rw [aS (by omega)]<;>rfl) | (rcases hbad with hbad | hbad;(rw [aT hk2 hbad]<;>rfl);(rw [aG (by have:=(List.getElem?_eq_some_iff.1 hk2).1;omega)]<;>rfl)) | (rw [hfin]<;>rfl) | (rw [hfin,aL,hR]<;>rfl) | (rw [hfin,aL,hM]<;>rfl)
     ·first | (rw [aS (by omega)]<;>rfl) | (rcases hbad with hbad | hbad;(rw [aT hk2 hbad]<;>rfl);(rw [aG (by have:=(List.getElem?_eq_some_iff.1 hk2).1;omega)]<;>rfl)) | (rw [hfin]<;>rfl) | (rw [hfin,aL,hR]<;>rfl) | (rw [hfin,aL,hM]<;>rfl)
     ·first | (rw [aS (by omega)]<;>rfl) | (rcases hbad with hbad | hbad;(rw [aT hk2 hbad]<;>rfl);(rw [aG (by have:=(List.getElem?_eq_some_iff.1 hk2).1;omega)]<;>rfl)) | (rw [hfin]<;>rfl) | (rw [hfin,aL,hR]<;>rfl) | (rw [hfin,aL,hM]<;>rfl)
     ·first | (rw [aS (by omega)]<;>rfl) | (rcases hbad with hbad | hbad;(rw [aT hk2 hbad]<;>rfl);(rw [aG (by have:=(List.getElem?_eq_some_iff.1 hk2).1;omega)]<;>rfl)) | (rw [hfin]<;>rfl) | (rw [hfin,aL,hR]<;>rfl) | (rw [hfin,aL,hM]<;>rfl)
    ·replace g53:=yq (nf g53)
     refine ⟨by omega,rfl,by first | omega | (simp;omega),fun e56 h56=>?_⟩
     obtain rfl:=(cF hk2 h56).symm
     refine ⟨by omega,rfl,by first | omega | (simp;omega),fun e61 h61=>?_⟩
     obtain rfl:=(cF hk2 h61).symm
     refine ⟨by omega,rfl,by first | omega | (simp;omega),fun e67 h67=>?_⟩
     obtain rfl:=(cF hk2 h67).symm
     refine ⟨fun g72=>?_,fun g72=>?_⟩
     ·replace g72:=nq (nt g72)
      have hbad:pB n e37=false∨64≤k:=by by_cases hq:64≤k;(exact .inr hq);(refine .inl (jZ ?_);rintro ⟨q1,q2,q3,q4⟩;have:=mU (a:=e37.src) (c:=e37.dst) q2 (by omega) (by omega) (by omega);omega)
      refine ⟨?_,?_,?_,?_,trivial⟩
      ·first | (rw [aS (by omega)]<;>rfl) | (rcases hbad with hbad | hbad;(rw [aT hk2 hbad]<;>rfl);(rw [aG (by have:=(List.getElem?_eq_some_iff.1 hk2).1;omega)]<;>rfl)) | (rw [hfin]<;>rfl) | (rw [hfin,aL,hR]<;>rfl) | (rw [hfin,aL,hM]<;>rfl)
      ·first | (rw [aS (by omega)]<;>rfl) | (rcases hbad with hbad | hbad;(rw [aT hk2 hbad]<;>rfl);(rw [aG (by have:=(List.getElem?_eq_some_iff.1 hk2).1;omega)]<;>rfl)) | (rw [hfin]<;>rfl) | (rw [hfin,aL,hR]<;>rfl) | (rw [hfin,aL,hM]<;>rfl)
      ·first | (rw [aS (by omega)]<;>rfl) | (rcases hbad with hbad | hbad;(rw [aT hk2 hbad]<;>rfl);(rw [aG (by have:=(List.getElem?_eq_some_iff.1 hk2).1;omega)]<;>rfl)) | (rw [hfin]<;>rfl) | (rw [hfin,aL,hR]<;>rfl) | (rw [hfin,aL,hM]<;>rfl)
      ·first | (rw [aS (by omega)]<;>rfl) | (rcases hbad with hbad | hbad;(rw [aT hk2 hbad]<;>rfl);(rw [aG (by have:=(List.getElem?_eq_some_iff.1 hk2).1;omega)]<;>rfl)) | (rw [hfin]<;>rfl) | (rw [hfin,aL,hR]<;>rfl) | (rw [hfin,aL,hM]<;>rfl)
     ·replace g72:=yq (nf g72)
      refine ⟨by omega,rfl,by first | omega | (simp;omega),fun e75 h75=>?_⟩
      obtain rfl:=(cF hk2 h75).symm
      refine ⟨by omega,rfl,by first | omega | (simp;omega),fun e80 h80=>?_⟩
      obtain rfl:=(cF hk2 h80).symm
      refine ⟨fun g85=>?_,fun g85=>?_⟩
      ·replace g85:=yq g85
       have hbad:pB n e37=false∨64≤k:=by by_cases hq:64≤k;(exact .inr hq);(refine .inl (jZ ?_);rintro ⟨q1,q2,q3,q4⟩;have:=mU (a:=e37.src) (c:=e37.dst) q2 (by omega) (by omega) (by omega);omega)
       refine ⟨?_,?_,?_,?_,trivial⟩
       ·first | (rw [aS (by omega)]<;>rfl) | (rcases hbad with hbad | hbad;(rw [aT hk2 hbad]<;>rfl);(rw [aG (by have:=(List.getElem?_eq_some_iff.1 hk2).1;omega)]<;>rfl)) | (rw [hfin]<;>rfl) | (rw [hfin,aL,hR]<;>rfl) | (rw [hfin,aL,hM]<;>rfl)
       ·first | (rw [aS (by omega)]<;>rfl) | (rcases hbad with hbad | hbad;(rw [aT hk2 hbad]<;>rfl);(rw [aG (by have:=(List.getElem?_eq_some_iff.1 hk2).1;omega)]<;>rfl)) | (rw [hfin]<;>rfl) | (rw [hfin,aL,hR]<;>rfl) | (rw [hfin,aL,hM]<;>rfl)
       ·first | (rw [aS (by omega)]<;>rfl) | (rcases hbad with hbad | hbad;(rw [aT hk2 hbad]<;>rfl);(rw [aG (by have:=(List.getElem?_eq_some_iff.1 hk2).1;omega)]<;>rfl)) | (rw [hfin]<;>rfl) | (rw [hfin,aL,hR]<;>rfl) | (rw [hfin,aL,hM]<;>rfl)
       ·first | (rw [aS (by omega)]<;>rfl) | (rcases hbad with hbad | hbad;(rw [aT hk2 hbad]<;>rfl);(rw [aG (by have:=(List.getElem?_eq_some_iff.1 hk2).1;omega)]<;>rfl)) | (rw [hfin]<;>rfl) | (rw [hfin,aL,hR]<;>rfl) | (rw [hfin,aL,hM]<;>rfl)
      ·replace g85:=nq g85
       refine ⟨fun c2=>?_,fun c2=>?_⟩
       ·replace c2:=yq c2
        have hbad:pB n e37=false∨64≤k:=by by_cases hq:64≤k;(exact .inr hq);(refine .inl (jZ ?_);rintro ⟨q1,q2,q3,q4⟩;have:=mU (a:=e37.src) (c:=e37.dst) q2 (by omega) (by omega) (by omega);omega)
        refine ⟨?_,?_,?_,?_,trivial⟩
        ·first | (rw [aS (by omega)]<;>rfl) | (rcases hbad with hbad | hbad;(rw [aT hk2 hbad]<;>rfl);(rw [aG (by have:=(List.getElem?_eq_some_iff.1 hk2).1;omega)]<;>rfl)) | (rw [hfin]<;>rfl) | (rw [hfin,aL,hR]<;>rfl) | (rw [hfin,aL,hM]<;>rfl)
        ·first | (rw [aS (by omega)]<;>rfl) | (rcases hbad with hbad | hbad;(rw [aT hk2 hbad]<;>rfl);(rw [aG (by have:=(List.getElem?_eq_some_iff.1 hk2).1;omega)]<;>rfl)) | (rw [hfin]<;>rfl) | (rw [hfin,aL,hR]<;>rfl) | (rw [hfin,aL,hM]<;>rfl)
        ·first | (rw [aS (by omega)]<;>rfl) | (rcases hbad with hbad | hbad;(rw [aT hk2 hbad]<;>rfl);(rw [aG (by have:=(List.getElem?_eq_some_iff.1 hk2).1;omega)]<;>rfl)) | (rw [hfin]<;>rfl) | (rw [hfin,aL,hR]<;>rfl) | (rw [hfin,aL,hM]<;>rfl)
        ·first | (rw [aS (by omega)]<;>rfl) | (rcases hbad with hbad | hbad;(rw [aT hk2 hbad]<;>rfl);(rw [aG (by have:=(List.getElem?_eq_some_iff.1 hk2).1;omega)]<;>rfl)) | (rw [hfin]<;>rfl) | (rw [hfin,aL,hR]<;>rfl) | (rw [hfin,aL,hM]<;>rfl)
       ·replace c2:=nq c2
        have hle:=mU (a:=e37.src) (c:=e37.dst) (by omega) (by omega) (by omega) (by omega)
        refine ⟨by omega,rfl,by first | omega | (simp;omega),fun e95 h95=>?_⟩
        have q95:=cF hk2 h95
        have r95:e95.src=e37.src∧e95.dst=e37.dst∧e95.bits=e37.bits:=by rw [q95];exact ⟨rfl,rfl,rfl⟩
        refine ⟨by omega,rfl,by first | omega | (simp;omega),fun e101 h101=>?_⟩
        have q101:=cF hk2 h101
        have r101:e101.src=e37.src∧e101.dst=e37.dst∧e101.bits=e37.bits:=by rw [q101];exact ⟨rfl,rfl,rfl⟩
        refine ⟨oC _ ([e95.dst]:List Int) ([e101.src]:List Int) (by omega) (by first | exact pW (by omega) | exact pX (by omega) (by omega) | exact xA) (by first | exact pW (by omega) | exact pX (by omega) (by omega) | exact xA) (by simp) (by simp),rfl,rfl,by first | omega | (simp [hR,hM];omega) | (simp;omega),by omega,rfl,by first | omega | (simp;omega),fun e113 h113=>?_⟩
        have q113:=cF hk2 h113
        have r113:e113.src=e37.src∧e113.dst=e37.dst∧e113.bits=e37.bits:=by rw [q113];exact ⟨rfl,rfl,rfl⟩
        refine ⟨rfl,rfl,fun _=>rfl,by first | omega | (simp [hR,hM];omega) | (simp;omega),?_⟩
        refine ⟨by first | exact aJ (by omega) | exact ⟨by omega,by omega⟩,?_⟩
        exact ⟨k+1,_,_,rfl,rfl,rfl,⟨by omega,by rw [hR,cV hk2,List.map_append,List.append_assoc,r95.2.1,r101.1];rfl,by rw [hM,cV hk2,List.map_append,List.append_assoc,r113.2.2];rfl,eG hk2 ha (yO ⟨by omega,by omega,by omega,by omega⟩)⟩,by omega⟩
  ·replace c1:=nq c1
   have hkl:k=l.length:=by omega
   subst hkl
   rw [List.take_length] at hR hM ha
   refine ⟨aAc (⟨bQ (bE n) ([((1:Int)*2^(Int.toNat n)) - (1:Int)]:List Int) ([]:List Int),R,M⟩:aQ),fun c3=>?_,fun c3=>?_⟩
   ·replace c3:=nt c3
    have hfin:aV l n=(iH,false):=yP (by rw [←c3,aL,hR,hM])
    refine ⟨?_,?_,?_,?_,trivial⟩
    ·first | (rw [aS (by omega)]<;>rfl) | (rcases hbad with hbad | hbad;(rw [aT hk2 hbad]<;>rfl);(rw [aG (by have:=(List.getElem?_eq_some_iff.1 hk2).1;omega)]<;>rfl)) | (rw [hfin]<;>rfl) | (rw [hfin,aL,hR]<;>rfl) | (rw [hfin,aL,hM]<;>rfl)
    ·first | (rw [aS (by omega)]<;>rfl) | (rcases hbad with hbad | hbad;(rw [aT hk2 hbad]<;>rfl);(rw [aG (by have:=(List.getElem?_eq_some_iff.1 hk2).1;omega)]<;>rfl)) | (rw [hfin]<;>rfl) | (rw [hfin,aL,hR]<;>rfl) | (rw [hfin,aL,hM]<;>rfl)
    ·first | (rw [aS (by omega)]<;>rfl) | (rcases hbad with hbad | hbad;(rw [aT hk2 hbad]<;>rfl);(rw [aG (by have:=(List.getElem?_eq_some_iff.1 hk2).1;omega)]<;>rfl)) | (rw [hfin]<;>rfl) | (rw [hfin,aL,hR]<;>rfl) | (rw [hfin,aL,hM]<;>rfl)
    ·first | (rw [aS (by omega)]<;>rfl) | (rcases hbad with hbad | hbad;(rw [aT hk2 hbad]<;>rfl);(rw [aG (by have:=(List.getElem?_eq_some_iff.1 hk2).1;omega)]<;>rfl)) | (rw [hfin]<;>rfl) | (rw [hfin,aL,hR]<;>rfl) | (rw [hfin,aL,hM]<;>rfl)
   ·replace c3:=nf c3
    have hfin:aV l n=(aL n l,true):=xE (by omega) ha (by rw [←c3,aL,hR,hM])
    refine ⟨?_,?_,?_,?_,trivial⟩
    ·first | (rw [aS (by omega)]<;>rfl) | (rcases hbad with hbad | hbad;(rw [aT hk2 hbad]<;>rfl);(rw [aG (by have:=(List.getElem?_eq_some_iff.1 hk2).1;omega)]<;>rfl)) | (rw [hfin]<;>rfl) | (rw [hfin,aL,hR]<;>rfl) | (rw [hfin,aL,hM]<;>rfl)
    ·first | (rw [aS (by omega)]<;>rfl) | (rcases hbad with hbad | hbad;(rw [aT hk2 hbad]<;>rfl);(rw [aG (by have:=(List.getElem?_eq_some_iff.1 hk2).1;omega)]<;>rfl)) | (rw [hfin]<;>rfl) | (rw [hfin,aL,hR]<;>rfl) | (rw [hfin,aL,hM]<;>rfl)
    ·first | (rw [aS (by omega)]<;>rfl) | (rcases hbad with hbad | hbad;(rw [aT hk2 hbad]<;>rfl);(rw [aG (by have:=(List.getElem?_eq_some_iff.1 hk2).1;omega)]<;>rfl)) | (rw [hfin]<;>rfl) | (rw [hfin,aL,hR]<;>rfl) | (rw [hfin,aL,hM]<;>rfl)
    ·first | (rw [aS (by omega)]<;>rfl) | (rcases hbad with hbad | hbad;(rw [aT hk2 hbad]<;>rfl);(rw [aG (by have:=(List.getElem?_eq_some_iff.1 hk2).1;omega)]<;>rfl)) | (rw [hfin]<;>rfl) | (rw [hfin,aL,hR]<;>rfl) | (rw [hfin,aL,hM]<;>rfl)
abbrev gV (x:SizeConstraintD):Prop:=jP Try.prog 17 [.agg [.int .i64 x.src,.int .i64 x.dst,.int .i64 x.bits]] (.agg [vI x.src,vI x.dst,vI x.bits]) []
theorem oF (x:SizeConstraintD):gV x:=by
 refine eM gL cO Try.func17 (by kernel_rfl) (.fin []) (p:=x.src=x.src∧x.dst=x.dst∧x.bits=x.bits∧True) (by kernel_rfl) ?_
 exact ⟨rfl,rfl,rfl,trivial⟩
abbrev cD (x:List SizeConstraintD):AV × List (Nat × Rs):=(.own 0,[(0,.arr 41 3 true (x.map aA))])
abbrev cR (x:List SizeConstraintD):Prop:=jP Try.prog 6 [.one (.sl 41 3 (x.map aA))] (cD x).1 (cD x).2
theorem dR (x:List SizeConstraintD) (hc:aY x≤1048576):cR x:=by
 refine eM gL cO Try.func6 (by kernel_rfl) (.len x.length<| .mk x.length [.int .i64 bF.src,.int .i64 bF.dst,.int .i64 bF.bits] ((List.replicate x.length bF).map aA)<| .loop (Nat × (List SizeConstraintD)) (Q2 Nat (List SizeConstraintD)) [3,4,8,9,10,11,12,13,14,15,16,17,18,19,20,21] [700] (fun yy0=>[(3,.own 700),(4,vI (yy0.1:Int))]) (fun yy0=>[(700,some (.arr 41 3 true (yy0.2.map aA)))]) (fun yy0=>yy0.1≤x.length∧yy0.2=x.take yy0.1++List.replicate (x.length - yy0.1) bF) (fun yy0=>x.length - yy0.1) (fun yy0=> .len x.length<| .br (.elem _ aA x (fun e18=> .call (.agg [vI e18.src,vI e18.dst,vI e18.bits]) []<| .len yy0.2.length<| .set SizeConstraintD aA yy0.2 (fun s5_8=>e18) (fun s5_8=> .back [(700,700)]))) (.fin [(0,700)]))) (p:=(x.map aA).length≤9223372036854775807→Lm aA x∧(((x.length:Nat):Int)=((x.length:Nat):Int)∧((x.length:Nat):Int)=((x.length:Nat):Int)∧24*x.length≤281474976710656∧x.length≤9223372036854775807∧List.replicate x.length [.int .i64 bF.src,.int .i64 bF.dst,.int .i64 bF.bits]=(List.replicate x.length bF).map aA∧((∃(k:Nat) (out:List SizeConstraintD),(0:Int)=(k:Int)∧(List.replicate x.length bF).map aA=out.map aA∧k≤x.length∧out=x.take k++List.replicate (x.length - k) bF)∧ ∀(k:Nat) (out:List SizeConstraintD),(k≤x.length∧out=x.take k++List.replicate (x.length - k) bF)→Lm aA x∧(((decide ((k:Int)<((x.length:Nat):Int)))=true→0≤(k:Int)∧Em aA x k fun e18=>gV e18∧(0≤(k:Int)∧Lm aA out∧(k:Int)<((out.length:Nat):Int)∧(out.map aA=out.map aA∧k<out.length∧ ∀s5_8,out[k]? =some s5_8→dZ (aA s5_8)=true∧0+3≤(aA s5_8).length∧(aA s5_8).take 0++[.int .i64 e18.src,.int .i64 e18.dst,.int .i64 e18.bits]++(aA s5_8).drop (0+3)=aA e18∧dV ((k:Int)+(1:Int))∧ ∃(k' :Nat) (out' :List SizeConstraintD),((k:Int)+(1:Int))=(k' :Int)∧(out.set k e18).map aA=out'.map aA∧(k' ≤x.length∧out' =x.take k' ++List.replicate (x.length - k') bF)∧x.length - k' <x.length - k)))∧((decide ((k:Int)<((x.length:Nat):Int)))=false→out.map aA=x.map aA∧True))))) (by kernel_rfl) ?_
 intro n0
 simp only [List.length_map] at n0
 refine ⟨List.length_map _,rfl,rfl,by have:=gM x;omega,by have:=gM x;omega,by first | (rw [List.map_replicate];done) | (rw [List.map_replicate];rfl),⟨0,List.replicate x.length bF,rfl,rfl,Nat.zero_le _,by simp⟩,fun k out ⟨hk,ho⟩=>?_⟩
 have hl:out.length=x.length:=by rw [ho];exact aBq hk
 refine ⟨List.length_map _,fun c0=>?_,fun c0=>?_⟩
 ·replace c0:=yq c0
  refine ⟨by omega,rfl,by omega,fun e18 h18=>?_⟩
  refine ⟨oF e18,by omega,List.length_map _,by omega,rfl,by omega,fun s5_8 hs5_8=>⟨rfl,Nat.le_of_ble_eq_true rfl,rfl,?_⟩⟩
  refine ⟨⟨by omega,by omega⟩,?_⟩
  exact ⟨k+1,out.set k e18,rfl,rfl,⟨by omega,by rw [ho];exact aA7 ‹x[k]? =some _›⟩,by omega⟩
 ·replace c0:=nq c0
  refine ⟨?_,trivial⟩
  ·rw [ho,aA8 hk (by omega)]
end Go.Proofs.Ytdfebigfnjfgpaa
