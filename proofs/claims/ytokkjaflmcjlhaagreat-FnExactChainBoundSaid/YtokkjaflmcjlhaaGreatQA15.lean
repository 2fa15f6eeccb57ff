/-
  Contracts and plain laws, joined: part 16.
-/
import Derived.Test.YtokkjaflmcjlhaaGreatQA3
namespace Go.Proofs.YtokkjaflmcjlhaaGreat
open Go.ChangeShapes Go.WideShapes Go.ChangeAt Go.RowKit
set_option linter.unusedVariables false
set_option linter.unusedSimpArgs false
set_option maxRecDepth 100000
set_option maxHeartbeats 4000000
abbrev mI (x:List Int):AV × List (Nat × Rs):=(.own 0,[(0,.arr 3 1 true (x.map intD))])
abbrev oK (x:List Int):Prop:=cO Tryz.prog 36 [.one (.sl 3 1 (x.map intD))] (mI x).1 (mI x).2
theorem aBD (x:List Int) (hc:cG x≤1048576):oK x:=by
 refine aT bF aQ Tryz.func36 (by kernel_rfl) (.len x.length<| .mk x.length [.int .i64 (0:Int)] ((List.replicate x.length (0:Int)).map intD)<| .loop (Nat × (List Int)) (Q2 Nat (List Int)) [3,4,8,9,10,11,12,13,14,15,16,17,18,19,20] [700] (fun yy0=>[(3,.own 700),(4,vI (yy0.1:Int))]) (fun yy0=>[(700,some (.arr 3 1 true (yy0.2.map intD)))]) (fun yy0=>yy0.1≤x.length∧yy0.2=x.take yy0.1++List.replicate (x.length - yy0.1) (0:Int)) (fun yy0=>x.length - yy0.1) (fun yy0=> .len x.length<| .br (.elem _ intD x (fun e18=> .len yy0.2.length<| .set Int intD yy0.2 (fun s5_7=>e18) (fun s5_7=> .back [(700,700)]))) (.fin [(0,700)]))) (p:=(x.map intD).length≤9223372036854775807→Lm intD x∧(((x.length:Nat):Int)=((x.length:Nat):Int)∧((x.length:Nat):Int)=((x.length:Nat):Int)∧8*x.length≤281474976710656∧x.length≤9223372036854775807∧List.replicate x.length [.int .i64 (0:Int)]=(List.replicate x.length (0:Int)).map intD∧((∃(k:Nat) (out:List Int),(0:Int)=(k:Int)∧(List.replicate x.length (0:Int)).map intD=out.map intD∧k≤x.length∧out=x.take k++List.replicate (x.length - k) (0:Int))∧ ∀(k:Nat) (out:List Int),(k≤x.length∧out=x.take k++List.replicate (x.length - k) (0:Int))→Lm intD x∧(((decide ((k:Int)<((x.length:Nat):Int)))=true→0≤(k:Int)∧Em intD x k fun e18=>0≤(k:Int)∧Lm intD out∧(k:Int)<((out.length:Nat):Int)∧(out.map intD=out.map intD∧k<out.length∧ ∀s5_7,out[k]? =some s5_7→eI (intD s5_7)=true∧0+1≤(intD s5_7).length∧(intD s5_7).take 0++[.int .i64 e18]++(intD s5_7).drop (0+1)=intD e18∧cL ((k:Int)+(1:Int))∧ ∃(k' :Nat) (out' :List Int),((k:Int)+(1:Int))=(k' :Int)∧(out.set k e18).map intD=out'.map intD∧(k' ≤x.length∧out' =x.take k' ++List.replicate (x.length - k') (0:Int))∧x.length - k' <x.length - k))∧((decide ((k:Int)<((x.length:Nat):Int)))=false→out.map intD=x.map intD∧True))))) (by kernel_rfl) ?_
 intro n0
 simp only [List.length_map] at n0
 refine ⟨List.length_map _,rfl,rfl,by have:=aGI x;omega,by have:=aGI x;omega,by first | (rw [List.map_replicate];done) | (rw [List.map_replicate];rfl),⟨0,List.replicate x.length (0:Int),rfl,rfl,Nat.zero_le _,by simp⟩,fun k out ⟨hk,ho⟩=>?_⟩
 have hl:out.length=x.length:=by rw [ho];exact nI hk
 refine ⟨List.length_map _,fun c0=>?_,fun c0=>?_⟩
 ·replace c0:=yq c0
  refine ⟨by omega,rfl,by omega,fun e18 h18=>?_⟩
  refine ⟨by omega,List.length_map _,by omega,rfl,by omega,fun s5_7 hs5_7=>⟨rfl,Nat.le_of_ble_eq_true rfl,rfl,?_⟩⟩
  refine ⟨⟨by omega,by omega⟩,?_⟩
  exact ⟨k+1,out.set k e18,rfl,rfl,⟨by omega,by rw [ho];exact kQ ‹x[k]? =some _›⟩,by omega⟩
 ·replace c0:=nq c0
  refine ⟨?_,trivial⟩
  ·rw [ho,kR hk (by omega)]
abbrev tL (x:List (List Int)):AV × List (Nat × Rs):=(.own 0,[(0,.arr 32 1 true (x.map aC))])
abbrev aAB (x:List (List Int)):Prop:=cO Tryz.prog 260 [.one (.sl 32 1 (x.map aC))] (tL x).1 (tL x).2
theorem aIu (x:List (List Int)) (hc:cK x≤1048576):aAB x:=by
 refine aT bF aQ Tryz.func260 (by kernel_rfl) (.len x.length<| .mk x.length [.sl 3 1 (([]:List Int).map intD)] ((List.replicate x.length ([]:List Int)).map aC)<| .loop (Nat × (List (List Int))) (Q2 Nat (List (List Int))) [3,4,8,9,10,11,12,13,14,15,16,17,18,19,20,21] [700,2000] (fun yy0=>[(3,.own 700),(4,vI (yy0.1:Int))]) (fun yy0=>[(700,some (.arr 32 1 true (yy0.2.map aC)))]) (fun yy0=>yy0.1≤x.length∧yy0.2=x.take yy0.1++List.replicate (x.length - yy0.1) ([]:List Int)) (fun yy0=>x.length - yy0.1) (fun yy0=> .len x.length<| .br (.elem _ aC x (fun e18=>bH (mI e18)<| .len yy0.2.length<| .setm (List Int) aC yy0.2 (fun s5_8=>e18) (fun s5_8=> .back [(700,700)]))) (.fin [(0,700)]))) (p:=(x.map aC).length≤9223372036854775807→Lm aC x∧(((x.length:Nat):Int)=((x.length:Nat):Int)∧((x.length:Nat):Int)=((x.length:Nat):Int)∧24*x.length≤281474976710656∧x.length≤9223372036854775807∧List.replicate x.length [.sl 3 1 (([]:List Int).map intD)]=(List.replicate x.length ([]:List Int)).map aC∧((∃(k:Nat) (out:List (List Int)),(0:Int)=(k:Int)∧(List.replicate x.length ([]:List Int)).map aC=out.map aC∧k≤x.length∧out=x.take k++List.replicate (x.length - k) ([]:List Int))∧ ∀(k:Nat) (out:List (List Int)),(k≤x.length∧out=x.take k++List.replicate (x.length - k) ([]:List Int))→Lm aC x∧(((decide ((k:Int)<((x.length:Nat):Int)))=true→0≤(k:Int)∧Em aC x k fun e18=>oK e18∧(0≤(k:Int)∧Lm aC out∧(k:Int)<((out.length:Nat):Int)∧(out.map aC=out.map aC∧k<out.length∧ ∀s5_8,out[k]? =some s5_8→0+1≤(aC s5_8).length∧(aC s5_8).take 0++((aC e18).drop 0).take 1++(aC s5_8).drop (0+1)=aC e18∧e18.map intD=e18.map intD∧cL ((k:Int)+(1:Int))∧ ∃(k' :Nat) (out' :List (List Int)),((k:Int)+(1:Int))=(k' :Int)∧(out.set k e18).map aC=out'.map aC∧(k' ≤x.length∧out' =x.take k' ++List.replicate (x.length - k') ([]:List Int))∧x.length - k' <x.length - k)))∧((decide ((k:Int)<((x.length:Nat):Int)))=false→out.map aC=x.map aC∧True))))) (by kernel_rfl) ?_
 intro n0
 simp only [List.length_map] at n0
 refine ⟨List.length_map _,rfl,rfl,by have:=fA x;omega,by have:=fA x;omega,by first | (rw [List.map_replicate];done) | (rw [List.map_replicate];rfl),⟨0,List.replicate x.length ([]:List Int),rfl,rfl,Nat.zero_le _,by simp⟩,fun k out ⟨hk,ho⟩=>?_⟩
 have hl:out.length=x.length:=by rw [ho];exact nI hk
 refine ⟨List.length_map _,fun c0=>?_,fun c0=>?_⟩
 ·replace c0:=yq c0
  refine ⟨by omega,rfl,by omega,fun e18 h18=>?_⟩
  refine ⟨aBD e18 (by first | omega | (have:=oF ‹x[k]? =some _›;omega)),by omega,List.length_map _,by omega,rfl,by omega,fun s5_8 hs5_8=>?_⟩
  refine ⟨Nat.le_of_ble_eq_true rfl,rfl,rfl,⟨by omega,by omega⟩,?_⟩
  exact ⟨k+1,out.set k e18,rfl,rfl,⟨by omega,by rw [ho];exact kQ ‹x[k]? =some _›⟩,by omega⟩
 ·replace c0:=nq c0
  refine ⟨?_,trivial⟩
  ·rw [ho,kR hk (by omega)]
abbrev aAC (x:aS):AV × List (Nat × Rs):=(.agg [.p none (.str x.name),vI x.arity,.own 0],[(0,.arr 32 1 true (x.rows.map aC))])
abbrev aEq (x:aS):Prop:=cO Tryz.prog 218 [.agg [.str x.name,.int .i64 x.arity,.sl 32 1 (x.rows.map aC)]] (aAC x).1 (aAC x).2
theorem aOU (x:aS) (hc:fF x≤1048576):aEq x:=by
 refine aT bF aQ Tryz.func218 (by kernel_rfl) (bH (tL x.rows)<| .fin [(0,1200)]) (p:=(x.rows.map aC).length≤9223372036854775807→aAB x.rows∧x.name=x.name∧x.arity=x.arity∧x.rows.map aC=x.rows.map aC∧True) (by kernel_rfl) ?_
 intro n0
 simp only [List.length_map] at n0
 unfold fF at hc
 refine ⟨aIu x.rows (by first | omega | (have:=cIntSSS_el ‹x[k]? =some _›;omega)),?_⟩
 exact ⟨rfl,rfl,rfl,trivial⟩
abbrev wQ (x:List aS):AV × List (Nat × Rs):=(.own 0,[(0,.arr 162 3 true (x.map aO))])
abbrev aC6 (x:List aS):Prop:=cO Tryz.prog 140 [.one (.sl 162 3 (x.map aO))] (wQ x).1 (wQ x).2
theorem aMJ (x:List aS) (hc:iN x≤1048576):aC6 x:=by
 refine aT bF aQ Tryz.func140 (by kernel_rfl) (.len x.length<| .mk x.length [.str fI.name,.int .i64 fI.arity,.sl 32 1 (fI.rows.map aC)] ((List.replicate x.length fI).map aO)<| .loop (Nat × (List aS)) (Q2 Nat (List aS)) [3,4,8,9,10,11,12,13,14,15,16,17,18,19,20,21] [700,2000] (fun yy0=>[(3,.own 700),(4,vI (yy0.1:Int))]) (fun yy0=>[(700,some (.arr 162 3 true (yy0.2.map aO)))]) (fun yy0=>yy0.1≤x.length∧yy0.2=x.take yy0.1++List.replicate (x.length - yy0.1) fI) (fun yy0=>x.length - yy0.1) (fun yy0=> .len x.length<| .br (.elem _ aO x (fun e18=>bH (aAC e18)<| .len yy0.2.length<| .setm aS aO yy0.2 (fun s5_8=>e18) (fun s5_8=> .back [(700,700)]))) (.fin [(0,700)]))) (p:=(x.map aO).length≤9223372036854775807→Lm aO x∧(((x.length:Nat):Int)=((x.length:Nat):Int)∧((x.length:Nat):Int)=((x.length:Nat):Int)∧48*x.length≤281474976710656∧x.length≤9223372036854775807∧List.replicate x.length [.str fI.name,.int .i64 fI.arity,.sl 32 1 (fI.rows.map aC)]=(List.replicate x.length fI).map aO∧((∃(k:Nat) (out:List aS),(0:Int)=(k:Int)∧(List.replicate x.length fI).map aO=out.map aO∧k≤x.length∧out=x.take k++List.replicate (x.length - k) fI)∧ ∀(k:Nat) (out:List aS),(k≤x.length∧out=x.take k++List.replicate (x.length - k) fI)→Lm aO x∧(((decide ((k:Int)<((x.length:Nat):Int)))=true→0≤(k:Int)∧Em aO x k fun e18=>aEq e18∧(0≤(k:Int)∧Lm aO out∧(k:Int)<((out.length:Nat):Int)∧(out.map aO=out.map aO∧k<out.length∧ ∀s5_8,out[k]? =some s5_8→0+3≤(aO s5_8).length∧(aO s5_8).take 0++((aO e18).drop 0).take 3++(aO s5_8).drop (0+3)=aO e18∧e18.name=e18.name∧e18.arity=e18.arity∧e18.rows.map aC=e18.rows.map aC∧cL ((k:Int)+(1:Int))∧ ∃(k' :Nat) (out' :List aS),((k:Int)+(1:Int))=(k' :Int)∧(out.set k e18).map aO=out'.map aO∧(k' ≤x.length∧out' =x.take k' ++List.replicate (x.length - k') fI)∧x.length - k' <x.length - k)))∧((decide ((k:Int)<((x.length:Nat):Int)))=false→out.map aO=x.map aO∧True))))) (by kernel_rfl) ?_
 intro n0
 simp only [List.length_map] at n0
 refine ⟨List.length_map _,rfl,rfl,by have:=aCD x;omega,by have:=aCD x;omega,by first | (rw [List.map_replicate];done) | (rw [List.map_replicate];rfl),⟨0,List.replicate x.length fI,rfl,rfl,Nat.zero_le _,by simp⟩,fun k out ⟨hk,ho⟩=>?_⟩
 have hl:out.length=x.length:=by rw [ho];exact nI hk
 refine ⟨List.length_map _,fun c0=>?_,fun c0=>?_⟩
 ·replace c0:=yq c0
  refine ⟨by omega,rfl,by omega,fun e18 h18=>?_⟩
  refine ⟨aOU e18 (by first | omega | (have:=zC ‹x[k]? =some _›;omega)),by omega,List.length_map _,by omega,rfl,by omega,fun s5_8 hs5_8=>?_⟩
  refine ⟨Nat.le_of_ble_eq_true rfl,rfl,rfl,rfl,rfl,⟨by omega,by omega⟩,?_⟩
  exact ⟨k+1,out.set k e18,rfl,rfl,⟨by omega,by rw [ho];exact kQ ‹x[k]? =some _›⟩,by omega⟩
 ·replace c0:=nq c0
  refine ⟨?_,trivial⟩
  ·rw [ho,kR hk (by omega)]
abbrev qX (x:aR):AV × List (Nat × Rs):=(.agg [.own 0],[(0,.arr 162 3 true (x.tables.map aO))])
abbrev yK (x:aR):Prop:=cO Tryz.prog 68 [.agg [.sl 162 3 (x.tables.map aO)]] (qX x).1 (qX x).2
theorem aIv (x:aR) (hc:bD x≤1048576):yK x:=by
 refine aT bF aQ Tryz.func68 (by kernel_rfl) (bH (wQ x.tables)<| .fin [(0,600)]) (p:=(x.tables.map aO).length≤9223372036854775807→aC6 x.tables∧x.tables.map aO=x.tables.map aO∧True) (by kernel_rfl) ?_
 intro n0
 simp only [List.length_map] at n0
 unfold bD at hc
 refine ⟨aMJ x.tables (by first | omega | (have:=cTableSS_el ‹x[k]? =some _›;omega)),?_⟩
 exact ⟨rfl,trivial⟩
abbrev nQ (x:aN):AV × List (Nat × Rs):=(.agg [.own 0,.own 1,.own 2],[(0,.arr 3 1 true (x.columns.map intD)),(1,.arr 32 1 true (x.values.map aC)),(2,.arr 3 1 true (x.counts.map intD))])
abbrev tZ (x:aN):Prop:=cO Tryz.prog 282 [.agg [.sl 3 1 (x.columns.map intD),.sl 32 1 (x.values.map aC),.sl 3 1 (x.counts.map intD)]] (nQ x).1 (nQ x).2
theorem aF2 (x:aN) (hc:bN x≤1048576):tZ x:=by
 refine aT bF aQ Tryz.func282 (by kernel_rfl) (bH (mI x.columns)<| bH (tL x.values)<| bH (mI x.counts)<| .fin [(0,600),(1,1000),(2,1400)]) (p:=(x.columns.map intD).length≤9223372036854775807→(x.values.map aC).length≤9223372036854775807→(x.counts.map intD).length≤9223372036854775807→oK x.columns∧aAB x.values∧oK x.counts∧x.columns.map intD=x.columns.map intD∧x.values.map aC=x.values.map aC∧x.counts.map intD=x.counts.map intD∧True) (by kernel_rfl) ?_
 intro n0 n1 n2
 simp only [List.length_map] at n0 n1 n2
 unfold bN at hc
 refine ⟨aBD x.columns (by first | omega | (have:=oF ‹x[k]? =some _›;omega)),aIu x.values (by first | omega | (have:=cIntSSS_el ‹x[k]? =some _›;omega)),aBD x.counts (by first | omega | (have:=oF ‹x[k]? =some _›;omega)),?_⟩
 exact ⟨rfl,rfl,rfl,trivial⟩
abbrev mJ (x:List aN):AV × List (Nat × Rs):=(.own 0,[(0,.arr 218 3 true (x.map aA))])
abbrev rS (x:List aN):Prop:=cO Tryz.prog 261 [.one (.sl 218 3 (x.map aA))] (mJ x).1 (mJ x).2
theorem aEr (x:List aN) (hc:dB x≤1048576):rS x:=by
 refine aT bF aQ Tryz.func261 (by kernel_rfl) (.len x.length<| .mk x.length [.sl 3 1 (eA.columns.map intD),.sl 32 1 (eA.values.map aC),.sl 3 1 (eA.counts.map intD)] ((List.replicate x.length eA).map aA)<| .loop (Nat × (List aN)) (Q2 Nat (List aN)) [3,4,8,9,10,11,12,13,14,15,16,17,18,19,20,21] [700,2000,2001,2002] (fun yy0=>[(3,.own 700),(4,vI (yy0.1:Int))]) (fun yy0=>[(700,some (.arr 218 3 true (yy0.2.map aA)))]) (fun yy0=>yy0.1≤x.length∧yy0.2=x.take yy0.1++List.replicate (x.length - yy0.1) eA) (fun yy0=>x.length - yy0.1) (fun yy0=> .len x.length<| .br (.elem _ aA x (fun e18=>bH (nQ e18)<| .len yy0.2.length<| .setm aN aA yy0.2 (fun s5_8=>e18) (fun s5_8=> .back [(700,700)]))) (.fin [(0,700)]))) (p:=(x.map aA).length≤9223372036854775807→Lm aA x∧(((x.length:Nat):Int)=((x.length:Nat):Int)∧((x.length:Nat):Int)=((x.length:Nat):Int)∧72*x.length≤281474976710656∧x.length≤9223372036854775807∧List.replicate x.length [.sl 3 1 (eA.columns.map intD),.sl 32 1 (eA.values.map aC),.sl 3 1 (eA.counts.map intD)]=(List.replicate x.length eA).map aA∧((∃(k:Nat) (out:List aN),(0:Int)=(k:Int)∧(List.replicate x.length eA).map aA=out.map aA∧k≤x.length∧out=x.take k++List.replicate (x.length - k) eA)∧ ∀(k:Nat) (out:List aN),(k≤x.length∧out=x.take k++List.replicate (x.length - k) eA)→Lm aA x∧(((decide ((k:Int)<((x.length:Nat):Int)))=true→0≤(k:Int)∧Em aA x k fun e18=>tZ e18∧(0≤(k:Int)∧Lm aA out∧(k:Int)<((out.length:Nat):Int)∧(out.map aA=out.map aA∧k<out.length∧ ∀s5_8,out[k]? =some s5_8→0+3≤(aA s5_8).length∧(aA s5_8).take 0++((aA e18).drop 0).take 3++(aA s5_8).drop (0+3)=aA e18∧e18.columns.map intD=e18.columns.map intD∧e18.values.map aC=e18.values.map aC∧e18.counts.map intD=e18.counts.map intD∧cL ((k:Int)+(1:Int))∧ ∃(k' :Nat) (out' :List aN),((k:Int)+(1:Int))=(k' :Int)∧(out.set k e18).map aA=out'.map aA∧(k' ≤x.length∧out' =x.take k' ++List.replicate (x.length - k') eA)∧x.length - k' <x.length - k)))∧((decide ((k:Int)<((x.length:Nat):Int)))=false→out.map aA=x.map aA∧True))))) (by kernel_rfl) ?_
 intro n0
 simp only [List.length_map] at n0
 refine ⟨List.length_map _,rfl,rfl,by have:=fJ x;omega,by have:=fJ x;omega,by first | (rw [List.map_replicate];done) | (rw [List.map_replicate];rfl),⟨0,List.replicate x.length eA,rfl,rfl,Nat.zero_le _,by simp⟩,fun k out ⟨hk,ho⟩=>?_⟩
 have hl:out.length=x.length:=by rw [ho];exact nI hk
 refine ⟨List.length_map _,fun c0=>?_,fun c0=>?_⟩
 ·replace c0:=yq c0
  refine ⟨by omega,rfl,by omega,fun e18 h18=>?_⟩
  refine ⟨aF2 e18 (by first | omega | (have:=fT ‹x[k]? =some _›;omega)),by omega,List.length_map _,by omega,rfl,by omega,fun s5_8 hs5_8=>?_⟩
  refine ⟨Nat.le_of_ble_eq_true rfl,rfl,rfl,rfl,rfl,⟨by omega,by omega⟩,?_⟩
  exact ⟨k+1,out.set k e18,rfl,rfl,⟨by omega,by rw [ho];exact kQ ‹x[k]? =some _›⟩,by omega⟩
 ·replace c0:=nq c0
  refine ⟨?_,trivial⟩
  ·rw [ho,kR hk (by omega)]
abbrev nR (x:aF):AV × List (Nat × Rs):=(.agg [.p none (.str x.name),vI x.arity,vI x.rowCount,.own 0],[(0,.arr 218 3 true (x.groups.map aA))])
abbrev uA (x:aF):Prop:=cO Tryz.prog 219 [.agg [.str x.name,.int .i64 x.arity,.int .i64 x.rowCount,.sl 218 3 (x.groups.map aA)]] (nR x).1 (nR x).2
theorem aF3 (x:aF) (hc:aZ x≤1048576):uA x:=by
 refine aT bF aQ Tryz.func219 (by kernel_rfl) (bH (mJ x.groups)<| .fin [(0,1500)]) (p:=(x.groups.map aA).length≤9223372036854775807→rS x.groups∧x.name=x.name∧x.arity=x.arity∧x.rowCount=x.rowCount∧x.groups.map aA=x.groups.map aA∧True) (by kernel_rfl) ?_
 intro n0
 simp only [List.length_map] at n0
 unfold aZ at hc
 refine ⟨aEr x.groups (by first | omega | (have:=cGroupStatsSS_el ‹x[k]? =some _›;omega)),?_⟩
 exact ⟨rfl,rfl,rfl,rfl,trivial⟩
abbrev mK (x:List aF):AV × List (Nat × Rs):=(.own 0,[(0,.arr 121 4 true (x.map aB))])
abbrev rT (x:List aF):Prop:=cO Tryz.prog 141 [.one (.sl 121 4 (x.map aB))] (mK x).1 (mK x).2
theorem aEs (x:List aF) (hc:dQ x≤1048576):rT x:=by
 refine aT bF aQ Tryz.func141 (by kernel_rfl) (.len x.length<| .mk x.length [.str dJ.name,.int .i64 dJ.arity,.int .i64 dJ.rowCount,.sl 218 3 (dJ.groups.map aA)] ((List.replicate x.length dJ).map aB)<| .loop (Nat × (List aF)) (Q2 Nat (List aF)) [3,4,8,9,10,11,12,13,14,15,16,17,18,19,20,21] [700,2000] (fun yy0=>[(3,.own 700),(4,vI (yy0.1:Int))]) (fun yy0=>[(700,some (.arr 121 4 true (yy0.2.map aB)))]) (fun yy0=>yy0.1≤x.length∧yy0.2=x.take yy0.1++List.replicate (x.length - yy0.1) dJ) (fun yy0=>x.length - yy0.1) (fun yy0=> .len x.length<| .br (.elem _ aB x (fun e18=>bH (nR e18)<| .len yy0.2.length<| .setm aF aB yy0.2 (fun s5_8=>e18) (fun s5_8=> .back [(700,700)]))) (.fin [(0,700)]))) (p:=(x.map aB).length≤9223372036854775807→Lm aB x∧(((x.length:Nat):Int)=((x.length:Nat):Int)∧((x.length:Nat):Int)=((x.length:Nat):Int)∧56*x.length≤281474976710656∧x.length≤9223372036854775807∧List.replicate x.length [.str dJ.name,.int .i64 dJ.arity,.int .i64 dJ.rowCount,.sl 218 3 (dJ.groups.map aA)]=(List.replicate x.length dJ).map aB∧((∃(k:Nat) (out:List aF),(0:Int)=(k:Int)∧(List.replicate x.length dJ).map aB=out.map aB∧k≤x.length∧out=x.take k++List.replicate (x.length - k) dJ)∧ ∀(k:Nat) (out:List aF),(k≤x.length∧out=x.take k++List.replicate (x.length - k) dJ)→Lm aB x∧(((decide ((k:Int)<((x.length:Nat):Int)))=true→0≤(k:Int)∧Em aB x k fun e18=>uA e18∧(0≤(k:Int)∧Lm aB out∧(k:Int)<((out.length:Nat):Int)∧(out.map aB=out.map aB∧k<out.length∧ ∀s5_8,out[k]? =some s5_8→0+4≤(aB s5_8).length∧(aB s5_8).take 0++((aB e18).drop 0).take 4++(aB s5_8).drop (0+4)=aB e18∧e18.name=e18.name∧e18.arity=e18.arity∧e18.rowCount=e18.rowCount∧e18.groups.map aA=e18.groups.map aA∧cL ((k:Int)+(1:Int))∧ ∃(k' :Nat) (out' :List aF),((k:Int)+(1:Int))=(k' :Int)∧(out.set k e18).map aB=out'.map aB∧(k' ≤x.length∧out' =x.take k' ++List.replicate (x.length - k') dJ)∧x.length - k' <x.length - k)))∧((decide ((k:Int)<((x.length:Nat):Int)))=false→out.map aB=x.map aB∧True))))) (by kernel_rfl) ?_
 intro n0
 simp only [List.length_map] at n0
 refine ⟨List.length_map _,rfl,rfl,by have:=rG x;omega,by have:=rG x;omega,by first | (rw [List.map_replicate];done) | (rw [List.map_replicate];rfl),⟨0,List.replicate x.length dJ,rfl,rfl,Nat.zero_le _,by simp⟩,fun k out ⟨hk,ho⟩=>?_⟩
 have hl:out.length=x.length:=by rw [ho];exact nI hk
 refine ⟨List.length_map _,fun c0=>?_,fun c0=>?_⟩
 ·replace c0:=yq c0
  refine ⟨by omega,rfl,by omega,fun e18 h18=>?_⟩
  refine ⟨aF3 e18 (by first | omega | (have:=iS ‹x[k]? =some _›;omega)),by omega,List.length_map _,by omega,rfl,by omega,fun s5_8 hs5_8=>?_⟩
  refine ⟨Nat.le_of_ble_eq_true rfl,rfl,rfl,rfl,rfl,rfl,⟨by omega,by omega⟩,?_⟩
  exact ⟨k+1,out.set k e18,rfl,rfl,⟨by omega,by rw [ho];exact kQ ‹x[k]? =some _›⟩,by omega⟩
 ·replace c0:=nq c0
  refine ⟨?_,trivial⟩
  ·rw [ho,kR hk (by omega)]
abbrev pO (x:cA):AV × List (Nat × Rs):=(.agg [vI x.version,.own 0],[(0,.arr 121 4 true (x.tables.map aB))])
abbrev wR (x:cA):Prop:=cO Tryz.prog 69 [.agg [.int .i64 x.version,.sl 121 4 (x.tables.map aB)]] (pO x).1 (pO x).2
theorem aHR (x:cA) (hc:bL x≤1048576):wR x:=by
 refine aT bF aQ Tryz.func69 (by kernel_rfl) (bH (mK x.tables)<| .fin [(0,900)]) (p:=(x.tables.map aB).length≤9223372036854775807→rT x.tables∧x.version=x.version∧x.tables.map aB=x.tables.map aB∧True) (by kernel_rfl) ?_
 intro n0
 simp only [List.length_map] at n0
 unfold bL at hc
 refine ⟨aEs x.tables (by first | omega | (have:=cTableStatsSS_el ‹x[k]? =some _›;omega)),?_⟩
 exact ⟨rfl,rfl,trivial⟩
abbrev nS (x:aW):AV × List (Nat × Rs):=(.agg [.p none (.str x.name),.own 0,vI x.dst],[(0,.arr 3 1 true (x.src.map intD))])
abbrev uB (x:aW):Prop:=cO Tryz.prog 142 [.agg [.str x.name,.sl 3 1 (x.src.map intD),.int .i64 x.dst]] (nS x).1 (nS x).2
theorem aF4 (x:aW) (hc:cN x≤1048576):uB x:=by
 refine aT bF aQ Tryz.func142 (by kernel_rfl) (bH (mI x.src)<| .fin [(0,900)]) (p:=(x.src.map intD).length≤9223372036854775807→oK x.src∧x.name=x.name∧x.dst=x.dst∧x.src.map intD=x.src.map intD∧True) (by kernel_rfl) ?_
 intro n0
 simp only [List.length_map] at n0
 unfold cN at hc
 refine ⟨aBD x.src (by first | omega | (have:=oF ‹x[k]? =some _›;omega)),?_⟩
 exact ⟨rfl,rfl,rfl,trivial⟩
abbrev mL (x:List aW):AV × List (Nat × Rs):=(.own 0,[(0,.arr 168 3 true (x.map aH))])
abbrev rU (x:List aW):Prop:=cO Tryz.prog 70 [.one (.sl 168 3 (x.map aH))] (mL x).1 (mL x).2
theorem aEt (x:List aW) (hc:bV x≤1048576):rU x:=by
 refine aT bF aQ Tryz.func70 (by kernel_rfl) (.len x.length<| .mk x.length [.str eN.name,.sl 3 1 (eN.src.map intD),.int .i64 eN.dst] ((List.replicate x.length eN).map aH)<| .loop (Nat × (List aW)) (Q2 Nat (List aW)) [3,4,8,9,10,11,12,13,14,15,16,17,18,19,20,21] [700,2000] (fun yy0=>[(3,.own 700),(4,vI (yy0.1:Int))]) (fun yy0=>[(700,some (.arr 168 3 true (yy0.2.map aH)))]) (fun yy0=>yy0.1≤x.length∧yy0.2=x.take yy0.1++List.replicate (x.length - yy0.1) eN) (fun yy0=>x.length - yy0.1) (fun yy0=> .len x.length<| .br (.elem _ aH x (fun e18=>bH (nS e18)<| .len yy0.2.length<| .setm aW aH yy0.2 (fun s5_8=>e18) (fun s5_8=> .back [(700,700)]))) (.fin [(0,700)]))) (p:=(x.map aH).length≤9223372036854775807→Lm aH x∧(((x.length:Nat):Int)=((x.length:Nat):Int)∧((x.length:Nat):Int)=((x.length:Nat):Int)∧48*x.length≤281474976710656∧x.length≤9223372036854775807∧List.replicate x.length [.str eN.name,.sl 3 1 (eN.src.map intD),.int .i64 eN.dst]=(List.replicate x.length eN).map aH∧((∃(k:Nat) (out:List aW),(0:Int)=(k:Int)∧(List.replicate x.length eN).map aH=out.map aH∧k≤x.length∧out=x.take k++List.replicate (x.length - k) eN)∧ ∀(k:Nat) (out:List aW),(k≤x.length∧out=x.take k++List.replicate (x.length - k) eN)→Lm aH x∧(((decide ((k:Int)<((x.length:Nat):Int)))=true→0≤(k:Int)∧Em aH x k fun e18=>uB e18∧(0≤(k:Int)∧Lm aH out∧(k:Int)<((out.length:Nat):Int)∧(out.map aH=out.map aH∧k<out.length∧ ∀s5_8,out[k]? =some s5_8→0+3≤(aH s5_8).length∧(aH s5_8).take 0++((aH e18).drop 0).take 3++(aH s5_8).drop (0+3)=aH e18∧e18.name=e18.name∧e18.src.map intD=e18.src.map intD∧e18.dst=e18.dst∧cL ((k:Int)+(1:Int))∧ ∃(k' :Nat) (out' :List aW),((k:Int)+(1:Int))=(k' :Int)∧(out.set k e18).map aH=out'.map aH∧(k' ≤x.length∧out' =x.take k' ++List.replicate (x.length - k') eN)∧x.length - k' <x.length - k)))∧((decide ((k:Int)<((x.length:Nat):Int)))=false→out.map aH=x.map aH∧True))))) (by kernel_rfl) ?_
 intro n0
 simp only [List.length_map] at n0
 refine ⟨List.length_map _,rfl,rfl,by have:=rH x;omega,by have:=rH x;omega,by first | (rw [List.map_replicate];done) | (rw [List.map_replicate];rfl),⟨0,List.replicate x.length eN,rfl,rfl,Nat.zero_le _,by simp⟩,fun k out ⟨hk,ho⟩=>?_⟩
 have hl:out.length=x.length:=by rw [ho];exact nI hk
 refine ⟨List.length_map _,fun c0=>?_,fun c0=>?_⟩
 ·replace c0:=yq c0
  refine ⟨by omega,rfl,by omega,fun e18 h18=>?_⟩
  refine ⟨aF4 e18 (by first | omega | (have:=aCh ‹x[k]? =some _›;omega)),by omega,List.length_map _,by omega,rfl,by omega,fun s5_8 hs5_8=>?_⟩
  refine ⟨Nat.le_of_ble_eq_true rfl,rfl,rfl,rfl,rfl,⟨by omega,by omega⟩,?_⟩
  exact ⟨k+1,out.set k e18,rfl,rfl,⟨by omega,by rw [ho];exact kQ ‹x[k]? =some _›⟩,by omega⟩
 ·replace c0:=nq c0
  refine ⟨?_,trivial⟩
  ·rw [ho,kR hk (by omega)]
abbrev pP (x:aU):AV × List (Nat × Rs):=(.agg [.p none (.str x.name),vI x.column,.p none (.str x.into),vI x.intoColumn],[])
abbrev wS (x:aU):Prop:=cO Tryz.prog 143 [.agg [.str x.name,.int .i64 x.column,.str x.into,.int .i64 x.intoColumn]] (pP x).1 (pP x).2
theorem aHS (x:aU) (hc:dC x≤1048576):wS x:=by
 refine aT bF aQ Tryz.func143 (by kernel_rfl) (.fin []) (p:=x.name=x.name∧x.column=x.column∧x.into=x.into∧x.intoColumn=x.intoColumn∧True) (by kernel_rfl) ?_
 unfold dC at hc
 exact ⟨rfl,rfl,rfl,rfl,trivial⟩
abbrev nT (x:List aU):AV × List (Nat × Rs):=(.own 0,[(0,.arr 170 4 true (x.map aJ))])
abbrev uC (x:List aU):Prop:=cO Tryz.prog 71 [.one (.sl 170 4 (x.map aJ))] (nT x).1 (nT x).2
theorem aF5 (x:List aU) (hc:cR x≤1048576):uC x:=by
 refine aT bF aQ Tryz.func71 (by kernel_rfl) (.len x.length<| .mk x.length [.str eM.name,.int .i64 eM.column,.str eM.into,.int .i64 eM.intoColumn] ((List.replicate x.length eM).map aJ)<| .loop (Nat × (List aU)) (Q2 Nat (List aU)) [3,4,8,9,10,11,12,13,14,15,16,17,18,19,20,21] [700] (fun yy0=>[(3,.own 700),(4,vI (yy0.1:Int))]) (fun yy0=>[(700,some (.arr 170 4 true (yy0.2.map aJ)))]) (fun yy0=>yy0.1≤x.length∧yy0.2=x.take yy0.1++List.replicate (x.length - yy0.1) eM) (fun yy0=>x.length - yy0.1) (fun yy0=> .len x.length<| .br (.elem _ aJ x (fun e18=>bH (pP e18)<| .len yy0.2.length<| .set aU aJ yy0.2 (fun s5_8=>e18) (fun s5_8=> .back [(700,700)]))) (.fin [(0,700)]))) (p:=(x.map aJ).length≤9223372036854775807→Lm aJ x∧(((x.length:Nat):Int)=((x.length:Nat):Int)∧((x.length:Nat):Int)=((x.length:Nat):Int)∧48*x.length≤281474976710656∧x.length≤9223372036854775807∧List.replicate x.length [.str eM.name,.int .i64 eM.column,.str eM.into,.int .i64 eM.intoColumn]=(List.replicate x.length eM).map aJ∧((∃(k:Nat) (out:List aU),(0:Int)=(k:Int)∧(List.replicate x.length eM).map aJ=out.map aJ∧k≤x.length∧out=x.take k++List.replicate (x.length - k) eM)∧ ∀(k:Nat) (out:List aU),(k≤x.length∧out=x.take k++List.replicate (x.length - k) eM)→Lm aJ x∧(((decide ((k:Int)<((x.length:Nat):Int)))=true→0≤(k:Int)∧Em aJ x k fun e18=>wS e18∧(0≤(k:Int)∧Lm aJ out∧(k:Int)<((out.length:Nat):Int)∧(out.map aJ=out.map aJ∧k<out.length∧ ∀s5_8,out[k]? =some s5_8→eI (aJ s5_8)=true∧0+4≤(aJ s5_8).length∧(aJ s5_8).take 0++[.str e18.name,.int .i64 e18.column,.str e18.into,.int .i64 e18.intoColumn]++(aJ s5_8).drop (0+4)=aJ e18∧cL ((k:Int)+(1:Int))∧ ∃(k' :Nat) (out' :List aU),((k:Int)+(1:Int))=(k' :Int)∧(out.set k e18).map aJ=out'.map aJ∧(k' ≤x.length∧out' =x.take k' ++List.replicate (x.length - k') eM)∧x.length - k' <x.length - k)))∧((decide ((k:Int)<((x.length:Nat):Int)))=false→out.map aJ=x.map aJ∧True))))) (by kernel_rfl) ?_
 intro n0
 simp only [List.length_map] at n0
 refine ⟨List.length_map _,rfl,rfl,by have:=eQ x;omega,by have:=eQ x;omega,by first | (rw [List.map_replicate];done) | (rw [List.map_replicate];rfl),⟨0,List.replicate x.length eM,rfl,rfl,Nat.zero_le _,by simp⟩,fun k out ⟨hk,ho⟩=>?_⟩
 have hl:out.length=x.length:=by rw [ho];exact nI hk
 refine ⟨List.length_map _,fun c0=>?_,fun c0=>?_⟩
 ·replace c0:=yq c0
  refine ⟨by omega,rfl,by omega,fun e18 h18=>?_⟩
  refine ⟨aHS e18 (by first | omega | (have:=aDn ‹x[k]? =some _›;omega)),by omega,List.length_map _,by omega,rfl,by omega,fun s5_8 hs5_8=>⟨rfl,Nat.le_of_ble_eq_true rfl,rfl,?_⟩⟩
  refine ⟨⟨by omega,by omega⟩,?_⟩
  exact ⟨k+1,out.set k e18,rfl,rfl,⟨by omega,by rw [ho];exact kQ ‹x[k]? =some _›⟩,by omega⟩
 ·replace c0:=nq c0
  refine ⟨?_,trivial⟩
  ·rw [ho,kR hk (by omega)]
abbrev gN (x:StoreD):AV × List (Nat × Rs):=(.agg [.own 0,vI x.catalogue.version,.own 1,.own 2,.own 3],[(0,.arr 162 3 true (x.database.tables.map aO)),(1,.arr 121 4 true (x.catalogue.tables.map aB)),(2,.arr 168 3 true (x.dependencies.map aH)),(3,.arr 170 4 true (x.inclusions.map aJ))])
abbrev iA (x:StoreD):Prop:=cO Tryz.prog 16 [.agg [.sl 162 3 (x.database.tables.map aO),.int .i64 x.catalogue.version,.sl 121 4 (x.catalogue.tables.map aB),.sl 168 3 (x.dependencies.map aH),.sl 170 4 (x.inclusions.map aJ)]] (gN x).1 (gN x).2
theorem lO (x:StoreD) (hc:cC x≤1048576):iA x:=by
 refine aT bF aQ Tryz.func16 (by kernel_rfl) (bH (qX x.database)<| bH (pO x.catalogue)<| bH (mL x.dependencies)<| bH (nT x.inclusions)<| .fin [(0,600),(1,1000),(2,1400),(3,1800)]) (p:=(x.database.tables.map aO).length≤9223372036854775807→(x.catalogue.tables.map aB).length≤9223372036854775807→(x.dependencies.map aH).length≤9223372036854775807→(x.inclusions.map aJ).length≤9223372036854775807→yK x.database∧wR x.catalogue∧rU x.dependencies∧uC x.inclusions∧x.catalogue.version=x.catalogue.version∧x.database.tables.map aO=x.database.tables.map aO∧x.catalogue.tables.map aB=x.catalogue.tables.map aB∧x.dependencies.map aH=x.dependencies.map aH∧x.inclusions.map aJ=x.inclusions.map aJ∧True) (by kernel_rfl) ?_
 intro n0 n1 n2 n3
 simp only [List.length_map] at n0 n1 n2 n3
 unfold cC at hc
 refine ⟨aIv x.database (by first | omega | (have:=cDatabaseS_el ‹x[k]? =some _›;omega)),aHR x.catalogue (by first | omega | (have:=cCatalogueS_el ‹x[k]? =some _›;omega)),aEt x.dependencies (by first | omega | (have:=cDependencySS_el ‹x[k]? =some _›;omega)),aF5 x.inclusions (by first | omega | (have:=cInclusionSS_el ‹x[k]? =some _›;omega)),?_⟩
 exact ⟨rfl,rfl,rfl,rfl,rfl,trivial⟩
abbrev aBs (x:dF):AV × List (Nat × Rs):=(.agg [.p none (.str x.name),.own 0],[(0,.arr 3 1 true (x.vars.map intD))])
abbrev aG9 (x:dF):Prop:=cO Tryz.prog 167 [.agg [.str x.name,.sl 3 1 (x.vars.map intD)]] (aBs x).1 (aBs x).2
theorem aPa (x:dF) (hc:jC x≤1048576):aG9 x:=by
 refine aT bF aQ Tryz.func167 (by kernel_rfl) (bH (mI x.vars)<| .fin [(0,900)]) (p:=(x.vars.map intD).length≤9223372036854775807→oK x.vars∧x.name=x.name∧x.vars.map intD=x.vars.map intD∧True) (by kernel_rfl) ?_
 intro n0
 simp only [List.length_map] at n0
 unfold jC at hc
 refine ⟨aBD x.vars (by first | omega | (have:=oF ‹x[k]? =some _›;omega)),?_⟩
 exact ⟨rfl,rfl,trivial⟩
abbrev aAD (x:List dF):AV × List (Nat × Rs):=(.own 0,[(0,.arr 131 2 true (x.map aV))])
abbrev aEu (x:List dF):Prop:=cO Tryz.prog 93 [.one (.sl 131 2 (x.map aV))] (aAD x).1 (aAD x).2
theorem aOV (x:List dF) (hc:mC x≤1048576):aEu x:=by
 refine aT bF aQ Tryz.func93 (by kernel_rfl) (.len x.length<| .mk x.length [.str gJ.name,.sl 3 1 (gJ.vars.map intD)] ((List.replicate x.length gJ).map aV)<| .loop (Nat × (List dF)) (Q2 Nat (List dF)) [3,4,8,9,10,11,12,13,14,15,16,17,18,19,20,21] [700,2000] (fun yy0=>[(3,.own 700),(4,vI (yy0.1:Int))]) (fun yy0=>[(700,some (.arr 131 2 true (yy0.2.map aV)))]) (fun yy0=>yy0.1≤x.length∧yy0.2=x.take yy0.1++List.replicate (x.length - yy0.1) gJ) (fun yy0=>x.length - yy0.1) (fun yy0=> .len x.length<| .br (.elem _ aV x (fun e18=>bH (aBs e18)<| .len yy0.2.length<| .setm dF aV yy0.2 (fun s5_8=>e18) (fun s5_8=> .back [(700,700)]))) (.fin [(0,700)]))) (p:=(x.map aV).length≤9223372036854775807→Lm aV x∧(((x.length:Nat):Int)=((x.length:Nat):Int)∧((x.length:Nat):Int)=((x.length:Nat):Int)∧40*x.length≤281474976710656∧x.length≤9223372036854775807∧List.replicate x.length [.str gJ.name,.sl 3 1 (gJ.vars.map intD)]=(List.replicate x.length gJ).map aV∧((∃(k:Nat) (out:List dF),(0:Int)=(k:Int)∧(List.replicate x.length gJ).map aV=out.map aV∧k≤x.length∧out=x.take k++List.replicate (x.length - k) gJ)∧ ∀(k:Nat) (out:List dF),(k≤x.length∧out=x.take k++List.replicate (x.length - k) gJ)→Lm aV x∧(((decide ((k:Int)<((x.length:Nat):Int)))=true→0≤(k:Int)∧Em aV x k fun e18=>aG9 e18∧(0≤(k:Int)∧Lm aV out∧(k:Int)<((out.length:Nat):Int)∧(out.map aV=out.map aV∧k<out.length∧ ∀s5_8,out[k]? =some s5_8→0+2≤(aV s5_8).length∧(aV s5_8).take 0++((aV e18).drop 0).take 2++(aV s5_8).drop (0+2)=aV e18∧e18.name=e18.name∧e18.vars.map intD=e18.vars.map intD∧cL ((k:Int)+(1:Int))∧ ∃(k' :Nat) (out' :List dF),((k:Int)+(1:Int))=(k' :Int)∧(out.set k e18).map aV=out'.map aV∧(k' ≤x.length∧out' =x.take k' ++List.replicate (x.length - k') gJ)∧x.length - k' <x.length - k)))∧((decide ((k:Int)<((x.length:Nat):Int)))=false→out.map aV=x.map aV∧True))))) (by kernel_rfl) ?_
 intro n0
 simp only [List.length_map] at n0
 refine ⟨List.length_map _,rfl,rfl,by have:=aDk x;omega,by have:=aDk x;omega,by first | (rw [List.map_replicate];done) | (rw [List.map_replicate];rfl),⟨0,List.replicate x.length gJ,rfl,rfl,Nat.zero_le _,by simp⟩,fun k out ⟨hk,ho⟩=>?_⟩
 have hl:out.length=x.length:=by rw [ho];exact nI hk
 refine ⟨List.length_map _,fun c0=>?_,fun c0=>?_⟩
 ·replace c0:=yq c0
  refine ⟨by omega,rfl,by omega,fun e18 h18=>?_⟩
  refine ⟨aPa e18 (by first | omega | (have:=aL2 ‹x[k]? =some _›;omega)),by omega,List.length_map _,by omega,rfl,by omega,fun s5_8 hs5_8=>?_⟩
  refine ⟨Nat.le_of_ble_eq_true rfl,rfl,rfl,rfl,⟨by omega,by omega⟩,?_⟩
  exact ⟨k+1,out.set k e18,rfl,rfl,⟨by omega,by rw [ho];exact kQ ‹x[k]? =some _›⟩,by omega⟩
 ·replace c0:=nq c0
  refine ⟨?_,trivial⟩
  ·rw [ho,kR hk (by omega)]
abbrev gO (x:QueryD):AV × List (Nat × Rs):=(.agg [vI x.variableCount,.own 0],[(0,.arr 131 2 true (x.atoms.map aV))])
abbrev iB (x:QueryD):Prop:=cO Tryz.prog 32 [.agg [.int .i64 x.variableCount,.sl 131 2 (x.atoms.map aV)]] (gO x).1 (gO x).2
theorem lP (x:QueryD) (hc:jY x≤1048576):iB x:=by
 refine aT bF aQ Tryz.func32 (by kernel_rfl) (bH (aAD x.atoms)<| .fin [(0,900)]) (p:=(x.atoms.map aV).length≤9223372036854775807→aEu x.atoms∧x.variableCount=x.variableCount∧x.atoms.map aV=x.atoms.map aV∧True) (by kernel_rfl) ?_
 intro n0
 simp only [List.length_map] at n0
 unfold jY at hc
 refine ⟨aOV x.atoms (by first | omega | (have:=cAtomSS_el ‹x[k]? =some _›;omega)),?_⟩
 exact ⟨rfl,rfl,trivial⟩
end Go.Proofs.YtokkjaflmcjlhaaGreat
