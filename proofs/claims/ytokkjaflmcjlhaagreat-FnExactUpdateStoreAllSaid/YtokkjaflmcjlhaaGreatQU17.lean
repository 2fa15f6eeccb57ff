/-
  Contracts and plain laws, joined: part 18.
-/
import Derived.Test.YtokkjaflmcjlhaaGreatQU3
namespace Go.Proofs.YtokkjaflmcjlhaaGreat
open Go.ChangeShapes Go.WideShapes Go.ChangeAt Go.RowKit
set_option linter.unusedVariables false
set_option linter.unusedSimpArgs false
set_option maxRecDepth 100000
set_option maxHeartbeats 4000000
abbrev nJ (x:List Int):AV × List (Nat × Rs):=(.own 0,[(0,.arr 3 1 true (x.map intD))])
abbrev pO (x:List Int):Prop:=dJ Tryz.prog 36 [.one (.sl 3 1 (x.map intD))] (nJ x).1 (nJ x).2
theorem aBI (x:List Int) (hc:bZ x≤1048576):pO x:=by
 refine aZ bR aT Tryz.func36 (by kernel_rfl) (.len x.length<| .mk x.length [.int .i64 (0:Int)] ((List.replicate x.length (0:Int)).map intD)<| .loop (Nat × (List Int)) (Q2 Nat (List Int)) [3,4,8,9,10,11,12,13,14,15,16,17,18,19,20] [700] (fun yy0=>[(3,.own 700),(4,vI (yy0.1:Int))]) (fun yy0=>[(700,some (.arr 3 1 true (yy0.2.map intD)))]) (fun yy0=>yy0.1≤x.length∧yy0.2=x.take yy0.1++List.replicate (x.length - yy0.1) (0:Int)) (fun yy0=>x.length - yy0.1) (fun yy0=> .len x.length<| .br (.elem _ intD x (fun e18=> .len yy0.2.length<| .set Int intD yy0.2 (fun s5_7=>e18) (fun s5_7=> .back [(700,700)]))) (.fin [(0,700)]))) (p:=(x.map intD).length≤9223372036854775807→Lm intD x∧(((x.length:Nat):Int)=((x.length:Nat):Int)∧((x.length:Nat):Int)=((x.length:Nat):Int)∧8*x.length≤281474976710656∧x.length≤9223372036854775807∧List.replicate x.length [.int .i64 (0:Int)]=(List.replicate x.length (0:Int)).map intD∧((∃(k:Nat) (out:List Int),(0:Int)=(k:Int)∧(List.replicate x.length (0:Int)).map intD=out.map intD∧k≤x.length∧out=x.take k++List.replicate (x.length - k) (0:Int))∧ ∀(k:Nat) (out:List Int),(k≤x.length∧out=x.take k++List.replicate (x.length - k) (0:Int))→Lm intD x∧(((decide ((k:Int)<((x.length:Nat):Int)))=true→0≤(k:Int)∧Em intD x k fun e18=>0≤(k:Int)∧Lm intD out∧(k:Int)<((out.length:Nat):Int)∧(out.map intD=out.map intD∧k<out.length∧ ∀s5_7,out[k]? =some s5_7→fG (intD s5_7)=true∧0+1≤(intD s5_7).length∧(intD s5_7).take 0++[.int .i64 e18]++(intD s5_7).drop (0+1)=intD e18∧dO ((k:Int)+(1:Int))∧ ∃(k' :Nat) (out' :List Int),((k:Int)+(1:Int))=(k' :Int)∧(out.set k e18).map intD=out'.map intD∧(k' ≤x.length∧out' =x.take k' ++List.replicate (x.length - k') (0:Int))∧x.length - k' <x.length - k))∧((decide ((k:Int)<((x.length:Nat):Int)))=false→out.map intD=x.map intD∧True))))) (by kernel_rfl) ?_
 intro n0
 simp only [List.length_map] at n0
 refine ⟨List.length_map _,rfl,rfl,by have:=aFh x;omega,by have:=aFh x;omega,by first | (rw [List.map_replicate];done) | (rw [List.map_replicate];rfl),⟨0,List.replicate x.length (0:Int),rfl,rfl,Nat.zero_le _,by simp⟩,fun k out ⟨hk,ho⟩=>?_⟩
 have hl:out.length=x.length:=by rw [ho];exact oH hk
 refine ⟨List.length_map _,fun c0=>?_,fun c0=>?_⟩
 ·replace c0:=yq c0
  refine ⟨by omega,rfl,by omega,fun e18 h18=>?_⟩
  refine ⟨by omega,List.length_map _,by omega,rfl,by omega,fun s5_7 hs5_7=>⟨rfl,Nat.le_of_ble_eq_true rfl,rfl,?_⟩⟩
  refine ⟨⟨by omega,by omega⟩,?_⟩
  exact ⟨k+1,out.set k e18,rfl,rfl,⟨by omega,by rw [ho];exact lU ‹x[k]? =some _›⟩,by omega⟩
 ·replace c0:=nq c0
  refine ⟨?_,trivial⟩
  ·rw [ho,lV hk (by omega)]
abbrev tW (x:List (List Int)):AV × List (Nat × Rs):=(.own 0,[(0,.arr 32 1 true (x.map aF))])
abbrev aAO (x:List (List Int)):Prop:=dJ Tryz.prog 260 [.one (.sl 32 1 (x.map aF))] (tW x).1 (tW x).2
theorem aI1 (x:List (List Int)) (hc:cP x≤1048576):aAO x:=by
 refine aZ bR aT Tryz.func260 (by kernel_rfl) (.len x.length<| .mk x.length [.sl 3 1 (([]:List Int).map intD)] ((List.replicate x.length ([]:List Int)).map aF)<| .loop (Nat × (List (List Int))) (Q2 Nat (List (List Int))) [3,4,8,9,10,11,12,13,14,15,16,17,18,19,20,21] [700,2000] (fun yy0=>[(3,.own 700),(4,vI (yy0.1:Int))]) (fun yy0=>[(700,some (.arr 32 1 true (yy0.2.map aF)))]) (fun yy0=>yy0.1≤x.length∧yy0.2=x.take yy0.1++List.replicate (x.length - yy0.1) ([]:List Int)) (fun yy0=>x.length - yy0.1) (fun yy0=> .len x.length<| .br (.elem _ aF x (fun e18=>bG (nJ e18)<| .len yy0.2.length<| .setm (List Int) aF yy0.2 (fun s5_8=>e18) (fun s5_8=> .back [(700,700)]))) (.fin [(0,700)]))) (p:=(x.map aF).length≤9223372036854775807→Lm aF x∧(((x.length:Nat):Int)=((x.length:Nat):Int)∧((x.length:Nat):Int)=((x.length:Nat):Int)∧24*x.length≤281474976710656∧x.length≤9223372036854775807∧List.replicate x.length [.sl 3 1 (([]:List Int).map intD)]=(List.replicate x.length ([]:List Int)).map aF∧((∃(k:Nat) (out:List (List Int)),(0:Int)=(k:Int)∧(List.replicate x.length ([]:List Int)).map aF=out.map aF∧k≤x.length∧out=x.take k++List.replicate (x.length - k) ([]:List Int))∧ ∀(k:Nat) (out:List (List Int)),(k≤x.length∧out=x.take k++List.replicate (x.length - k) ([]:List Int))→Lm aF x∧(((decide ((k:Int)<((x.length:Nat):Int)))=true→0≤(k:Int)∧Em aF x k fun e18=>pO e18∧(0≤(k:Int)∧Lm aF out∧(k:Int)<((out.length:Nat):Int)∧(out.map aF=out.map aF∧k<out.length∧ ∀s5_8,out[k]? =some s5_8→0+1≤(aF s5_8).length∧(aF s5_8).take 0++((aF e18).drop 0).take 1++(aF s5_8).drop (0+1)=aF e18∧e18.map intD=e18.map intD∧dO ((k:Int)+(1:Int))∧ ∃(k' :Nat) (out' :List (List Int)),((k:Int)+(1:Int))=(k' :Int)∧(out.set k e18).map aF=out'.map aF∧(k' ≤x.length∧out' =x.take k' ++List.replicate (x.length - k') ([]:List Int))∧x.length - k' <x.length - k)))∧((decide ((k:Int)<((x.length:Nat):Int)))=false→out.map aF=x.map aF∧True))))) (by kernel_rfl) ?_
 intro n0
 simp only [List.length_map] at n0
 refine ⟨List.length_map _,rfl,rfl,by have:=fO x;omega,by have:=fO x;omega,by first | (rw [List.map_replicate];done) | (rw [List.map_replicate];rfl),⟨0,List.replicate x.length ([]:List Int),rfl,rfl,Nat.zero_le _,by simp⟩,fun k out ⟨hk,ho⟩=>?_⟩
 have hl:out.length=x.length:=by rw [ho];exact oH hk
 refine ⟨List.length_map _,fun c0=>?_,fun c0=>?_⟩
 ·replace c0:=yq c0
  refine ⟨by omega,rfl,by omega,fun e18 h18=>?_⟩
  refine ⟨aBI e18 (by first | omega | (have:=pJ ‹x[k]? =some _›;omega)),by omega,List.length_map _,by omega,rfl,by omega,fun s5_8 hs5_8=>?_⟩
  refine ⟨Nat.le_of_ble_eq_true rfl,rfl,rfl,⟨by omega,by omega⟩,?_⟩
  exact ⟨k+1,out.set k e18,rfl,rfl,⟨by omega,by rw [ho];exact lU ‹x[k]? =some _›⟩,by omega⟩
 ·replace c0:=nq c0
  refine ⟨?_,trivial⟩
  ·rw [ho,lV hk (by omega)]
abbrev aAP (x:aN):AV × List (Nat × Rs):=(.agg [.p none (.str x.name),vI x.arity,.own 0],[(0,.arr 32 1 true (x.rows.map aF))])
abbrev aE3 (x:aN):Prop:=dJ Tryz.prog 218 [.agg [.str x.name,.int .i64 x.arity,.sl 32 1 (x.rows.map aF)]] (aAP x).1 (aAP x).2
theorem aNJ (x:aN) (hc:dF x≤1048576):aE3 x:=by
 refine aZ bR aT Tryz.func218 (by kernel_rfl) (bG (tW x.rows)<| .fin [(0,1200)]) (p:=(x.rows.map aF).length≤9223372036854775807→aAO x.rows∧x.name=x.name∧x.arity=x.arity∧x.rows.map aF=x.rows.map aF∧True) (by kernel_rfl) ?_
 intro n0
 simp only [List.length_map] at n0
 unfold dF at hc
 refine ⟨aI1 x.rows (by first | omega | (have:=cIntSSS_el ‹x[k]? =some _›;omega)),?_⟩
 exact ⟨rfl,rfl,rfl,trivial⟩
abbrev xB (x:List aN):AV × List (Nat × Rs):=(.own 0,[(0,.arr 162 3 true (x.map aD))])
abbrev aC2 (x:List aN):Prop:=dJ Tryz.prog 140 [.one (.sl 162 3 (x.map aD))] (xB x).1 (xB x).2
theorem aLR (x:List aN) (hc:eW x≤1048576):aC2 x:=by
 refine aZ bR aT Tryz.func140 (by kernel_rfl) (.len x.length<| .mk x.length [.str fJ.name,.int .i64 fJ.arity,.sl 32 1 (fJ.rows.map aF)] ((List.replicate x.length fJ).map aD)<| .loop (Nat × (List aN)) (Q2 Nat (List aN)) [3,4,8,9,10,11,12,13,14,15,16,17,18,19,20,21] [700,2000] (fun yy0=>[(3,.own 700),(4,vI (yy0.1:Int))]) (fun yy0=>[(700,some (.arr 162 3 true (yy0.2.map aD)))]) (fun yy0=>yy0.1≤x.length∧yy0.2=x.take yy0.1++List.replicate (x.length - yy0.1) fJ) (fun yy0=>x.length - yy0.1) (fun yy0=> .len x.length<| .br (.elem _ aD x (fun e18=>bG (aAP e18)<| .len yy0.2.length<| .setm aN aD yy0.2 (fun s5_8=>e18) (fun s5_8=> .back [(700,700)]))) (.fin [(0,700)]))) (p:=(x.map aD).length≤9223372036854775807→Lm aD x∧(((x.length:Nat):Int)=((x.length:Nat):Int)∧((x.length:Nat):Int)=((x.length:Nat):Int)∧48*x.length≤281474976710656∧x.length≤9223372036854775807∧List.replicate x.length [.str fJ.name,.int .i64 fJ.arity,.sl 32 1 (fJ.rows.map aF)]=(List.replicate x.length fJ).map aD∧((∃(k:Nat) (out:List aN),(0:Int)=(k:Int)∧(List.replicate x.length fJ).map aD=out.map aD∧k≤x.length∧out=x.take k++List.replicate (x.length - k) fJ)∧ ∀(k:Nat) (out:List aN),(k≤x.length∧out=x.take k++List.replicate (x.length - k) fJ)→Lm aD x∧(((decide ((k:Int)<((x.length:Nat):Int)))=true→0≤(k:Int)∧Em aD x k fun e18=>aE3 e18∧(0≤(k:Int)∧Lm aD out∧(k:Int)<((out.length:Nat):Int)∧(out.map aD=out.map aD∧k<out.length∧ ∀s5_8,out[k]? =some s5_8→0+3≤(aD s5_8).length∧(aD s5_8).take 0++((aD e18).drop 0).take 3++(aD s5_8).drop (0+3)=aD e18∧e18.name=e18.name∧e18.arity=e18.arity∧e18.rows.map aF=e18.rows.map aF∧dO ((k:Int)+(1:Int))∧ ∃(k' :Nat) (out' :List aN),((k:Int)+(1:Int))=(k' :Int)∧(out.set k e18).map aD=out'.map aD∧(k' ≤x.length∧out' =x.take k' ++List.replicate (x.length - k') fJ)∧x.length - k' <x.length - k)))∧((decide ((k:Int)<((x.length:Nat):Int)))=false→out.map aD=x.map aD∧True))))) (by kernel_rfl) ?_
 intro n0
 simp only [List.length_map] at n0
 refine ⟨List.length_map _,rfl,rfl,by have:=rB x;omega,by have:=rB x;omega,by first | (rw [List.map_replicate];done) | (rw [List.map_replicate];rfl),⟨0,List.replicate x.length fJ,rfl,rfl,Nat.zero_le _,by simp⟩,fun k out ⟨hk,ho⟩=>?_⟩
 have hl:out.length=x.length:=by rw [ho];exact oH hk
 refine ⟨List.length_map _,fun c0=>?_,fun c0=>?_⟩
 ·replace c0:=yq c0
  refine ⟨by omega,rfl,by omega,fun e18 h18=>?_⟩
  refine ⟨aNJ e18 (by first | omega | (have:=jG ‹x[k]? =some _›;omega)),by omega,List.length_map _,by omega,rfl,by omega,fun s5_8 hs5_8=>?_⟩
  refine ⟨Nat.le_of_ble_eq_true rfl,rfl,rfl,rfl,rfl,⟨by omega,by omega⟩,?_⟩
  exact ⟨k+1,out.set k e18,rfl,rfl,⟨by omega,by rw [ho];exact lU ‹x[k]? =some _›⟩,by omega⟩
 ·replace c0:=nq c0
  refine ⟨?_,trivial⟩
  ·rw [ho,lV hk (by omega)]
abbrev rW (x:aP):AV × List (Nat × Rs):=(.agg [.own 0],[(0,.arr 162 3 true (x.tables.map aD))])
abbrev yO (x:aP):Prop:=dJ Tryz.prog 68 [.agg [.sl 162 3 (x.tables.map aD)]] (rW x).1 (rW x).2
theorem aI2 (x:aP) (hc:aW x≤1048576):yO x:=by
 refine aZ bR aT Tryz.func68 (by kernel_rfl) (bG (xB x.tables)<| .fin [(0,600)]) (p:=(x.tables.map aD).length≤9223372036854775807→aC2 x.tables∧x.tables.map aD=x.tables.map aD∧True) (by kernel_rfl) ?_
 intro n0
 simp only [List.length_map] at n0
 unfold aW at hc
 refine ⟨aLR x.tables (by first | omega | (have:=cTableSS_el ‹x[k]? =some _›;omega)),?_⟩
 exact ⟨rfl,trivial⟩
abbrev xC (x:UpdateD):AV × List (Nat × Rs):=(.agg [.p none (.str x.name),vB x.ins,.own 0],[(0,.arr 3 1 true (x.row.map intD))])
abbrev aC3 (x:UpdateD):Prop:=dJ Tryz.prog 17 [.agg [.str x.name,.bool x.ins,.sl 3 1 (x.row.map intD)]] (xC x).1 (xC x).2
theorem aLS (x:UpdateD) (hc:dR x≤1048576):aC3 x:=by
 refine aZ bR aT Tryz.func17 (by kernel_rfl) (bG (nJ x.row)<| .fin [(0,1200)]) (p:=(x.row.map intD).length≤9223372036854775807→pO x.row∧x.name=x.name∧(x.ins)=x.ins∧x.row.map intD=x.row.map intD∧True) (by kernel_rfl) ?_
 intro n0
 simp only [List.length_map] at n0
 unfold dR at hc
 refine ⟨aBI x.row (by first | omega | (have:=pJ ‹x[k]? =some _›;omega)),rfl,?_,rfl,trivial⟩
 ·rfl
abbrev kS (x:List UpdateD):AV × List (Nat × Rs):=(.own 0,[(0,.arr 50 3 true (x.map aX))])
abbrev mO (x:List UpdateD):Prop:=dJ Tryz.prog 26 [.one (.sl 50 3 (x.map aX))] (kS x).1 (kS x).2
theorem tX (x:List UpdateD) (hc:gE x≤1048576):mO x:=by
 refine aZ bR aT Tryz.func26 (by kernel_rfl) (.len x.length<| .mk x.length [.str jZ.name,.bool jZ.ins,.sl 3 1 (jZ.row.map intD)] ((List.replicate x.length jZ).map aX)<| .loop (Nat × (List UpdateD)) (Q2 Nat (List UpdateD)) [3,4,8,9,10,11,12,13,14,15,16,17,18,19,20,21] [700,2000] (fun yy0=>[(3,.own 700),(4,vI (yy0.1:Int))]) (fun yy0=>[(700,some (.arr 50 3 true (yy0.2.map aX)))]) (fun yy0=>yy0.1≤x.length∧yy0.2=x.take yy0.1++List.replicate (x.length - yy0.1) jZ) (fun yy0=>x.length - yy0.1) (fun yy0=> .len x.length<| .br (.elem _ aX x (fun e18=>bG (xC e18)<| .len yy0.2.length<| .setm UpdateD aX yy0.2 (fun s5_8=>e18) (fun s5_8=> .back [(700,700)]))) (.fin [(0,700)]))) (p:=(x.map aX).length≤9223372036854775807→Lm aX x∧(((x.length:Nat):Int)=((x.length:Nat):Int)∧((x.length:Nat):Int)=((x.length:Nat):Int)∧48*x.length≤281474976710656∧x.length≤9223372036854775807∧List.replicate x.length [.str jZ.name,.bool jZ.ins,.sl 3 1 (jZ.row.map intD)]=(List.replicate x.length jZ).map aX∧((∃(k:Nat) (out:List UpdateD),(0:Int)=(k:Int)∧(List.replicate x.length jZ).map aX=out.map aX∧k≤x.length∧out=x.take k++List.replicate (x.length - k) jZ)∧ ∀(k:Nat) (out:List UpdateD),(k≤x.length∧out=x.take k++List.replicate (x.length - k) jZ)→Lm aX x∧(((decide ((k:Int)<((x.length:Nat):Int)))=true→0≤(k:Int)∧Em aX x k fun e18=>aC3 e18∧(0≤(k:Int)∧Lm aX out∧(k:Int)<((out.length:Nat):Int)∧(out.map aX=out.map aX∧k<out.length∧ ∀s5_8,out[k]? =some s5_8→0+3≤(aX s5_8).length∧(aX s5_8).take 0++((aX e18).drop 0).take 3++(aX s5_8).drop (0+3)=aX e18∧e18.name=e18.name∧(e18.ins)=e18.ins∧e18.row.map intD=e18.row.map intD∧dO ((k:Int)+(1:Int))∧ ∃(k' :Nat) (out' :List UpdateD),((k:Int)+(1:Int))=(k' :Int)∧(out.set k e18).map aX=out'.map aX∧(k' ≤x.length∧out' =x.take k' ++List.replicate (x.length - k') jZ)∧x.length - k' <x.length - k)))∧((decide ((k:Int)<((x.length:Nat):Int)))=false→out.map aX=x.map aX∧True))))) (by kernel_rfl) ?_
 intro n0
 simp only [List.length_map] at n0
 refine ⟨List.length_map _,rfl,rfl,by have:=aAi x;omega,by have:=aAi x;omega,by first | (rw [List.map_replicate];done) | (rw [List.map_replicate];rfl),⟨0,List.replicate x.length jZ,rfl,rfl,Nat.zero_le _,by simp⟩,fun k out ⟨hk,ho⟩=>?_⟩
 have hl:out.length=x.length:=by rw [ho];exact oH hk
 refine ⟨List.length_map _,fun c0=>?_,fun c0=>?_⟩
 ·replace c0:=yq c0
  refine ⟨by omega,rfl,by omega,fun e18 h18=>?_⟩
  refine ⟨aLS e18 (by first | omega | (have:=vP ‹x[k]? =some _›;omega)),by omega,List.length_map _,by omega,rfl,by omega,fun s5_8 hs5_8=>?_⟩
  refine ⟨Nat.le_of_ble_eq_true rfl,rfl,rfl,rfl,rfl,⟨by omega,by omega⟩,?_⟩
  exact ⟨k+1,out.set k e18,rfl,rfl,⟨by omega,by rw [ho];exact lU ‹x[k]? =some _›⟩,by omega⟩
 ·replace c0:=nq c0
  refine ⟨?_,trivial⟩
  ·rw [ho,lV hk (by omega)]
abbrev oS (x:aH):AV × List (Nat × Rs):=(.agg [.own 0,.own 1,.own 2],[(0,.arr 3 1 true (x.columns.map intD)),(1,.arr 32 1 true (x.values.map aF)),(2,.arr 3 1 true (x.counts.map intD))])
abbrev uH (x:aH):Prop:=dJ Tryz.prog 282 [.agg [.sl 3 1 (x.columns.map intD),.sl 32 1 (x.values.map aF),.sl 3 1 (x.counts.map intD)]] (oS x).1 (oS x).2
theorem aFB (x:aH) (hc:bD x≤1048576):uH x:=by
 refine aZ bR aT Tryz.func282 (by kernel_rfl) (bG (nJ x.columns)<| bG (tW x.values)<| bG (nJ x.counts)<| .fin [(0,600),(1,1000),(2,1400)]) (p:=(x.columns.map intD).length≤9223372036854775807→(x.values.map aF).length≤9223372036854775807→(x.counts.map intD).length≤9223372036854775807→pO x.columns∧aAO x.values∧pO x.counts∧x.columns.map intD=x.columns.map intD∧x.values.map aF=x.values.map aF∧x.counts.map intD=x.counts.map intD∧True) (by kernel_rfl) ?_
 intro n0 n1 n2
 simp only [List.length_map] at n0 n1 n2
 unfold bD at hc
 refine ⟨aBI x.columns (by first | omega | (have:=pJ ‹x[k]? =some _›;omega)),aI1 x.values (by first | omega | (have:=cIntSSS_el ‹x[k]? =some _›;omega)),aBI x.counts (by first | omega | (have:=pJ ‹x[k]? =some _›;omega)),?_⟩
 exact ⟨rfl,rfl,rfl,trivial⟩
abbrev nK (x:List aH):AV × List (Nat × Rs):=(.own 0,[(0,.arr 218 3 true (x.map aC))])
abbrev sS (x:List aH):Prop:=dJ Tryz.prog 261 [.one (.sl 218 3 (x.map aC))] (nK x).1 (nK x).2
theorem aE4 (x:List aH) (hc:cS x≤1048576):sS x:=by
 refine aZ bR aT Tryz.func261 (by kernel_rfl) (.len x.length<| .mk x.length [.sl 3 1 (bO.columns.map intD),.sl 32 1 (bO.values.map aF),.sl 3 1 (bO.counts.map intD)] ((List.replicate x.length bO).map aC)<| .loop (Nat × (List aH)) (Q2 Nat (List aH)) [3,4,8,9,10,11,12,13,14,15,16,17,18,19,20,21] [700,2000,2001,2002] (fun yy0=>[(3,.own 700),(4,vI (yy0.1:Int))]) (fun yy0=>[(700,some (.arr 218 3 true (yy0.2.map aC)))]) (fun yy0=>yy0.1≤x.length∧yy0.2=x.take yy0.1++List.replicate (x.length - yy0.1) bO) (fun yy0=>x.length - yy0.1) (fun yy0=> .len x.length<| .br (.elem _ aC x (fun e18=>bG (oS e18)<| .len yy0.2.length<| .setm aH aC yy0.2 (fun s5_8=>e18) (fun s5_8=> .back [(700,700)]))) (.fin [(0,700)]))) (p:=(x.map aC).length≤9223372036854775807→Lm aC x∧(((x.length:Nat):Int)=((x.length:Nat):Int)∧((x.length:Nat):Int)=((x.length:Nat):Int)∧72*x.length≤281474976710656∧x.length≤9223372036854775807∧List.replicate x.length [.sl 3 1 (bO.columns.map intD),.sl 32 1 (bO.values.map aF),.sl 3 1 (bO.counts.map intD)]=(List.replicate x.length bO).map aC∧((∃(k:Nat) (out:List aH),(0:Int)=(k:Int)∧(List.replicate x.length bO).map aC=out.map aC∧k≤x.length∧out=x.take k++List.replicate (x.length - k) bO)∧ ∀(k:Nat) (out:List aH),(k≤x.length∧out=x.take k++List.replicate (x.length - k) bO)→Lm aC x∧(((decide ((k:Int)<((x.length:Nat):Int)))=true→0≤(k:Int)∧Em aC x k fun e18=>uH e18∧(0≤(k:Int)∧Lm aC out∧(k:Int)<((out.length:Nat):Int)∧(out.map aC=out.map aC∧k<out.length∧ ∀s5_8,out[k]? =some s5_8→0+3≤(aC s5_8).length∧(aC s5_8).take 0++((aC e18).drop 0).take 3++(aC s5_8).drop (0+3)=aC e18∧e18.columns.map intD=e18.columns.map intD∧e18.values.map aF=e18.values.map aF∧e18.counts.map intD=e18.counts.map intD∧dO ((k:Int)+(1:Int))∧ ∃(k' :Nat) (out' :List aH),((k:Int)+(1:Int))=(k' :Int)∧(out.set k e18).map aC=out'.map aC∧(k' ≤x.length∧out' =x.take k' ++List.replicate (x.length - k') bO)∧x.length - k' <x.length - k)))∧((decide ((k:Int)<((x.length:Nat):Int)))=false→out.map aC=x.map aC∧True))))) (by kernel_rfl) ?_
 intro n0
 simp only [List.length_map] at n0
 refine ⟨List.length_map _,rfl,rfl,by have:=kM x;omega,by have:=kM x;omega,by first | (rw [List.map_replicate];done) | (rw [List.map_replicate];rfl),⟨0,List.replicate x.length bO,rfl,rfl,Nat.zero_le _,by simp⟩,fun k out ⟨hk,ho⟩=>?_⟩
 have hl:out.length=x.length:=by rw [ho];exact oH hk
 refine ⟨List.length_map _,fun c0=>?_,fun c0=>?_⟩
 ·replace c0:=yq c0
  refine ⟨by omega,rfl,by omega,fun e18 h18=>?_⟩
  refine ⟨aFB e18 (by first | omega | (have:=lH ‹x[k]? =some _›;omega)),by omega,List.length_map _,by omega,rfl,by omega,fun s5_8 hs5_8=>?_⟩
  refine ⟨Nat.le_of_ble_eq_true rfl,rfl,rfl,rfl,rfl,⟨by omega,by omega⟩,?_⟩
  exact ⟨k+1,out.set k e18,rfl,rfl,⟨by omega,by rw [ho];exact lU ‹x[k]? =some _›⟩,by omega⟩
 ·replace c0:=nq c0
  refine ⟨?_,trivial⟩
  ·rw [ho,lV hk (by omega)]
abbrev oT (x:aG):AV × List (Nat × Rs):=(.agg [.p none (.str x.name),vI x.arity,vI x.rowCount,.own 0],[(0,.arr 218 3 true (x.groups.map aC))])
abbrev uI (x:aG):Prop:=dJ Tryz.prog 219 [.agg [.str x.name,.int .i64 x.arity,.int .i64 x.rowCount,.sl 218 3 (x.groups.map aC)]] (oT x).1 (oT x).2
theorem aFC (x:aG) (hc:bC x≤1048576):uI x:=by
 refine aZ bR aT Tryz.func219 (by kernel_rfl) (bG (nK x.groups)<| .fin [(0,1500)]) (p:=(x.groups.map aC).length≤9223372036854775807→sS x.groups∧x.name=x.name∧x.arity=x.arity∧x.rowCount=x.rowCount∧x.groups.map aC=x.groups.map aC∧True) (by kernel_rfl) ?_
 intro n0
 simp only [List.length_map] at n0
 unfold bC at hc
 refine ⟨aE4 x.groups (by first | omega | (have:=cGroupStatsSS_el ‹x[k]? =some _›;omega)),?_⟩
 exact ⟨rfl,rfl,rfl,rfl,trivial⟩
abbrev nL (x:List aG):AV × List (Nat × Rs):=(.own 0,[(0,.arr 121 4 true (x.map aA))])
abbrev sT (x:List aG):Prop:=dJ Tryz.prog 141 [.one (.sl 121 4 (x.map aA))] (nL x).1 (nL x).2
theorem aE5 (x:List aG) (hc:cT x≤1048576):sT x:=by
 refine aZ bR aT Tryz.func141 (by kernel_rfl) (.len x.length<| .mk x.length [.str dD.name,.int .i64 dD.arity,.int .i64 dD.rowCount,.sl 218 3 (dD.groups.map aC)] ((List.replicate x.length dD).map aA)<| .loop (Nat × (List aG)) (Q2 Nat (List aG)) [3,4,8,9,10,11,12,13,14,15,16,17,18,19,20,21] [700,2000] (fun yy0=>[(3,.own 700),(4,vI (yy0.1:Int))]) (fun yy0=>[(700,some (.arr 121 4 true (yy0.2.map aA)))]) (fun yy0=>yy0.1≤x.length∧yy0.2=x.take yy0.1++List.replicate (x.length - yy0.1) dD) (fun yy0=>x.length - yy0.1) (fun yy0=> .len x.length<| .br (.elem _ aA x (fun e18=>bG (oT e18)<| .len yy0.2.length<| .setm aG aA yy0.2 (fun s5_8=>e18) (fun s5_8=> .back [(700,700)]))) (.fin [(0,700)]))) (p:=(x.map aA).length≤9223372036854775807→Lm aA x∧(((x.length:Nat):Int)=((x.length:Nat):Int)∧((x.length:Nat):Int)=((x.length:Nat):Int)∧56*x.length≤281474976710656∧x.length≤9223372036854775807∧List.replicate x.length [.str dD.name,.int .i64 dD.arity,.int .i64 dD.rowCount,.sl 218 3 (dD.groups.map aC)]=(List.replicate x.length dD).map aA∧((∃(k:Nat) (out:List aG),(0:Int)=(k:Int)∧(List.replicate x.length dD).map aA=out.map aA∧k≤x.length∧out=x.take k++List.replicate (x.length - k) dD)∧ ∀(k:Nat) (out:List aG),(k≤x.length∧out=x.take k++List.replicate (x.length - k) dD)→Lm aA x∧(((decide ((k:Int)<((x.length:Nat):Int)))=true→0≤(k:Int)∧Em aA x k fun e18=>uI e18∧(0≤(k:Int)∧Lm aA out∧(k:Int)<((out.length:Nat):Int)∧(out.map aA=out.map aA∧k<out.length∧ ∀s5_8,out[k]? =some s5_8→0+4≤(aA s5_8).length∧(aA s5_8).take 0++((aA e18).drop 0).take 4++(aA s5_8).drop (0+4)=aA e18∧e18.name=e18.name∧e18.arity=e18.arity∧e18.rowCount=e18.rowCount∧e18.groups.map aC=e18.groups.map aC∧dO ((k:Int)+(1:Int))∧ ∃(k' :Nat) (out' :List aG),((k:Int)+(1:Int))=(k' :Int)∧(out.set k e18).map aA=out'.map aA∧(k' ≤x.length∧out' =x.take k' ++List.replicate (x.length - k') dD)∧x.length - k' <x.length - k)))∧((decide ((k:Int)<((x.length:Nat):Int)))=false→out.map aA=x.map aA∧True))))) (by kernel_rfl) ?_
 intro n0
 simp only [List.length_map] at n0
 refine ⟨List.length_map _,rfl,rfl,by have:=kN x;omega,by have:=kN x;omega,by first | (rw [List.map_replicate];done) | (rw [List.map_replicate];rfl),⟨0,List.replicate x.length dD,rfl,rfl,Nat.zero_le _,by simp⟩,fun k out ⟨hk,ho⟩=>?_⟩
 have hl:out.length=x.length:=by rw [ho];exact oH hk
 refine ⟨List.length_map _,fun c0=>?_,fun c0=>?_⟩
 ·replace c0:=yq c0
  refine ⟨by omega,rfl,by omega,fun e18 h18=>?_⟩
  refine ⟨aFC e18 (by first | omega | (have:=lI ‹x[k]? =some _›;omega)),by omega,List.length_map _,by omega,rfl,by omega,fun s5_8 hs5_8=>?_⟩
  refine ⟨Nat.le_of_ble_eq_true rfl,rfl,rfl,rfl,rfl,rfl,⟨by omega,by omega⟩,?_⟩
  exact ⟨k+1,out.set k e18,rfl,rfl,⟨by omega,by rw [ho];exact lU ‹x[k]? =some _›⟩,by omega⟩
 ·replace c0:=nq c0
  refine ⟨?_,trivial⟩
  ·rw [ho,lV hk (by omega)]
abbrev qO (x:cA):AV × List (Nat × Rs):=(.agg [vI x.version,.own 0],[(0,.arr 121 4 true (x.tables.map aA))])
abbrev xD (x:cA):Prop:=dJ Tryz.prog 69 [.agg [.int .i64 x.version,.sl 121 4 (x.tables.map aA)]] (qO x).1 (qO x).2
theorem aGr (x:cA) (hc:bK x≤1048576):xD x:=by
 refine aZ bR aT Tryz.func69 (by kernel_rfl) (bG (nL x.tables)<| .fin [(0,900)]) (p:=(x.tables.map aA).length≤9223372036854775807→sT x.tables∧x.version=x.version∧x.tables.map aA=x.tables.map aA∧True) (by kernel_rfl) ?_
 intro n0
 simp only [List.length_map] at n0
 unfold bK at hc
 refine ⟨aE5 x.tables (by first | omega | (have:=cTableStatsSS_el ‹x[k]? =some _›;omega)),?_⟩
 exact ⟨rfl,rfl,trivial⟩
abbrev oU (x:aJ):AV × List (Nat × Rs):=(.agg [.p none (.str x.name),.own 0,vI x.dst],[(0,.arr 3 1 true (x.src.map intD))])
abbrev uJ (x:aJ):Prop:=dJ Tryz.prog 142 [.agg [.str x.name,.sl 3 1 (x.src.map intD),.int .i64 x.dst]] (oU x).1 (oU x).2
theorem aFD (x:aJ) (hc:bI x≤1048576):uJ x:=by
 refine aZ bR aT Tryz.func142 (by kernel_rfl) (bG (nJ x.src)<| .fin [(0,900)]) (p:=(x.src.map intD).length≤9223372036854775807→pO x.src∧x.name=x.name∧x.dst=x.dst∧x.src.map intD=x.src.map intD∧True) (by kernel_rfl) ?_
 intro n0
 simp only [List.length_map] at n0
 unfold bI at hc
 refine ⟨aBI x.src (by first | omega | (have:=pJ ‹x[k]? =some _›;omega)),?_⟩
 exact ⟨rfl,rfl,rfl,trivial⟩
abbrev nM (x:List aJ):AV × List (Nat × Rs):=(.own 0,[(0,.arr 168 3 true (x.map aB))])
abbrev sU (x:List aJ):Prop:=dJ Tryz.prog 70 [.one (.sl 168 3 (x.map aB))] (nM x).1 (nM x).2
theorem aE6 (x:List aJ) (hc:bH x≤1048576):sU x:=by
 refine aZ bR aT Tryz.func70 (by kernel_rfl) (.len x.length<| .mk x.length [.str dP.name,.sl 3 1 (dP.src.map intD),.int .i64 dP.dst] ((List.replicate x.length dP).map aB)<| .loop (Nat × (List aJ)) (Q2 Nat (List aJ)) [3,4,8,9,10,11,12,13,14,15,16,17,18,19,20,21] [700,2000] (fun yy0=>[(3,.own 700),(4,vI (yy0.1:Int))]) (fun yy0=>[(700,some (.arr 168 3 true (yy0.2.map aB)))]) (fun yy0=>yy0.1≤x.length∧yy0.2=x.take yy0.1++List.replicate (x.length - yy0.1) dP) (fun yy0=>x.length - yy0.1) (fun yy0=> .len x.length<| .br (.elem _ aB x (fun e18=>bG (oU e18)<| .len yy0.2.length<| .setm aJ aB yy0.2 (fun s5_8=>e18) (fun s5_8=> .back [(700,700)]))) (.fin [(0,700)]))) (p:=(x.map aB).length≤9223372036854775807→Lm aB x∧(((x.length:Nat):Int)=((x.length:Nat):Int)∧((x.length:Nat):Int)=((x.length:Nat):Int)∧48*x.length≤281474976710656∧x.length≤9223372036854775807∧List.replicate x.length [.str dP.name,.sl 3 1 (dP.src.map intD),.int .i64 dP.dst]=(List.replicate x.length dP).map aB∧((∃(k:Nat) (out:List aJ),(0:Int)=(k:Int)∧(List.replicate x.length dP).map aB=out.map aB∧k≤x.length∧out=x.take k++List.replicate (x.length - k) dP)∧ ∀(k:Nat) (out:List aJ),(k≤x.length∧out=x.take k++List.replicate (x.length - k) dP)→Lm aB x∧(((decide ((k:Int)<((x.length:Nat):Int)))=true→0≤(k:Int)∧Em aB x k fun e18=>uJ e18∧(0≤(k:Int)∧Lm aB out∧(k:Int)<((out.length:Nat):Int)∧(out.map aB=out.map aB∧k<out.length∧ ∀s5_8,out[k]? =some s5_8→0+3≤(aB s5_8).length∧(aB s5_8).take 0++((aB e18).drop 0).take 3++(aB s5_8).drop (0+3)=aB e18∧e18.name=e18.name∧e18.src.map intD=e18.src.map intD∧e18.dst=e18.dst∧dO ((k:Int)+(1:Int))∧ ∃(k' :Nat) (out' :List aJ),((k:Int)+(1:Int))=(k' :Int)∧(out.set k e18).map aB=out'.map aB∧(k' ≤x.length∧out' =x.take k' ++List.replicate (x.length - k') dP)∧x.length - k' <x.length - k)))∧((decide ((k:Int)<((x.length:Nat):Int)))=false→out.map aB=x.map aB∧True))))) (by kernel_rfl) ?_
 intro n0
 simp only [List.length_map] at n0
 refine ⟨List.length_map _,rfl,rfl,by have:=kO x;omega,by have:=kO x;omega,by first | (rw [List.map_replicate];done) | (rw [List.map_replicate];rfl),⟨0,List.replicate x.length dP,rfl,rfl,Nat.zero_le _,by simp⟩,fun k out ⟨hk,ho⟩=>?_⟩
 have hl:out.length=x.length:=by rw [ho];exact oH hk
 refine ⟨List.length_map _,fun c0=>?_,fun c0=>?_⟩
 ·replace c0:=yq c0
  refine ⟨by omega,rfl,by omega,fun e18 h18=>?_⟩
  refine ⟨aFD e18 (by first | omega | (have:=oO ‹x[k]? =some _›;omega)),by omega,List.length_map _,by omega,rfl,by omega,fun s5_8 hs5_8=>?_⟩
  refine ⟨Nat.le_of_ble_eq_true rfl,rfl,rfl,rfl,rfl,⟨by omega,by omega⟩,?_⟩
  exact ⟨k+1,out.set k e18,rfl,rfl,⟨by omega,by rw [ho];exact lU ‹x[k]? =some _›⟩,by omega⟩
 ·replace c0:=nq c0
  refine ⟨?_,trivial⟩
  ·rw [ho,lV hk (by omega)]
abbrev qP (x:aL):AV × List (Nat × Rs):=(.agg [.p none (.str x.name),vI x.column,.p none (.str x.into),vI x.intoColumn],[])
abbrev xE (x:aL):Prop:=dJ Tryz.prog 143 [.agg [.str x.name,.int .i64 x.column,.str x.into,.int .i64 x.intoColumn]] (qP x).1 (qP x).2
theorem aGs (x:aL) (hc:bU x≤1048576):xE x:=by
 refine aZ bR aT Tryz.func143 (by kernel_rfl) (.fin []) (p:=x.name=x.name∧x.column=x.column∧x.into=x.into∧x.intoColumn=x.intoColumn∧True) (by kernel_rfl) ?_
 unfold bU at hc
 exact ⟨rfl,rfl,rfl,rfl,trivial⟩
abbrev oV (x:List aL):AV × List (Nat × Rs):=(.own 0,[(0,.arr 170 4 true (x.map aE))])
abbrev uK (x:List aL):Prop:=dJ Tryz.prog 71 [.one (.sl 170 4 (x.map aE))] (oV x).1 (oV x).2
theorem aFE (x:List aL) (hc:cG x≤1048576):uK x:=by
 refine aZ bR aT Tryz.func71 (by kernel_rfl) (.len x.length<| .mk x.length [.str eO.name,.int .i64 eO.column,.str eO.into,.int .i64 eO.intoColumn] ((List.replicate x.length eO).map aE)<| .loop (Nat × (List aL)) (Q2 Nat (List aL)) [3,4,8,9,10,11,12,13,14,15,16,17,18,19,20,21] [700] (fun yy0=>[(3,.own 700),(4,vI (yy0.1:Int))]) (fun yy0=>[(700,some (.arr 170 4 true (yy0.2.map aE)))]) (fun yy0=>yy0.1≤x.length∧yy0.2=x.take yy0.1++List.replicate (x.length - yy0.1) eO) (fun yy0=>x.length - yy0.1) (fun yy0=> .len x.length<| .br (.elem _ aE x (fun e18=>bG (qP e18)<| .len yy0.2.length<| .set aL aE yy0.2 (fun s5_8=>e18) (fun s5_8=> .back [(700,700)]))) (.fin [(0,700)]))) (p:=(x.map aE).length≤9223372036854775807→Lm aE x∧(((x.length:Nat):Int)=((x.length:Nat):Int)∧((x.length:Nat):Int)=((x.length:Nat):Int)∧48*x.length≤281474976710656∧x.length≤9223372036854775807∧List.replicate x.length [.str eO.name,.int .i64 eO.column,.str eO.into,.int .i64 eO.intoColumn]=(List.replicate x.length eO).map aE∧((∃(k:Nat) (out:List aL),(0:Int)=(k:Int)∧(List.replicate x.length eO).map aE=out.map aE∧k≤x.length∧out=x.take k++List.replicate (x.length - k) eO)∧ ∀(k:Nat) (out:List aL),(k≤x.length∧out=x.take k++List.replicate (x.length - k) eO)→Lm aE x∧(((decide ((k:Int)<((x.length:Nat):Int)))=true→0≤(k:Int)∧Em aE x k fun e18=>xE e18∧(0≤(k:Int)∧Lm aE out∧(k:Int)<((out.length:Nat):Int)∧(out.map aE=out.map aE∧k<out.length∧ ∀s5_8,out[k]? =some s5_8→fG (aE s5_8)=true∧0+4≤(aE s5_8).length∧(aE s5_8).take 0++[.str e18.name,.int .i64 e18.column,.str e18.into,.int .i64 e18.intoColumn]++(aE s5_8).drop (0+4)=aE e18∧dO ((k:Int)+(1:Int))∧ ∃(k' :Nat) (out' :List aL),((k:Int)+(1:Int))=(k' :Int)∧(out.set k e18).map aE=out'.map aE∧(k' ≤x.length∧out' =x.take k' ++List.replicate (x.length - k') eO)∧x.length - k' <x.length - k)))∧((decide ((k:Int)<((x.length:Nat):Int)))=false→out.map aE=x.map aE∧True))))) (by kernel_rfl) ?_
 intro n0
 simp only [List.length_map] at n0
 refine ⟨List.length_map _,rfl,rfl,by have:=iA x;omega,by have:=iA x;omega,by first | (rw [List.map_replicate];done) | (rw [List.map_replicate];rfl),⟨0,List.replicate x.length eO,rfl,rfl,Nat.zero_le _,by simp⟩,fun k out ⟨hk,ho⟩=>?_⟩
 have hl:out.length=x.length:=by rw [ho];exact oH hk
 refine ⟨List.length_map _,fun c0=>?_,fun c0=>?_⟩
 ·replace c0:=yq c0
  refine ⟨by omega,rfl,by omega,fun e18 h18=>?_⟩
  refine ⟨aGs e18 (by first | omega | (have:=aDd ‹x[k]? =some _›;omega)),by omega,List.length_map _,by omega,rfl,by omega,fun s5_8 hs5_8=>⟨rfl,Nat.le_of_ble_eq_true rfl,rfl,?_⟩⟩
  refine ⟨⟨by omega,by omega⟩,?_⟩
  exact ⟨k+1,out.set k e18,rfl,rfl,⟨by omega,by rw [ho];exact lU ‹x[k]? =some _›⟩,by omega⟩
 ·replace c0:=nq c0
  refine ⟨?_,trivial⟩
  ·rw [ho,lV hk (by omega)]
abbrev nN (x:StoreD):AV × List (Nat × Rs):=(.agg [.own 0,vI x.catalogue.version,.own 1,.own 2,.own 3],[(0,.arr 162 3 true (x.database.tables.map aD)),(1,.arr 121 4 true (x.catalogue.tables.map aA)),(2,.arr 168 3 true (x.dependencies.map aB)),(3,.arr 170 4 true (x.inclusions.map aE))])
abbrev qQ (x:StoreD):Prop:=dJ Tryz.prog 16 [.agg [.sl 162 3 (x.database.tables.map aD),.int .i64 x.catalogue.version,.sl 121 4 (x.catalogue.tables.map aA),.sl 168 3 (x.dependencies.map aB),.sl 170 4 (x.inclusions.map aE)]] (nN x).1 (nN x).2
theorem aBJ (x:StoreD) (hc:dQ x≤1048576):qQ x:=by
 refine aZ bR aT Tryz.func16 (by kernel_rfl) (bG (rW x.database)<| bG (qO x.catalogue)<| bG (nM x.dependencies)<| bG (oV x.inclusions)<| .fin [(0,600),(1,1000),(2,1400),(3,1800)]) (p:=(x.database.tables.map aD).length≤9223372036854775807→(x.catalogue.tables.map aA).length≤9223372036854775807→(x.dependencies.map aB).length≤9223372036854775807→(x.inclusions.map aE).length≤9223372036854775807→yO x.database∧xD x.catalogue∧sU x.dependencies∧uK x.inclusions∧x.catalogue.version=x.catalogue.version∧x.database.tables.map aD=x.database.tables.map aD∧x.catalogue.tables.map aA=x.catalogue.tables.map aA∧x.dependencies.map aB=x.dependencies.map aB∧x.inclusions.map aE=x.inclusions.map aE∧True) (by kernel_rfl) ?_
 intro n0 n1 n2 n3
 simp only [List.length_map] at n0 n1 n2 n3
 unfold dQ at hc
 refine ⟨aI2 x.database (by first | omega | (have:=cDatabaseS_el ‹x[k]? =some _›;omega)),aGr x.catalogue (by first | omega | (have:=cCatalogueS_el ‹x[k]? =some _›;omega)),aE6 x.dependencies (by first | omega | (have:=cDependencySS_el ‹x[k]? =some _›;omega)),aFE x.inclusions (by first | omega | (have:=cInclusionSS_el ‹x[k]? =some _›;omega)),?_⟩
 exact ⟨rfl,rfl,rfl,rfl,rfl,trivial⟩
end Go.Proofs.YtokkjaflmcjlhaaGreat
