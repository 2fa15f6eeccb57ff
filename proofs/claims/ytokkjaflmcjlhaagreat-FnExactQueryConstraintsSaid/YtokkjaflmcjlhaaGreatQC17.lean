/-
  Contracts and plain laws, joined: part 18.
-/
import Derived.Test.YtokkjaflmcjlhaaGreatQC3
namespace Go.Proofs.YtokkjaflmcjlhaaGreat
open Go.ChangeShapes Go.WideShapes Go.ChangeAt Go.RowKit
set_option linter.unusedVariables false
set_option linter.unusedSimpArgs false
set_option maxRecDepth 100000
set_option maxHeartbeats 4000000
abbrev nK (x:List Int):AV × List (Nat × Rs):=(.own 0,[(0,.arr 3 1 true (x.map intD))])
abbrev pU (x:List Int):Prop:=dG Tryz.prog 36 [.one (.sl 3 1 (x.map intD))] (nK x).1 (nK x).2
theorem aB9 (x:List Int) (hc:bX x≤1048576):pU x:=by
 refine aY bK aU Tryz.func36 (by kernel_rfl) (.len x.length<| .mk x.length [.int .i64 (0:Int)] ((List.replicate x.length (0:Int)).map intD)<| .loop (Nat × (List Int)) (Q2 Nat (List Int)) [3,4,8,9,10,11,12,13,14,15,16,17,18,19,20] [700] (fun yy0=>[(3,.own 700),(4,vI (yy0.1:Int))]) (fun yy0=>[(700,some (.arr 3 1 true (yy0.2.map intD)))]) (fun yy0=>yy0.1≤x.length∧yy0.2=x.take yy0.1++List.replicate (x.length - yy0.1) (0:Int)) (fun yy0=>x.length - yy0.1) (fun yy0=> .len x.length<| .br (.elem _ intD x (fun e18=> .len yy0.2.length<| .set Int intD yy0.2 (fun s5_7=>e18) (fun s5_7=> .back [(700,700)]))) (.fin [(0,700)]))) (p:=(x.map intD).length≤9223372036854775807→Lm intD x∧(((x.length:Nat):Int)=((x.length:Nat):Int)∧((x.length:Nat):Int)=((x.length:Nat):Int)∧8*x.length≤281474976710656∧x.length≤9223372036854775807∧List.replicate x.length [.int .i64 (0:Int)]=(List.replicate x.length (0:Int)).map intD∧((∃(k:Nat) (out:List Int),(0:Int)=(k:Int)∧(List.replicate x.length (0:Int)).map intD=out.map intD∧k≤x.length∧out=x.take k++List.replicate (x.length - k) (0:Int))∧ ∀(k:Nat) (out:List Int),(k≤x.length∧out=x.take k++List.replicate (x.length - k) (0:Int))→Lm intD x∧(((decide ((k:Int)<((x.length:Nat):Int)))=true→0≤(k:Int)∧Em intD x k fun e18=>0≤(k:Int)∧Lm intD out∧(k:Int)<((out.length:Nat):Int)∧(out.map intD=out.map intD∧k<out.length∧ ∀s5_7,out[k]? =some s5_7→eC (intD s5_7)=true∧0+1≤(intD s5_7).length∧(intD s5_7).take 0++[.int .i64 e18]++(intD s5_7).drop (0+1)=intD e18∧dB ((k:Int)+(1:Int))∧ ∃(k' :Nat) (out' :List Int),((k:Int)+(1:Int))=(k' :Int)∧(out.set k e18).map intD=out'.map intD∧(k' ≤x.length∧out' =x.take k' ++List.replicate (x.length - k') (0:Int))∧x.length - k' <x.length - k))∧((decide ((k:Int)<((x.length:Nat):Int)))=false→out.map intD=x.map intD∧True))))) (by kernel_rfl) ?_
 intro n0
 simp only [List.length_map] at n0
 refine ⟨List.length_map _,rfl,rfl,by have:=aGi x;omega,by have:=aGi x;omega,by first | (rw [List.map_replicate];done) | (rw [List.map_replicate];rfl),⟨0,List.replicate x.length (0:Int),rfl,rfl,Nat.zero_le _,by simp⟩,fun k out ⟨hk,ho⟩=>?_⟩
 have hl:out.length=x.length:=by rw [ho];exact oL hk
 refine ⟨List.length_map _,fun c0=>?_,fun c0=>?_⟩
 ·replace c0:=yq c0
  refine ⟨by omega,rfl,by omega,fun e18 h18=>?_⟩
  refine ⟨by omega,List.length_map _,by omega,rfl,by omega,fun s5_7 hs5_7=>⟨rfl,Nat.le_of_ble_eq_true rfl,rfl,?_⟩⟩
  refine ⟨⟨by omega,by omega⟩,?_⟩
  exact ⟨k+1,out.set k e18,rfl,rfl,⟨by omega,by rw [ho];exact lP ‹x[k]? =some _›⟩,by omega⟩
 ·replace c0:=nq c0
  refine ⟨?_,trivial⟩
  ·rw [ho,lQ hk (by omega)]
abbrev uM (x:List (List Int)):AV × List (Nat × Rs):=(.own 0,[(0,.arr 32 1 true (x.map aE))])
abbrev aA9 (x:List (List Int)):Prop:=dG Tryz.prog 260 [.one (.sl 32 1 (x.map aE))] (uM x).1 (uM x).2
theorem aJ4 (x:List (List Int)) (hc:cM x≤1048576):aA9 x:=by
 refine aY bK aU Tryz.func260 (by kernel_rfl) (.len x.length<| .mk x.length [.sl 3 1 (([]:List Int).map intD)] ((List.replicate x.length ([]:List Int)).map aE)<| .loop (Nat × (List (List Int))) (Q2 Nat (List (List Int))) [3,4,8,9,10,11,12,13,14,15,16,17,18,19,20,21] [700,2000] (fun yy0=>[(3,.own 700),(4,vI (yy0.1:Int))]) (fun yy0=>[(700,some (.arr 32 1 true (yy0.2.map aE)))]) (fun yy0=>yy0.1≤x.length∧yy0.2=x.take yy0.1++List.replicate (x.length - yy0.1) ([]:List Int)) (fun yy0=>x.length - yy0.1) (fun yy0=> .len x.length<| .br (.elem _ aE x (fun e18=>cI (nK e18)<| .len yy0.2.length<| .setm (List Int) aE yy0.2 (fun s5_8=>e18) (fun s5_8=> .back [(700,700)]))) (.fin [(0,700)]))) (p:=(x.map aE).length≤9223372036854775807→Lm aE x∧(((x.length:Nat):Int)=((x.length:Nat):Int)∧((x.length:Nat):Int)=((x.length:Nat):Int)∧24*x.length≤281474976710656∧x.length≤9223372036854775807∧List.replicate x.length [.sl 3 1 (([]:List Int).map intD)]=(List.replicate x.length ([]:List Int)).map aE∧((∃(k:Nat) (out:List (List Int)),(0:Int)=(k:Int)∧(List.replicate x.length ([]:List Int)).map aE=out.map aE∧k≤x.length∧out=x.take k++List.replicate (x.length - k) ([]:List Int))∧ ∀(k:Nat) (out:List (List Int)),(k≤x.length∧out=x.take k++List.replicate (x.length - k) ([]:List Int))→Lm aE x∧(((decide ((k:Int)<((x.length:Nat):Int)))=true→0≤(k:Int)∧Em aE x k fun e18=>pU e18∧(0≤(k:Int)∧Lm aE out∧(k:Int)<((out.length:Nat):Int)∧(out.map aE=out.map aE∧k<out.length∧ ∀s5_8,out[k]? =some s5_8→0+1≤(aE s5_8).length∧(aE s5_8).take 0++((aE e18).drop 0).take 1++(aE s5_8).drop (0+1)=aE e18∧e18.map intD=e18.map intD∧dB ((k:Int)+(1:Int))∧ ∃(k' :Nat) (out' :List (List Int)),((k:Int)+(1:Int))=(k' :Int)∧(out.set k e18).map aE=out'.map aE∧(k' ≤x.length∧out' =x.take k' ++List.replicate (x.length - k') ([]:List Int))∧x.length - k' <x.length - k)))∧((decide ((k:Int)<((x.length:Nat):Int)))=false→out.map aE=x.map aE∧True))))) (by kernel_rfl) ?_
 intro n0
 simp only [List.length_map] at n0
 refine ⟨List.length_map _,rfl,rfl,by have:=fL x;omega,by have:=fL x;omega,by first | (rw [List.map_replicate];done) | (rw [List.map_replicate];rfl),⟨0,List.replicate x.length ([]:List Int),rfl,rfl,Nat.zero_le _,by simp⟩,fun k out ⟨hk,ho⟩=>?_⟩
 have hl:out.length=x.length:=by rw [ho];exact oL hk
 refine ⟨List.length_map _,fun c0=>?_,fun c0=>?_⟩
 ·replace c0:=yq c0
  refine ⟨by omega,rfl,by omega,fun e18 h18=>?_⟩
  refine ⟨aB9 e18 (by first | omega | (have:=pP ‹x[k]? =some _›;omega)),by omega,List.length_map _,by omega,rfl,by omega,fun s5_8 hs5_8=>?_⟩
  refine ⟨Nat.le_of_ble_eq_true rfl,rfl,rfl,⟨by omega,by omega⟩,?_⟩
  exact ⟨k+1,out.set k e18,rfl,rfl,⟨by omega,by rw [ho];exact lP ‹x[k]? =some _›⟩,by omega⟩
 ·replace c0:=nq c0
  refine ⟨?_,trivial⟩
  ·rw [ho,lQ hk (by omega)]
abbrev aAa (x:aR):AV × List (Nat × Rs):=(.agg [.p none (.str x.name),vI x.arity,.own 0],[(0,.arr 32 1 true (x.rows.map aE))])
abbrev aF2 (x:aR):Prop:=dG Tryz.prog 218 [.agg [.str x.name,.int .i64 x.arity,.sl 32 1 (x.rows.map aE)]] (aAa x).1 (aAa x).2
theorem aOn (x:aR) (hc:eN x≤1048576):aF2 x:=by
 refine aY bK aU Tryz.func218 (by kernel_rfl) (cI (uM x.rows)<| .fin [(0,1200)]) (p:=(x.rows.map aE).length≤9223372036854775807→aA9 x.rows∧x.name=x.name∧x.arity=x.arity∧x.rows.map aE=x.rows.map aE∧True) (by kernel_rfl) ?_
 intro n0
 simp only [List.length_map] at n0
 unfold eN at hc
 refine ⟨aJ4 x.rows (by first | omega | (have:=cIntSSS_el ‹x[k]? =some _›;omega)),?_⟩
 exact ⟨rfl,rfl,rfl,trivial⟩
abbrev xS (x:List aR):AV × List (Nat × Rs):=(.own 0,[(0,.arr 162 3 true (x.map aP))])
abbrev aDD (x:List aR):Prop:=dG Tryz.prog 140 [.one (.sl 162 3 (x.map aP))] (xS x).1 (xS x).2
theorem aMd (x:List aR) (hc:gO x≤1048576):aDD x:=by
 refine aY bK aU Tryz.func140 (by kernel_rfl) (.len x.length<| .mk x.length [.str fT.name,.int .i64 fT.arity,.sl 32 1 (fT.rows.map aE)] ((List.replicate x.length fT).map aP)<| .loop (Nat × (List aR)) (Q2 Nat (List aR)) [3,4,8,9,10,11,12,13,14,15,16,17,18,19,20,21] [700,2000] (fun yy0=>[(3,.own 700),(4,vI (yy0.1:Int))]) (fun yy0=>[(700,some (.arr 162 3 true (yy0.2.map aP)))]) (fun yy0=>yy0.1≤x.length∧yy0.2=x.take yy0.1++List.replicate (x.length - yy0.1) fT) (fun yy0=>x.length - yy0.1) (fun yy0=> .len x.length<| .br (.elem _ aP x (fun e18=>cI (aAa e18)<| .len yy0.2.length<| .setm aR aP yy0.2 (fun s5_8=>e18) (fun s5_8=> .back [(700,700)]))) (.fin [(0,700)]))) (p:=(x.map aP).length≤9223372036854775807→Lm aP x∧(((x.length:Nat):Int)=((x.length:Nat):Int)∧((x.length:Nat):Int)=((x.length:Nat):Int)∧48*x.length≤281474976710656∧x.length≤9223372036854775807∧List.replicate x.length [.str fT.name,.int .i64 fT.arity,.sl 32 1 (fT.rows.map aE)]=(List.replicate x.length fT).map aP∧((∃(k:Nat) (out:List aR),(0:Int)=(k:Int)∧(List.replicate x.length fT).map aP=out.map aP∧k≤x.length∧out=x.take k++List.replicate (x.length - k) fT)∧ ∀(k:Nat) (out:List aR),(k≤x.length∧out=x.take k++List.replicate (x.length - k) fT)→Lm aP x∧(((decide ((k:Int)<((x.length:Nat):Int)))=true→0≤(k:Int)∧Em aP x k fun e18=>aF2 e18∧(0≤(k:Int)∧Lm aP out∧(k:Int)<((out.length:Nat):Int)∧(out.map aP=out.map aP∧k<out.length∧ ∀s5_8,out[k]? =some s5_8→0+3≤(aP s5_8).length∧(aP s5_8).take 0++((aP e18).drop 0).take 3++(aP s5_8).drop (0+3)=aP e18∧e18.name=e18.name∧e18.arity=e18.arity∧e18.rows.map aE=e18.rows.map aE∧dB ((k:Int)+(1:Int))∧ ∃(k' :Nat) (out' :List aR),((k:Int)+(1:Int))=(k' :Int)∧(out.set k e18).map aP=out'.map aP∧(k' ≤x.length∧out' =x.take k' ++List.replicate (x.length - k') fT)∧x.length - k' <x.length - k)))∧((decide ((k:Int)<((x.length:Nat):Int)))=false→out.map aP=x.map aP∧True))))) (by kernel_rfl) ?_
 intro n0
 simp only [List.length_map] at n0
 refine ⟨List.length_map _,rfl,rfl,by have:=aC4 x;omega,by have:=aC4 x;omega,by first | (rw [List.map_replicate];done) | (rw [List.map_replicate];rfl),⟨0,List.replicate x.length fT,rfl,rfl,Nat.zero_le _,by simp⟩,fun k out ⟨hk,ho⟩=>?_⟩
 have hl:out.length=x.length:=by rw [ho];exact oL hk
 refine ⟨List.length_map _,fun c0=>?_,fun c0=>?_⟩
 ·replace c0:=yq c0
  refine ⟨by omega,rfl,by omega,fun e18 h18=>?_⟩
  refine ⟨aOn e18 (by first | omega | (have:=aAD ‹x[k]? =some _›;omega)),by omega,List.length_map _,by omega,rfl,by omega,fun s5_8 hs5_8=>?_⟩
  refine ⟨Nat.le_of_ble_eq_true rfl,rfl,rfl,rfl,rfl,⟨by omega,by omega⟩,?_⟩
  exact ⟨k+1,out.set k e18,rfl,rfl,⟨by omega,by rw [ho];exact lP ‹x[k]? =some _›⟩,by omega⟩
 ·replace c0:=nq c0
  refine ⟨?_,trivial⟩
  ·rw [ho,lQ hk (by omega)]
abbrev sE (x:aV):AV × List (Nat × Rs):=(.agg [.own 0],[(0,.arr 162 3 true (x.tables.map aP))])
abbrev zM (x:aV):Prop:=dG Tryz.prog 68 [.agg [.sl 162 3 (x.tables.map aP)]] (sE x).1 (sE x).2
theorem aJ5 (x:aV) (hc:bF x≤1048576):zM x:=by
 refine aY bK aU Tryz.func68 (by kernel_rfl) (cI (xS x.tables)<| .fin [(0,600)]) (p:=(x.tables.map aP).length≤9223372036854775807→aDD x.tables∧x.tables.map aP=x.tables.map aP∧True) (by kernel_rfl) ?_
 intro n0
 simp only [List.length_map] at n0
 unfold bF at hc
 refine ⟨aMd x.tables (by first | omega | (have:=cTableSS_el ‹x[k]? =some _›;omega)),?_⟩
 exact ⟨rfl,trivial⟩
abbrev oX (x:aG):AV × List (Nat × Rs):=(.agg [.own 0,.own 1,.own 2],[(0,.arr 3 1 true (x.columns.map intD)),(1,.arr 32 1 true (x.values.map aE)),(2,.arr 3 1 true (x.counts.map intD))])
abbrev uZ (x:aG):Prop:=dG Tryz.prog 282 [.agg [.sl 3 1 (x.columns.map intD),.sl 32 1 (x.values.map aE),.sl 3 1 (x.counts.map intD)]] (oX x).1 (oX x).2
theorem aGB (x:aG) (hc:bH x≤1048576):uZ x:=by
 refine aY bK aU Tryz.func282 (by kernel_rfl) (cI (nK x.columns)<| cI (uM x.values)<| cI (nK x.counts)<| .fin [(0,600),(1,1000),(2,1400)]) (p:=(x.columns.map intD).length≤9223372036854775807→(x.values.map aE).length≤9223372036854775807→(x.counts.map intD).length≤9223372036854775807→pU x.columns∧aA9 x.values∧pU x.counts∧x.columns.map intD=x.columns.map intD∧x.values.map aE=x.values.map aE∧x.counts.map intD=x.counts.map intD∧True) (by kernel_rfl) ?_
 intro n0 n1 n2
 simp only [List.length_map] at n0 n1 n2
 unfold bH at hc
 refine ⟨aB9 x.columns (by first | omega | (have:=pP ‹x[k]? =some _›;omega)),aJ4 x.values (by first | omega | (have:=cIntSSS_el ‹x[k]? =some _›;omega)),aB9 x.counts (by first | omega | (have:=pP ‹x[k]? =some _›;omega)),?_⟩
 exact ⟨rfl,rfl,rfl,trivial⟩
abbrev nL (x:List aG):AV × List (Nat × Rs):=(.own 0,[(0,.arr 218 3 true (x.map aA))])
abbrev tE (x:List aG):Prop:=dG Tryz.prog 261 [.one (.sl 218 3 (x.map aA))] (nL x).1 (nL x).2
theorem aF3 (x:List aG) (hc:cQ x≤1048576):tE x:=by
 refine aY bK aU Tryz.func261 (by kernel_rfl) (.len x.length<| .mk x.length [.sl 3 1 (eH.columns.map intD),.sl 32 1 (eH.values.map aE),.sl 3 1 (eH.counts.map intD)] ((List.replicate x.length eH).map aA)<| .loop (Nat × (List aG)) (Q2 Nat (List aG)) [3,4,8,9,10,11,12,13,14,15,16,17,18,19,20,21] [700,2000,2001,2002] (fun yy0=>[(3,.own 700),(4,vI (yy0.1:Int))]) (fun yy0=>[(700,some (.arr 218 3 true (yy0.2.map aA)))]) (fun yy0=>yy0.1≤x.length∧yy0.2=x.take yy0.1++List.replicate (x.length - yy0.1) eH) (fun yy0=>x.length - yy0.1) (fun yy0=> .len x.length<| .br (.elem _ aA x (fun e18=>cI (oX e18)<| .len yy0.2.length<| .setm aG aA yy0.2 (fun s5_8=>e18) (fun s5_8=> .back [(700,700)]))) (.fin [(0,700)]))) (p:=(x.map aA).length≤9223372036854775807→Lm aA x∧(((x.length:Nat):Int)=((x.length:Nat):Int)∧((x.length:Nat):Int)=((x.length:Nat):Int)∧72*x.length≤281474976710656∧x.length≤9223372036854775807∧List.replicate x.length [.sl 3 1 (eH.columns.map intD),.sl 32 1 (eH.values.map aE),.sl 3 1 (eH.counts.map intD)]=(List.replicate x.length eH).map aA∧((∃(k:Nat) (out:List aG),(0:Int)=(k:Int)∧(List.replicate x.length eH).map aA=out.map aA∧k≤x.length∧out=x.take k++List.replicate (x.length - k) eH)∧ ∀(k:Nat) (out:List aG),(k≤x.length∧out=x.take k++List.replicate (x.length - k) eH)→Lm aA x∧(((decide ((k:Int)<((x.length:Nat):Int)))=true→0≤(k:Int)∧Em aA x k fun e18=>uZ e18∧(0≤(k:Int)∧Lm aA out∧(k:Int)<((out.length:Nat):Int)∧(out.map aA=out.map aA∧k<out.length∧ ∀s5_8,out[k]? =some s5_8→0+3≤(aA s5_8).length∧(aA s5_8).take 0++((aA e18).drop 0).take 3++(aA s5_8).drop (0+3)=aA e18∧e18.columns.map intD=e18.columns.map intD∧e18.values.map aE=e18.values.map aE∧e18.counts.map intD=e18.counts.map intD∧dB ((k:Int)+(1:Int))∧ ∃(k' :Nat) (out' :List aG),((k:Int)+(1:Int))=(k' :Int)∧(out.set k e18).map aA=out'.map aA∧(k' ≤x.length∧out' =x.take k' ++List.replicate (x.length - k') eH)∧x.length - k' <x.length - k)))∧((decide ((k:Int)<((x.length:Nat):Int)))=false→out.map aA=x.map aA∧True))))) (by kernel_rfl) ?_
 intro n0
 simp only [List.length_map] at n0
 refine ⟨List.length_map _,rfl,rfl,by have:=fU x;omega,by have:=fU x;omega,by first | (rw [List.map_replicate];done) | (rw [List.map_replicate];rfl),⟨0,List.replicate x.length eH,rfl,rfl,Nat.zero_le _,by simp⟩,fun k out ⟨hk,ho⟩=>?_⟩
 have hl:out.length=x.length:=by rw [ho];exact oL hk
 refine ⟨List.length_map _,fun c0=>?_,fun c0=>?_⟩
 ·replace c0:=yq c0
  refine ⟨by omega,rfl,by omega,fun e18 h18=>?_⟩
  refine ⟨aGB e18 (by first | omega | (have:=gE ‹x[k]? =some _›;omega)),by omega,List.length_map _,by omega,rfl,by omega,fun s5_8 hs5_8=>?_⟩
  refine ⟨Nat.le_of_ble_eq_true rfl,rfl,rfl,rfl,rfl,⟨by omega,by omega⟩,?_⟩
  exact ⟨k+1,out.set k e18,rfl,rfl,⟨by omega,by rw [ho];exact lP ‹x[k]? =some _›⟩,by omega⟩
 ·replace c0:=nq c0
  refine ⟨?_,trivial⟩
  ·rw [ho,lQ hk (by omega)]
abbrev oY (x:aB):AV × List (Nat × Rs):=(.agg [.p none (.str x.name),vI x.arity,vI x.rowCount,.own 0],[(0,.arr 218 3 true (x.groups.map aA))])
abbrev vA (x:aB):Prop:=dG Tryz.prog 219 [.agg [.str x.name,.int .i64 x.arity,.int .i64 x.rowCount,.sl 218 3 (x.groups.map aA)]] (oY x).1 (oY x).2
theorem aGC (x:aB) (hc:aW x≤1048576):vA x:=by
 refine aY bK aU Tryz.func219 (by kernel_rfl) (cI (nL x.groups)<| .fin [(0,1500)]) (p:=(x.groups.map aA).length≤9223372036854775807→tE x.groups∧x.name=x.name∧x.arity=x.arity∧x.rowCount=x.rowCount∧x.groups.map aA=x.groups.map aA∧True) (by kernel_rfl) ?_
 intro n0
 simp only [List.length_map] at n0
 unfold aW at hc
 refine ⟨aF3 x.groups (by first | omega | (have:=cGroupStatsSS_el ‹x[k]? =some _›;omega)),?_⟩
 exact ⟨rfl,rfl,rfl,rfl,trivial⟩
abbrev nM (x:List aB):AV × List (Nat × Rs):=(.own 0,[(0,.arr 121 4 true (x.map aC))])
abbrev tF (x:List aB):Prop:=dG Tryz.prog 141 [.one (.sl 121 4 (x.map aC))] (nM x).1 (nM x).2
theorem aF4 (x:List aB) (hc:cX x≤1048576):tF x:=by
 refine aY bK aU Tryz.func141 (by kernel_rfl) (.len x.length<| .mk x.length [.str dN.name,.int .i64 dN.arity,.int .i64 dN.rowCount,.sl 218 3 (dN.groups.map aA)] ((List.replicate x.length dN).map aC)<| .loop (Nat × (List aB)) (Q2 Nat (List aB)) [3,4,8,9,10,11,12,13,14,15,16,17,18,19,20,21] [700,2000] (fun yy0=>[(3,.own 700),(4,vI (yy0.1:Int))]) (fun yy0=>[(700,some (.arr 121 4 true (yy0.2.map aC)))]) (fun yy0=>yy0.1≤x.length∧yy0.2=x.take yy0.1++List.replicate (x.length - yy0.1) dN) (fun yy0=>x.length - yy0.1) (fun yy0=> .len x.length<| .br (.elem _ aC x (fun e18=>cI (oY e18)<| .len yy0.2.length<| .setm aB aC yy0.2 (fun s5_8=>e18) (fun s5_8=> .back [(700,700)]))) (.fin [(0,700)]))) (p:=(x.map aC).length≤9223372036854775807→Lm aC x∧(((x.length:Nat):Int)=((x.length:Nat):Int)∧((x.length:Nat):Int)=((x.length:Nat):Int)∧56*x.length≤281474976710656∧x.length≤9223372036854775807∧List.replicate x.length [.str dN.name,.int .i64 dN.arity,.int .i64 dN.rowCount,.sl 218 3 (dN.groups.map aA)]=(List.replicate x.length dN).map aC∧((∃(k:Nat) (out:List aB),(0:Int)=(k:Int)∧(List.replicate x.length dN).map aC=out.map aC∧k≤x.length∧out=x.take k++List.replicate (x.length - k) dN)∧ ∀(k:Nat) (out:List aB),(k≤x.length∧out=x.take k++List.replicate (x.length - k) dN)→Lm aC x∧(((decide ((k:Int)<((x.length:Nat):Int)))=true→0≤(k:Int)∧Em aC x k fun e18=>vA e18∧(0≤(k:Int)∧Lm aC out∧(k:Int)<((out.length:Nat):Int)∧(out.map aC=out.map aC∧k<out.length∧ ∀s5_8,out[k]? =some s5_8→0+4≤(aC s5_8).length∧(aC s5_8).take 0++((aC e18).drop 0).take 4++(aC s5_8).drop (0+4)=aC e18∧e18.name=e18.name∧e18.arity=e18.arity∧e18.rowCount=e18.rowCount∧e18.groups.map aA=e18.groups.map aA∧dB ((k:Int)+(1:Int))∧ ∃(k' :Nat) (out' :List aB),((k:Int)+(1:Int))=(k' :Int)∧(out.set k e18).map aC=out'.map aC∧(k' ≤x.length∧out' =x.take k' ++List.replicate (x.length - k') dN)∧x.length - k' <x.length - k)))∧((decide ((k:Int)<((x.length:Nat):Int)))=false→out.map aC=x.map aC∧True))))) (by kernel_rfl) ?_
 intro n0
 simp only [List.length_map] at n0
 refine ⟨List.length_map _,rfl,rfl,by have:=sP x;omega,by have:=sP x;omega,by first | (rw [List.map_replicate];done) | (rw [List.map_replicate];rfl),⟨0,List.replicate x.length dN,rfl,rfl,Nat.zero_le _,by simp⟩,fun k out ⟨hk,ho⟩=>?_⟩
 have hl:out.length=x.length:=by rw [ho];exact oL hk
 refine ⟨List.length_map _,fun c0=>?_,fun c0=>?_⟩
 ·replace c0:=yq c0
  refine ⟨by omega,rfl,by omega,fun e18 h18=>?_⟩
  refine ⟨aGC e18 (by first | omega | (have:=jN ‹x[k]? =some _›;omega)),by omega,List.length_map _,by omega,rfl,by omega,fun s5_8 hs5_8=>?_⟩
  refine ⟨Nat.le_of_ble_eq_true rfl,rfl,rfl,rfl,rfl,rfl,⟨by omega,by omega⟩,?_⟩
  exact ⟨k+1,out.set k e18,rfl,rfl,⟨by omega,by rw [ho];exact lP ‹x[k]? =some _›⟩,by omega⟩
 ·replace c0:=nq c0
  refine ⟨?_,trivial⟩
  ·rw [ho,lQ hk (by omega)]
abbrev qX (x:bS):AV × List (Nat × Rs):=(.agg [vI x.version,.own 0],[(0,.arr 121 4 true (x.tables.map aC))])
abbrev xT (x:bS):Prop:=dG Tryz.prog 69 [.agg [.int .i64 x.version,.sl 121 4 (x.tables.map aC)]] (qX x).1 (qX x).2
theorem aHv (x:bS) (hc:bM x≤1048576):xT x:=by
 refine aY bK aU Tryz.func69 (by kernel_rfl) (cI (nM x.tables)<| .fin [(0,900)]) (p:=(x.tables.map aC).length≤9223372036854775807→tF x.tables∧x.version=x.version∧x.tables.map aC=x.tables.map aC∧True) (by kernel_rfl) ?_
 intro n0
 simp only [List.length_map] at n0
 unfold bM at hc
 refine ⟨aF4 x.tables (by first | omega | (have:=cTableStatsSS_el ‹x[k]? =some _›;omega)),?_⟩
 exact ⟨rfl,rfl,trivial⟩
abbrev oZ (x:aN):AV × List (Nat × Rs):=(.agg [.p none (.str x.name),.own 0,vI x.dst],[(0,.arr 3 1 true (x.src.map intD))])
abbrev vC (x:aN):Prop:=dG Tryz.prog 142 [.agg [.str x.name,.sl 3 1 (x.src.map intD),.int .i64 x.dst]] (oZ x).1 (oZ x).2
theorem aGD (x:aN) (hc:bY x≤1048576):vC x:=by
 refine aY bK aU Tryz.func142 (by kernel_rfl) (cI (nK x.src)<| .fin [(0,900)]) (p:=(x.src.map intD).length≤9223372036854775807→pU x.src∧x.name=x.name∧x.dst=x.dst∧x.src.map intD=x.src.map intD∧True) (by kernel_rfl) ?_
 intro n0
 simp only [List.length_map] at n0
 unfold bY at hc
 refine ⟨aB9 x.src (by first | omega | (have:=pP ‹x[k]? =some _›;omega)),?_⟩
 exact ⟨rfl,rfl,rfl,trivial⟩
abbrev nN (x:List aN):AV × List (Nat × Rs):=(.own 0,[(0,.arr 168 3 true (x.map aJ))])
abbrev tG (x:List aN):Prop:=dG Tryz.prog 70 [.one (.sl 168 3 (x.map aJ))] (nN x).1 (nN x).2
theorem aF5 (x:List aN) (hc:bW x≤1048576):tG x:=by
 refine aY bK aU Tryz.func70 (by kernel_rfl) (.len x.length<| .mk x.length [.str eW.name,.sl 3 1 (eW.src.map intD),.int .i64 eW.dst] ((List.replicate x.length eW).map aJ)<| .loop (Nat × (List aN)) (Q2 Nat (List aN)) [3,4,8,9,10,11,12,13,14,15,16,17,18,19,20,21] [700,2000] (fun yy0=>[(3,.own 700),(4,vI (yy0.1:Int))]) (fun yy0=>[(700,some (.arr 168 3 true (yy0.2.map aJ)))]) (fun yy0=>yy0.1≤x.length∧yy0.2=x.take yy0.1++List.replicate (x.length - yy0.1) eW) (fun yy0=>x.length - yy0.1) (fun yy0=> .len x.length<| .br (.elem _ aJ x (fun e18=>cI (oZ e18)<| .len yy0.2.length<| .setm aN aJ yy0.2 (fun s5_8=>e18) (fun s5_8=> .back [(700,700)]))) (.fin [(0,700)]))) (p:=(x.map aJ).length≤9223372036854775807→Lm aJ x∧(((x.length:Nat):Int)=((x.length:Nat):Int)∧((x.length:Nat):Int)=((x.length:Nat):Int)∧48*x.length≤281474976710656∧x.length≤9223372036854775807∧List.replicate x.length [.str eW.name,.sl 3 1 (eW.src.map intD),.int .i64 eW.dst]=(List.replicate x.length eW).map aJ∧((∃(k:Nat) (out:List aN),(0:Int)=(k:Int)∧(List.replicate x.length eW).map aJ=out.map aJ∧k≤x.length∧out=x.take k++List.replicate (x.length - k) eW)∧ ∀(k:Nat) (out:List aN),(k≤x.length∧out=x.take k++List.replicate (x.length - k) eW)→Lm aJ x∧(((decide ((k:Int)<((x.length:Nat):Int)))=true→0≤(k:Int)∧Em aJ x k fun e18=>vC e18∧(0≤(k:Int)∧Lm aJ out∧(k:Int)<((out.length:Nat):Int)∧(out.map aJ=out.map aJ∧k<out.length∧ ∀s5_8,out[k]? =some s5_8→0+3≤(aJ s5_8).length∧(aJ s5_8).take 0++((aJ e18).drop 0).take 3++(aJ s5_8).drop (0+3)=aJ e18∧e18.name=e18.name∧e18.src.map intD=e18.src.map intD∧e18.dst=e18.dst∧dB ((k:Int)+(1:Int))∧ ∃(k' :Nat) (out' :List aN),((k:Int)+(1:Int))=(k' :Int)∧(out.set k e18).map aJ=out'.map aJ∧(k' ≤x.length∧out' =x.take k' ++List.replicate (x.length - k') eW)∧x.length - k' <x.length - k)))∧((decide ((k:Int)<((x.length:Nat):Int)))=false→out.map aJ=x.map aJ∧True))))) (by kernel_rfl) ?_
 intro n0
 simp only [List.length_map] at n0
 refine ⟨List.length_map _,rfl,rfl,by have:=sQ x;omega,by have:=sQ x;omega,by first | (rw [List.map_replicate];done) | (rw [List.map_replicate];rfl),⟨0,List.replicate x.length eW,rfl,rfl,Nat.zero_le _,by simp⟩,fun k out ⟨hk,ho⟩=>?_⟩
 have hl:out.length=x.length:=by rw [ho];exact oL hk
 refine ⟨List.length_map _,fun c0=>?_,fun c0=>?_⟩
 ·replace c0:=yq c0
  refine ⟨by omega,rfl,by omega,fun e18 h18=>?_⟩
  refine ⟨aGD e18 (by first | omega | (have:=aDM ‹x[k]? =some _›;omega)),by omega,List.length_map _,by omega,rfl,by omega,fun s5_8 hs5_8=>?_⟩
  refine ⟨Nat.le_of_ble_eq_true rfl,rfl,rfl,rfl,rfl,⟨by omega,by omega⟩,?_⟩
  exact ⟨k+1,out.set k e18,rfl,rfl,⟨by omega,by rw [ho];exact lP ‹x[k]? =some _›⟩,by omega⟩
 ·replace c0:=nq c0
  refine ⟨?_,trivial⟩
  ·rw [ho,lQ hk (by omega)]
abbrev qY (x:aL):AV × List (Nat × Rs):=(.agg [.p none (.str x.name),vI x.column,.p none (.str x.into),vI x.intoColumn],[])
abbrev xU (x:aL):Prop:=dG Tryz.prog 143 [.agg [.str x.name,.int .i64 x.column,.str x.into,.int .i64 x.intoColumn]] (qY x).1 (qY x).2
theorem aHw (x:aL) (hc:cH x≤1048576):xU x:=by
 refine aY bK aU Tryz.func143 (by kernel_rfl) (.fin []) (p:=x.name=x.name∧x.column=x.column∧x.into=x.into∧x.intoColumn=x.intoColumn∧True) (by kernel_rfl) ?_
 unfold cH at hc
 exact ⟨rfl,rfl,rfl,rfl,trivial⟩
abbrev pA (x:List aL):AV × List (Nat × Rs):=(.own 0,[(0,.arr 170 4 true (x.map aM))])
abbrev vD (x:List aL):Prop:=dG Tryz.prog 71 [.one (.sl 170 4 (x.map aM))] (pA x).1 (pA x).2
theorem aGE (x:List aL) (hc:cV x≤1048576):vD x:=by
 refine aY bK aU Tryz.func71 (by kernel_rfl) (.len x.length<| .mk x.length [.str eV.name,.int .i64 eV.column,.str eV.into,.int .i64 eV.intoColumn] ((List.replicate x.length eV).map aM)<| .loop (Nat × (List aL)) (Q2 Nat (List aL)) [3,4,8,9,10,11,12,13,14,15,16,17,18,19,20,21] [700] (fun yy0=>[(3,.own 700),(4,vI (yy0.1:Int))]) (fun yy0=>[(700,some (.arr 170 4 true (yy0.2.map aM)))]) (fun yy0=>yy0.1≤x.length∧yy0.2=x.take yy0.1++List.replicate (x.length - yy0.1) eV) (fun yy0=>x.length - yy0.1) (fun yy0=> .len x.length<| .br (.elem _ aM x (fun e18=>cI (qY e18)<| .len yy0.2.length<| .set aL aM yy0.2 (fun s5_8=>e18) (fun s5_8=> .back [(700,700)]))) (.fin [(0,700)]))) (p:=(x.map aM).length≤9223372036854775807→Lm aM x∧(((x.length:Nat):Int)=((x.length:Nat):Int)∧((x.length:Nat):Int)=((x.length:Nat):Int)∧48*x.length≤281474976710656∧x.length≤9223372036854775807∧List.replicate x.length [.str eV.name,.int .i64 eV.column,.str eV.into,.int .i64 eV.intoColumn]=(List.replicate x.length eV).map aM∧((∃(k:Nat) (out:List aL),(0:Int)=(k:Int)∧(List.replicate x.length eV).map aM=out.map aM∧k≤x.length∧out=x.take k++List.replicate (x.length - k) eV)∧ ∀(k:Nat) (out:List aL),(k≤x.length∧out=x.take k++List.replicate (x.length - k) eV)→Lm aM x∧(((decide ((k:Int)<((x.length:Nat):Int)))=true→0≤(k:Int)∧Em aM x k fun e18=>xU e18∧(0≤(k:Int)∧Lm aM out∧(k:Int)<((out.length:Nat):Int)∧(out.map aM=out.map aM∧k<out.length∧ ∀s5_8,out[k]? =some s5_8→eC (aM s5_8)=true∧0+4≤(aM s5_8).length∧(aM s5_8).take 0++[.str e18.name,.int .i64 e18.column,.str e18.into,.int .i64 e18.intoColumn]++(aM s5_8).drop (0+4)=aM e18∧dB ((k:Int)+(1:Int))∧ ∃(k' :Nat) (out' :List aL),((k:Int)+(1:Int))=(k' :Int)∧(out.set k e18).map aM=out'.map aM∧(k' ≤x.length∧out' =x.take k' ++List.replicate (x.length - k') eV)∧x.length - k' <x.length - k)))∧((decide ((k:Int)<((x.length:Nat):Int)))=false→out.map aM=x.map aM∧True))))) (by kernel_rfl) ?_
 intro n0
 simp only [List.length_map] at n0
 refine ⟨List.length_map _,rfl,rfl,by have:=iC x;omega,by have:=iC x;omega,by first | (rw [List.map_replicate];done) | (rw [List.map_replicate];rfl),⟨0,List.replicate x.length eV,rfl,rfl,Nat.zero_le _,by simp⟩,fun k out ⟨hk,ho⟩=>?_⟩
 have hl:out.length=x.length:=by rw [ho];exact oL hk
 refine ⟨List.length_map _,fun c0=>?_,fun c0=>?_⟩
 ·replace c0:=yq c0
  refine ⟨by omega,rfl,by omega,fun e18 h18=>?_⟩
  refine ⟨aHw e18 (by first | omega | (have:=aEV ‹x[k]? =some _›;omega)),by omega,List.length_map _,by omega,rfl,by omega,fun s5_8 hs5_8=>⟨rfl,Nat.le_of_ble_eq_true rfl,rfl,?_⟩⟩
  refine ⟨⟨by omega,by omega⟩,?_⟩
  exact ⟨k+1,out.set k e18,rfl,rfl,⟨by omega,by rw [ho];exact lP ‹x[k]? =some _›⟩,by omega⟩
 ·replace c0:=nq c0
  refine ⟨?_,trivial⟩
  ·rw [ho,lQ hk (by omega)]
abbrev nO (x:StoreD):AV × List (Nat × Rs):=(.agg [.own 0,vI x.catalogue.version,.own 1,.own 2,.own 3],[(0,.arr 162 3 true (x.database.tables.map aP)),(1,.arr 121 4 true (x.catalogue.tables.map aC)),(2,.arr 168 3 true (x.dependencies.map aJ)),(3,.arr 170 4 true (x.inclusions.map aM))])
abbrev qZ (x:StoreD):Prop:=dG Tryz.prog 16 [.agg [.sl 162 3 (x.database.tables.map aP),.int .i64 x.catalogue.version,.sl 121 4 (x.catalogue.tables.map aC),.sl 168 3 (x.dependencies.map aJ),.sl 170 4 (x.inclusions.map aM)]] (nO x).1 (nO x).2
theorem aBa (x:StoreD) (hc:eD x≤1048576):qZ x:=by
 refine aY bK aU Tryz.func16 (by kernel_rfl) (cI (sE x.database)<| cI (qX x.catalogue)<| cI (nN x.dependencies)<| cI (pA x.inclusions)<| .fin [(0,600),(1,1000),(2,1400),(3,1800)]) (p:=(x.database.tables.map aP).length≤9223372036854775807→(x.catalogue.tables.map aC).length≤9223372036854775807→(x.dependencies.map aJ).length≤9223372036854775807→(x.inclusions.map aM).length≤9223372036854775807→zM x.database∧xT x.catalogue∧tG x.dependencies∧vD x.inclusions∧x.catalogue.version=x.catalogue.version∧x.database.tables.map aP=x.database.tables.map aP∧x.catalogue.tables.map aC=x.catalogue.tables.map aC∧x.dependencies.map aJ=x.dependencies.map aJ∧x.inclusions.map aM=x.inclusions.map aM∧True) (by kernel_rfl) ?_
 intro n0 n1 n2 n3
 simp only [List.length_map] at n0 n1 n2 n3
 unfold eD at hc
 refine ⟨aJ5 x.database (by first | omega | (have:=cDatabaseS_el ‹x[k]? =some _›;omega)),aHv x.catalogue (by first | omega | (have:=cCatalogueS_el ‹x[k]? =some _›;omega)),aF5 x.dependencies (by first | omega | (have:=cDependencySS_el ‹x[k]? =some _›;omega)),aGE x.inclusions (by first | omega | (have:=cInclusionSS_el ‹x[k]? =some _›;omega)),?_⟩
 exact ⟨rfl,rfl,rfl,rfl,rfl,trivial⟩
abbrev aCU (x:bR):AV × List (Nat × Rs):=(.agg [.p none (.str x.name),.own 0],[(0,.arr 3 1 true (x.vars.map intD))])
abbrev aHL (x:bR):Prop:=dG Tryz.prog 167 [.agg [.str x.name,.sl 3 1 (x.vars.map intD)]] (aCU x).1 (aCU x).2
theorem aPw (x:bR) (hc:fY x≤1048576):aHL x:=by
 refine aY bK aU Tryz.func167 (by kernel_rfl) (cI (nK x.vars)<| .fin [(0,900)]) (p:=(x.vars.map intD).length≤9223372036854775807→pU x.vars∧x.name=x.name∧x.vars.map intD=x.vars.map intD∧True) (by kernel_rfl) ?_
 intro n0
 simp only [List.length_map] at n0
 unfold fY at hc
 refine ⟨aB9 x.vars (by first | omega | (have:=pP ‹x[k]? =some _›;omega)),?_⟩
 exact ⟨rfl,rfl,trivial⟩
abbrev aAb (x:List bR):AV × List (Nat × Rs):=(.own 0,[(0,.arr 131 2 true (x.map bC))])
abbrev aF6 (x:List bR):Prop:=dG Tryz.prog 93 [.one (.sl 131 2 (x.map bC))] (aAb x).1 (aAb x).2
theorem aOo (x:List bR) (hc:jF x≤1048576):aF6 x:=by
 refine aY bK aU Tryz.func93 (by kernel_rfl) (.len x.length<| .mk x.length [.str pB.name,.sl 3 1 (pB.vars.map intD)] ((List.replicate x.length pB).map bC)<| .loop (Nat × (List bR)) (Q2 Nat (List bR)) [3,4,8,9,10,11,12,13,14,15,16,17,18,19,20,21] [700,2000] (fun yy0=>[(3,.own 700),(4,vI (yy0.1:Int))]) (fun yy0=>[(700,some (.arr 131 2 true (yy0.2.map bC)))]) (fun yy0=>yy0.1≤x.length∧yy0.2=x.take yy0.1++List.replicate (x.length - yy0.1) pB) (fun yy0=>x.length - yy0.1) (fun yy0=> .len x.length<| .br (.elem _ bC x (fun e18=>cI (aCU e18)<| .len yy0.2.length<| .setm bR bC yy0.2 (fun s5_8=>e18) (fun s5_8=> .back [(700,700)]))) (.fin [(0,700)]))) (p:=(x.map bC).length≤9223372036854775807→Lm bC x∧(((x.length:Nat):Int)=((x.length:Nat):Int)∧((x.length:Nat):Int)=((x.length:Nat):Int)∧40*x.length≤281474976710656∧x.length≤9223372036854775807∧List.replicate x.length [.str pB.name,.sl 3 1 (pB.vars.map intD)]=(List.replicate x.length pB).map bC∧((∃(k:Nat) (out:List bR),(0:Int)=(k:Int)∧(List.replicate x.length pB).map bC=out.map bC∧k≤x.length∧out=x.take k++List.replicate (x.length - k) pB)∧ ∀(k:Nat) (out:List bR),(k≤x.length∧out=x.take k++List.replicate (x.length - k) pB)→Lm bC x∧(((decide ((k:Int)<((x.length:Nat):Int)))=true→0≤(k:Int)∧Em bC x k fun e18=>aHL e18∧(0≤(k:Int)∧Lm bC out∧(k:Int)<((out.length:Nat):Int)∧(out.map bC=out.map bC∧k<out.length∧ ∀s5_8,out[k]? =some s5_8→0+2≤(bC s5_8).length∧(bC s5_8).take 0++((bC e18).drop 0).take 2++(bC s5_8).drop (0+2)=bC e18∧e18.name=e18.name∧e18.vars.map intD=e18.vars.map intD∧dB ((k:Int)+(1:Int))∧ ∃(k' :Nat) (out' :List bR),((k:Int)+(1:Int))=(k' :Int)∧(out.set k e18).map bC=out'.map bC∧(k' ≤x.length∧out' =x.take k' ++List.replicate (x.length - k') pB)∧x.length - k' <x.length - k)))∧((decide ((k:Int)<((x.length:Nat):Int)))=false→out.map bC=x.map bC∧True))))) (by kernel_rfl) ?_
 intro n0
 simp only [List.length_map] at n0
 refine ⟨List.length_map _,rfl,rfl,by have:=aET x;omega,by have:=aET x;omega,by first | (rw [List.map_replicate];done) | (rw [List.map_replicate];rfl),⟨0,List.replicate x.length pB,rfl,rfl,Nat.zero_le _,by simp⟩,fun k out ⟨hk,ho⟩=>?_⟩
 have hl:out.length=x.length:=by rw [ho];exact oL hk
 refine ⟨List.length_map _,fun c0=>?_,fun c0=>?_⟩
 ·replace c0:=yq c0
  refine ⟨by omega,rfl,by omega,fun e18 h18=>?_⟩
  refine ⟨aPw e18 (by first | omega | (have:=aCB ‹x[k]? =some _›;omega)),by omega,List.length_map _,by omega,rfl,by omega,fun s5_8 hs5_8=>?_⟩
  refine ⟨Nat.le_of_ble_eq_true rfl,rfl,rfl,rfl,⟨by omega,by omega⟩,?_⟩
  exact ⟨k+1,out.set k e18,rfl,rfl,⟨by omega,by rw [ho];exact lP ‹x[k]? =some _›⟩,by omega⟩
 ·replace c0:=nq c0
  refine ⟨?_,trivial⟩
  ·rw [ho,lQ hk (by omega)]
abbrev nP (x:QueryD):AV × List (Nat × Rs):=(.agg [vI x.variableCount,.own 0],[(0,.arr 131 2 true (x.atoms.map bC))])
abbrev rA (x:QueryD):Prop:=dG Tryz.prog 32 [.agg [.int .i64 x.variableCount,.sl 131 2 (x.atoms.map bC)]] (nP x).1 (nP x).2
theorem aBb (x:QueryD) (hc:jY x≤1048576):rA x:=by
 refine aY bK aU Tryz.func32 (by kernel_rfl) (cI (aAb x.atoms)<| .fin [(0,900)]) (p:=(x.atoms.map bC).length≤9223372036854775807→aF6 x.atoms∧x.variableCount=x.variableCount∧x.atoms.map bC=x.atoms.map bC∧True) (by kernel_rfl) ?_
 intro n0
 simp only [List.length_map] at n0
 unfold jY at hc
 refine ⟨aOo x.atoms (by first | omega | (have:=cAtomSS_el ‹x[k]? =some _›;omega)),?_⟩
 exact ⟨rfl,rfl,trivial⟩
end Go.Proofs.YtokkjaflmcjlhaaGreat
