/-
  Contracts and plain laws, joined: part 18.
-/
import Derived.Test.YtokkjaflmcjlhaaGreatQD3
namespace Go.Proofs.YtokkjaflmcjlhaaGreat
open Go.ChangeShapes Go.WideShapes Go.ChangeAt Go.RowKit
set_option linter.unusedVariables false
set_option linter.unusedSimpArgs false
set_option maxRecDepth 100000
set_option maxHeartbeats 4000000
abbrev oG (x:List Int):AV × List (Nat × Rs):=(.own 0,[(0,.arr 3 1 true (x.map intD))])
abbrev qW (x:List Int):Prop:=cU Tryz.prog 36 [.one (.sl 3 1 (x.map intD))] (oG x).1 (oG x).2
theorem aC2 (x:List Int) (hc:bZ x≤1048576):qW x:=by
 refine aV bF aS Tryz.func36 (by kernel_rfl) (.len x.length<| .mk x.length [.int .i64 (0:Int)] ((List.replicate x.length (0:Int)).map intD)<| .loop (Nat × (List Int)) (Q2 Nat (List Int)) [3,4,8,9,10,11,12,13,14,15,16,17,18,19,20] [700] (fun yy0=>[(3,.own 700),(4,vI (yy0.1:Int))]) (fun yy0=>[(700,some (.arr 3 1 true (yy0.2.map intD)))]) (fun yy0=>yy0.1≤x.length∧yy0.2=x.take yy0.1++List.replicate (x.length - yy0.1) (0:Int)) (fun yy0=>x.length - yy0.1) (fun yy0=> .len x.length<| .br (.elem _ intD x (fun e18=> .len yy0.2.length<| .set Int intD yy0.2 (fun s5_7=>e18) (fun s5_7=> .back [(700,700)]))) (.fin [(0,700)]))) (p:=(x.map intD).length≤9223372036854775807→Lm intD x∧(((x.length:Nat):Int)=((x.length:Nat):Int)∧((x.length:Nat):Int)=((x.length:Nat):Int)∧8*x.length≤281474976710656∧x.length≤9223372036854775807∧List.replicate x.length [.int .i64 (0:Int)]=(List.replicate x.length (0:Int)).map intD∧((∃(k:Nat) (out:List Int),(0:Int)=(k:Int)∧(List.replicate x.length (0:Int)).map intD=out.map intD∧k≤x.length∧out=x.take k++List.replicate (x.length - k) (0:Int))∧ ∀(k:Nat) (out:List Int),(k≤x.length∧out=x.take k++List.replicate (x.length - k) (0:Int))→Lm intD x∧(((decide ((k:Int)<((x.length:Nat):Int)))=true→0≤(k:Int)∧Em intD x k fun e18=>0≤(k:Int)∧Lm intD out∧(k:Int)<((out.length:Nat):Int)∧(out.map intD=out.map intD∧k<out.length∧ ∀s5_7,out[k]? =some s5_7→eK (intD s5_7)=true∧0+1≤(intD s5_7).length∧(intD s5_7).take 0++[.int .i64 e18]++(intD s5_7).drop (0+1)=intD e18∧cG ((k:Int)+(1:Int))∧ ∃(k' :Nat) (out' :List Int),((k:Int)+(1:Int))=(k' :Int)∧(out.set k e18).map intD=out'.map intD∧(k' ≤x.length∧out' =x.take k' ++List.replicate (x.length - k') (0:Int))∧x.length - k' <x.length - k))∧((decide ((k:Int)<((x.length:Nat):Int)))=false→out.map intD=x.map intD∧True))))) (by kernel_rfl) ?_
 intro n0
 simp only [List.length_map] at n0
 refine ⟨List.length_map _,rfl,rfl,by have:=aHl x;omega,by have:=aHl x;omega,by first | (rw [List.map_replicate];done) | (rw [List.map_replicate];rfl),⟨0,List.replicate x.length (0:Int),rfl,rfl,Nat.zero_le _,by simp⟩,fun k out ⟨hk,ho⟩=>?_⟩
 have hl:out.length=x.length:=by rw [ho];exact pI hk
 refine ⟨List.length_map _,fun c0=>?_,fun c0=>?_⟩
 ·replace c0:=yq c0
  refine ⟨by omega,rfl,by omega,fun e18 h18=>?_⟩
  refine ⟨by omega,List.length_map _,by omega,rfl,by omega,fun s5_7 hs5_7=>⟨rfl,Nat.le_of_ble_eq_true rfl,rfl,?_⟩⟩
  refine ⟨⟨by omega,by omega⟩,?_⟩
  exact ⟨k+1,out.set k e18,rfl,rfl,⟨by omega,by rw [ho];exact mK ‹x[k]? =some _›⟩,by omega⟩
 ·replace c0:=nq c0
  refine ⟨?_,trivial⟩
  ·rw [ho,mL hk (by omega)]
abbrev vT (x:List (List Int)):AV × List (Nat × Rs):=(.own 0,[(0,.arr 32 1 true (x.map aF))])
abbrev aBN (x:List (List Int)):Prop:=cU Tryz.prog 260 [.one (.sl 32 1 (x.map aF))] (vT x).1 (vT x).2
theorem aKg (x:List (List Int)) (hc:cI x≤1048576):aBN x:=by
 refine aV bF aS Tryz.func260 (by kernel_rfl) (.len x.length<| .mk x.length [.sl 3 1 (([]:List Int).map intD)] ((List.replicate x.length ([]:List Int)).map aF)<| .loop (Nat × (List (List Int))) (Q2 Nat (List (List Int))) [3,4,8,9,10,11,12,13,14,15,16,17,18,19,20,21] [700,2000] (fun yy0=>[(3,.own 700),(4,vI (yy0.1:Int))]) (fun yy0=>[(700,some (.arr 32 1 true (yy0.2.map aF)))]) (fun yy0=>yy0.1≤x.length∧yy0.2=x.take yy0.1++List.replicate (x.length - yy0.1) ([]:List Int)) (fun yy0=>x.length - yy0.1) (fun yy0=> .len x.length<| .br (.elem _ aF x (fun e18=>bP (oG e18)<| .len yy0.2.length<| .setm (List Int) aF yy0.2 (fun s5_8=>e18) (fun s5_8=> .back [(700,700)]))) (.fin [(0,700)]))) (p:=(x.map aF).length≤9223372036854775807→Lm aF x∧(((x.length:Nat):Int)=((x.length:Nat):Int)∧((x.length:Nat):Int)=((x.length:Nat):Int)∧24*x.length≤281474976710656∧x.length≤9223372036854775807∧List.replicate x.length [.sl 3 1 (([]:List Int).map intD)]=(List.replicate x.length ([]:List Int)).map aF∧((∃(k:Nat) (out:List (List Int)),(0:Int)=(k:Int)∧(List.replicate x.length ([]:List Int)).map aF=out.map aF∧k≤x.length∧out=x.take k++List.replicate (x.length - k) ([]:List Int))∧ ∀(k:Nat) (out:List (List Int)),(k≤x.length∧out=x.take k++List.replicate (x.length - k) ([]:List Int))→Lm aF x∧(((decide ((k:Int)<((x.length:Nat):Int)))=true→0≤(k:Int)∧Em aF x k fun e18=>qW e18∧(0≤(k:Int)∧Lm aF out∧(k:Int)<((out.length:Nat):Int)∧(out.map aF=out.map aF∧k<out.length∧ ∀s5_8,out[k]? =some s5_8→0+1≤(aF s5_8).length∧(aF s5_8).take 0++((aF e18).drop 0).take 1++(aF s5_8).drop (0+1)=aF e18∧e18.map intD=e18.map intD∧cG ((k:Int)+(1:Int))∧ ∃(k' :Nat) (out' :List (List Int)),((k:Int)+(1:Int))=(k' :Int)∧(out.set k e18).map aF=out'.map aF∧(k' ≤x.length∧out' =x.take k' ++List.replicate (x.length - k') ([]:List Int))∧x.length - k' <x.length - k)))∧((decide ((k:Int)<((x.length:Nat):Int)))=false→out.map aF=x.map aF∧True))))) (by kernel_rfl) ?_
 intro n0
 simp only [List.length_map] at n0
 refine ⟨List.length_map _,rfl,rfl,by have:=gA x;omega,by have:=gA x;omega,by first | (rw [List.map_replicate];done) | (rw [List.map_replicate];rfl),⟨0,List.replicate x.length ([]:List Int),rfl,rfl,Nat.zero_le _,by simp⟩,fun k out ⟨hk,ho⟩=>?_⟩
 have hl:out.length=x.length:=by rw [ho];exact pI hk
 refine ⟨List.length_map _,fun c0=>?_,fun c0=>?_⟩
 ·replace c0:=yq c0
  refine ⟨by omega,rfl,by omega,fun e18 h18=>?_⟩
  refine ⟨aC2 e18 (by first | omega | (have:=qT ‹x[k]? =some _›;omega)),by omega,List.length_map _,by omega,rfl,by omega,fun s5_8 hs5_8=>?_⟩
  refine ⟨Nat.le_of_ble_eq_true rfl,rfl,rfl,⟨by omega,by omega⟩,?_⟩
  exact ⟨k+1,out.set k e18,rfl,rfl,⟨by omega,by rw [ho];exact mK ‹x[k]? =some _›⟩,by omega⟩
 ·replace c0:=nq c0
  refine ⟨?_,trivial⟩
  ·rw [ho,mL hk (by omega)]
abbrev aBO (x:aR):AV × List (Nat × Rs):=(.agg [.p none (.str x.name),vI x.arity,.own 0],[(0,.arr 32 1 true (x.rows.map aF))])
abbrev aGT (x:aR):Prop:=cU Tryz.prog 218 [.agg [.str x.name,.int .i64 x.arity,.sl 32 1 (x.rows.map aF)]] (aBO x).1 (aBO x).2
theorem aQ1 (x:aR) (hc:eQ x≤1048576):aGT x:=by
 refine aV bF aS Tryz.func218 (by kernel_rfl) (bP (vT x.rows)<| .fin [(0,1200)]) (p:=(x.rows.map aF).length≤9223372036854775807→aBN x.rows∧x.name=x.name∧x.arity=x.arity∧x.rows.map aF=x.rows.map aF∧True) (by kernel_rfl) ?_
 intro n0
 simp only [List.length_map] at n0
 unfold eQ at hc
 refine ⟨aKg x.rows (by first | omega | (have:=cIntSSS_el ‹x[k]? =some _›;omega)),?_⟩
 exact ⟨rfl,rfl,rfl,trivial⟩
abbrev zJ (x:List aR):AV × List (Nat × Rs):=(.own 0,[(0,.arr 162 3 true (x.map aL))])
abbrev aDw (x:List aR):Prop:=cU Tryz.prog 140 [.one (.sl 162 3 (x.map aL))] (zJ x).1 (zJ x).2
theorem aOL (x:List aR) (hc:hJ x≤1048576):aDw x:=by
 refine aV bF aS Tryz.func140 (by kernel_rfl) (.len x.length<| .mk x.length [.str gB.name,.int .i64 gB.arity,.sl 32 1 (gB.rows.map aF)] ((List.replicate x.length gB).map aL)<| .loop (Nat × (List aR)) (Q2 Nat (List aR)) [3,4,8,9,10,11,12,13,14,15,16,17,18,19,20,21] [700,2000] (fun yy0=>[(3,.own 700),(4,vI (yy0.1:Int))]) (fun yy0=>[(700,some (.arr 162 3 true (yy0.2.map aL)))]) (fun yy0=>yy0.1≤x.length∧yy0.2=x.take yy0.1++List.replicate (x.length - yy0.1) gB) (fun yy0=>x.length - yy0.1) (fun yy0=> .len x.length<| .br (.elem _ aL x (fun e18=>bP (aBO e18)<| .len yy0.2.length<| .setm aR aL yy0.2 (fun s5_8=>e18) (fun s5_8=> .back [(700,700)]))) (.fin [(0,700)]))) (p:=(x.map aL).length≤9223372036854775807→Lm aL x∧(((x.length:Nat):Int)=((x.length:Nat):Int)∧((x.length:Nat):Int)=((x.length:Nat):Int)∧48*x.length≤281474976710656∧x.length≤9223372036854775807∧List.replicate x.length [.str gB.name,.int .i64 gB.arity,.sl 32 1 (gB.rows.map aF)]=(List.replicate x.length gB).map aL∧((∃(k:Nat) (out:List aR),(0:Int)=(k:Int)∧(List.replicate x.length gB).map aL=out.map aL∧k≤x.length∧out=x.take k++List.replicate (x.length - k) gB)∧ ∀(k:Nat) (out:List aR),(k≤x.length∧out=x.take k++List.replicate (x.length - k) gB)→Lm aL x∧(((decide ((k:Int)<((x.length:Nat):Int)))=true→0≤(k:Int)∧Em aL x k fun e18=>aGT e18∧(0≤(k:Int)∧Lm aL out∧(k:Int)<((out.length:Nat):Int)∧(out.map aL=out.map aL∧k<out.length∧ ∀s5_8,out[k]? =some s5_8→0+3≤(aL s5_8).length∧(aL s5_8).take 0++((aL e18).drop 0).take 3++(aL s5_8).drop (0+3)=aL e18∧e18.name=e18.name∧e18.arity=e18.arity∧e18.rows.map aF=e18.rows.map aF∧cG ((k:Int)+(1:Int))∧ ∃(k' :Nat) (out' :List aR),((k:Int)+(1:Int))=(k' :Int)∧(out.set k e18).map aL=out'.map aL∧(k' ≤x.length∧out' =x.take k' ++List.replicate (x.length - k') gB)∧x.length - k' <x.length - k)))∧((decide ((k:Int)<((x.length:Nat):Int)))=false→out.map aL=x.map aL∧True))))) (by kernel_rfl) ?_
 intro n0
 simp only [List.length_map] at n0
 refine ⟨List.length_map _,rfl,rfl,by have:=aD5 x;omega,by have:=aD5 x;omega,by first | (rw [List.map_replicate];done) | (rw [List.map_replicate];rfl),⟨0,List.replicate x.length gB,rfl,rfl,Nat.zero_le _,by simp⟩,fun k out ⟨hk,ho⟩=>?_⟩
 have hl:out.length=x.length:=by rw [ho];exact pI hk
 refine ⟨List.length_map _,fun c0=>?_,fun c0=>?_⟩
 ·replace c0:=yq c0
  refine ⟨by omega,rfl,by omega,fun e18 h18=>?_⟩
  refine ⟨aQ1 e18 (by first | omega | (have:=aAq ‹x[k]? =some _›;omega)),by omega,List.length_map _,by omega,rfl,by omega,fun s5_8 hs5_8=>?_⟩
  refine ⟨Nat.le_of_ble_eq_true rfl,rfl,rfl,rfl,rfl,⟨by omega,by omega⟩,?_⟩
  exact ⟨k+1,out.set k e18,rfl,rfl,⟨by omega,by rw [ho];exact mK ‹x[k]? =some _›⟩,by omega⟩
 ·replace c0:=nq c0
  refine ⟨?_,trivial⟩
  ·rw [ho,mL hk (by omega)]
abbrev tG (x:aT):AV × List (Nat × Rs):=(.agg [.own 0],[(0,.arr 162 3 true (x.tables.map aL))])
abbrev aA7 (x:aT):Prop:=cU Tryz.prog 68 [.agg [.sl 162 3 (x.tables.map aL)]] (tG x).1 (tG x).2
theorem aKh (x:aT) (hc:bD x≤1048576):aA7 x:=by
 refine aV bF aS Tryz.func68 (by kernel_rfl) (bP (zJ x.tables)<| .fin [(0,600)]) (p:=(x.tables.map aL).length≤9223372036854775807→aDw x.tables∧x.tables.map aL=x.tables.map aL∧True) (by kernel_rfl) ?_
 intro n0
 simp only [List.length_map] at n0
 unfold bD at hc
 refine ⟨aOL x.tables (by first | omega | (have:=cTableSS_el ‹x[k]? =some _›;omega)),?_⟩
 exact ⟨rfl,trivial⟩
abbrev pU (x:aH):AV × List (Nat × Rs):=(.agg [.own 0,.own 1,.own 2],[(0,.arr 3 1 true (x.columns.map intD)),(1,.arr 32 1 true (x.values.map aF)),(2,.arr 3 1 true (x.counts.map intD))])
abbrev wO (x:aH):Prop:=cU Tryz.prog 282 [.agg [.sl 3 1 (x.columns.map intD),.sl 32 1 (x.values.map aF),.sl 3 1 (x.counts.map intD)]] (pU x).1 (pU x).2
theorem aHE (x:aH) (hc:bH x≤1048576):wO x:=by
 refine aV bF aS Tryz.func282 (by kernel_rfl) (bP (oG x.columns)<| bP (vT x.values)<| bP (oG x.counts)<| .fin [(0,600),(1,1000),(2,1400)]) (p:=(x.columns.map intD).length≤9223372036854775807→(x.values.map aF).length≤9223372036854775807→(x.counts.map intD).length≤9223372036854775807→qW x.columns∧aBN x.values∧qW x.counts∧x.columns.map intD=x.columns.map intD∧x.values.map aF=x.values.map aF∧x.counts.map intD=x.counts.map intD∧True) (by kernel_rfl) ?_
 intro n0 n1 n2
 simp only [List.length_map] at n0 n1 n2
 unfold bH at hc
 refine ⟨aC2 x.columns (by first | omega | (have:=qT ‹x[k]? =some _›;omega)),aKg x.values (by first | omega | (have:=cIntSSS_el ‹x[k]? =some _›;omega)),aC2 x.counts (by first | omega | (have:=qT ‹x[k]? =some _›;omega)),?_⟩
 exact ⟨rfl,rfl,rfl,trivial⟩
abbrev oH (x:List aH):AV × List (Nat × Rs):=(.own 0,[(0,.arr 218 3 true (x.map aB))])
abbrev tZ (x:List aH):Prop:=cU Tryz.prog 261 [.one (.sl 218 3 (x.map aB))] (oH x).1 (oH x).2
theorem aGU (x:List aH) (hc:cR x≤1048576):tZ x:=by
 refine aV bF aS Tryz.func261 (by kernel_rfl) (.len x.length<| .mk x.length [.sl 3 1 (eH.columns.map intD),.sl 32 1 (eH.values.map aF),.sl 3 1 (eH.counts.map intD)] ((List.replicate x.length eH).map aB)<| .loop (Nat × (List aH)) (Q2 Nat (List aH)) [3,4,8,9,10,11,12,13,14,15,16,17,18,19,20,21] [700,2000,2001,2002] (fun yy0=>[(3,.own 700),(4,vI (yy0.1:Int))]) (fun yy0=>[(700,some (.arr 218 3 true (yy0.2.map aB)))]) (fun yy0=>yy0.1≤x.length∧yy0.2=x.take yy0.1++List.replicate (x.length - yy0.1) eH) (fun yy0=>x.length - yy0.1) (fun yy0=> .len x.length<| .br (.elem _ aB x (fun e18=>bP (pU e18)<| .len yy0.2.length<| .setm aH aB yy0.2 (fun s5_8=>e18) (fun s5_8=> .back [(700,700)]))) (.fin [(0,700)]))) (p:=(x.map aB).length≤9223372036854775807→Lm aB x∧(((x.length:Nat):Int)=((x.length:Nat):Int)∧((x.length:Nat):Int)=((x.length:Nat):Int)∧72*x.length≤281474976710656∧x.length≤9223372036854775807∧List.replicate x.length [.sl 3 1 (eH.columns.map intD),.sl 32 1 (eH.values.map aF),.sl 3 1 (eH.counts.map intD)]=(List.replicate x.length eH).map aB∧((∃(k:Nat) (out:List aH),(0:Int)=(k:Int)∧(List.replicate x.length eH).map aB=out.map aB∧k≤x.length∧out=x.take k++List.replicate (x.length - k) eH)∧ ∀(k:Nat) (out:List aH),(k≤x.length∧out=x.take k++List.replicate (x.length - k) eH)→Lm aB x∧(((decide ((k:Int)<((x.length:Nat):Int)))=true→0≤(k:Int)∧Em aB x k fun e18=>wO e18∧(0≤(k:Int)∧Lm aB out∧(k:Int)<((out.length:Nat):Int)∧(out.map aB=out.map aB∧k<out.length∧ ∀s5_8,out[k]? =some s5_8→0+3≤(aB s5_8).length∧(aB s5_8).take 0++((aB e18).drop 0).take 3++(aB s5_8).drop (0+3)=aB e18∧e18.columns.map intD=e18.columns.map intD∧e18.values.map aF=e18.values.map aF∧e18.counts.map intD=e18.counts.map intD∧cG ((k:Int)+(1:Int))∧ ∃(k' :Nat) (out' :List aH),((k:Int)+(1:Int))=(k' :Int)∧(out.set k e18).map aB=out'.map aB∧(k' ≤x.length∧out' =x.take k' ++List.replicate (x.length - k') eH)∧x.length - k' <x.length - k)))∧((decide ((k:Int)<((x.length:Nat):Int)))=false→out.map aB=x.map aB∧True))))) (by kernel_rfl) ?_
 intro n0
 simp only [List.length_map] at n0
 refine ⟨List.length_map _,rfl,rfl,by have:=iF x;omega,by have:=iF x;omega,by first | (rw [List.map_replicate];done) | (rw [List.map_replicate];rfl),⟨0,List.replicate x.length eH,rfl,rfl,Nat.zero_le _,by simp⟩,fun k out ⟨hk,ho⟩=>?_⟩
 have hl:out.length=x.length:=by rw [ho];exact pI hk
 refine ⟨List.length_map _,fun c0=>?_,fun c0=>?_⟩
 ·replace c0:=yq c0
  refine ⟨by omega,rfl,by omega,fun e18 h18=>?_⟩
  refine ⟨aHE e18 (by first | omega | (have:=iR ‹x[k]? =some _›;omega)),by omega,List.length_map _,by omega,rfl,by omega,fun s5_8 hs5_8=>?_⟩
  refine ⟨Nat.le_of_ble_eq_true rfl,rfl,rfl,rfl,rfl,⟨by omega,by omega⟩,?_⟩
  exact ⟨k+1,out.set k e18,rfl,rfl,⟨by omega,by rw [ho];exact mK ‹x[k]? =some _›⟩,by omega⟩
 ·replace c0:=nq c0
  refine ⟨?_,trivial⟩
  ·rw [ho,mL hk (by omega)]
abbrev pV (x:aC):AV × List (Nat × Rs):=(.agg [.p none (.str x.name),vI x.arity,vI x.rowCount,.own 0],[(0,.arr 218 3 true (x.groups.map aB))])
abbrev wP (x:aC):Prop:=cU Tryz.prog 219 [.agg [.str x.name,.int .i64 x.arity,.int .i64 x.rowCount,.sl 218 3 (x.groups.map aB)]] (pV x).1 (pV x).2
theorem aHF (x:aC) (hc:bA x≤1048576):wP x:=by
 refine aV bF aS Tryz.func219 (by kernel_rfl) (bP (oH x.groups)<| .fin [(0,1500)]) (p:=(x.groups.map aB).length≤9223372036854775807→tZ x.groups∧x.name=x.name∧x.arity=x.arity∧x.rowCount=x.rowCount∧x.groups.map aB=x.groups.map aB∧True) (by kernel_rfl) ?_
 intro n0
 simp only [List.length_map] at n0
 unfold bA at hc
 refine ⟨aGU x.groups (by first | omega | (have:=cGroupStatsSS_el ‹x[k]? =some _›;omega)),?_⟩
 exact ⟨rfl,rfl,rfl,rfl,trivial⟩
abbrev oI (x:List aC):AV × List (Nat × Rs):=(.own 0,[(0,.arr 121 4 true (x.map aA))])
abbrev uA (x:List aC):Prop:=cU Tryz.prog 141 [.one (.sl 121 4 (x.map aA))] (oI x).1 (oI x).2
theorem aGV (x:List aC) (hc:dE x≤1048576):uA x:=by
 refine aV bF aS Tryz.func141 (by kernel_rfl) (.len x.length<| .mk x.length [.str dP.name,.int .i64 dP.arity,.int .i64 dP.rowCount,.sl 218 3 (dP.groups.map aB)] ((List.replicate x.length dP).map aA)<| .loop (Nat × (List aC)) (Q2 Nat (List aC)) [3,4,8,9,10,11,12,13,14,15,16,17,18,19,20,21] [700,2000] (fun yy0=>[(3,.own 700),(4,vI (yy0.1:Int))]) (fun yy0=>[(700,some (.arr 121 4 true (yy0.2.map aA)))]) (fun yy0=>yy0.1≤x.length∧yy0.2=x.take yy0.1++List.replicate (x.length - yy0.1) dP) (fun yy0=>x.length - yy0.1) (fun yy0=> .len x.length<| .br (.elem _ aA x (fun e18=>bP (pV e18)<| .len yy0.2.length<| .setm aC aA yy0.2 (fun s5_8=>e18) (fun s5_8=> .back [(700,700)]))) (.fin [(0,700)]))) (p:=(x.map aA).length≤9223372036854775807→Lm aA x∧(((x.length:Nat):Int)=((x.length:Nat):Int)∧((x.length:Nat):Int)=((x.length:Nat):Int)∧56*x.length≤281474976710656∧x.length≤9223372036854775807∧List.replicate x.length [.str dP.name,.int .i64 dP.arity,.int .i64 dP.rowCount,.sl 218 3 (dP.groups.map aB)]=(List.replicate x.length dP).map aA∧((∃(k:Nat) (out:List aC),(0:Int)=(k:Int)∧(List.replicate x.length dP).map aA=out.map aA∧k≤x.length∧out=x.take k++List.replicate (x.length - k) dP)∧ ∀(k:Nat) (out:List aC),(k≤x.length∧out=x.take k++List.replicate (x.length - k) dP)→Lm aA x∧(((decide ((k:Int)<((x.length:Nat):Int)))=true→0≤(k:Int)∧Em aA x k fun e18=>wP e18∧(0≤(k:Int)∧Lm aA out∧(k:Int)<((out.length:Nat):Int)∧(out.map aA=out.map aA∧k<out.length∧ ∀s5_8,out[k]? =some s5_8→0+4≤(aA s5_8).length∧(aA s5_8).take 0++((aA e18).drop 0).take 4++(aA s5_8).drop (0+4)=aA e18∧e18.name=e18.name∧e18.arity=e18.arity∧e18.rowCount=e18.rowCount∧e18.groups.map aB=e18.groups.map aB∧cG ((k:Int)+(1:Int))∧ ∃(k' :Nat) (out' :List aC),((k:Int)+(1:Int))=(k' :Int)∧(out.set k e18).map aA=out'.map aA∧(k' ≤x.length∧out' =x.take k' ++List.replicate (x.length - k') dP)∧x.length - k' <x.length - k)))∧((decide ((k:Int)<((x.length:Nat):Int)))=false→out.map aA=x.map aA∧True))))) (by kernel_rfl) ?_
 intro n0
 simp only [List.length_map] at n0
 refine ⟨List.length_map _,rfl,rfl,by have:=tR x;omega,by have:=tR x;omega,by first | (rw [List.map_replicate];done) | (rw [List.map_replicate];rfl),⟨0,List.replicate x.length dP,rfl,rfl,Nat.zero_le _,by simp⟩,fun k out ⟨hk,ho⟩=>?_⟩
 have hl:out.length=x.length:=by rw [ho];exact pI hk
 refine ⟨List.length_map _,fun c0=>?_,fun c0=>?_⟩
 ·replace c0:=yq c0
  refine ⟨by omega,rfl,by omega,fun e18 h18=>?_⟩
  refine ⟨aHF e18 (by first | omega | (have:=mB ‹x[k]? =some _›;omega)),by omega,List.length_map _,by omega,rfl,by omega,fun s5_8 hs5_8=>?_⟩
  refine ⟨Nat.le_of_ble_eq_true rfl,rfl,rfl,rfl,rfl,rfl,⟨by omega,by omega⟩,?_⟩
  exact ⟨k+1,out.set k e18,rfl,rfl,⟨by omega,by rw [ho];exact mK ‹x[k]? =some _›⟩,by omega⟩
 ·replace c0:=nq c0
  refine ⟨?_,trivial⟩
  ·rw [ho,mL hk (by omega)]
abbrev rY (x:bS):AV × List (Nat × Rs):=(.agg [vI x.version,.own 0],[(0,.arr 121 4 true (x.tables.map aA))])
abbrev zK (x:bS):Prop:=cU Tryz.prog 69 [.agg [.int .i64 x.version,.sl 121 4 (x.tables.map aA)]] (rY x).1 (rY x).2
theorem aJH (x:bS) (hc:bL x≤1048576):zK x:=by
 refine aV bF aS Tryz.func69 (by kernel_rfl) (bP (oI x.tables)<| .fin [(0,900)]) (p:=(x.tables.map aA).length≤9223372036854775807→uA x.tables∧x.version=x.version∧x.tables.map aA=x.tables.map aA∧True) (by kernel_rfl) ?_
 intro n0
 simp only [List.length_map] at n0
 unfold bL at hc
 refine ⟨aGV x.tables (by first | omega | (have:=cTableStatsSS_el ‹x[k]? =some _›;omega)),?_⟩
 exact ⟨rfl,rfl,trivial⟩
abbrev pW (x:aM):AV × List (Nat × Rs):=(.agg [.p none (.str x.name),.own 0,vI x.dst],[(0,.arr 3 1 true (x.src.map intD))])
abbrev wQ (x:aM):Prop:=cU Tryz.prog 142 [.agg [.str x.name,.sl 3 1 (x.src.map intD),.int .i64 x.dst]] (pW x).1 (pW x).2
theorem aHG (x:aM) (hc:bV x≤1048576):wQ x:=by
 refine aV bF aS Tryz.func142 (by kernel_rfl) (bP (oG x.src)<| .fin [(0,900)]) (p:=(x.src.map intD).length≤9223372036854775807→qW x.src∧x.name=x.name∧x.dst=x.dst∧x.src.map intD=x.src.map intD∧True) (by kernel_rfl) ?_
 intro n0
 simp only [List.length_map] at n0
 unfold bV at hc
 refine ⟨aC2 x.src (by first | omega | (have:=qT ‹x[k]? =some _›;omega)),?_⟩
 exact ⟨rfl,rfl,rfl,trivial⟩
abbrev oJ (x:List aM):AV × List (Nat × Rs):=(.own 0,[(0,.arr 168 3 true (x.map aD))])
abbrev uB (x:List aM):Prop:=cU Tryz.prog 70 [.one (.sl 168 3 (x.map aD))] (oJ x).1 (oJ x).2
theorem aGW (x:List aM) (hc:bU x≤1048576):uB x:=by
 refine aV bF aS Tryz.func70 (by kernel_rfl) (.len x.length<| .mk x.length [.str eZ.name,.sl 3 1 (eZ.src.map intD),.int .i64 eZ.dst] ((List.replicate x.length eZ).map aD)<| .loop (Nat × (List aM)) (Q2 Nat (List aM)) [3,4,8,9,10,11,12,13,14,15,16,17,18,19,20,21] [700,2000] (fun yy0=>[(3,.own 700),(4,vI (yy0.1:Int))]) (fun yy0=>[(700,some (.arr 168 3 true (yy0.2.map aD)))]) (fun yy0=>yy0.1≤x.length∧yy0.2=x.take yy0.1++List.replicate (x.length - yy0.1) eZ) (fun yy0=>x.length - yy0.1) (fun yy0=> .len x.length<| .br (.elem _ aD x (fun e18=>bP (pW e18)<| .len yy0.2.length<| .setm aM aD yy0.2 (fun s5_8=>e18) (fun s5_8=> .back [(700,700)]))) (.fin [(0,700)]))) (p:=(x.map aD).length≤9223372036854775807→Lm aD x∧(((x.length:Nat):Int)=((x.length:Nat):Int)∧((x.length:Nat):Int)=((x.length:Nat):Int)∧48*x.length≤281474976710656∧x.length≤9223372036854775807∧List.replicate x.length [.str eZ.name,.sl 3 1 (eZ.src.map intD),.int .i64 eZ.dst]=(List.replicate x.length eZ).map aD∧((∃(k:Nat) (out:List aM),(0:Int)=(k:Int)∧(List.replicate x.length eZ).map aD=out.map aD∧k≤x.length∧out=x.take k++List.replicate (x.length - k) eZ)∧ ∀(k:Nat) (out:List aM),(k≤x.length∧out=x.take k++List.replicate (x.length - k) eZ)→Lm aD x∧(((decide ((k:Int)<((x.length:Nat):Int)))=true→0≤(k:Int)∧Em aD x k fun e18=>wQ e18∧(0≤(k:Int)∧Lm aD out∧(k:Int)<((out.length:Nat):Int)∧(out.map aD=out.map aD∧k<out.length∧ ∀s5_8,out[k]? =some s5_8→0+3≤(aD s5_8).length∧(aD s5_8).take 0++((aD e18).drop 0).take 3++(aD s5_8).drop (0+3)=aD e18∧e18.name=e18.name∧e18.src.map intD=e18.src.map intD∧e18.dst=e18.dst∧cG ((k:Int)+(1:Int))∧ ∃(k' :Nat) (out' :List aM),((k:Int)+(1:Int))=(k' :Int)∧(out.set k e18).map aD=out'.map aD∧(k' ≤x.length∧out' =x.take k' ++List.replicate (x.length - k') eZ)∧x.length - k' <x.length - k)))∧((decide ((k:Int)<((x.length:Nat):Int)))=false→out.map aD=x.map aD∧True))))) (by kernel_rfl) ?_
 intro n0
 simp only [List.length_map] at n0
 refine ⟨List.length_map _,rfl,rfl,by have:=tS x;omega,by have:=tS x;omega,by first | (rw [List.map_replicate];done) | (rw [List.map_replicate];rfl),⟨0,List.replicate x.length eZ,rfl,rfl,Nat.zero_le _,by simp⟩,fun k out ⟨hk,ho⟩=>?_⟩
 have hl:out.length=x.length:=by rw [ho];exact pI hk
 refine ⟨List.length_map _,fun c0=>?_,fun c0=>?_⟩
 ·replace c0:=yq c0
  refine ⟨by omega,rfl,by omega,fun e18 h18=>?_⟩
  refine ⟨aHG e18 (by first | omega | (have:=aEG ‹x[k]? =some _›;omega)),by omega,List.length_map _,by omega,rfl,by omega,fun s5_8 hs5_8=>?_⟩
  refine ⟨Nat.le_of_ble_eq_true rfl,rfl,rfl,rfl,rfl,⟨by omega,by omega⟩,?_⟩
  exact ⟨k+1,out.set k e18,rfl,rfl,⟨by omega,by rw [ho];exact mK ‹x[k]? =some _›⟩,by omega⟩
 ·replace c0:=nq c0
  refine ⟨?_,trivial⟩
  ·rw [ho,mL hk (by omega)]
abbrev rZ (x:aG):AV × List (Nat × Rs):=(.agg [.p none (.str x.name),vI x.column,.p none (.str x.into),vI x.intoColumn],[])
abbrev zL (x:aG):Prop:=cU Tryz.prog 143 [.agg [.str x.name,.int .i64 x.column,.str x.into,.int .i64 x.intoColumn]] (rZ x).1 (rZ x).2
theorem aJI (x:aG) (hc:cF x≤1048576):zL x:=by
 refine aV bF aS Tryz.func143 (by kernel_rfl) (.fin []) (p:=x.name=x.name∧x.column=x.column∧x.into=x.into∧x.intoColumn=x.intoColumn∧True) (by kernel_rfl) ?_
 unfold cF at hc
 exact ⟨rfl,rfl,rfl,rfl,trivial⟩
abbrev pX (x:List aG):AV × List (Nat × Rs):=(.own 0,[(0,.arr 170 4 true (x.map aE))])
abbrev wR (x:List aG):Prop:=cU Tryz.prog 71 [.one (.sl 170 4 (x.map aE))] (pX x).1 (pX x).2
theorem aHH (x:List aG) (hc:cT x≤1048576):wR x:=by
 refine aV bF aS Tryz.func71 (by kernel_rfl) (.len x.length<| .mk x.length [.str eY.name,.int .i64 eY.column,.str eY.into,.int .i64 eY.intoColumn] ((List.replicate x.length eY).map aE)<| .loop (Nat × (List aG)) (Q2 Nat (List aG)) [3,4,8,9,10,11,12,13,14,15,16,17,18,19,20,21] [700] (fun yy0=>[(3,.own 700),(4,vI (yy0.1:Int))]) (fun yy0=>[(700,some (.arr 170 4 true (yy0.2.map aE)))]) (fun yy0=>yy0.1≤x.length∧yy0.2=x.take yy0.1++List.replicate (x.length - yy0.1) eY) (fun yy0=>x.length - yy0.1) (fun yy0=> .len x.length<| .br (.elem _ aE x (fun e18=>bP (rZ e18)<| .len yy0.2.length<| .set aG aE yy0.2 (fun s5_8=>e18) (fun s5_8=> .back [(700,700)]))) (.fin [(0,700)]))) (p:=(x.map aE).length≤9223372036854775807→Lm aE x∧(((x.length:Nat):Int)=((x.length:Nat):Int)∧((x.length:Nat):Int)=((x.length:Nat):Int)∧48*x.length≤281474976710656∧x.length≤9223372036854775807∧List.replicate x.length [.str eY.name,.int .i64 eY.column,.str eY.into,.int .i64 eY.intoColumn]=(List.replicate x.length eY).map aE∧((∃(k:Nat) (out:List aG),(0:Int)=(k:Int)∧(List.replicate x.length eY).map aE=out.map aE∧k≤x.length∧out=x.take k++List.replicate (x.length - k) eY)∧ ∀(k:Nat) (out:List aG),(k≤x.length∧out=x.take k++List.replicate (x.length - k) eY)→Lm aE x∧(((decide ((k:Int)<((x.length:Nat):Int)))=true→0≤(k:Int)∧Em aE x k fun e18=>zL e18∧(0≤(k:Int)∧Lm aE out∧(k:Int)<((out.length:Nat):Int)∧(out.map aE=out.map aE∧k<out.length∧ ∀s5_8,out[k]? =some s5_8→eK (aE s5_8)=true∧0+4≤(aE s5_8).length∧(aE s5_8).take 0++[.str e18.name,.int .i64 e18.column,.str e18.into,.int .i64 e18.intoColumn]++(aE s5_8).drop (0+4)=aE e18∧cG ((k:Int)+(1:Int))∧ ∃(k' :Nat) (out' :List aG),((k:Int)+(1:Int))=(k' :Int)∧(out.set k e18).map aE=out'.map aE∧(k' ≤x.length∧out' =x.take k' ++List.replicate (x.length - k') eY)∧x.length - k' <x.length - k)))∧((decide ((k:Int)<((x.length:Nat):Int)))=false→out.map aE=x.map aE∧True))))) (by kernel_rfl) ?_
 intro n0
 simp only [List.length_map] at n0
 refine ⟨List.length_map _,rfl,rfl,by have:=gO x;omega,by have:=gO x;omega,by first | (rw [List.map_replicate];done) | (rw [List.map_replicate];rfl),⟨0,List.replicate x.length eY,rfl,rfl,Nat.zero_le _,by simp⟩,fun k out ⟨hk,ho⟩=>?_⟩
 have hl:out.length=x.length:=by rw [ho];exact pI hk
 refine ⟨List.length_map _,fun c0=>?_,fun c0=>?_⟩
 ·replace c0:=yq c0
  refine ⟨by omega,rfl,by omega,fun e18 h18=>?_⟩
  refine ⟨aJI e18 (by first | omega | (have:=aFU ‹x[k]? =some _›;omega)),by omega,List.length_map _,by omega,rfl,by omega,fun s5_8 hs5_8=>⟨rfl,Nat.le_of_ble_eq_true rfl,rfl,?_⟩⟩
  refine ⟨⟨by omega,by omega⟩,?_⟩
  exact ⟨k+1,out.set k e18,rfl,rfl,⟨by omega,by rw [ho];exact mK ‹x[k]? =some _›⟩,by omega⟩
 ·replace c0:=nq c0
  refine ⟨?_,trivial⟩
  ·rw [ho,mL hk (by omega)]
abbrev gD (x:StoreD):AV × List (Nat × Rs):=(.agg [.own 0,vI x.catalogue.version,.own 1,.own 2,.own 3],[(0,.arr 162 3 true (x.database.tables.map aL)),(1,.arr 121 4 true (x.catalogue.tables.map aA)),(2,.arr 168 3 true (x.dependencies.map aD)),(3,.arr 170 4 true (x.inclusions.map aE))])
abbrev gQ (x:StoreD):Prop:=cU Tryz.prog 16 [.agg [.sl 162 3 (x.database.tables.map aL),.int .i64 x.catalogue.version,.sl 121 4 (x.catalogue.tables.map aA),.sl 168 3 (x.dependencies.map aD),.sl 170 4 (x.inclusions.map aE)]] (gD x).1 (gD x).2
theorem lI (x:StoreD) (hc:cJ x≤1048576):gQ x:=by
 refine aV bF aS Tryz.func16 (by kernel_rfl) (bP (tG x.database)<| bP (rY x.catalogue)<| bP (oJ x.dependencies)<| bP (pX x.inclusions)<| .fin [(0,600),(1,1000),(2,1400),(3,1800)]) (p:=(x.database.tables.map aL).length≤9223372036854775807→(x.catalogue.tables.map aA).length≤9223372036854775807→(x.dependencies.map aD).length≤9223372036854775807→(x.inclusions.map aE).length≤9223372036854775807→aA7 x.database∧zK x.catalogue∧uB x.dependencies∧wR x.inclusions∧x.catalogue.version=x.catalogue.version∧x.database.tables.map aL=x.database.tables.map aL∧x.catalogue.tables.map aA=x.catalogue.tables.map aA∧x.dependencies.map aD=x.dependencies.map aD∧x.inclusions.map aE=x.inclusions.map aE∧True) (by kernel_rfl) ?_
 intro n0 n1 n2 n3
 simp only [List.length_map] at n0 n1 n2 n3
 unfold cJ at hc
 refine ⟨aKh x.database (by first | omega | (have:=cDatabaseS_el ‹x[k]? =some _›;omega)),aJH x.catalogue (by first | omega | (have:=cCatalogueS_el ‹x[k]? =some _›;omega)),aGW x.dependencies (by first | omega | (have:=cDependencySS_el ‹x[k]? =some _›;omega)),aHH x.inclusions (by first | omega | (have:=cInclusionSS_el ‹x[k]? =some _›;omega)),?_⟩
 exact ⟨rfl,rfl,rfl,rfl,rfl,trivial⟩
abbrev aDT (x:bK):AV × List (Nat × Rs):=(.agg [.p none (.str x.name),.own 0],[(0,.arr 3 1 true (x.vars.map intD))])
abbrev aIQ (x:bK):Prop:=cU Tryz.prog 167 [.agg [.str x.name,.sl 3 1 (x.vars.map intD)]] (aDT x).1 (aDT x).2
theorem aRr (x:bK) (hc:iJ x≤1048576):aIQ x:=by
 refine aV bF aS Tryz.func167 (by kernel_rfl) (bP (oG x.vars)<| .fin [(0,900)]) (p:=(x.vars.map intD).length≤9223372036854775807→qW x.vars∧x.name=x.name∧x.vars.map intD=x.vars.map intD∧True) (by kernel_rfl) ?_
 intro n0
 simp only [List.length_map] at n0
 unfold iJ at hc
 refine ⟨aC2 x.vars (by first | omega | (have:=qT ‹x[k]? =some _›;omega)),?_⟩
 exact ⟨rfl,rfl,trivial⟩
abbrev aBP (x:List bK):AV × List (Nat × Rs):=(.own 0,[(0,.arr 131 2 true (x.map aU))])
abbrev aGX (x:List bK):Prop:=cU Tryz.prog 93 [.one (.sl 131 2 (x.map aU))] (aBP x).1 (aBP x).2
theorem aQ2 (x:List bK) (hc:lG x≤1048576):aGX x:=by
 refine aV bF aS Tryz.func93 (by kernel_rfl) (.len x.length<| .mk x.length [.str dL.name,.sl 3 1 (dL.vars.map intD)] ((List.replicate x.length dL).map aU)<| .loop (Nat × (List bK)) (Q2 Nat (List bK)) [3,4,8,9,10,11,12,13,14,15,16,17,18,19,20,21] [700,2000] (fun yy0=>[(3,.own 700),(4,vI (yy0.1:Int))]) (fun yy0=>[(700,some (.arr 131 2 true (yy0.2.map aU)))]) (fun yy0=>yy0.1≤x.length∧yy0.2=x.take yy0.1++List.replicate (x.length - yy0.1) dL) (fun yy0=>x.length - yy0.1) (fun yy0=> .len x.length<| .br (.elem _ aU x (fun e18=>bP (aDT e18)<| .len yy0.2.length<| .setm bK aU yy0.2 (fun s5_8=>e18) (fun s5_8=> .back [(700,700)]))) (.fin [(0,700)]))) (p:=(x.map aU).length≤9223372036854775807→Lm aU x∧(((x.length:Nat):Int)=((x.length:Nat):Int)∧((x.length:Nat):Int)=((x.length:Nat):Int)∧40*x.length≤281474976710656∧x.length≤9223372036854775807∧List.replicate x.length [.str dL.name,.sl 3 1 (dL.vars.map intD)]=(List.replicate x.length dL).map aU∧((∃(k:Nat) (out:List bK),(0:Int)=(k:Int)∧(List.replicate x.length dL).map aU=out.map aU∧k≤x.length∧out=x.take k++List.replicate (x.length - k) dL)∧ ∀(k:Nat) (out:List bK),(k≤x.length∧out=x.take k++List.replicate (x.length - k) dL)→Lm aU x∧(((decide ((k:Int)<((x.length:Nat):Int)))=true→0≤(k:Int)∧Em aU x k fun e18=>aIQ e18∧(0≤(k:Int)∧Lm aU out∧(k:Int)<((out.length:Nat):Int)∧(out.map aU=out.map aU∧k<out.length∧ ∀s5_8,out[k]? =some s5_8→0+2≤(aU s5_8).length∧(aU s5_8).take 0++((aU e18).drop 0).take 2++(aU s5_8).drop (0+2)=aU e18∧e18.name=e18.name∧e18.vars.map intD=e18.vars.map intD∧cG ((k:Int)+(1:Int))∧ ∃(k' :Nat) (out' :List bK),((k:Int)+(1:Int))=(k' :Int)∧(out.set k e18).map aU=out'.map aU∧(k' ≤x.length∧out' =x.take k' ++List.replicate (x.length - k') dL)∧x.length - k' <x.length - k)))∧((decide ((k:Int)<((x.length:Nat):Int)))=false→out.map aU=x.map aU∧True))))) (by kernel_rfl) ?_
 intro n0
 simp only [List.length_map] at n0
 refine ⟨List.length_map _,rfl,rfl,by have:=aFR x;omega,by have:=aFR x;omega,by first | (rw [List.map_replicate];done) | (rw [List.map_replicate];rfl),⟨0,List.replicate x.length dL,rfl,rfl,Nat.zero_le _,by simp⟩,fun k out ⟨hk,ho⟩=>?_⟩
 have hl:out.length=x.length:=by rw [ho];exact pI hk
 refine ⟨List.length_map _,fun c0=>?_,fun c0=>?_⟩
 ·replace c0:=yq c0
  refine ⟨by omega,rfl,by omega,fun e18 h18=>?_⟩
  refine ⟨aRr e18 (by first | omega | (have:=aN4 ‹x[k]? =some _›;omega)),by omega,List.length_map _,by omega,rfl,by omega,fun s5_8 hs5_8=>?_⟩
  refine ⟨Nat.le_of_ble_eq_true rfl,rfl,rfl,rfl,⟨by omega,by omega⟩,?_⟩
  exact ⟨k+1,out.set k e18,rfl,rfl,⟨by omega,by rw [ho];exact mK ‹x[k]? =some _›⟩,by omega⟩
 ·replace c0:=nq c0
  refine ⟨?_,trivial⟩
  ·rw [ho,mL hk (by omega)]
abbrev gE (x:QueryD):AV × List (Nat × Rs):=(.agg [vI x.variableCount,.own 0],[(0,.arr 131 2 true (x.atoms.map aU))])
abbrev gR (x:QueryD):Prop:=cU Tryz.prog 32 [.agg [.int .i64 x.variableCount,.sl 131 2 (x.atoms.map aU)]] (gE x).1 (gE x).2
theorem lJ (x:QueryD) (hc:jL x≤1048576):gR x:=by
 refine aV bF aS Tryz.func32 (by kernel_rfl) (bP (aBP x.atoms)<| .fin [(0,900)]) (p:=(x.atoms.map aU).length≤9223372036854775807→aGX x.atoms∧x.variableCount=x.variableCount∧x.atoms.map aU=x.atoms.map aU∧True) (by kernel_rfl) ?_
 intro n0
 simp only [List.length_map] at n0
 unfold jL at hc
 refine ⟨aQ2 x.atoms (by first | omega | (have:=cAtomSS_el ‹x[k]? =some _›;omega)),?_⟩
 exact ⟨rfl,rfl,trivial⟩
end Go.Proofs.YtokkjaflmcjlhaaGreat
