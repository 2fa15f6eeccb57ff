/-
  Contracts and plain laws, joined: part 23.
-/
import Derived.Test.YtdfebigfnjfgpaaGreatQI3
namespace Go.Proofs.YtdfebigfnjfgpaaGreat
open Go.ChangeShapes Go.WideShapes Go.ChangeAt Go.RowKit
set_option linter.unusedVariables false
set_option linter.unusedSimpArgs false
set_option maxRecDepth 100000
set_option maxHeartbeats 4000000
abbrev pB (x:List Int):AV × List (Nat × Rs):=(.own 0,[(0,.arr 3 1 true (x.map intD))])
abbrev rA (x:List Int):Prop:=cT Tryz.prog 111 [.one (.sl 3 1 (x.map intD))] (pB x).1 (pB x).2
theorem aCb (x:List Int) (hc:cG x≤1048576):rA x:=by
 refine aT bE aL Tryz.func111 (by kernel_rfl) (.len x.length<| .mk x.length [.int .i64 (0:Int)] ((List.replicate x.length (0:Int)).map intD)<| .loop (Nat × (List Int)) (Q2 Nat (List Int)) [3,4,8,9,10,11,12,13,14,15,16,17,18,19,20] [700] (fun yy0=>[(3,.own 700),(4,vI (yy0.1:Int))]) (fun yy0=>[(700,some (.arr 3 1 true (yy0.2.map intD)))]) (fun yy0=>yy0.1≤x.length∧yy0.2=x.take yy0.1++List.replicate (x.length - yy0.1) (0:Int)) (fun yy0=>x.length - yy0.1) (fun yy0=> .len x.length<| .br (.elem _ intD x (fun e18=> .len yy0.2.length<| .set Int intD yy0.2 (fun s5_7=>e18) (fun s5_7=> .back [(700,700)]))) (.fin [(0,700)]))) (p:=(x.map intD).length≤9223372036854775807→Lm intD x∧(((x.length:Nat):Int)=((x.length:Nat):Int)∧((x.length:Nat):Int)=((x.length:Nat):Int)∧8*x.length≤281474976710656∧x.length≤9223372036854775807∧List.replicate x.length [.int .i64 (0:Int)]=(List.replicate x.length (0:Int)).map intD∧((∃(k:Nat) (out:List Int),(0:Int)=(k:Int)∧(List.replicate x.length (0:Int)).map intD=out.map intD∧k≤x.length∧out=x.take k++List.replicate (x.length - k) (0:Int))∧ ∀(k:Nat) (out:List Int),(k≤x.length∧out=x.take k++List.replicate (x.length - k) (0:Int))→Lm intD x∧(((decide ((k:Int)<((x.length:Nat):Int)))=true→0≤(k:Int)∧Em intD x k fun e18=>0≤(k:Int)∧Lm intD out∧(k:Int)<((out.length:Nat):Int)∧(out.map intD=out.map intD∧k<out.length∧ ∀s5_7,out[k]? =some s5_7→eL (intD s5_7)=true∧0+1≤(intD s5_7).length∧(intD s5_7).take 0++[.int .i64 e18]++(intD s5_7).drop (0+1)=intD e18∧cC ((k:Int)+(1:Int))∧ ∃(k' :Nat) (out' :List Int),((k:Int)+(1:Int))=(k' :Int)∧(out.set k e18).map intD=out'.map intD∧(k' ≤x.length∧out' =x.take k' ++List.replicate (x.length - k') (0:Int))∧x.length - k' <x.length - k))∧((decide ((k:Int)<((x.length:Nat):Int)))=false→out.map intD=x.map intD∧True))))) (by kernel_rfl) ?_
 intro n0
 simp only [List.length_map] at n0
 refine ⟨List.length_map _,rfl,rfl,by have:=aI4 x;omega,by have:=aI4 x;omega,by first | (rw [List.map_replicate];done) | (rw [List.map_replicate];rfl),⟨0,List.replicate x.length (0:Int),rfl,rfl,Nat.zero_le _,by simp⟩,fun k out ⟨hk,ho⟩=>?_⟩
 have hl:out.length=x.length:=by rw [ho];exact nV hk
 refine ⟨List.length_map _,fun c0=>?_,fun c0=>?_⟩
 ·replace c0:=yq c0
  refine ⟨by omega,rfl,by omega,fun e18 h18=>?_⟩
  refine ⟨by omega,List.length_map _,by omega,rfl,by omega,fun s5_7 hs5_7=>⟨rfl,Nat.le_of_ble_eq_true rfl,rfl,?_⟩⟩
  refine ⟨⟨by omega,by omega⟩,?_⟩
  exact ⟨k+1,out.set k e18,rfl,rfl,⟨by omega,by rw [ho];exact mD ‹x[k]? =some _›⟩,by omega⟩
 ·replace c0:=nq c0
  refine ⟨?_,trivial⟩
  ·rw [ho,mE hk (by omega)]
abbrev vT (x:List (List Int)):AV × List (Nat × Rs):=(.own 0,[(0,.arr 39 1 true (x.map aA))])
abbrev aB7 (x:List (List Int)):Prop:=cT Tryz.prog 144 [.one (.sl 39 1 (x.map aA))] (vT x).1 (vT x).2
theorem aLa (x:List (List Int)) (hc:cX x≤1048576):aB7 x:=by
 refine aT bE aL Tryz.func144 (by kernel_rfl) (.len x.length<| .mk x.length [.sl 3 1 (([]:List Int).map intD)] ((List.replicate x.length ([]:List Int)).map aA)<| .loop (Nat × (List (List Int))) (Q2 Nat (List (List Int))) [3,4,8,9,10,11,12,13,14,15,16,17,18,19,20,21] [700,2000] (fun yy0=>[(3,.own 700),(4,vI (yy0.1:Int))]) (fun yy0=>[(700,some (.arr 39 1 true (yy0.2.map aA)))]) (fun yy0=>yy0.1≤x.length∧yy0.2=x.take yy0.1++List.replicate (x.length - yy0.1) ([]:List Int)) (fun yy0=>x.length - yy0.1) (fun yy0=> .len x.length<| .br (.elem _ aA x (fun e18=>bV (pB e18)<| .len yy0.2.length<| .setm (List Int) aA yy0.2 (fun s5_8=>e18) (fun s5_8=> .back [(700,700)]))) (.fin [(0,700)]))) (p:=(x.map aA).length≤9223372036854775807→Lm aA x∧(((x.length:Nat):Int)=((x.length:Nat):Int)∧((x.length:Nat):Int)=((x.length:Nat):Int)∧24*x.length≤281474976710656∧x.length≤9223372036854775807∧List.replicate x.length [.sl 3 1 (([]:List Int).map intD)]=(List.replicate x.length ([]:List Int)).map aA∧((∃(k:Nat) (out:List (List Int)),(0:Int)=(k:Int)∧(List.replicate x.length ([]:List Int)).map aA=out.map aA∧k≤x.length∧out=x.take k++List.replicate (x.length - k) ([]:List Int))∧ ∀(k:Nat) (out:List (List Int)),(k≤x.length∧out=x.take k++List.replicate (x.length - k) ([]:List Int))→Lm aA x∧(((decide ((k:Int)<((x.length:Nat):Int)))=true→0≤(k:Int)∧Em aA x k fun e18=>rA e18∧(0≤(k:Int)∧Lm aA out∧(k:Int)<((out.length:Nat):Int)∧(out.map aA=out.map aA∧k<out.length∧ ∀s5_8,out[k]? =some s5_8→0+1≤(aA s5_8).length∧(aA s5_8).take 0++((aA e18).drop 0).take 1++(aA s5_8).drop (0+1)=aA e18∧e18.map intD=e18.map intD∧cC ((k:Int)+(1:Int))∧ ∃(k' :Nat) (out' :List (List Int)),((k:Int)+(1:Int))=(k' :Int)∧(out.set k e18).map aA=out'.map aA∧(k' ≤x.length∧out' =x.take k' ++List.replicate (x.length - k') ([]:List Int))∧x.length - k' <x.length - k)))∧((decide ((k:Int)<((x.length:Nat):Int)))=false→out.map aA=x.map aA∧True))))) (by kernel_rfl) ?_
 intro n0
 simp only [List.length_map] at n0
 refine ⟨List.length_map _,rfl,rfl,by have:=gG x;omega,by have:=gG x;omega,by first | (rw [List.map_replicate];done) | (rw [List.map_replicate];rfl),⟨0,List.replicate x.length ([]:List Int),rfl,rfl,Nat.zero_le _,by simp⟩,fun k out ⟨hk,ho⟩=>?_⟩
 have hl:out.length=x.length:=by rw [ho];exact nV hk
 refine ⟨List.length_map _,fun c0=>?_,fun c0=>?_⟩
 ·replace c0:=yq c0
  refine ⟨by omega,rfl,by omega,fun e18 h18=>?_⟩
  refine ⟨aCb e18 (by first | omega | (have:=nC ‹x[k]? =some _›;omega)),by omega,List.length_map _,by omega,rfl,by omega,fun s5_8 hs5_8=>?_⟩
  refine ⟨Nat.le_of_ble_eq_true rfl,rfl,rfl,⟨by omega,by omega⟩,?_⟩
  exact ⟨k+1,out.set k e18,rfl,rfl,⟨by omega,by rw [ho];exact mD ‹x[k]? =some _›⟩,by omega⟩
 ·replace c0:=nq c0
  refine ⟨?_,trivial⟩
  ·rw [ho,mE hk (by omega)]
abbrev aB8 (x:aV):AV × List (Nat × Rs):=(.agg [.p none (.str x.name),vI x.arity,.own 0],[(0,.arr 39 1 true (x.rows.map aA))])
abbrev aHJ (x:aV):Prop:=cT Tryz.prog 109 [.agg [.str x.name,.int .i64 x.arity,.sl 39 1 (x.rows.map aA)]] (aB8 x).1 (aB8 x).2
theorem aRh (x:aV) (hc:gW x≤1048576):aHJ x:=by
 refine aT bE aL Tryz.func109 (by kernel_rfl) (bV (vT x.rows)<| .fin [(0,1200)]) (p:=(x.rows.map aA).length≤9223372036854775807→aB7 x.rows∧x.name=x.name∧x.arity=x.arity∧x.rows.map aA=x.rows.map aA∧True) (by kernel_rfl) ?_
 intro n0
 simp only [List.length_map] at n0
 unfold gW at hc
 refine ⟨aLa x.rows (by first | omega | (have:=cIntSSS_el ‹x[k]? =some _›;omega)),?_⟩
 exact ⟨rfl,rfl,rfl,trivial⟩
abbrev zF (x:List aV):AV × List (Nat × Rs):=(.own 0,[(0,.arr 167 3 true (x.map aR))])
abbrev aE2 (x:List aV):Prop:=cT Tryz.prog 73 [.one (.sl 167 3 (x.map aR))] (zF x).1 (zF x).2
theorem aPL (x:List aV) (hc:kX x≤1048576):aE2 x:=by
 refine aT bE aL Tryz.func73 (by kernel_rfl) (.len x.length<| .mk x.length [.str hZ.name,.int .i64 hZ.arity,.sl 39 1 (hZ.rows.map aA)] ((List.replicate x.length hZ).map aR)<| .loop (Nat × (List aV)) (Q2 Nat (List aV)) [3,4,8,9,10,11,12,13,14,15,16,17,18,19,20,21] [700,2000] (fun yy0=>[(3,.own 700),(4,vI (yy0.1:Int))]) (fun yy0=>[(700,some (.arr 167 3 true (yy0.2.map aR)))]) (fun yy0=>yy0.1≤x.length∧yy0.2=x.take yy0.1++List.replicate (x.length - yy0.1) hZ) (fun yy0=>x.length - yy0.1) (fun yy0=> .len x.length<| .br (.elem _ aR x (fun e18=>bV (aB8 e18)<| .len yy0.2.length<| .setm aV aR yy0.2 (fun s5_8=>e18) (fun s5_8=> .back [(700,700)]))) (.fin [(0,700)]))) (p:=(x.map aR).length≤9223372036854775807→Lm aR x∧(((x.length:Nat):Int)=((x.length:Nat):Int)∧((x.length:Nat):Int)=((x.length:Nat):Int)∧48*x.length≤281474976710656∧x.length≤9223372036854775807∧List.replicate x.length [.str hZ.name,.int .i64 hZ.arity,.sl 39 1 (hZ.rows.map aA)]=(List.replicate x.length hZ).map aR∧((∃(k:Nat) (out:List aV),(0:Int)=(k:Int)∧(List.replicate x.length hZ).map aR=out.map aR∧k≤x.length∧out=x.take k++List.replicate (x.length - k) hZ)∧ ∀(k:Nat) (out:List aV),(k≤x.length∧out=x.take k++List.replicate (x.length - k) hZ)→Lm aR x∧(((decide ((k:Int)<((x.length:Nat):Int)))=true→0≤(k:Int)∧Em aR x k fun e18=>aHJ e18∧(0≤(k:Int)∧Lm aR out∧(k:Int)<((out.length:Nat):Int)∧(out.map aR=out.map aR∧k<out.length∧ ∀s5_8,out[k]? =some s5_8→0+3≤(aR s5_8).length∧(aR s5_8).take 0++((aR e18).drop 0).take 3++(aR s5_8).drop (0+3)=aR e18∧e18.name=e18.name∧e18.arity=e18.arity∧e18.rows.map aA=e18.rows.map aA∧cC ((k:Int)+(1:Int))∧ ∃(k' :Nat) (out' :List aV),((k:Int)+(1:Int))=(k' :Int)∧(out.set k e18).map aR=out'.map aR∧(k' ≤x.length∧out' =x.take k' ++List.replicate (x.length - k') hZ)∧x.length - k' <x.length - k)))∧((decide ((k:Int)<((x.length:Nat):Int)))=false→out.map aR=x.map aR∧True))))) (by kernel_rfl) ?_
 intro n0
 simp only [List.length_map] at n0
 refine ⟨List.length_map _,rfl,rfl,by have:=aDc x;omega,by have:=aDc x;omega,by first | (rw [List.map_replicate];done) | (rw [List.map_replicate];rfl),⟨0,List.replicate x.length hZ,rfl,rfl,Nat.zero_le _,by simp⟩,fun k out ⟨hk,ho⟩=>?_⟩
 have hl:out.length=x.length:=by rw [ho];exact nV hk
 refine ⟨List.length_map _,fun c0=>?_,fun c0=>?_⟩
 ·replace c0:=yq c0
  refine ⟨by omega,rfl,by omega,fun e18 h18=>?_⟩
  refine ⟨aRh e18 (by first | omega | (have:=aAs ‹x[k]? =some _›;omega)),by omega,List.length_map _,by omega,rfl,by omega,fun s5_8 hs5_8=>?_⟩
  refine ⟨Nat.le_of_ble_eq_true rfl,rfl,rfl,rfl,rfl,⟨by omega,by omega⟩,?_⟩
  exact ⟨k+1,out.set k e18,rfl,rfl,⟨by omega,by rw [ho];exact mD ‹x[k]? =some _›⟩,by omega⟩
 ·replace c0:=nq c0
  refine ⟨?_,trivial⟩
  ·rw [ho,mE hk (by omega)]
abbrev tH (x:aS):AV × List (Nat × Rs):=(.agg [.own 0],[(0,.arr 167 3 true (x.tables.map aR))])
abbrev aAa (x:aS):Prop:=cT Tryz.prog 34 [.agg [.sl 167 3 (x.tables.map aR)]] (tH x).1 (tH x).2
theorem aLb (x:aS) (hc:bN x≤1048576):aAa x:=by
 refine aT bE aL Tryz.func34 (by kernel_rfl) (bV (zF x.tables)<| .fin [(0,600)]) (p:=(x.tables.map aR).length≤9223372036854775807→aE2 x.tables∧x.tables.map aR=x.tables.map aR∧True) (by kernel_rfl) ?_
 intro n0
 simp only [List.length_map] at n0
 unfold bN at hc
 refine ⟨aPL x.tables (by first | omega | (have:=cTableSS_el ‹x[k]? =some _›;omega)),?_⟩
 exact ⟨rfl,trivial⟩
abbrev aD2 (x:dS):AV × List (Nat × Rs):=(.agg [.p none (.str x.name),.own 0],[(0,.arr 3 1 true (x.vars.map intD))])
abbrev aJD (x:dS):Prop:=cT Tryz.prog 77 [.agg [.str x.name,.sl 3 1 (x.vars.map intD)]] (aD2 x).1 (aD2 x).2
theorem aSy (x:dS) (hc:kK x≤1048576):aJD x:=by
 refine aT bE aL Tryz.func77 (by kernel_rfl) (bV (pB x.vars)<| .fin [(0,900)]) (p:=(x.vars.map intD).length≤9223372036854775807→rA x.vars∧x.name=x.name∧x.vars.map intD=x.vars.map intD∧True) (by kernel_rfl) ?_
 intro n0
 simp only [List.length_map] at n0
 unfold kK at hc
 refine ⟨aCb x.vars (by first | omega | (have:=nC ‹x[k]? =some _›;omega)),?_⟩
 exact ⟨rfl,rfl,trivial⟩
abbrev aB9 (x:List dS):AV × List (Nat × Rs):=(.own 0,[(0,.arr 135 2 true (x.map bH))])
abbrev aHK (x:List dS):Prop:=cT Tryz.prog 38 [.one (.sl 135 2 (x.map bH))] (aB9 x).1 (aB9 x).2
theorem aRi (x:List dS) (hc:kY x≤1048576):aHK x:=by
 refine aT bE aL Tryz.func38 (by kernel_rfl) (.len x.length<| .mk x.length [.str jI.name,.sl 3 1 (jI.vars.map intD)] ((List.replicate x.length jI).map bH)<| .loop (Nat × (List dS)) (Q2 Nat (List dS)) [3,4,8,9,10,11,12,13,14,15,16,17,18,19,20,21] [700,2000] (fun yy0=>[(3,.own 700),(4,vI (yy0.1:Int))]) (fun yy0=>[(700,some (.arr 135 2 true (yy0.2.map bH)))]) (fun yy0=>yy0.1≤x.length∧yy0.2=x.take yy0.1++List.replicate (x.length - yy0.1) jI) (fun yy0=>x.length - yy0.1) (fun yy0=> .len x.length<| .br (.elem _ bH x (fun e18=>bV (aD2 e18)<| .len yy0.2.length<| .setm dS bH yy0.2 (fun s5_8=>e18) (fun s5_8=> .back [(700,700)]))) (.fin [(0,700)]))) (p:=(x.map bH).length≤9223372036854775807→Lm bH x∧(((x.length:Nat):Int)=((x.length:Nat):Int)∧((x.length:Nat):Int)=((x.length:Nat):Int)∧40*x.length≤281474976710656∧x.length≤9223372036854775807∧List.replicate x.length [.str jI.name,.sl 3 1 (jI.vars.map intD)]=(List.replicate x.length jI).map bH∧((∃(k:Nat) (out:List dS),(0:Int)=(k:Int)∧(List.replicate x.length jI).map bH=out.map bH∧k≤x.length∧out=x.take k++List.replicate (x.length - k) jI)∧ ∀(k:Nat) (out:List dS),(k≤x.length∧out=x.take k++List.replicate (x.length - k) jI)→Lm bH x∧(((decide ((k:Int)<((x.length:Nat):Int)))=true→0≤(k:Int)∧Em bH x k fun e18=>aJD e18∧(0≤(k:Int)∧Lm bH out∧(k:Int)<((out.length:Nat):Int)∧(out.map bH=out.map bH∧k<out.length∧ ∀s5_8,out[k]? =some s5_8→0+2≤(bH s5_8).length∧(bH s5_8).take 0++((bH e18).drop 0).take 2++(bH s5_8).drop (0+2)=bH e18∧e18.name=e18.name∧e18.vars.map intD=e18.vars.map intD∧cC ((k:Int)+(1:Int))∧ ∃(k' :Nat) (out' :List dS),((k:Int)+(1:Int))=(k' :Int)∧(out.set k e18).map bH=out'.map bH∧(k' ≤x.length∧out' =x.take k' ++List.replicate (x.length - k') jI)∧x.length - k' <x.length - k)))∧((decide ((k:Int)<((x.length:Nat):Int)))=false→out.map bH=x.map bH∧True))))) (by kernel_rfl) ?_
 intro n0
 simp only [List.length_map] at n0
 refine ⟨List.length_map _,rfl,rfl,by have:=aFk x;omega,by have:=aFk x;omega,by first | (rw [List.map_replicate];done) | (rw [List.map_replicate];rfl),⟨0,List.replicate x.length jI,rfl,rfl,Nat.zero_le _,by simp⟩,fun k out ⟨hk,ho⟩=>?_⟩
 have hl:out.length=x.length:=by rw [ho];exact nV hk
 refine ⟨List.length_map _,fun c0=>?_,fun c0=>?_⟩
 ·replace c0:=yq c0
  refine ⟨by omega,rfl,by omega,fun e18 h18=>?_⟩
  refine ⟨aSy e18 (by first | omega | (have:=aDC ‹x[k]? =some _›;omega)),by omega,List.length_map _,by omega,rfl,by omega,fun s5_8 hs5_8=>?_⟩
  refine ⟨Nat.le_of_ble_eq_true rfl,rfl,rfl,rfl,⟨by omega,by omega⟩,?_⟩
  exact ⟨k+1,out.set k e18,rfl,rfl,⟨by omega,by rw [ho];exact mD ‹x[k]? =some _›⟩,by omega⟩
 ·replace c0:=nq c0
  refine ⟨?_,trivial⟩
  ·rw [ho,mE hk (by omega)]
abbrev rZ (x:QueryD):AV × List (Nat × Rs):=(.agg [vI x.variableCount,.own 0],[(0,.arr 135 2 true (x.atoms.map bH))])
abbrev vU (x:QueryD):Prop:=cT Tryz.prog 10 [.agg [.int .i64 x.variableCount,.sl 135 2 (x.atoms.map bH)]] (rZ x).1 (rZ x).2
theorem aHL (x:QueryD) (hc:iJ x≤1048576):vU x:=by
 refine aT bE aL Tryz.func10 (by kernel_rfl) (bV (aB9 x.atoms)<| .fin [(0,900)]) (p:=(x.atoms.map bH).length≤9223372036854775807→aHK x.atoms∧x.variableCount=x.variableCount∧x.atoms.map bH=x.atoms.map bH∧True) (by kernel_rfl) ?_
 intro n0
 simp only [List.length_map] at n0
 unfold iJ at hc
 refine ⟨aRi x.atoms (by first | omega | (have:=cAtomSS_el ‹x[k]? =some _›;omega)),?_⟩
 exact ⟨rfl,rfl,trivial⟩
abbrev qG (x:aP):AV × List (Nat × Rs):=(.agg [.own 0,.own 1,.own 2],[(0,.arr 3 1 true (x.columns.map intD)),(1,.arr 39 1 true (x.values.map aA)),(2,.arr 3 1 true (x.counts.map intD))])
abbrev wH (x:aP):Prop:=cT Tryz.prog 174 [.agg [.sl 3 1 (x.columns.map intD),.sl 39 1 (x.values.map aA),.sl 3 1 (x.counts.map intD)]] (qG x).1 (qG x).2
theorem aHm (x:aP) (hc:cA x≤1048576):wH x:=by
 refine aT bE aL Tryz.func174 (by kernel_rfl) (bV (pB x.columns)<| bV (vT x.values)<| bV (pB x.counts)<| .fin [(0,600),(1,1000),(2,1400)]) (p:=(x.columns.map intD).length≤9223372036854775807→(x.values.map aA).length≤9223372036854775807→(x.counts.map intD).length≤9223372036854775807→rA x.columns∧aB7 x.values∧rA x.counts∧x.columns.map intD=x.columns.map intD∧x.values.map aA=x.values.map aA∧x.counts.map intD=x.counts.map intD∧True) (by kernel_rfl) ?_
 intro n0 n1 n2
 simp only [List.length_map] at n0 n1 n2
 unfold cA at hc
 refine ⟨aCb x.columns (by first | omega | (have:=nC ‹x[k]? =some _›;omega)),aLa x.values (by first | omega | (have:=cIntSSS_el ‹x[k]? =some _›;omega)),aCb x.counts (by first | omega | (have:=nC ‹x[k]? =some _›;omega)),?_⟩
 exact ⟨rfl,rfl,rfl,trivial⟩
abbrev pC (x:List aP):AV × List (Nat × Rs):=(.own 0,[(0,.arr 203 3 true (x.map aB))])
abbrev uD (x:List aP):Prop:=cT Tryz.prog 145 [.one (.sl 203 3 (x.map aB))] (pC x).1 (pC x).2
theorem aHM (x:List aP) (hc:dY x≤1048576):uD x:=by
 refine aT bE aL Tryz.func145 (by kernel_rfl) (.len x.length<| .mk x.length [.sl 3 1 (fC.columns.map intD),.sl 39 1 (fC.values.map aA),.sl 3 1 (fC.counts.map intD)] ((List.replicate x.length fC).map aB)<| .loop (Nat × (List aP)) (Q2 Nat (List aP)) [3,4,8,9,10,11,12,13,14,15,16,17,18,19,20,21] [700,2000,2001,2002] (fun yy0=>[(3,.own 700),(4,vI (yy0.1:Int))]) (fun yy0=>[(700,some (.arr 203 3 true (yy0.2.map aB)))]) (fun yy0=>yy0.1≤x.length∧yy0.2=x.take yy0.1++List.replicate (x.length - yy0.1) fC) (fun yy0=>x.length - yy0.1) (fun yy0=> .len x.length<| .br (.elem _ aB x (fun e18=>bV (qG e18)<| .len yy0.2.length<| .setm aP aB yy0.2 (fun s5_8=>e18) (fun s5_8=> .back [(700,700)]))) (.fin [(0,700)]))) (p:=(x.map aB).length≤9223372036854775807→Lm aB x∧(((x.length:Nat):Int)=((x.length:Nat):Int)∧((x.length:Nat):Int)=((x.length:Nat):Int)∧72*x.length≤281474976710656∧x.length≤9223372036854775807∧List.replicate x.length [.sl 3 1 (fC.columns.map intD),.sl 39 1 (fC.values.map aA),.sl 3 1 (fC.counts.map intD)]=(List.replicate x.length fC).map aB∧((∃(k:Nat) (out:List aP),(0:Int)=(k:Int)∧(List.replicate x.length fC).map aB=out.map aB∧k≤x.length∧out=x.take k++List.replicate (x.length - k) fC)∧ ∀(k:Nat) (out:List aP),(k≤x.length∧out=x.take k++List.replicate (x.length - k) fC)→Lm aB x∧(((decide ((k:Int)<((x.length:Nat):Int)))=true→0≤(k:Int)∧Em aB x k fun e18=>wH e18∧(0≤(k:Int)∧Lm aB out∧(k:Int)<((out.length:Nat):Int)∧(out.map aB=out.map aB∧k<out.length∧ ∀s5_8,out[k]? =some s5_8→0+3≤(aB s5_8).length∧(aB s5_8).take 0++((aB e18).drop 0).take 3++(aB s5_8).drop (0+3)=aB e18∧e18.columns.map intD=e18.columns.map intD∧e18.values.map aA=e18.values.map aA∧e18.counts.map intD=e18.counts.map intD∧cC ((k:Int)+(1:Int))∧ ∃(k' :Nat) (out' :List aP),((k:Int)+(1:Int))=(k' :Int)∧(out.set k e18).map aB=out'.map aB∧(k' ≤x.length∧out' =x.take k' ++List.replicate (x.length - k') fC)∧x.length - k' <x.length - k)))∧((decide ((k:Int)<((x.length:Nat):Int)))=false→out.map aB=x.map aB∧True))))) (by kernel_rfl) ?_
 intro n0
 simp only [List.length_map] at n0
 refine ⟨List.length_map _,rfl,rfl,by have:=iA x;omega,by have:=iA x;omega,by first | (rw [List.map_replicate];done) | (rw [List.map_replicate];rfl),⟨0,List.replicate x.length fC,rfl,rfl,Nat.zero_le _,by simp⟩,fun k out ⟨hk,ho⟩=>?_⟩
 have hl:out.length=x.length:=by rw [ho];exact nV hk
 refine ⟨List.length_map _,fun c0=>?_,fun c0=>?_⟩
 ·replace c0:=yq c0
  refine ⟨by omega,rfl,by omega,fun e18 h18=>?_⟩
  refine ⟨aHm e18 (by first | omega | (have:=iT ‹x[k]? =some _›;omega)),by omega,List.length_map _,by omega,rfl,by omega,fun s5_8 hs5_8=>?_⟩
  refine ⟨Nat.le_of_ble_eq_true rfl,rfl,rfl,rfl,rfl,⟨by omega,by omega⟩,?_⟩
  exact ⟨k+1,out.set k e18,rfl,rfl,⟨by omega,by rw [ho];exact mD ‹x[k]? =some _›⟩,by omega⟩
 ·replace c0:=nq c0
  refine ⟨?_,trivial⟩
  ·rw [ho,mE hk (by omega)]
abbrev qH (x:aH):AV × List (Nat × Rs):=(.agg [.p none (.str x.name),vI x.arity,vI x.rowCount,.own 0],[(0,.arr 203 3 true (x.groups.map aB))])
abbrev wI (x:aH):Prop:=cT Tryz.prog 110 [.agg [.str x.name,.int .i64 x.arity,.int .i64 x.rowCount,.sl 203 3 (x.groups.map aB)]] (qH x).1 (qH x).2
theorem aHn (x:aH) (hc:bA x≤1048576):wI x:=by
 refine aT bE aL Tryz.func110 (by kernel_rfl) (bV (pC x.groups)<| .fin [(0,1500)]) (p:=(x.groups.map aB).length≤9223372036854775807→uD x.groups∧x.name=x.name∧x.arity=x.arity∧x.rowCount=x.rowCount∧x.groups.map aB=x.groups.map aB∧True) (by kernel_rfl) ?_
 intro n0
 simp only [List.length_map] at n0
 unfold bA at hc
 refine ⟨aHM x.groups (by first | omega | (have:=cGroupStatsSS_el ‹x[k]? =some _›;omega)),?_⟩
 exact ⟨rfl,rfl,rfl,rfl,trivial⟩
abbrev pD (x:List aH):AV × List (Nat × Rs):=(.own 0,[(0,.arr 161 4 true (x.map aE))])
abbrev uE (x:List aH):Prop:=cT Tryz.prog 74 [.one (.sl 161 4 (x.map aE))] (pD x).1 (pD x).2
theorem aHN (x:List aH) (hc:eM x≤1048576):uE x:=by
 refine aT bE aL Tryz.func74 (by kernel_rfl) (.len x.length<| .mk x.length [.str eE.name,.int .i64 eE.arity,.int .i64 eE.rowCount,.sl 203 3 (eE.groups.map aB)] ((List.replicate x.length eE).map aE)<| .loop (Nat × (List aH)) (Q2 Nat (List aH)) [3,4,8,9,10,11,12,13,14,15,16,17,18,19,20,21] [700,2000] (fun yy0=>[(3,.own 700),(4,vI (yy0.1:Int))]) (fun yy0=>[(700,some (.arr 161 4 true (yy0.2.map aE)))]) (fun yy0=>yy0.1≤x.length∧yy0.2=x.take yy0.1++List.replicate (x.length - yy0.1) eE) (fun yy0=>x.length - yy0.1) (fun yy0=> .len x.length<| .br (.elem _ aE x (fun e18=>bV (qH e18)<| .len yy0.2.length<| .setm aH aE yy0.2 (fun s5_8=>e18) (fun s5_8=> .back [(700,700)]))) (.fin [(0,700)]))) (p:=(x.map aE).length≤9223372036854775807→Lm aE x∧(((x.length:Nat):Int)=((x.length:Nat):Int)∧((x.length:Nat):Int)=((x.length:Nat):Int)∧56*x.length≤281474976710656∧x.length≤9223372036854775807∧List.replicate x.length [.str eE.name,.int .i64 eE.arity,.int .i64 eE.rowCount,.sl 203 3 (eE.groups.map aB)]=(List.replicate x.length eE).map aE∧((∃(k:Nat) (out:List aH),(0:Int)=(k:Int)∧(List.replicate x.length eE).map aE=out.map aE∧k≤x.length∧out=x.take k++List.replicate (x.length - k) eE)∧ ∀(k:Nat) (out:List aH),(k≤x.length∧out=x.take k++List.replicate (x.length - k) eE)→Lm aE x∧(((decide ((k:Int)<((x.length:Nat):Int)))=true→0≤(k:Int)∧Em aE x k fun e18=>wI e18∧(0≤(k:Int)∧Lm aE out∧(k:Int)<((out.length:Nat):Int)∧(out.map aE=out.map aE∧k<out.length∧ ∀s5_8,out[k]? =some s5_8→0+4≤(aE s5_8).length∧(aE s5_8).take 0++((aE e18).drop 0).take 4++(aE s5_8).drop (0+4)=aE e18∧e18.name=e18.name∧e18.arity=e18.arity∧e18.rowCount=e18.rowCount∧e18.groups.map aB=e18.groups.map aB∧cC ((k:Int)+(1:Int))∧ ∃(k' :Nat) (out' :List aH),((k:Int)+(1:Int))=(k' :Int)∧(out.set k e18).map aE=out'.map aE∧(k' ≤x.length∧out' =x.take k' ++List.replicate (x.length - k') eE)∧x.length - k' <x.length - k)))∧((decide ((k:Int)<((x.length:Nat):Int)))=false→out.map aE=x.map aE∧True))))) (by kernel_rfl) ?_
 intro n0
 simp only [List.length_map] at n0
 refine ⟨List.length_map _,rfl,rfl,by have:=tS x;omega,by have:=tS x;omega,by first | (rw [List.map_replicate];done) | (rw [List.map_replicate];rfl),⟨0,List.replicate x.length eE,rfl,rfl,Nat.zero_le _,by simp⟩,fun k out ⟨hk,ho⟩=>?_⟩
 have hl:out.length=x.length:=by rw [ho];exact nV hk
 refine ⟨List.length_map _,fun c0=>?_,fun c0=>?_⟩
 ·replace c0:=yq c0
  refine ⟨by omega,rfl,by omega,fun e18 h18=>?_⟩
  refine ⟨aHn e18 (by first | omega | (have:=lE ‹x[k]? =some _›;omega)),by omega,List.length_map _,by omega,rfl,by omega,fun s5_8 hs5_8=>?_⟩
  refine ⟨Nat.le_of_ble_eq_true rfl,rfl,rfl,rfl,rfl,rfl,⟨by omega,by omega⟩,?_⟩
  exact ⟨k+1,out.set k e18,rfl,rfl,⟨by omega,by rw [ho];exact mD ‹x[k]? =some _›⟩,by omega⟩
 ·replace c0:=nq c0
  refine ⟨?_,trivial⟩
  ·rw [ho,mE hk (by omega)]
abbrev sA (x:cU):AV × List (Nat × Rs):=(.agg [vI x.version,.own 0],[(0,.arr 161 4 true (x.tables.map aE))])
abbrev zG (x:cU):Prop:=cT Tryz.prog 35 [.agg [.int .i64 x.version,.sl 161 4 (x.tables.map aE)]] (sA x).1 (sA x).2
theorem aJp (x:cU) (hc:bT x≤1048576):zG x:=by
 refine aT bE aL Tryz.func35 (by kernel_rfl) (bV (pD x.tables)<| .fin [(0,900)]) (p:=(x.tables.map aE).length≤9223372036854775807→uE x.tables∧x.version=x.version∧x.tables.map aE=x.tables.map aE∧True) (by kernel_rfl) ?_
 intro n0
 simp only [List.length_map] at n0
 unfold bT at hc
 refine ⟨aHN x.tables (by first | omega | (have:=cTableStatsSS_el ‹x[k]? =some _›;omega)),?_⟩
 exact ⟨rfl,rfl,trivial⟩
abbrev qI (x:aX):AV × List (Nat × Rs):=(.agg [.p none (.str x.name),.own 0,vI x.dst],[(0,.arr 3 1 true (x.src.map intD))])
abbrev wJ (x:aX):Prop:=cT Tryz.prog 75 [.agg [.str x.name,.sl 3 1 (x.src.map intD),.int .i64 x.dst]] (qI x).1 (qI x).2
theorem aHo (x:aX) (hc:dK x≤1048576):wJ x:=by
 refine aT bE aL Tryz.func75 (by kernel_rfl) (bV (pB x.src)<| .fin [(0,900)]) (p:=(x.src.map intD).length≤9223372036854775807→rA x.src∧x.name=x.name∧x.dst=x.dst∧x.src.map intD=x.src.map intD∧True) (by kernel_rfl) ?_
 intro n0
 simp only [List.length_map] at n0
 unfold dK at hc
 refine ⟨aCb x.src (by first | omega | (have:=nC ‹x[k]? =some _›;omega)),?_⟩
 exact ⟨rfl,rfl,rfl,trivial⟩
abbrev pE (x:List aX):AV × List (Nat × Rs):=(.own 0,[(0,.arr 131 3 true (x.map aM))])
abbrev uF (x:List aX):Prop:=cT Tryz.prog 36 [.one (.sl 131 3 (x.map aM))] (pE x).1 (pE x).2
theorem aHO (x:List aX) (hc:cH x≤1048576):uF x:=by
 refine aT bE aL Tryz.func36 (by kernel_rfl) (.len x.length<| .mk x.length [.str fX.name,.sl 3 1 (fX.src.map intD),.int .i64 fX.dst] ((List.replicate x.length fX).map aM)<| .loop (Nat × (List aX)) (Q2 Nat (List aX)) [3,4,8,9,10,11,12,13,14,15,16,17,18,19,20,21] [700,2000] (fun yy0=>[(3,.own 700),(4,vI (yy0.1:Int))]) (fun yy0=>[(700,some (.arr 131 3 true (yy0.2.map aM)))]) (fun yy0=>yy0.1≤x.length∧yy0.2=x.take yy0.1++List.replicate (x.length - yy0.1) fX) (fun yy0=>x.length - yy0.1) (fun yy0=> .len x.length<| .br (.elem _ aM x (fun e18=>bV (qI e18)<| .len yy0.2.length<| .setm aX aM yy0.2 (fun s5_8=>e18) (fun s5_8=> .back [(700,700)]))) (.fin [(0,700)]))) (p:=(x.map aM).length≤9223372036854775807→Lm aM x∧(((x.length:Nat):Int)=((x.length:Nat):Int)∧((x.length:Nat):Int)=((x.length:Nat):Int)∧48*x.length≤281474976710656∧x.length≤9223372036854775807∧List.replicate x.length [.str fX.name,.sl 3 1 (fX.src.map intD),.int .i64 fX.dst]=(List.replicate x.length fX).map aM∧((∃(k:Nat) (out:List aX),(0:Int)=(k:Int)∧(List.replicate x.length fX).map aM=out.map aM∧k≤x.length∧out=x.take k++List.replicate (x.length - k) fX)∧ ∀(k:Nat) (out:List aX),(k≤x.length∧out=x.take k++List.replicate (x.length - k) fX)→Lm aM x∧(((decide ((k:Int)<((x.length:Nat):Int)))=true→0≤(k:Int)∧Em aM x k fun e18=>wJ e18∧(0≤(k:Int)∧Lm aM out∧(k:Int)<((out.length:Nat):Int)∧(out.map aM=out.map aM∧k<out.length∧ ∀s5_8,out[k]? =some s5_8→0+3≤(aM s5_8).length∧(aM s5_8).take 0++((aM e18).drop 0).take 3++(aM s5_8).drop (0+3)=aM e18∧e18.name=e18.name∧e18.src.map intD=e18.src.map intD∧e18.dst=e18.dst∧cC ((k:Int)+(1:Int))∧ ∃(k' :Nat) (out' :List aX),((k:Int)+(1:Int))=(k' :Int)∧(out.set k e18).map aM=out'.map aM∧(k' ≤x.length∧out' =x.take k' ++List.replicate (x.length - k') fX)∧x.length - k' <x.length - k)))∧((decide ((k:Int)<((x.length:Nat):Int)))=false→out.map aM=x.map aM∧True))))) (by kernel_rfl) ?_
 intro n0
 simp only [List.length_map] at n0
 refine ⟨List.length_map _,rfl,rfl,by have:=tT x;omega,by have:=tT x;omega,by first | (rw [List.map_replicate];done) | (rw [List.map_replicate];rfl),⟨0,List.replicate x.length fX,rfl,rfl,Nat.zero_le _,by simp⟩,fun k out ⟨hk,ho⟩=>?_⟩
 have hl:out.length=x.length:=by rw [ho];exact nV hk
 refine ⟨List.length_map _,fun c0=>?_,fun c0=>?_⟩
 ·replace c0:=yq c0
  refine ⟨by omega,rfl,by omega,fun e18 h18=>?_⟩
  refine ⟨aHo e18 (by first | omega | (have:=aEc ‹x[k]? =some _›;omega)),by omega,List.length_map _,by omega,rfl,by omega,fun s5_8 hs5_8=>?_⟩
  refine ⟨Nat.le_of_ble_eq_true rfl,rfl,rfl,rfl,rfl,⟨by omega,by omega⟩,?_⟩
  exact ⟨k+1,out.set k e18,rfl,rfl,⟨by omega,by rw [ho];exact mD ‹x[k]? =some _›⟩,by omega⟩
 ·replace c0:=nq c0
  refine ⟨?_,trivial⟩
  ·rw [ho,mE hk (by omega)]
abbrev sB (x:aW):AV × List (Nat × Rs):=(.agg [.p none (.str x.name),vI x.column,.p none (.str x.into),vI x.intoColumn],[])
abbrev zH (x:aW):Prop:=cT Tryz.prog 76 [.agg [.str x.name,.int .i64 x.column,.str x.into,.int .i64 x.intoColumn]] (sB x).1 (sB x).2
theorem aJq (x:aW) (hc:dZ x≤1048576):zH x:=by
 refine aT bE aL Tryz.func76 (by kernel_rfl) (.fin []) (p:=x.name=x.name∧x.column=x.column∧x.into=x.into∧x.intoColumn=x.intoColumn∧True) (by kernel_rfl) ?_
 unfold dZ at hc
 exact ⟨rfl,rfl,rfl,rfl,trivial⟩
abbrev qJ (x:List aW):AV × List (Nat × Rs):=(.own 0,[(0,.arr 133 4 true (x.map aQ))])
abbrev wK (x:List aW):Prop:=cT Tryz.prog 37 [.one (.sl 133 4 (x.map aQ))] (qJ x).1 (qJ x).2
theorem aHp (x:List aW) (hc:dL x≤1048576):wK x:=by
 refine aT bE aL Tryz.func37 (by kernel_rfl) (.len x.length<| .mk x.length [.str fU.name,.int .i64 fU.column,.str fU.into,.int .i64 fU.intoColumn] ((List.replicate x.length fU).map aQ)<| .loop (Nat × (List aW)) (Q2 Nat (List aW)) [3,4,8,9,10,11,12,13,14,15,16,17,18,19,20,21] [700] (fun yy0=>[(3,.own 700),(4,vI (yy0.1:Int))]) (fun yy0=>[(700,some (.arr 133 4 true (yy0.2.map aQ)))]) (fun yy0=>yy0.1≤x.length∧yy0.2=x.take yy0.1++List.replicate (x.length - yy0.1) fU) (fun yy0=>x.length - yy0.1) (fun yy0=> .len x.length<| .br (.elem _ aQ x (fun e18=>bV (sB e18)<| .len yy0.2.length<| .set aW aQ yy0.2 (fun s5_8=>e18) (fun s5_8=> .back [(700,700)]))) (.fin [(0,700)]))) (p:=(x.map aQ).length≤9223372036854775807→Lm aQ x∧(((x.length:Nat):Int)=((x.length:Nat):Int)∧((x.length:Nat):Int)=((x.length:Nat):Int)∧48*x.length≤281474976710656∧x.length≤9223372036854775807∧List.replicate x.length [.str fU.name,.int .i64 fU.column,.str fU.into,.int .i64 fU.intoColumn]=(List.replicate x.length fU).map aQ∧((∃(k:Nat) (out:List aW),(0:Int)=(k:Int)∧(List.replicate x.length fU).map aQ=out.map aQ∧k≤x.length∧out=x.take k++List.replicate (x.length - k) fU)∧ ∀(k:Nat) (out:List aW),(k≤x.length∧out=x.take k++List.replicate (x.length - k) fU)→Lm aQ x∧(((decide ((k:Int)<((x.length:Nat):Int)))=true→0≤(k:Int)∧Em aQ x k fun e18=>zH e18∧(0≤(k:Int)∧Lm aQ out∧(k:Int)<((out.length:Nat):Int)∧(out.map aQ=out.map aQ∧k<out.length∧ ∀s5_8,out[k]? =some s5_8→eL (aQ s5_8)=true∧0+4≤(aQ s5_8).length∧(aQ s5_8).take 0++[.str e18.name,.int .i64 e18.column,.str e18.into,.int .i64 e18.intoColumn]++(aQ s5_8).drop (0+4)=aQ e18∧cC ((k:Int)+(1:Int))∧ ∃(k' :Nat) (out' :List aW),((k:Int)+(1:Int))=(k' :Int)∧(out.set k e18).map aQ=out'.map aQ∧(k' ≤x.length∧out' =x.take k' ++List.replicate (x.length - k') fU)∧x.length - k' <x.length - k)))∧((decide ((k:Int)<((x.length:Nat):Int)))=false→out.map aQ=x.map aQ∧True))))) (by kernel_rfl) ?_
 intro n0
 simp only [List.length_map] at n0
 refine ⟨List.length_map _,rfl,rfl,by have:=fP x;omega,by have:=fP x;omega,by first | (rw [List.map_replicate];done) | (rw [List.map_replicate];rfl),⟨0,List.replicate x.length fU,rfl,rfl,Nat.zero_le _,by simp⟩,fun k out ⟨hk,ho⟩=>?_⟩
 have hl:out.length=x.length:=by rw [ho];exact nV hk
 refine ⟨List.length_map _,fun c0=>?_,fun c0=>?_⟩
 ·replace c0:=yq c0
  refine ⟨by omega,rfl,by omega,fun e18 h18=>?_⟩
  refine ⟨aJq e18 (by first | omega | (have:=aFm ‹x[k]? =some _›;omega)),by omega,List.length_map _,by omega,rfl,by omega,fun s5_8 hs5_8=>⟨rfl,Nat.le_of_ble_eq_true rfl,rfl,?_⟩⟩
  refine ⟨⟨by omega,by omega⟩,?_⟩
  exact ⟨k+1,out.set k e18,rfl,rfl,⟨by omega,by rw [ho];exact mD ‹x[k]? =some _›⟩,by omega⟩
 ·replace c0:=nq c0
  refine ⟨?_,trivial⟩
  ·rw [ho,mE hk (by omega)]
abbrev sC (x:StoreD):AV × List (Nat × Rs):=(.agg [.own 0,vI x.catalogue.version,.own 1,.own 2,.own 3],[(0,.arr 167 3 true (x.database.tables.map aR)),(1,.arr 161 4 true (x.catalogue.tables.map aE)),(2,.arr 131 3 true (x.dependencies.map aM)),(3,.arr 133 4 true (x.inclusions.map aQ))])
abbrev vV (x:StoreD):Prop:=cT Tryz.prog 9 [.agg [.sl 167 3 (x.database.tables.map aR),.int .i64 x.catalogue.version,.sl 161 4 (x.catalogue.tables.map aE),.sl 131 3 (x.dependencies.map aM),.sl 133 4 (x.inclusions.map aQ)]] (sC x).1 (sC x).2
theorem aHP (x:StoreD) (hc:eG x≤1048576):vV x:=by
 refine aT bE aL Tryz.func9 (by kernel_rfl) (bV (tH x.database)<| bV (sA x.catalogue)<| bV (pE x.dependencies)<| bV (qJ x.inclusions)<| .fin [(0,600),(1,1000),(2,1400),(3,1800)]) (p:=(x.database.tables.map aR).length≤9223372036854775807→(x.catalogue.tables.map aE).length≤9223372036854775807→(x.dependencies.map aM).length≤9223372036854775807→(x.inclusions.map aQ).length≤9223372036854775807→aAa x.database∧zG x.catalogue∧uF x.dependencies∧wK x.inclusions∧x.catalogue.version=x.catalogue.version∧x.database.tables.map aR=x.database.tables.map aR∧x.catalogue.tables.map aE=x.catalogue.tables.map aE∧x.dependencies.map aM=x.dependencies.map aM∧x.inclusions.map aQ=x.inclusions.map aQ∧True) (by kernel_rfl) ?_
 intro n0 n1 n2 n3
 simp only [List.length_map] at n0 n1 n2 n3
 unfold eG at hc
 refine ⟨aLb x.database (by first | omega | (have:=cDatabaseS_el ‹x[k]? =some _›;omega)),aJp x.catalogue (by first | omega | (have:=cCatalogueS_el ‹x[k]? =some _›;omega)),aHO x.dependencies (by first | omega | (have:=cDependencySS_el ‹x[k]? =some _›;omega)),aHp x.inclusions (by first | omega | (have:=cInclusionSS_el ‹x[k]? =some _›;omega)),?_⟩
 exact ⟨rfl,rfl,rfl,rfl,rfl,trivial⟩
abbrev pI (x:RationalD):Prop:=cT Tryz.prog 23 [.agg [.int .i64 x.num,.int .i64 x.den]] (.agg [vI x.num,vI x.den]) []
theorem zI (x:RationalD):pI x:=by
 refine aT bE aL Tryz.func23 (by kernel_rfl) (.fin []) (p:=x.num=x.num∧x.den=x.den∧True) (by kernel_rfl) ?_
 exact ⟨rfl,rfl,trivial⟩
abbrev lZ (x:List RationalD):AV × List (Nat × Rs):=(.own 0,[(0,.arr 70 2 true (x.map aU))])
abbrev oF (x:List RationalD):Prop:=cT Tryz.prog 11 [.one (.sl 70 2 (x.map aU))] (lZ x).1 (lZ x).2
theorem vW (x:List RationalD) (hc:jJ x≤1048576):oF x:=by
 refine aT bE aL Tryz.func11 (by kernel_rfl) (.len x.length<| .mk x.length [.int .i64 jW.num,.int .i64 jW.den] ((List.replicate x.length jW).map aU)<| .loop (Nat × (List RationalD)) (Q2 Nat (List RationalD)) [3,4,8,9,10,11,12,13,14,15,16,17,18,19,20,21] [700] (fun yy0=>[(3,.own 700),(4,vI (yy0.1:Int))]) (fun yy0=>[(700,some (.arr 70 2 true (yy0.2.map aU)))]) (fun yy0=>yy0.1≤x.length∧yy0.2=x.take yy0.1++List.replicate (x.length - yy0.1) jW) (fun yy0=>x.length - yy0.1) (fun yy0=> .len x.length<| .br (.elem _ aU x (fun e18=> .call (.agg [vI e18.num,vI e18.den]) []<| .len yy0.2.length<| .set RationalD aU yy0.2 (fun s5_8=>e18) (fun s5_8=> .back [(700,700)]))) (.fin [(0,700)]))) (p:=(x.map aU).length≤9223372036854775807→Lm aU x∧(((x.length:Nat):Int)=((x.length:Nat):Int)∧((x.length:Nat):Int)=((x.length:Nat):Int)∧16*x.length≤281474976710656∧x.length≤9223372036854775807∧List.replicate x.length [.int .i64 jW.num,.int .i64 jW.den]=(List.replicate x.length jW).map aU∧((∃(k:Nat) (out:List RationalD),(0:Int)=(k:Int)∧(List.replicate x.length jW).map aU=out.map aU∧k≤x.length∧out=x.take k++List.replicate (x.length - k) jW)∧ ∀(k:Nat) (out:List RationalD),(k≤x.length∧out=x.take k++List.replicate (x.length - k) jW)→Lm aU x∧(((decide ((k:Int)<((x.length:Nat):Int)))=true→0≤(k:Int)∧Em aU x k fun e18=>pI e18∧(0≤(k:Int)∧Lm aU out∧(k:Int)<((out.length:Nat):Int)∧(out.map aU=out.map aU∧k<out.length∧ ∀s5_8,out[k]? =some s5_8→eL (aU s5_8)=true∧0+2≤(aU s5_8).length∧(aU s5_8).take 0++[.int .i64 e18.num,.int .i64 e18.den]++(aU s5_8).drop (0+2)=aU e18∧cC ((k:Int)+(1:Int))∧ ∃(k' :Nat) (out' :List RationalD),((k:Int)+(1:Int))=(k' :Int)∧(out.set k e18).map aU=out'.map aU∧(k' ≤x.length∧out' =x.take k' ++List.replicate (x.length - k') jW)∧x.length - k' <x.length - k)))∧((decide ((k:Int)<((x.length:Nat):Int)))=false→out.map aU=x.map aU∧True))))) (by kernel_rfl) ?_
 intro n0
 simp only [List.length_map] at n0
 refine ⟨List.length_map _,rfl,rfl,by have:=xS x;omega,by have:=xS x;omega,by first | (rw [List.map_replicate];done) | (rw [List.map_replicate];rfl),⟨0,List.replicate x.length jW,rfl,rfl,Nat.zero_le _,by simp⟩,fun k out ⟨hk,ho⟩=>?_⟩
 have hl:out.length=x.length:=by rw [ho];exact nV hk
 refine ⟨List.length_map _,fun c0=>?_,fun c0=>?_⟩
 ·replace c0:=yq c0
  refine ⟨by omega,rfl,by omega,fun e18 h18=>?_⟩
  refine ⟨zI e18,by omega,List.length_map _,by omega,rfl,by omega,fun s5_8 hs5_8=>⟨rfl,Nat.le_of_ble_eq_true rfl,rfl,?_⟩⟩
  refine ⟨⟨by omega,by omega⟩,?_⟩
  exact ⟨k+1,out.set k e18,rfl,rfl,⟨by omega,by rw [ho];exact mD ‹x[k]? =some _›⟩,by omega⟩
 ·replace c0:=nq c0
  refine ⟨?_,trivial⟩
  ·rw [ho,mE hk (by omega)]
end Go.Proofs.YtdfebigfnjfgpaaGreat
