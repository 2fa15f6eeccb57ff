/-
  Contracts and plain laws, joined: part 23.
-/
import Derived.Test.YtdfebigfnjfgpaaGreatQP3
namespace Go.Proofs.YtdfebigfnjfgpaaGreat
open Go.ChangeShapes Go.WideShapes Go.ChangeAt Go.RowKit
set_option linter.unusedVariables false
set_option linter.unusedSimpArgs false
set_option maxRecDepth 100000
set_option maxHeartbeats 4000000
abbrev pN (x:List Int):AV × List (Nat × Rs):=(.own 0,[(0,.arr 3 1 true (x.map intD))])
abbrev rW (x:List Int):Prop:=cX Tryz.prog 111 [.one (.sl 3 1 (x.map intD))] (pN x).1 (pN x).2
theorem aDO (x:List Int) (hc:bS x≤1048576):rW x:=by
 refine aX bG aR Tryz.func111 (by kernel_rfl) (.len x.length<| .mk x.length [.int .i64 (0:Int)] ((List.replicate x.length (0:Int)).map intD)<| .loop (Nat × (List Int)) (Q2 Nat (List Int)) [3,4,8,9,10,11,12,13,14,15,16,17,18,19,20] [700] (fun yy0=>[(3,.own 700),(4,vI (yy0.1:Int))]) (fun yy0=>[(700,some (.arr 3 1 true (yy0.2.map intD)))]) (fun yy0=>yy0.1≤x.length∧yy0.2=x.take yy0.1++List.replicate (x.length - yy0.1) (0:Int)) (fun yy0=>x.length - yy0.1) (fun yy0=> .len x.length<| .br (.elem _ intD x (fun e18=> .len yy0.2.length<| .set Int intD yy0.2 (fun s5_7=>e18) (fun s5_7=> .back [(700,700)]))) (.fin [(0,700)]))) (p:=(x.map intD).length≤9223372036854775807→Lm intD x∧(((x.length:Nat):Int)=((x.length:Nat):Int)∧((x.length:Nat):Int)=((x.length:Nat):Int)∧8*x.length≤281474976710656∧x.length≤9223372036854775807∧List.replicate x.length [.int .i64 (0:Int)]=(List.replicate x.length (0:Int)).map intD∧((∃(k:Nat) (out:List Int),(0:Int)=(k:Int)∧(List.replicate x.length (0:Int)).map intD=out.map intD∧k≤x.length∧out=x.take k++List.replicate (x.length - k) (0:Int))∧ ∀(k:Nat) (out:List Int),(k≤x.length∧out=x.take k++List.replicate (x.length - k) (0:Int))→Lm intD x∧(((decide ((k:Int)<((x.length:Nat):Int)))=true→0≤(k:Int)∧Em intD x k fun e18=>0≤(k:Int)∧Lm intD out∧(k:Int)<((out.length:Nat):Int)∧(out.map intD=out.map intD∧k<out.length∧ ∀s5_7,out[k]? =some s5_7→dT (intD s5_7)=true∧0+1≤(intD s5_7).length∧(intD s5_7).take 0++[.int .i64 e18]++(intD s5_7).drop (0+1)=intD e18∧cC ((k:Int)+(1:Int))∧ ∃(k' :Nat) (out' :List Int),((k:Int)+(1:Int))=(k' :Int)∧(out.set k e18).map intD=out'.map intD∧(k' ≤x.length∧out' =x.take k' ++List.replicate (x.length - k') (0:Int))∧x.length - k' <x.length - k))∧((decide ((k:Int)<((x.length:Nat):Int)))=false→out.map intD=x.map intD∧True))))) (by kernel_rfl) ?_
 intro n0
 simp only [List.length_map] at n0
 refine ⟨List.length_map _,rfl,rfl,by have:=aJL x;omega,by have:=aJL x;omega,by first | (rw [List.map_replicate];done) | (rw [List.map_replicate];rfl),⟨0,List.replicate x.length (0:Int),rfl,rfl,Nat.zero_le _,by simp⟩,fun k out ⟨hk,ho⟩=>?_⟩
 have hl:out.length=x.length:=by rw [ho];exact oB hk
 refine ⟨List.length_map _,fun c0=>?_,fun c0=>?_⟩
 ·replace c0:=yq c0
  refine ⟨by omega,rfl,by omega,fun e18 h18=>?_⟩
  refine ⟨by omega,List.length_map _,by omega,rfl,by omega,fun s5_7 hs5_7=>⟨rfl,Nat.le_of_ble_eq_true rfl,rfl,?_⟩⟩
  refine ⟨⟨by omega,by omega⟩,?_⟩
  exact ⟨k+1,out.set k e18,rfl,rfl,⟨by omega,by rw [ho];exact mJ ‹x[k]? =some _›⟩,by omega⟩
 ·replace c0:=nq c0
  refine ⟨?_,trivial⟩
  ·rw [ho,mK hk (by omega)]
abbrev xC (x:List (List Int)):AV × List (Nat × Rs):=(.own 0,[(0,.arr 39 1 true (x.map aC))])
abbrev aCJ (x:List (List Int)):Prop:=cX Tryz.prog 144 [.one (.sl 39 1 (x.map aC))] (xC x).1 (xC x).2
theorem aMV (x:List (List Int)) (hc:cM x≤1048576):aCJ x:=by
 refine aX bG aR Tryz.func144 (by kernel_rfl) (.len x.length<| .mk x.length [.sl 3 1 (([]:List Int).map intD)] ((List.replicate x.length ([]:List Int)).map aC)<| .loop (Nat × (List (List Int))) (Q2 Nat (List (List Int))) [3,4,8,9,10,11,12,13,14,15,16,17,18,19,20,21] [700,2000] (fun yy0=>[(3,.own 700),(4,vI (yy0.1:Int))]) (fun yy0=>[(700,some (.arr 39 1 true (yy0.2.map aC)))]) (fun yy0=>yy0.1≤x.length∧yy0.2=x.take yy0.1++List.replicate (x.length - yy0.1) ([]:List Int)) (fun yy0=>x.length - yy0.1) (fun yy0=> .len x.length<| .br (.elem _ aC x (fun e18=>cB (pN e18)<| .len yy0.2.length<| .setm (List Int) aC yy0.2 (fun s5_8=>e18) (fun s5_8=> .back [(700,700)]))) (.fin [(0,700)]))) (p:=(x.map aC).length≤9223372036854775807→Lm aC x∧(((x.length:Nat):Int)=((x.length:Nat):Int)∧((x.length:Nat):Int)=((x.length:Nat):Int)∧24*x.length≤281474976710656∧x.length≤9223372036854775807∧List.replicate x.length [.sl 3 1 (([]:List Int).map intD)]=(List.replicate x.length ([]:List Int)).map aC∧((∃(k:Nat) (out:List (List Int)),(0:Int)=(k:Int)∧(List.replicate x.length ([]:List Int)).map aC=out.map aC∧k≤x.length∧out=x.take k++List.replicate (x.length - k) ([]:List Int))∧ ∀(k:Nat) (out:List (List Int)),(k≤x.length∧out=x.take k++List.replicate (x.length - k) ([]:List Int))→Lm aC x∧(((decide ((k:Int)<((x.length:Nat):Int)))=true→0≤(k:Int)∧Em aC x k fun e18=>rW e18∧(0≤(k:Int)∧Lm aC out∧(k:Int)<((out.length:Nat):Int)∧(out.map aC=out.map aC∧k<out.length∧ ∀s5_8,out[k]? =some s5_8→0+1≤(aC s5_8).length∧(aC s5_8).take 0++((aC e18).drop 0).take 1++(aC s5_8).drop (0+1)=aC e18∧e18.map intD=e18.map intD∧cC ((k:Int)+(1:Int))∧ ∃(k' :Nat) (out' :List (List Int)),((k:Int)+(1:Int))=(k' :Int)∧(out.set k e18).map aC=out'.map aC∧(k' ≤x.length∧out' =x.take k' ++List.replicate (x.length - k') ([]:List Int))∧x.length - k' <x.length - k)))∧((decide ((k:Int)<((x.length:Nat):Int)))=false→out.map aC=x.map aC∧True))))) (by kernel_rfl) ?_
 intro n0
 simp only [List.length_map] at n0
 refine ⟨List.length_map _,rfl,rfl,by have:=fD x;omega,by have:=fD x;omega,by first | (rw [List.map_replicate];done) | (rw [List.map_replicate];rfl),⟨0,List.replicate x.length ([]:List Int),rfl,rfl,Nat.zero_le _,by simp⟩,fun k out ⟨hk,ho⟩=>?_⟩
 have hl:out.length=x.length:=by rw [ho];exact oB hk
 refine ⟨List.length_map _,fun c0=>?_,fun c0=>?_⟩
 ·replace c0:=yq c0
  refine ⟨by omega,rfl,by omega,fun e18 h18=>?_⟩
  refine ⟨aDO e18 (by first | omega | (have:=nG ‹x[k]? =some _›;omega)),by omega,List.length_map _,by omega,rfl,by omega,fun s5_8 hs5_8=>?_⟩
  refine ⟨Nat.le_of_ble_eq_true rfl,rfl,rfl,⟨by omega,by omega⟩,?_⟩
  exact ⟨k+1,out.set k e18,rfl,rfl,⟨by omega,by rw [ho];exact mJ ‹x[k]? =some _›⟩,by omega⟩
 ·replace c0:=nq c0
  refine ⟨?_,trivial⟩
  ·rw [ho,mK hk (by omega)]
abbrev aCK (x:aS):AV × List (Nat × Rs):=(.agg [.p none (.str x.name),vI x.arity,.own 0],[(0,.arr 39 1 true (x.rows.map aC))])
abbrev aHr (x:aS):Prop:=cX Tryz.prog 109 [.agg [.str x.name,.int .i64 x.arity,.sl 39 1 (x.rows.map aC)]] (aCK x).1 (aCK x).2
theorem aSY (x:aS) (hc:fE x≤1048576):aHr x:=by
 refine aX bG aR Tryz.func109 (by kernel_rfl) (cB (xC x.rows)<| .fin [(0,1200)]) (p:=(x.rows.map aC).length≤9223372036854775807→aCJ x.rows∧x.name=x.name∧x.arity=x.arity∧x.rows.map aC=x.rows.map aC∧True) (by kernel_rfl) ?_
 intro n0
 simp only [List.length_map] at n0
 unfold fE at hc
 refine ⟨aMV x.rows (by first | omega | (have:=cIntSSS_el ‹x[k]? =some _›;omega)),?_⟩
 exact ⟨rfl,rfl,rfl,trivial⟩
abbrev aAT (x:List aS):AV × List (Nat × Rs):=(.own 0,[(0,.arr 167 3 true (x.map aP))])
abbrev aFB (x:List aS):Prop:=cX Tryz.prog 73 [.one (.sl 167 3 (x.map aP))] (aAT x).1 (aAT x).2
theorem aPv (x:List aS) (hc:iQ x≤1048576):aFB x:=by
 refine aX bG aR Tryz.func73 (by kernel_rfl) (.len x.length<| .mk x.length [.str gV.name,.int .i64 gV.arity,.sl 39 1 (gV.rows.map aC)] ((List.replicate x.length gV).map aP)<| .loop (Nat × (List aS)) (Q2 Nat (List aS)) [3,4,8,9,10,11,12,13,14,15,16,17,18,19,20,21] [700,2000] (fun yy0=>[(3,.own 700),(4,vI (yy0.1:Int))]) (fun yy0=>[(700,some (.arr 167 3 true (yy0.2.map aP)))]) (fun yy0=>yy0.1≤x.length∧yy0.2=x.take yy0.1++List.replicate (x.length - yy0.1) gV) (fun yy0=>x.length - yy0.1) (fun yy0=> .len x.length<| .br (.elem _ aP x (fun e18=>cB (aCK e18)<| .len yy0.2.length<| .setm aS aP yy0.2 (fun s5_8=>e18) (fun s5_8=> .back [(700,700)]))) (.fin [(0,700)]))) (p:=(x.map aP).length≤9223372036854775807→Lm aP x∧(((x.length:Nat):Int)=((x.length:Nat):Int)∧((x.length:Nat):Int)=((x.length:Nat):Int)∧48*x.length≤281474976710656∧x.length≤9223372036854775807∧List.replicate x.length [.str gV.name,.int .i64 gV.arity,.sl 39 1 (gV.rows.map aC)]=(List.replicate x.length gV).map aP∧((∃(k:Nat) (out:List aS),(0:Int)=(k:Int)∧(List.replicate x.length gV).map aP=out.map aP∧k≤x.length∧out=x.take k++List.replicate (x.length - k) gV)∧ ∀(k:Nat) (out:List aS),(k≤x.length∧out=x.take k++List.replicate (x.length - k) gV)→Lm aP x∧(((decide ((k:Int)<((x.length:Nat):Int)))=true→0≤(k:Int)∧Em aP x k fun e18=>aHr e18∧(0≤(k:Int)∧Lm aP out∧(k:Int)<((out.length:Nat):Int)∧(out.map aP=out.map aP∧k<out.length∧ ∀s5_8,out[k]? =some s5_8→0+3≤(aP s5_8).length∧(aP s5_8).take 0++((aP e18).drop 0).take 3++(aP s5_8).drop (0+3)=aP e18∧e18.name=e18.name∧e18.arity=e18.arity∧e18.rows.map aC=e18.rows.map aC∧cC ((k:Int)+(1:Int))∧ ∃(k' :Nat) (out' :List aS),((k:Int)+(1:Int))=(k' :Int)∧(out.set k e18).map aP=out'.map aP∧(k' ≤x.length∧out' =x.take k' ++List.replicate (x.length - k') gV)∧x.length - k' <x.length - k)))∧((decide ((k:Int)<((x.length:Nat):Int)))=false→out.map aP=x.map aP∧True))))) (by kernel_rfl) ?_
 intro n0
 simp only [List.length_map] at n0
 refine ⟨List.length_map _,rfl,rfl,by have:=aEO x;omega,by have:=aEO x;omega,by first | (rw [List.map_replicate];done) | (rw [List.map_replicate];rfl),⟨0,List.replicate x.length gV,rfl,rfl,Nat.zero_le _,by simp⟩,fun k out ⟨hk,ho⟩=>?_⟩
 have hl:out.length=x.length:=by rw [ho];exact oB hk
 refine ⟨List.length_map _,fun c0=>?_,fun c0=>?_⟩
 ·replace c0:=yq c0
  refine ⟨by omega,rfl,by omega,fun e18 h18=>?_⟩
  refine ⟨aSY e18 (by first | omega | (have:=aB8 ‹x[k]? =some _›;omega)),by omega,List.length_map _,by omega,rfl,by omega,fun s5_8 hs5_8=>?_⟩
  refine ⟨Nat.le_of_ble_eq_true rfl,rfl,rfl,rfl,rfl,⟨by omega,by omega⟩,?_⟩
  exact ⟨k+1,out.set k e18,rfl,rfl,⟨by omega,by rw [ho];exact mJ ‹x[k]? =some _›⟩,by omega⟩
 ·replace c0:=nq c0
  refine ⟨?_,trivial⟩
  ·rw [ho,mK hk (by omega)]
abbrev uN (x:aV):AV × List (Nat × Rs):=(.agg [.own 0],[(0,.arr 167 3 true (x.tables.map aP))])
abbrev aBP (x:aV):Prop:=cX Tryz.prog 34 [.agg [.sl 167 3 (x.tables.map aP)]] (uN x).1 (uN x).2
theorem aMW (x:aV) (hc:bH x≤1048576):aBP x:=by
 refine aX bG aR Tryz.func34 (by kernel_rfl) (cB (aAT x.tables)<| .fin [(0,600)]) (p:=(x.tables.map aP).length≤9223372036854775807→aFB x.tables∧x.tables.map aP=x.tables.map aP∧True) (by kernel_rfl) ?_
 intro n0
 simp only [List.length_map] at n0
 unfold bH at hc
 refine ⟨aPv x.tables (by first | omega | (have:=cTableSS_el ‹x[k]? =some _›;omega)),?_⟩
 exact ⟨rfl,trivial⟩
abbrev aED (x:bZ):AV × List (Nat × Rs):=(.agg [.p none (.str x.name),.own 0],[(0,.arr 3 1 true (x.vars.map intD))])
abbrev aJo (x:bZ):Prop:=cX Tryz.prog 77 [.agg [.str x.name,.sl 3 1 (x.vars.map intD)]] (aED x).1 (aED x).2
theorem aTf (x:bZ) (hc:hZ x≤1048576):aJo x:=by
 refine aX bG aR Tryz.func77 (by kernel_rfl) (cB (pN x.vars)<| .fin [(0,900)]) (p:=(x.vars.map intD).length≤9223372036854775807→rW x.vars∧x.name=x.name∧x.vars.map intD=x.vars.map intD∧True) (by kernel_rfl) ?_
 intro n0
 simp only [List.length_map] at n0
 unfold hZ at hc
 refine ⟨aDO x.vars (by first | omega | (have:=nG ‹x[k]? =some _›;omega)),?_⟩
 exact ⟨rfl,rfl,trivial⟩
abbrev aCL (x:List bZ):AV × List (Nat × Rs):=(.own 0,[(0,.arr 135 2 true (x.map aZ))])
abbrev aHs (x:List bZ):Prop:=cX Tryz.prog 38 [.one (.sl 135 2 (x.map aZ))] (aCL x).1 (aCL x).2
theorem aSZ (x:List bZ) (hc:jA x≤1048576):aHs x:=by
 refine aX bG aR Tryz.func38 (by kernel_rfl) (.len x.length<| .mk x.length [.str iZ.name,.sl 3 1 (iZ.vars.map intD)] ((List.replicate x.length iZ).map aZ)<| .loop (Nat × (List bZ)) (Q2 Nat (List bZ)) [3,4,8,9,10,11,12,13,14,15,16,17,18,19,20,21] [700,2000] (fun yy0=>[(3,.own 700),(4,vI (yy0.1:Int))]) (fun yy0=>[(700,some (.arr 135 2 true (yy0.2.map aZ)))]) (fun yy0=>yy0.1≤x.length∧yy0.2=x.take yy0.1++List.replicate (x.length - yy0.1) iZ) (fun yy0=>x.length - yy0.1) (fun yy0=> .len x.length<| .br (.elem _ aZ x (fun e18=>cB (aED e18)<| .len yy0.2.length<| .setm bZ aZ yy0.2 (fun s5_8=>e18) (fun s5_8=> .back [(700,700)]))) (.fin [(0,700)]))) (p:=(x.map aZ).length≤9223372036854775807→Lm aZ x∧(((x.length:Nat):Int)=((x.length:Nat):Int)∧((x.length:Nat):Int)=((x.length:Nat):Int)∧40*x.length≤281474976710656∧x.length≤9223372036854775807∧List.replicate x.length [.str iZ.name,.sl 3 1 (iZ.vars.map intD)]=(List.replicate x.length iZ).map aZ∧((∃(k:Nat) (out:List bZ),(0:Int)=(k:Int)∧(List.replicate x.length iZ).map aZ=out.map aZ∧k≤x.length∧out=x.take k++List.replicate (x.length - k) iZ)∧ ∀(k:Nat) (out:List bZ),(k≤x.length∧out=x.take k++List.replicate (x.length - k) iZ)→Lm aZ x∧(((decide ((k:Int)<((x.length:Nat):Int)))=true→0≤(k:Int)∧Em aZ x k fun e18=>aJo e18∧(0≤(k:Int)∧Lm aZ out∧(k:Int)<((out.length:Nat):Int)∧(out.map aZ=out.map aZ∧k<out.length∧ ∀s5_8,out[k]? =some s5_8→0+2≤(aZ s5_8).length∧(aZ s5_8).take 0++((aZ e18).drop 0).take 2++(aZ s5_8).drop (0+2)=aZ e18∧e18.name=e18.name∧e18.vars.map intD=e18.vars.map intD∧cC ((k:Int)+(1:Int))∧ ∃(k' :Nat) (out' :List bZ),((k:Int)+(1:Int))=(k' :Int)∧(out.set k e18).map aZ=out'.map aZ∧(k' ≤x.length∧out' =x.take k' ++List.replicate (x.length - k') iZ)∧x.length - k' <x.length - k)))∧((decide ((k:Int)<((x.length:Nat):Int)))=false→out.map aZ=x.map aZ∧True))))) (by kernel_rfl) ?_
 intro n0
 simp only [List.length_map] at n0
 refine ⟨List.length_map _,rfl,rfl,by have:=aGV x;omega,by have:=aGV x;omega,by first | (rw [List.map_replicate];done) | (rw [List.map_replicate];rfl),⟨0,List.replicate x.length iZ,rfl,rfl,Nat.zero_le _,by simp⟩,fun k out ⟨hk,ho⟩=>?_⟩
 have hl:out.length=x.length:=by rw [ho];exact oB hk
 refine ⟨List.length_map _,fun c0=>?_,fun c0=>?_⟩
 ·replace c0:=yq c0
  refine ⟨by omega,rfl,by omega,fun e18 h18=>?_⟩
  refine ⟨aTf e18 (by first | omega | (have:=aDh ‹x[k]? =some _›;omega)),by omega,List.length_map _,by omega,rfl,by omega,fun s5_8 hs5_8=>?_⟩
  refine ⟨Nat.le_of_ble_eq_true rfl,rfl,rfl,rfl,⟨by omega,by omega⟩,?_⟩
  exact ⟨k+1,out.set k e18,rfl,rfl,⟨by omega,by rw [ho];exact mJ ‹x[k]? =some _›⟩,by omega⟩
 ·replace c0:=nq c0
  refine ⟨?_,trivial⟩
  ·rw [ho,mK hk (by omega)]
abbrev pO (x:QueryD):AV × List (Nat × Rs):=(.agg [vI x.variableCount,.own 0],[(0,.arr 135 2 true (x.atoms.map aZ))])
abbrev tD (x:QueryD):Prop:=cX Tryz.prog 10 [.agg [.int .i64 x.variableCount,.sl 135 2 (x.atoms.map aZ)]] (pO x).1 (pO x).2
theorem aDP (x:QueryD) (hc:gF x≤1048576):tD x:=by
 refine aX bG aR Tryz.func10 (by kernel_rfl) (cB (aCL x.atoms)<| .fin [(0,900)]) (p:=(x.atoms.map aZ).length≤9223372036854775807→aHs x.atoms∧x.variableCount=x.variableCount∧x.atoms.map aZ=x.atoms.map aZ∧True) (by kernel_rfl) ?_
 intro n0
 simp only [List.length_map] at n0
 unfold gF at hc
 refine ⟨aSZ x.atoms (by first | omega | (have:=cAtomSS_el ‹x[k]? =some _›;omega)),?_⟩
 exact ⟨rfl,rfl,trivial⟩
abbrev rA (x:aG):AV × List (Nat × Rs):=(.agg [.own 0,.own 1,.own 2],[(0,.arr 3 1 true (x.columns.map intD)),(1,.arr 39 1 true (x.values.map aC)),(2,.arr 3 1 true (x.counts.map intD))])
abbrev xS (x:aG):Prop:=cX Tryz.prog 174 [.agg [.sl 3 1 (x.columns.map intD),.sl 39 1 (x.values.map aC),.sl 3 1 (x.counts.map intD)]] (rA x).1 (rA x).2
theorem aI3 (x:aG) (hc:bN x≤1048576):xS x:=by
 refine aX bG aR Tryz.func174 (by kernel_rfl) (cB (pN x.columns)<| cB (xC x.values)<| cB (pN x.counts)<| .fin [(0,600),(1,1000),(2,1400)]) (p:=(x.columns.map intD).length≤9223372036854775807→(x.values.map aC).length≤9223372036854775807→(x.counts.map intD).length≤9223372036854775807→rW x.columns∧aCJ x.values∧rW x.counts∧x.columns.map intD=x.columns.map intD∧x.values.map aC=x.values.map aC∧x.counts.map intD=x.counts.map intD∧True) (by kernel_rfl) ?_
 intro n0 n1 n2
 simp only [List.length_map] at n0 n1 n2
 unfold bN at hc
 refine ⟨aDO x.columns (by first | omega | (have:=nG ‹x[k]? =some _›;omega)),aMV x.values (by first | omega | (have:=cIntSSS_el ‹x[k]? =some _›;omega)),aDO x.counts (by first | omega | (have:=nG ‹x[k]? =some _›;omega)),?_⟩
 exact ⟨rfl,rfl,rfl,trivial⟩
abbrev pP (x:List aG):AV × List (Nat × Rs):=(.own 0,[(0,.arr 203 3 true (x.map aA))])
abbrev vQ (x:List aG):Prop:=cX Tryz.prog 145 [.one (.sl 203 3 (x.map aA))] (pP x).1 (pP x).2
theorem aHt (x:List aG) (hc:dD x≤1048576):vQ x:=by
 refine aX bG aR Tryz.func145 (by kernel_rfl) (.len x.length<| .mk x.length [.sl 3 1 (eV.columns.map intD),.sl 39 1 (eV.values.map aC),.sl 3 1 (eV.counts.map intD)] ((List.replicate x.length eV).map aA)<| .loop (Nat × (List aG)) (Q2 Nat (List aG)) [3,4,8,9,10,11,12,13,14,15,16,17,18,19,20,21] [700,2000,2001,2002] (fun yy0=>[(3,.own 700),(4,vI (yy0.1:Int))]) (fun yy0=>[(700,some (.arr 203 3 true (yy0.2.map aA)))]) (fun yy0=>yy0.1≤x.length∧yy0.2=x.take yy0.1++List.replicate (x.length - yy0.1) eV) (fun yy0=>x.length - yy0.1) (fun yy0=> .len x.length<| .br (.elem _ aA x (fun e18=>cB (rA e18)<| .len yy0.2.length<| .setm aG aA yy0.2 (fun s5_8=>e18) (fun s5_8=> .back [(700,700)]))) (.fin [(0,700)]))) (p:=(x.map aA).length≤9223372036854775807→Lm aA x∧(((x.length:Nat):Int)=((x.length:Nat):Int)∧((x.length:Nat):Int)=((x.length:Nat):Int)∧72*x.length≤281474976710656∧x.length≤9223372036854775807∧List.replicate x.length [.sl 3 1 (eV.columns.map intD),.sl 39 1 (eV.values.map aC),.sl 3 1 (eV.counts.map intD)]=(List.replicate x.length eV).map aA∧((∃(k:Nat) (out:List aG),(0:Int)=(k:Int)∧(List.replicate x.length eV).map aA=out.map aA∧k≤x.length∧out=x.take k++List.replicate (x.length - k) eV)∧ ∀(k:Nat) (out:List aG),(k≤x.length∧out=x.take k++List.replicate (x.length - k) eV)→Lm aA x∧(((decide ((k:Int)<((x.length:Nat):Int)))=true→0≤(k:Int)∧Em aA x k fun e18=>xS e18∧(0≤(k:Int)∧Lm aA out∧(k:Int)<((out.length:Nat):Int)∧(out.map aA=out.map aA∧k<out.length∧ ∀s5_8,out[k]? =some s5_8→0+3≤(aA s5_8).length∧(aA s5_8).take 0++((aA e18).drop 0).take 3++(aA s5_8).drop (0+3)=aA e18∧e18.columns.map intD=e18.columns.map intD∧e18.values.map aC=e18.values.map aC∧e18.counts.map intD=e18.counts.map intD∧cC ((k:Int)+(1:Int))∧ ∃(k' :Nat) (out' :List aG),((k:Int)+(1:Int))=(k' :Int)∧(out.set k e18).map aA=out'.map aA∧(k' ≤x.length∧out' =x.take k' ++List.replicate (x.length - k') eV)∧x.length - k' <x.length - k)))∧((decide ((k:Int)<((x.length:Nat):Int)))=false→out.map aA=x.map aA∧True))))) (by kernel_rfl) ?_
 intro n0
 simp only [List.length_map] at n0
 refine ⟨List.length_map _,rfl,rfl,by have:=gW x;omega,by have:=gW x;omega,by first | (rw [List.map_replicate];done) | (rw [List.map_replicate];rfl),⟨0,List.replicate x.length eV,rfl,rfl,Nat.zero_le _,by simp⟩,fun k out ⟨hk,ho⟩=>?_⟩
 have hl:out.length=x.length:=by rw [ho];exact oB hk
 refine ⟨List.length_map _,fun c0=>?_,fun c0=>?_⟩
 ·replace c0:=yq c0
  refine ⟨by omega,rfl,by omega,fun e18 h18=>?_⟩
  refine ⟨aI3 e18 (by first | omega | (have:=iG ‹x[k]? =some _›;omega)),by omega,List.length_map _,by omega,rfl,by omega,fun s5_8 hs5_8=>?_⟩
  refine ⟨Nat.le_of_ble_eq_true rfl,rfl,rfl,rfl,rfl,⟨by omega,by omega⟩,?_⟩
  exact ⟨k+1,out.set k e18,rfl,rfl,⟨by omega,by rw [ho];exact mJ ‹x[k]? =some _›⟩,by omega⟩
 ·replace c0:=nq c0
  refine ⟨?_,trivial⟩
  ·rw [ho,mK hk (by omega)]
abbrev rB (x:aB):AV × List (Nat × Rs):=(.agg [.p none (.str x.name),vI x.arity,vI x.rowCount,.own 0],[(0,.arr 203 3 true (x.groups.map aA))])
abbrev xT (x:aB):Prop:=cX Tryz.prog 110 [.agg [.str x.name,.int .i64 x.arity,.int .i64 x.rowCount,.sl 203 3 (x.groups.map aA)]] (rB x).1 (rB x).2
theorem aI4 (x:aB) (hc:bA x≤1048576):xT x:=by
 refine aX bG aR Tryz.func110 (by kernel_rfl) (cB (pP x.groups)<| .fin [(0,1500)]) (p:=(x.groups.map aA).length≤9223372036854775807→vQ x.groups∧x.name=x.name∧x.arity=x.arity∧x.rowCount=x.rowCount∧x.groups.map aA=x.groups.map aA∧True) (by kernel_rfl) ?_
 intro n0
 simp only [List.length_map] at n0
 unfold bA at hc
 refine ⟨aHt x.groups (by first | omega | (have:=cGroupStatsSS_el ‹x[k]? =some _›;omega)),?_⟩
 exact ⟨rfl,rfl,rfl,rfl,trivial⟩
abbrev pQ (x:List aB):AV × List (Nat × Rs):=(.own 0,[(0,.arr 161 4 true (x.map aD))])
abbrev vR (x:List aB):Prop:=cX Tryz.prog 74 [.one (.sl 161 4 (x.map aD))] (pQ x).1 (pQ x).2
theorem aHu (x:List aB) (hc:dK x≤1048576):vR x:=by
 refine aX bG aR Tryz.func74 (by kernel_rfl) (.len x.length<| .mk x.length [.str eB.name,.int .i64 eB.arity,.int .i64 eB.rowCount,.sl 203 3 (eB.groups.map aA)] ((List.replicate x.length eB).map aD)<| .loop (Nat × (List aB)) (Q2 Nat (List aB)) [3,4,8,9,10,11,12,13,14,15,16,17,18,19,20,21] [700,2000] (fun yy0=>[(3,.own 700),(4,vI (yy0.1:Int))]) (fun yy0=>[(700,some (.arr 161 4 true (yy0.2.map aD)))]) (fun yy0=>yy0.1≤x.length∧yy0.2=x.take yy0.1++List.replicate (x.length - yy0.1) eB) (fun yy0=>x.length - yy0.1) (fun yy0=> .len x.length<| .br (.elem _ aD x (fun e18=>cB (rB e18)<| .len yy0.2.length<| .setm aB aD yy0.2 (fun s5_8=>e18) (fun s5_8=> .back [(700,700)]))) (.fin [(0,700)]))) (p:=(x.map aD).length≤9223372036854775807→Lm aD x∧(((x.length:Nat):Int)=((x.length:Nat):Int)∧((x.length:Nat):Int)=((x.length:Nat):Int)∧56*x.length≤281474976710656∧x.length≤9223372036854775807∧List.replicate x.length [.str eB.name,.int .i64 eB.arity,.int .i64 eB.rowCount,.sl 203 3 (eB.groups.map aA)]=(List.replicate x.length eB).map aD∧((∃(k:Nat) (out:List aB),(0:Int)=(k:Int)∧(List.replicate x.length eB).map aD=out.map aD∧k≤x.length∧out=x.take k++List.replicate (x.length - k) eB)∧ ∀(k:Nat) (out:List aB),(k≤x.length∧out=x.take k++List.replicate (x.length - k) eB)→Lm aD x∧(((decide ((k:Int)<((x.length:Nat):Int)))=true→0≤(k:Int)∧Em aD x k fun e18=>xT e18∧(0≤(k:Int)∧Lm aD out∧(k:Int)<((out.length:Nat):Int)∧(out.map aD=out.map aD∧k<out.length∧ ∀s5_8,out[k]? =some s5_8→0+4≤(aD s5_8).length∧(aD s5_8).take 0++((aD e18).drop 0).take 4++(aD s5_8).drop (0+4)=aD e18∧e18.name=e18.name∧e18.arity=e18.arity∧e18.rowCount=e18.rowCount∧e18.groups.map aA=e18.groups.map aA∧cC ((k:Int)+(1:Int))∧ ∃(k' :Nat) (out' :List aB),((k:Int)+(1:Int))=(k' :Int)∧(out.set k e18).map aD=out'.map aD∧(k' ≤x.length∧out' =x.take k' ++List.replicate (x.length - k') eB)∧x.length - k' <x.length - k)))∧((decide ((k:Int)<((x.length:Nat):Int)))=false→out.map aD=x.map aD∧True))))) (by kernel_rfl) ?_
 intro n0
 simp only [List.length_map] at n0
 refine ⟨List.length_map _,rfl,rfl,by have:=uY x;omega,by have:=uY x;omega,by first | (rw [List.map_replicate];done) | (rw [List.map_replicate];rfl),⟨0,List.replicate x.length eB,rfl,rfl,Nat.zero_le _,by simp⟩,fun k out ⟨hk,ho⟩=>?_⟩
 have hl:out.length=x.length:=by rw [ho];exact oB hk
 refine ⟨List.length_map _,fun c0=>?_,fun c0=>?_⟩
 ·replace c0:=yq c0
  refine ⟨by omega,rfl,by omega,fun e18 h18=>?_⟩
  refine ⟨aI4 e18 (by first | omega | (have:=lE ‹x[k]? =some _›;omega)),by omega,List.length_map _,by omega,rfl,by omega,fun s5_8 hs5_8=>?_⟩
  refine ⟨Nat.le_of_ble_eq_true rfl,rfl,rfl,rfl,rfl,rfl,⟨by omega,by omega⟩,?_⟩
  exact ⟨k+1,out.set k e18,rfl,rfl,⟨by omega,by rw [ho];exact mJ ‹x[k]? =some _›⟩,by omega⟩
 ·replace c0:=nq c0
  refine ⟨?_,trivial⟩
  ·rw [ho,mK hk (by omega)]
abbrev tE (x:cD):AV × List (Nat × Rs):=(.agg [vI x.version,.own 0],[(0,.arr 161 4 true (x.tables.map aD))])
abbrev aAU (x:cD):Prop:=cX Tryz.prog 35 [.agg [.int .i64 x.version,.sl 161 4 (x.tables.map aD)]] (tE x).1 (tE x).2
theorem aKc (x:cD) (hc:bO x≤1048576):aAU x:=by
 refine aX bG aR Tryz.func35 (by kernel_rfl) (cB (pQ x.tables)<| .fin [(0,900)]) (p:=(x.tables.map aD).length≤9223372036854775807→vR x.tables∧x.version=x.version∧x.tables.map aD=x.tables.map aD∧True) (by kernel_rfl) ?_
 intro n0
 simp only [List.length_map] at n0
 unfold bO at hc
 refine ⟨aHu x.tables (by first | omega | (have:=cTableStatsSS_el ‹x[k]? =some _›;omega)),?_⟩
 exact ⟨rfl,rfl,trivial⟩
abbrev rC (x:aN):AV × List (Nat × Rs):=(.agg [.p none (.str x.name),.own 0,vI x.dst],[(0,.arr 3 1 true (x.src.map intD))])
abbrev xU (x:aN):Prop:=cX Tryz.prog 75 [.agg [.str x.name,.sl 3 1 (x.src.map intD),.int .i64 x.dst]] (rC x).1 (rC x).2
theorem aI5 (x:aN) (hc:cI x≤1048576):xU x:=by
 refine aX bG aR Tryz.func75 (by kernel_rfl) (cB (pN x.src)<| .fin [(0,900)]) (p:=(x.src.map intD).length≤9223372036854775807→rW x.src∧x.name=x.name∧x.dst=x.dst∧x.src.map intD=x.src.map intD∧True) (by kernel_rfl) ?_
 intro n0
 simp only [List.length_map] at n0
 unfold cI at hc
 refine ⟨aDO x.src (by first | omega | (have:=nG ‹x[k]? =some _›;omega)),?_⟩
 exact ⟨rfl,rfl,rfl,trivial⟩
abbrev pR (x:List aN):AV × List (Nat × Rs):=(.own 0,[(0,.arr 131 3 true (x.map aJ))])
abbrev vS (x:List aN):Prop:=cX Tryz.prog 36 [.one (.sl 131 3 (x.map aJ))] (pR x).1 (pR x).2
theorem aHv (x:List aN) (hc:bY x≤1048576):vS x:=by
 refine aX bG aR Tryz.func36 (by kernel_rfl) (.len x.length<| .mk x.length [.str fU.name,.sl 3 1 (fU.src.map intD),.int .i64 fU.dst] ((List.replicate x.length fU).map aJ)<| .loop (Nat × (List aN)) (Q2 Nat (List aN)) [3,4,8,9,10,11,12,13,14,15,16,17,18,19,20,21] [700,2000] (fun yy0=>[(3,.own 700),(4,vI (yy0.1:Int))]) (fun yy0=>[(700,some (.arr 131 3 true (yy0.2.map aJ)))]) (fun yy0=>yy0.1≤x.length∧yy0.2=x.take yy0.1++List.replicate (x.length - yy0.1) fU) (fun yy0=>x.length - yy0.1) (fun yy0=> .len x.length<| .br (.elem _ aJ x (fun e18=>cB (rC e18)<| .len yy0.2.length<| .setm aN aJ yy0.2 (fun s5_8=>e18) (fun s5_8=> .back [(700,700)]))) (.fin [(0,700)]))) (p:=(x.map aJ).length≤9223372036854775807→Lm aJ x∧(((x.length:Nat):Int)=((x.length:Nat):Int)∧((x.length:Nat):Int)=((x.length:Nat):Int)∧48*x.length≤281474976710656∧x.length≤9223372036854775807∧List.replicate x.length [.str fU.name,.sl 3 1 (fU.src.map intD),.int .i64 fU.dst]=(List.replicate x.length fU).map aJ∧((∃(k:Nat) (out:List aN),(0:Int)=(k:Int)∧(List.replicate x.length fU).map aJ=out.map aJ∧k≤x.length∧out=x.take k++List.replicate (x.length - k) fU)∧ ∀(k:Nat) (out:List aN),(k≤x.length∧out=x.take k++List.replicate (x.length - k) fU)→Lm aJ x∧(((decide ((k:Int)<((x.length:Nat):Int)))=true→0≤(k:Int)∧Em aJ x k fun e18=>xU e18∧(0≤(k:Int)∧Lm aJ out∧(k:Int)<((out.length:Nat):Int)∧(out.map aJ=out.map aJ∧k<out.length∧ ∀s5_8,out[k]? =some s5_8→0+3≤(aJ s5_8).length∧(aJ s5_8).take 0++((aJ e18).drop 0).take 3++(aJ s5_8).drop (0+3)=aJ e18∧e18.name=e18.name∧e18.src.map intD=e18.src.map intD∧e18.dst=e18.dst∧cC ((k:Int)+(1:Int))∧ ∃(k' :Nat) (out' :List aN),((k:Int)+(1:Int))=(k' :Int)∧(out.set k e18).map aJ=out'.map aJ∧(k' ≤x.length∧out' =x.take k' ++List.replicate (x.length - k') fU)∧x.length - k' <x.length - k)))∧((decide ((k:Int)<((x.length:Nat):Int)))=false→out.map aJ=x.map aJ∧True))))) (by kernel_rfl) ?_
 intro n0
 simp only [List.length_map] at n0
 refine ⟨List.length_map _,rfl,rfl,by have:=uZ x;omega,by have:=uZ x;omega,by first | (rw [List.map_replicate];done) | (rw [List.map_replicate];rfl),⟨0,List.replicate x.length fU,rfl,rfl,Nat.zero_le _,by simp⟩,fun k out ⟨hk,ho⟩=>?_⟩
 have hl:out.length=x.length:=by rw [ho];exact oB hk
 refine ⟨List.length_map _,fun c0=>?_,fun c0=>?_⟩
 ·replace c0:=yq c0
  refine ⟨by omega,rfl,by omega,fun e18 h18=>?_⟩
  refine ⟨aI5 e18 (by first | omega | (have:=aFL ‹x[k]? =some _›;omega)),by omega,List.length_map _,by omega,rfl,by omega,fun s5_8 hs5_8=>?_⟩
  refine ⟨Nat.le_of_ble_eq_true rfl,rfl,rfl,rfl,rfl,⟨by omega,by omega⟩,?_⟩
  exact ⟨k+1,out.set k e18,rfl,rfl,⟨by omega,by rw [ho];exact mJ ‹x[k]? =some _›⟩,by omega⟩
 ·replace c0:=nq c0
  refine ⟨?_,trivial⟩
  ·rw [ho,mK hk (by omega)]
abbrev tF (x:aL):AV × List (Nat × Rs):=(.agg [.p none (.str x.name),vI x.column,.p none (.str x.into),vI x.intoColumn],[])
abbrev aAV (x:aL):Prop:=cX Tryz.prog 76 [.agg [.str x.name,.int .i64 x.column,.str x.into,.int .i64 x.intoColumn]] (tF x).1 (tF x).2
theorem aKd (x:aL) (hc:cU x≤1048576):aAV x:=by
 refine aX bG aR Tryz.func76 (by kernel_rfl) (.fin []) (p:=x.name=x.name∧x.column=x.column∧x.into=x.into∧x.intoColumn=x.intoColumn∧True) (by kernel_rfl) ?_
 unfold cU at hc
 exact ⟨rfl,rfl,rfl,rfl,trivial⟩
abbrev rD (x:List aL):AV × List (Nat × Rs):=(.own 0,[(0,.arr 133 4 true (x.map aM))])
abbrev xV (x:List aL):Prop:=cX Tryz.prog 37 [.one (.sl 133 4 (x.map aM))] (rD x).1 (rD x).2
theorem aI6 (x:List aL) (hc:cR x≤1048576):xV x:=by
 refine aX bG aR Tryz.func37 (by kernel_rfl) (.len x.length<| .mk x.length [.str fR.name,.int .i64 fR.column,.str fR.into,.int .i64 fR.intoColumn] ((List.replicate x.length fR).map aM)<| .loop (Nat × (List aL)) (Q2 Nat (List aL)) [3,4,8,9,10,11,12,13,14,15,16,17,18,19,20,21] [700] (fun yy0=>[(3,.own 700),(4,vI (yy0.1:Int))]) (fun yy0=>[(700,some (.arr 133 4 true (yy0.2.map aM)))]) (fun yy0=>yy0.1≤x.length∧yy0.2=x.take yy0.1++List.replicate (x.length - yy0.1) fR) (fun yy0=>x.length - yy0.1) (fun yy0=> .len x.length<| .br (.elem _ aM x (fun e18=>cB (tF e18)<| .len yy0.2.length<| .set aL aM yy0.2 (fun s5_8=>e18) (fun s5_8=> .back [(700,700)]))) (.fin [(0,700)]))) (p:=(x.map aM).length≤9223372036854775807→Lm aM x∧(((x.length:Nat):Int)=((x.length:Nat):Int)∧((x.length:Nat):Int)=((x.length:Nat):Int)∧48*x.length≤281474976710656∧x.length≤9223372036854775807∧List.replicate x.length [.str fR.name,.int .i64 fR.column,.str fR.into,.int .i64 fR.intoColumn]=(List.replicate x.length fR).map aM∧((∃(k:Nat) (out:List aL),(0:Int)=(k:Int)∧(List.replicate x.length fR).map aM=out.map aM∧k≤x.length∧out=x.take k++List.replicate (x.length - k) fR)∧ ∀(k:Nat) (out:List aL),(k≤x.length∧out=x.take k++List.replicate (x.length - k) fR)→Lm aM x∧(((decide ((k:Int)<((x.length:Nat):Int)))=true→0≤(k:Int)∧Em aM x k fun e18=>aAV e18∧(0≤(k:Int)∧Lm aM out∧(k:Int)<((out.length:Nat):Int)∧(out.map aM=out.map aM∧k<out.length∧ ∀s5_8,out[k]? =some s5_8→dT (aM s5_8)=true∧0+4≤(aM s5_8).length∧(aM s5_8).take 0++[.str e18.name,.int .i64 e18.column,.str e18.into,.int .i64 e18.intoColumn]++(aM s5_8).drop (0+4)=aM e18∧cC ((k:Int)+(1:Int))∧ ∃(k' :Nat) (out' :List aL),((k:Int)+(1:Int))=(k' :Int)∧(out.set k e18).map aM=out'.map aM∧(k' ≤x.length∧out' =x.take k' ++List.replicate (x.length - k') fR)∧x.length - k' <x.length - k)))∧((decide ((k:Int)<((x.length:Nat):Int)))=false→out.map aM=x.map aM∧True))))) (by kernel_rfl) ?_
 intro n0
 simp only [List.length_map] at n0
 refine ⟨List.length_map _,rfl,rfl,by have:=fK x;omega,by have:=fK x;omega,by first | (rw [List.map_replicate];done) | (rw [List.map_replicate];rfl),⟨0,List.replicate x.length fR,rfl,rfl,Nat.zero_le _,by simp⟩,fun k out ⟨hk,ho⟩=>?_⟩
 have hl:out.length=x.length:=by rw [ho];exact oB hk
 refine ⟨List.length_map _,fun c0=>?_,fun c0=>?_⟩
 ·replace c0:=yq c0
  refine ⟨by omega,rfl,by omega,fun e18 h18=>?_⟩
  refine ⟨aKd e18 (by first | omega | (have:=aGX ‹x[k]? =some _›;omega)),by omega,List.length_map _,by omega,rfl,by omega,fun s5_8 hs5_8=>⟨rfl,Nat.le_of_ble_eq_true rfl,rfl,?_⟩⟩
  refine ⟨⟨by omega,by omega⟩,?_⟩
  exact ⟨k+1,out.set k e18,rfl,rfl,⟨by omega,by rw [ho];exact mJ ‹x[k]? =some _›⟩,by omega⟩
 ·replace c0:=nq c0
  refine ⟨?_,trivial⟩
  ·rw [ho,mK hk (by omega)]
abbrev pS (x:StoreD):AV × List (Nat × Rs):=(.agg [.own 0,vI x.catalogue.version,.own 1,.own 2,.own 3],[(0,.arr 167 3 true (x.database.tables.map aP)),(1,.arr 161 4 true (x.catalogue.tables.map aD)),(2,.arr 131 3 true (x.dependencies.map aJ)),(3,.arr 133 4 true (x.inclusions.map aM))])
abbrev tG (x:StoreD):Prop:=cX Tryz.prog 9 [.agg [.sl 167 3 (x.database.tables.map aP),.int .i64 x.catalogue.version,.sl 161 4 (x.catalogue.tables.map aD),.sl 131 3 (x.dependencies.map aJ),.sl 133 4 (x.inclusions.map aM)]] (pS x).1 (pS x).2
theorem aDQ (x:StoreD) (hc:dU x≤1048576):tG x:=by
 refine aX bG aR Tryz.func9 (by kernel_rfl) (cB (uN x.database)<| cB (tE x.catalogue)<| cB (pR x.dependencies)<| cB (rD x.inclusions)<| .fin [(0,600),(1,1000),(2,1400),(3,1800)]) (p:=(x.database.tables.map aP).length≤9223372036854775807→(x.catalogue.tables.map aD).length≤9223372036854775807→(x.dependencies.map aJ).length≤9223372036854775807→(x.inclusions.map aM).length≤9223372036854775807→aBP x.database∧aAU x.catalogue∧vS x.dependencies∧xV x.inclusions∧x.catalogue.version=x.catalogue.version∧x.database.tables.map aP=x.database.tables.map aP∧x.catalogue.tables.map aD=x.catalogue.tables.map aD∧x.dependencies.map aJ=x.dependencies.map aJ∧x.inclusions.map aM=x.inclusions.map aM∧True) (by kernel_rfl) ?_
 intro n0 n1 n2 n3
 simp only [List.length_map] at n0 n1 n2 n3
 unfold dU at hc
 refine ⟨aMW x.database (by first | omega | (have:=cDatabaseS_el ‹x[k]? =some _›;omega)),aKc x.catalogue (by first | omega | (have:=cCatalogueS_el ‹x[k]? =some _›;omega)),aHv x.dependencies (by first | omega | (have:=cDependencySS_el ‹x[k]? =some _›;omega)),aI6 x.inclusions (by first | omega | (have:=cInclusionSS_el ‹x[k]? =some _›;omega)),?_⟩
 exact ⟨rfl,rfl,rfl,rfl,rfl,trivial⟩
abbrev aBQ (x:RationalD):Prop:=cX Tryz.prog 23 [.agg [.int .i64 x.num,.int .i64 x.den]] (.agg [vI x.num,vI x.den]) []
theorem aMX (x:RationalD):aBQ x:=by
 refine aX bG aR Tryz.func23 (by kernel_rfl) (.fin []) (p:=x.num=x.num∧x.den=x.den∧True) (by kernel_rfl) ?_
 exact ⟨rfl,rfl,trivial⟩
abbrev kQ (x:List RationalD):AV × List (Nat × Rs):=(.own 0,[(0,.arr 70 2 true (x.map aW))])
abbrev mF (x:List RationalD):Prop:=cX Tryz.prog 11 [.one (.sl 70 2 (x.map aW))] (kQ x).1 (kQ x).2
theorem rP (x:List RationalD) (hc:gK x≤1048576):mF x:=by
 refine aX bG aR Tryz.func11 (by kernel_rfl) (.len x.length<| .mk x.length [.int .i64 iV.num,.int .i64 iV.den] ((List.replicate x.length iV).map aW)<| .loop (Nat × (List RationalD)) (Q2 Nat (List RationalD)) [3,4,8,9,10,11,12,13,14,15,16,17,18,19,20,21] [700] (fun yy0=>[(3,.own 700),(4,vI (yy0.1:Int))]) (fun yy0=>[(700,some (.arr 70 2 true (yy0.2.map aW)))]) (fun yy0=>yy0.1≤x.length∧yy0.2=x.take yy0.1++List.replicate (x.length - yy0.1) iV) (fun yy0=>x.length - yy0.1) (fun yy0=> .len x.length<| .br (.elem _ aW x (fun e18=> .call (.agg [vI e18.num,vI e18.den]) []<| .len yy0.2.length<| .set RationalD aW yy0.2 (fun s5_8=>e18) (fun s5_8=> .back [(700,700)]))) (.fin [(0,700)]))) (p:=(x.map aW).length≤9223372036854775807→Lm aW x∧(((x.length:Nat):Int)=((x.length:Nat):Int)∧((x.length:Nat):Int)=((x.length:Nat):Int)∧16*x.length≤281474976710656∧x.length≤9223372036854775807∧List.replicate x.length [.int .i64 iV.num,.int .i64 iV.den]=(List.replicate x.length iV).map aW∧((∃(k:Nat) (out:List RationalD),(0:Int)=(k:Int)∧(List.replicate x.length iV).map aW=out.map aW∧k≤x.length∧out=x.take k++List.replicate (x.length - k) iV)∧ ∀(k:Nat) (out:List RationalD),(k≤x.length∧out=x.take k++List.replicate (x.length - k) iV)→Lm aW x∧(((decide ((k:Int)<((x.length:Nat):Int)))=true→0≤(k:Int)∧Em aW x k fun e18=>aBQ e18∧(0≤(k:Int)∧Lm aW out∧(k:Int)<((out.length:Nat):Int)∧(out.map aW=out.map aW∧k<out.length∧ ∀s5_8,out[k]? =some s5_8→dT (aW s5_8)=true∧0+2≤(aW s5_8).length∧(aW s5_8).take 0++[.int .i64 e18.num,.int .i64 e18.den]++(aW s5_8).drop (0+2)=aW e18∧cC ((k:Int)+(1:Int))∧ ∃(k' :Nat) (out' :List RationalD),((k:Int)+(1:Int))=(k' :Int)∧(out.set k e18).map aW=out'.map aW∧(k' ≤x.length∧out' =x.take k' ++List.replicate (x.length - k') iV)∧x.length - k' <x.length - k)))∧((decide ((k:Int)<((x.length:Nat):Int)))=false→out.map aW=x.map aW∧True))))) (by kernel_rfl) ?_
 intro n0
 simp only [List.length_map] at n0
 refine ⟨List.length_map _,rfl,rfl,by have:=zE x;omega,by have:=zE x;omega,by first | (rw [List.map_replicate];done) | (rw [List.map_replicate];rfl),⟨0,List.replicate x.length iV,rfl,rfl,Nat.zero_le _,by simp⟩,fun k out ⟨hk,ho⟩=>?_⟩
 have hl:out.length=x.length:=by rw [ho];exact oB hk
 refine ⟨List.length_map _,fun c0=>?_,fun c0=>?_⟩
 ·replace c0:=yq c0
  refine ⟨by omega,rfl,by omega,fun e18 h18=>?_⟩
  refine ⟨aMX e18,by omega,List.length_map _,by omega,rfl,by omega,fun s5_8 hs5_8=>⟨rfl,Nat.le_of_ble_eq_true rfl,rfl,?_⟩⟩
  refine ⟨⟨by omega,by omega⟩,?_⟩
  exact ⟨k+1,out.set k e18,rfl,rfl,⟨by omega,by rw [ho];exact mJ ‹x[k]? =some _›⟩,by omega⟩
 ·replace c0:=nq c0
  refine ⟨?_,trivial⟩
  ·rw [ho,mK hk (by omega)]
end Go.Proofs.YtdfebigfnjfgpaaGreat
