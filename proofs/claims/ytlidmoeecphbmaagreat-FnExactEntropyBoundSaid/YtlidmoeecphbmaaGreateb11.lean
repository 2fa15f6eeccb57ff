/-
  Contracts and plain laws, joined: part 12.
-/
import Derived.Test.YtlidmoeecphbmaaGreateb3
import Derived.Test.YtlidmoeecphbmaaGreateb10
import Derived.Test.YtlidmoeecphbmaaGreateb0
namespace Go.Proofs.YtlidmoeecphbmaaGreat
open Go.ChangeShapes Go.WideShapes Go.ChangeAt Go.RowKit
set_option linter.unusedVariables false
set_option linter.unusedSimpArgs false
set_option maxRecDepth 100000
set_option maxHeartbeats 4000000
abbrev oS (x:List Int):AV × List (Nat × Rs):=(.own 0,[(0,.arr 3 1 true (x.map intD))])
abbrev qR (x:List Int):Prop:=cH Tryz.prog 118 [.one (.sl 3 1 (x.map intD))] (oS x).1 (oS x).2
theorem aDA (x:List Int)(hc:cG x≤1048576):qR x:=by
 refine aW bH aO Tryz.func118 (by kernel_rfl) (.len x.length<| .mk x.length [.int .i64 (0:Int)] ((List.replicate x.length (0:Int)).map intD)<| .loop (Nat × (List Int)) (Q2 Nat (List Int)) ([3,4]++rg 8 13) [700] (fun yy0=>[(3,.own 700),(4,vI (yy0.1:Int))]) (fun yy0=>[(700,some (.arr 3 1 true (yy0.2.map intD)))]) (fun yy0=>yy0.1≤x.length∧yy0.2=x.take yy0.1++List.replicate (x.length - yy0.1) (0:Int)) (fun yy0=>x.length - yy0.1) (fun yy0=> .len x.length<| .br (.elem _ intD x (fun e18=> .len yy0.2.length<| .set Int intD yy0.2 (fun s5_7=>e18) (fun s5_7=> .back [(700,700)]))) (.fin [(0,700)]))) (p:=(x.map intD).length≤9223372036854775807→Lm intD x∧((x.length:Int)=(x.length:Int)∧(x.length:Int)=(x.length:Int)∧8*x.length≤281474976710656∧x.length≤9223372036854775807∧List.replicate x.length [.int .i64 (0:Int)]=(List.replicate x.length (0:Int)).map intD∧((∃(k:Nat) (out:List Int),0=(k:Int)∧(List.replicate x.length (0:Int)).map intD=out.map intD∧k≤x.length∧out=x.take k++List.replicate (x.length - k) (0:Int))∧ ∀(k:Nat) (out:List Int),(k≤x.length∧out=x.take k++List.replicate (x.length - k) (0:Int))→Lm intD x∧Br ((k:Int)<(x.length:Int)) (0≤(k:Int)∧Em intD x k fun e18=>0≤(k:Int)∧Lm intD out∧(k:Int)<(out.length:Int)∧(out.map intD=out.map intD∧k<out.length∧ ∀s5_7,out[k]? =some s5_7→bW (intD s5_7)=true∧0+1≤(intD s5_7).length∧(intD s5_7).take 0++[.int .i64 e18]++(intD s5_7).drop (0+1)=intD e18∧bO ((k:Int)+1)∧ ∃(k' :Nat) (out' :List Int),((k:Int)+1)=(k' :Int)∧(out.set k e18).map intD=out'.map intD∧(k' ≤x.length∧out' =x.take k' ++List.replicate (x.length - k') (0:Int))∧x.length - k' <x.length - k)) (out.map intD=x.map intD∧True)))) (by kernel_rfl) ?_
 intro n0
 simp only[List.length_map] at n0
 refine⟨List.length_map _,rfl,rfl,by have:=aJ7 x;omega,by have:=aJ7 x;omega,by (rw[List.map_replicate];done),⟨0,List.replicate x.length (0:Int),rfl,rfl,Nat.zero_le _,by simp⟩,fun k out ⟨hk,ho⟩=>?_⟩
 have hl:out.length=x.length:=by rw[ho];exact pR hk
 refine⟨List.length_map _,dd (fun c0=>?_) fun c0=>?_⟩
 ·refine⟨by omega,rfl,by omega,fun e18 h18=>?_⟩
  refine⟨by omega,List.length_map _,by omega,rfl,by omega,fun s5_7 hs5_7=>⟨rfl,Nat.le_of_ble_eq_true rfl,rfl,?_⟩⟩
  refine⟨⟨by omega,by omega⟩,?_⟩
  exact⟨k+1,out.set k e18,rfl,rfl,⟨by omega,by rw[ho];exact mQ ‹x[k]? =some _›⟩,by omega⟩
 ·refine⟨?_,trivial⟩
  ·rw[ho,mR hk (by omega)]
abbrev wB (x:List (List Int)):AV × List (Nat × Rs):=(.own 0,[(0,.arr 91 1 true (x.map aC))])
abbrev aBu (x:List (List Int)):Prop:=cH Tryz.prog 173 [.one (.sl 91 1 (x.map aC))] (wB x).1 (wB x).2
theorem aNj (x:List (List Int))(hc:cT x≤1048576):aBu x:=by
 refine aW bH aO Tryz.func173 (by kernel_rfl) (.len x.length<| .mk x.length [.sl 3 1 (([]:List Int).map intD)] ((List.replicate x.length ([]:List Int)).map aC)<| .loop (Nat × (List (List Int))) (Q2 Nat (List (List Int))) ([3,4]++rg 8 14) [700,2000] (fun yy0=>[(3,.own 700),(4,vI (yy0.1:Int))]) (fun yy0=>[(700,some (.arr 91 1 true (yy0.2.map aC)))]) (fun yy0=>yy0.1≤x.length∧yy0.2=x.take yy0.1++List.replicate (x.length - yy0.1) ([]:List Int)) (fun yy0=>x.length - yy0.1) (fun yy0=> .len x.length<| .br (.elem _ aC x (fun e18=>bL (oS e18)<| .len yy0.2.length<| .setm (List Int) aC yy0.2 (fun s5_8=>e18) (fun s5_8=> .back [(700,700)]))) (.fin [(0,700)]))) (p:=(x.map aC).length≤9223372036854775807→Lm aC x∧((x.length:Int)=(x.length:Int)∧(x.length:Int)=(x.length:Int)∧24*x.length≤281474976710656∧x.length≤9223372036854775807∧List.replicate x.length [.sl 3 1 (([]:List Int).map intD)]=(List.replicate x.length ([]:List Int)).map aC∧((∃(k:Nat) (out:List (List Int)),0=(k:Int)∧(List.replicate x.length ([]:List Int)).map aC=out.map aC∧k≤x.length∧out=x.take k++List.replicate (x.length - k) ([]:List Int))∧ ∀(k:Nat) (out:List (List Int)),(k≤x.length∧out=x.take k++List.replicate (x.length - k) ([]:List Int))→Lm aC x∧Br ((k:Int)<(x.length:Int)) (0≤(k:Int)∧Em aC x k fun e18=>qR e18∧(0≤(k:Int)∧Lm aC out∧(k:Int)<(out.length:Int)∧(out.map aC=out.map aC∧k<out.length∧ ∀s5_8,out[k]? =some s5_8→0+1≤(aC s5_8).length∧(aC s5_8).take 0++((aC e18).drop 0).take 1++(aC s5_8).drop (0+1)=aC e18∧e18.map intD=e18.map intD∧bO ((k:Int)+1)∧ ∃(k' :Nat) (out' :List (List Int)),((k:Int)+1)=(k' :Int)∧(out.set k e18).map aC=out'.map aC∧(k' ≤x.length∧out' =x.take k' ++List.replicate (x.length - k') ([]:List Int))∧x.length - k' <x.length - k))) (out.map aC=x.map aC∧True)))) (by kernel_rfl) ?_
 intro n0
 simp only[List.length_map] at n0
 refine⟨List.length_map _,rfl,rfl,by have:=fJ x;omega,by have:=fJ x;omega,by (rw[List.map_replicate];rfl),⟨0,List.replicate x.length ([]:List Int),rfl,rfl,Nat.zero_le _,by simp⟩,fun k out ⟨hk,ho⟩=>?_⟩
 have hl:out.length=x.length:=by rw[ho];exact pR hk
 refine⟨List.length_map _,dd (fun c0=>?_) fun c0=>?_⟩
 ·refine⟨by omega,rfl,by omega,fun e18 h18=>?_⟩
  refine⟨aDA e18 (by (have:=aAW ‹x[k]? =some _›;omega)),by omega,List.length_map _,by omega,rfl,by omega,fun s5_8 hs5_8=>?_⟩
  refine⟨Nat.le_of_ble_eq_true rfl,rfl,rfl,⟨by omega,by omega⟩,?_⟩
  exact⟨k+1,out.set k e18,rfl,rfl,⟨by omega,by rw[ho];exact mQ ‹x[k]? =some _›⟩,by omega⟩
 ·refine⟨?_,trivial⟩
  ·rw[ho,mR hk (by omega)]
abbrev aBv (x:bA):AV × List (Nat × Rs):=(.agg [.p none (.str x.name),vI x.arity,.own 0],[(0,.arr 91 1 true (x.rows.map aC))])
abbrev aIA (x:bA):Prop:=cH Tryz.prog 116 [.agg [.str x.name,.int .i64 x.arity,.sl 91 1 (x.rows.map aC)]] (aBv x).1 (aBv x).2
theorem aUz (x:bA)(hc:gG x≤1048576):aIA x:=by
 refine aW bH aO Tryz.func116 (by kernel_rfl) (bL (wB x.rows)<| .fin [(0,1200)]) (p:=(x.rows.map aC).length≤9223372036854775807→aBu x.rows∧x.name=x.name∧x.arity=x.arity∧x.rows.map aC=x.rows.map aC∧True) (by kernel_rfl) ?_
 intro n0
 simp only[List.length_map] at n0
 unfold gG at hc
 refine⟨aNj x.rows (by omega),?_⟩
 exact⟨rfl,rfl,rfl,trivial⟩
abbrev aAD (x:List bA):AV × List (Nat × Rs):=(.own 0,[(0,.arr 142 3 true (x.map aT))])
abbrev aEr (x:List bA):Prop:=cH Tryz.prog 62 [.one (.sl 142 3 (x.map aT))] (aAD x).1 (aAD x).2
theorem aRz (x:List bA)(hc:lB x≤1048576):aEr x:=by
 refine aW bH aO Tryz.func62 (by kernel_rfl) (.len x.length<| .mk x.length [.str gH.name,.int .i64 gH.arity,.sl 91 1 (gH.rows.map aC)] ((List.replicate x.length gH).map aT)<| .loop (Nat × (List bA)) (Q2 Nat (List bA)) ([3,4]++rg 8 14) [700,2000] (fun yy0=>[(3,.own 700),(4,vI (yy0.1:Int))]) (fun yy0=>[(700,some (.arr 142 3 true (yy0.2.map aT)))]) (fun yy0=>yy0.1≤x.length∧yy0.2=x.take yy0.1++List.replicate (x.length - yy0.1) gH) (fun yy0=>x.length - yy0.1) (fun yy0=> .len x.length<| .br (.elem _ aT x (fun e18=>bL (aBv e18)<| .len yy0.2.length<| .setm bA aT yy0.2 (fun s5_8=>e18) (fun s5_8=> .back [(700,700)]))) (.fin [(0,700)]))) (p:=(x.map aT).length≤9223372036854775807→Lm aT x∧((x.length:Int)=(x.length:Int)∧(x.length:Int)=(x.length:Int)∧48*x.length≤281474976710656∧x.length≤9223372036854775807∧List.replicate x.length [.str gH.name,.int .i64 gH.arity,.sl 91 1 (gH.rows.map aC)]=(List.replicate x.length gH).map aT∧((∃(k:Nat) (out:List bA),0=(k:Int)∧(List.replicate x.length gH).map aT=out.map aT∧k≤x.length∧out=x.take k++List.replicate (x.length - k) gH)∧ ∀(k:Nat) (out:List bA),(k≤x.length∧out=x.take k++List.replicate (x.length - k) gH)→Lm aT x∧Br ((k:Int)<(x.length:Int)) (0≤(k:Int)∧Em aT x k fun e18=>aIA e18∧(0≤(k:Int)∧Lm aT out∧(k:Int)<(out.length:Int)∧(out.map aT=out.map aT∧k<out.length∧ ∀s5_8,out[k]? =some s5_8→0+3≤(aT s5_8).length∧(aT s5_8).take 0++((aT e18).drop 0).take 3++(aT s5_8).drop (0+3)=aT e18∧e18.name=e18.name∧e18.arity=e18.arity∧e18.rows.map aC=e18.rows.map aC∧bO ((k:Int)+1)∧ ∃(k' :Nat) (out' :List bA),((k:Int)+1)=(k' :Int)∧(out.set k e18).map aT=out'.map aT∧(k' ≤x.length∧out' =x.take k' ++List.replicate (x.length - k') gH)∧x.length - k' <x.length - k))) (out.map aT=x.map aT∧True)))) (by kernel_rfl) ?_
 intro n0
 simp only[List.length_map] at n0
 refine⟨List.length_map _,rfl,rfl,by have:=aDw x;omega,by have:=aDw x;omega,by (rw[List.map_replicate];rfl),⟨0,List.replicate x.length gH,rfl,rfl,Nat.zero_le _,by simp⟩,fun k out ⟨hk,ho⟩=>?_⟩
 have hl:out.length=x.length:=by rw[ho];exact pR hk
 refine⟨List.length_map _,dd (fun c0=>?_) fun c0=>?_⟩
 ·refine⟨by omega,rfl,by omega,fun e18 h18=>?_⟩
  refine⟨aUz e18 (by (have:=aBI ‹x[k]? =some _›;omega)),by omega,List.length_map _,by omega,rfl,by omega,fun s5_8 hs5_8=>?_⟩
  refine⟨Nat.le_of_ble_eq_true rfl,rfl,rfl,rfl,rfl,⟨by omega,by omega⟩,?_⟩
  exact⟨k+1,out.set k e18,rfl,rfl,⟨by omega,by rw[ho];exact mQ ‹x[k]? =some _›⟩,by omega⟩
 ·refine⟨?_,trivial⟩
  ·rw[ho,mR hk (by omega)]
abbrev tC (x:aV):AV × List (Nat × Rs):=(.agg [.own 0],[(0,.arr 142 3 true (x.tables.map aT))])
abbrev aAr (x:aV):Prop:=cH Tryz.prog 29 [.agg [.sl 142 3 (x.tables.map aT)]] (tC x).1 (tC x).2
theorem aNk (x:aV)(hc:bR x≤1048576):aAr x:=by
 refine aW bH aO Tryz.func29 (by kernel_rfl) (bL (aAD x.tables)<| .fin [(0,600)]) (p:=(x.tables.map aT).length≤9223372036854775807→aEr x.tables∧x.tables.map aT=x.tables.map aT∧True) (by kernel_rfl) ?_
 intro n0
 simp only[List.length_map] at n0
 unfold bR at hc
 refine⟨aRz x.tables (by omega),?_⟩
 exact⟨rfl,trivial⟩
abbrev aDm (x:dG):AV × List (Nat × Rs):=(.agg [.p none (.str x.name),.own 0],[(0,.arr 3 1 true (x.vars.map intD))])
abbrev aK5 (x:dG):Prop:=cH Tryz.prog 66 [.agg [.str x.name,.sl 3 1 (x.vars.map intD)]] (aDm x).1 (aDm x).2
theorem aWc (x:dG)(hc:jU x≤1048576):aK5 x:=by
 refine aW bH aO Tryz.func66 (by kernel_rfl) (bL (oS x.vars)<| .fin [(0,900)]) (p:=(x.vars.map intD).length≤9223372036854775807→qR x.vars∧x.name=x.name∧x.vars.map intD=x.vars.map intD∧True) (by kernel_rfl) ?_
 intro n0
 simp only[List.length_map] at n0
 unfold jU at hc
 refine⟨aDA x.vars (by omega),?_⟩
 exact⟨rfl,rfl,trivial⟩
abbrev aBw (x:List dG):AV × List (Nat × Rs):=(.own 0,[(0,.arr 125 2 true (x.map bM))])
abbrev aIB (x:List dG):Prop:=cH Tryz.prog 33 [.one (.sl 125 2 (x.map bM))] (aBw x).1 (aBw x).2
theorem aVA (x:List dG)(hc:jV x≤1048576):aIB x:=by
 refine aW bH aO Tryz.func33 (by kernel_rfl) (.len x.length<| .mk x.length [.str iR.name,.sl 3 1 (iR.vars.map intD)] ((List.replicate x.length iR).map bM)<| .loop (Nat × (List dG)) (Q2 Nat (List dG)) ([3,4]++rg 8 14) [700,2000] (fun yy0=>[(3,.own 700),(4,vI (yy0.1:Int))]) (fun yy0=>[(700,some (.arr 125 2 true (yy0.2.map bM)))]) (fun yy0=>yy0.1≤x.length∧yy0.2=x.take yy0.1++List.replicate (x.length - yy0.1) iR) (fun yy0=>x.length - yy0.1) (fun yy0=> .len x.length<| .br (.elem _ bM x (fun e18=>bL (aDm e18)<| .len yy0.2.length<| .setm dG bM yy0.2 (fun s5_8=>e18) (fun s5_8=> .back [(700,700)]))) (.fin [(0,700)]))) (p:=(x.map bM).length≤9223372036854775807→Lm bM x∧((x.length:Int)=(x.length:Int)∧(x.length:Int)=(x.length:Int)∧40*x.length≤281474976710656∧x.length≤9223372036854775807∧List.replicate x.length [.str iR.name,.sl 3 1 (iR.vars.map intD)]=(List.replicate x.length iR).map bM∧((∃(k:Nat) (out:List dG),0=(k:Int)∧(List.replicate x.length iR).map bM=out.map bM∧k≤x.length∧out=x.take k++List.replicate (x.length - k) iR)∧ ∀(k:Nat) (out:List dG),(k≤x.length∧out=x.take k++List.replicate (x.length - k) iR)→Lm bM x∧Br ((k:Int)<(x.length:Int)) (0≤(k:Int)∧Em bM x k fun e18=>aK5 e18∧(0≤(k:Int)∧Lm bM out∧(k:Int)<(out.length:Int)∧(out.map bM=out.map bM∧k<out.length∧ ∀s5_8,out[k]? =some s5_8→0+2≤(bM s5_8).length∧(bM s5_8).take 0++((bM e18).drop 0).take 2++(bM s5_8).drop (0+2)=bM e18∧e18.name=e18.name∧e18.vars.map intD=e18.vars.map intD∧bO ((k:Int)+1)∧ ∃(k' :Nat) (out' :List dG),((k:Int)+1)=(k' :Int)∧(out.set k e18).map bM=out'.map bM∧(k' ≤x.length∧out' =x.take k' ++List.replicate (x.length - k') iR)∧x.length - k' <x.length - k))) (out.map bM=x.map bM∧True)))) (by kernel_rfl) ?_
 intro n0
 simp only[List.length_map] at n0
 refine⟨List.length_map _,rfl,rfl,by have:=aGO x;omega,by have:=aGO x;omega,by (rw[List.map_replicate];rfl),⟨0,List.replicate x.length iR,rfl,rfl,Nat.zero_le _,by simp⟩,fun k out ⟨hk,ho⟩=>?_⟩
 have hl:out.length=x.length:=by rw[ho];exact pR hk
 refine⟨List.length_map _,dd (fun c0=>?_) fun c0=>?_⟩
 ·refine⟨by omega,rfl,by omega,fun e18 h18=>?_⟩
  refine⟨aWc e18 (by (have:=aDV ‹x[k]? =some _›;omega)),by omega,List.length_map _,by omega,rfl,by omega,fun s5_8 hs5_8=>?_⟩
  refine⟨Nat.le_of_ble_eq_true rfl,rfl,rfl,rfl,⟨by omega,by omega⟩,?_⟩
  exact⟨k+1,out.set k e18,rfl,rfl,⟨by omega,by rw[ho];exact mQ ‹x[k]? =some _›⟩,by omega⟩
 ·refine⟨?_,trivial⟩
  ·rw[ho,mR hk (by omega)]
abbrev rT (x:QueryD):AV × List (Nat × Rs):=(.agg [vI x.variableCount,.own 0],[(0,.arr 125 2 true (x.atoms.map bM))])
abbrev wC (x:QueryD):Prop:=cH Tryz.prog 10 [.agg [.int .i64 x.variableCount,.sl 125 2 (x.atoms.map bM)]] (rT x).1 (rT x).2
theorem aIC (x:QueryD)(hc:hY x≤1048576):wC x:=by
 refine aW bH aO Tryz.func10 (by kernel_rfl) (bL (aBw x.atoms)<| .fin [(0,900)]) (p:=(x.atoms.map bM).length≤9223372036854775807→aIB x.atoms∧x.variableCount=x.variableCount∧x.atoms.map bM=x.atoms.map bM∧True) (by kernel_rfl) ?_
 intro n0
 simp only[List.length_map] at n0
 unfold hY at hc
 refine⟨aVA x.atoms (by omega),?_⟩
 exact⟨rfl,rfl,trivial⟩
abbrev pZ (x:aR):AV × List (Nat × Rs):=(.agg [.own 0,.own 1,.own 2],[(0,.arr 3 1 true (x.columns.map intD)),(1,.arr 91 1 true (x.values.map aC)),(2,.arr 3 1 true (x.counts.map intD))])
abbrev wN (x:aR):Prop:=cH Tryz.prog 216 [.agg [.sl 3 1 (x.columns.map intD),.sl 91 1 (x.values.map aC),.sl 3 1 (x.counts.map intD)]] (pZ x).1 (pZ x).2
theorem aIl (x:aR)(hc:cA x≤1048576):wN x:=by
 refine aW bH aO Tryz.func216 (by kernel_rfl) (bL (oS x.columns)<| bL (wB x.values)<| bL (oS x.counts)<| .fin [(0,600),(1,1000),(2,1400)]) (p:=(x.columns.map intD).length≤9223372036854775807→(x.values.map aC).length≤9223372036854775807→(x.counts.map intD).length≤9223372036854775807→qR x.columns∧aBu x.values∧qR x.counts∧x.columns.map intD=x.columns.map intD∧x.values.map aC=x.values.map aC∧x.counts.map intD=x.counts.map intD∧True) (by kernel_rfl) ?_
 intro n0 n1 n2
 simp only[List.length_map] at n0 n1 n2
 unfold cA at hc
 refine⟨aDA x.columns (by omega),aNj x.values (by omega),aDA x.counts (by omega),?_⟩
 exact⟨rfl,rfl,rfl,trivial⟩
abbrev oT (x:List aR):AV × List (Nat × Rs):=(.own 0,[(0,.arr 220 3 true (x.map aD))])
abbrev uD (x:List aR):Prop:=cH Tryz.prog 174 [.one (.sl 220 3 (x.map aD))] (oT x).1 (oT x).2
theorem aID (x:List aR)(hc:dP x≤1048576):uD x:=by
 refine aW bH aO Tryz.func174 (by kernel_rfl) (.len x.length<| .mk x.length [.sl 3 1 (eL.columns.map intD),.sl 91 1 (eL.values.map aC),.sl 3 1 (eL.counts.map intD)] ((List.replicate x.length eL).map aD)<| .loop (Nat × (List aR)) (Q2 Nat (List aR)) ([3,4]++rg 8 14) [700,2000,2001,2002] (fun yy0=>[(3,.own 700),(4,vI (yy0.1:Int))]) (fun yy0=>[(700,some (.arr 220 3 true (yy0.2.map aD)))]) (fun yy0=>yy0.1≤x.length∧yy0.2=x.take yy0.1++List.replicate (x.length - yy0.1) eL) (fun yy0=>x.length - yy0.1) (fun yy0=> .len x.length<| .br (.elem _ aD x (fun e18=>bL (pZ e18)<| .len yy0.2.length<| .setm aR aD yy0.2 (fun s5_8=>e18) (fun s5_8=> .back [(700,700)]))) (.fin [(0,700)]))) (p:=(x.map aD).length≤9223372036854775807→Lm aD x∧((x.length:Int)=(x.length:Int)∧(x.length:Int)=(x.length:Int)∧72*x.length≤281474976710656∧x.length≤9223372036854775807∧List.replicate x.length [.sl 3 1 (eL.columns.map intD),.sl 91 1 (eL.values.map aC),.sl 3 1 (eL.counts.map intD)]=(List.replicate x.length eL).map aD∧((∃(k:Nat) (out:List aR),0=(k:Int)∧(List.replicate x.length eL).map aD=out.map aD∧k≤x.length∧out=x.take k++List.replicate (x.length - k) eL)∧ ∀(k:Nat) (out:List aR),(k≤x.length∧out=x.take k++List.replicate (x.length - k) eL)→Lm aD x∧Br ((k:Int)<(x.length:Int)) (0≤(k:Int)∧Em aD x k fun e18=>wN e18∧(0≤(k:Int)∧Lm aD out∧(k:Int)<(out.length:Int)∧(out.map aD=out.map aD∧k<out.length∧ ∀s5_8,out[k]? =some s5_8→0+3≤(aD s5_8).length∧(aD s5_8).take 0++((aD e18).drop 0).take 3++(aD s5_8).drop (0+3)=aD e18∧e18.columns.map intD=e18.columns.map intD∧e18.values.map aC=e18.values.map aC∧e18.counts.map intD=e18.counts.map intD∧bO ((k:Int)+1)∧ ∃(k' :Nat) (out' :List aR),((k:Int)+1)=(k' :Int)∧(out.set k e18).map aD=out'.map aD∧(k' ≤x.length∧out' =x.take k' ++List.replicate (x.length - k') eL)∧x.length - k' <x.length - k))) (out.map aD=x.map aD∧True)))) (by kernel_rfl) ?_
 intro n0
 simp only[List.length_map] at n0
 refine⟨List.length_map _,rfl,rfl,by have:=gI x;omega,by have:=gI x;omega,by (rw[List.map_replicate];rfl),⟨0,List.replicate x.length eL,rfl,rfl,Nat.zero_le _,by simp⟩,fun k out ⟨hk,ho⟩=>?_⟩
 have hl:out.length=x.length:=by rw[ho];exact pR hk
 refine⟨List.length_map _,dd (fun c0=>?_) fun c0=>?_⟩
 ·refine⟨by omega,rfl,by omega,fun e18 h18=>?_⟩
  refine⟨aIl e18 (by (have:=hZ ‹x[k]? =some _›;omega)),by omega,List.length_map _,by omega,rfl,by omega,fun s5_8 hs5_8=>?_⟩
  refine⟨Nat.le_of_ble_eq_true rfl,rfl,rfl,rfl,rfl,⟨by omega,by omega⟩,?_⟩
  exact⟨k+1,out.set k e18,rfl,rfl,⟨by omega,by rw[ho];exact mQ ‹x[k]? =some _›⟩,by omega⟩
 ·refine⟨?_,trivial⟩
  ·rw[ho,mR hk (by omega)]
abbrev qA (x:aM):AV × List (Nat × Rs):=(.agg [.p none (.str x.name),vI x.arity,vI x.rowCount,.own 0],[(0,.arr 220 3 true (x.groups.map aD))])
abbrev wO (x:aM):Prop:=cH Tryz.prog 117 [.agg [.str x.name,.int .i64 x.arity,.int .i64 x.rowCount,.sl 220 3 (x.groups.map aD)]] (qA x).1 (qA x).2
theorem aIm (x:aM)(hc:bI x≤1048576):wO x:=by
 refine aW bH aO Tryz.func117 (by kernel_rfl) (bL (oT x.groups)<| .fin [(0,1500)]) (p:=(x.groups.map aD).length≤9223372036854775807→uD x.groups∧x.name=x.name∧x.arity=x.arity∧x.rowCount=x.rowCount∧x.groups.map aD=x.groups.map aD∧True) (by kernel_rfl) ?_
 intro n0
 simp only[List.length_map] at n0
 unfold bI at hc
 refine⟨aID x.groups (by omega),?_⟩
 exact⟨rfl,rfl,rfl,rfl,trivial⟩
abbrev oU (x:List aM):AV × List (Nat × Rs):=(.own 0,[(0,.arr 88 4 true (x.map aG))])
abbrev uE (x:List aM):Prop:=cH Tryz.prog 63 [.one (.sl 88 4 (x.map aG))] (oU x).1 (oU x).2
theorem aIE (x:List aM)(hc:dZ x≤1048576):uE x:=by
 refine aW bH aO Tryz.func63 (by kernel_rfl) (.len x.length<| .mk x.length [.str dQ.name,.int .i64 dQ.arity,.int .i64 dQ.rowCount,.sl 220 3 (dQ.groups.map aD)] ((List.replicate x.length dQ).map aG)<| .loop (Nat × (List aM)) (Q2 Nat (List aM)) ([3,4]++rg 8 14) [700,2000] (fun yy0=>[(3,.own 700),(4,vI (yy0.1:Int))]) (fun yy0=>[(700,some (.arr 88 4 true (yy0.2.map aG)))]) (fun yy0=>yy0.1≤x.length∧yy0.2=x.take yy0.1++List.replicate (x.length - yy0.1) dQ) (fun yy0=>x.length - yy0.1) (fun yy0=> .len x.length<| .br (.elem _ aG x (fun e18=>bL (qA e18)<| .len yy0.2.length<| .setm aM aG yy0.2 (fun s5_8=>e18) (fun s5_8=> .back [(700,700)]))) (.fin [(0,700)]))) (p:=(x.map aG).length≤9223372036854775807→Lm aG x∧((x.length:Int)=(x.length:Int)∧(x.length:Int)=(x.length:Int)∧56*x.length≤281474976710656∧x.length≤9223372036854775807∧List.replicate x.length [.str dQ.name,.int .i64 dQ.arity,.int .i64 dQ.rowCount,.sl 220 3 (dQ.groups.map aD)]=(List.replicate x.length dQ).map aG∧((∃(k:Nat) (out:List aM),0=(k:Int)∧(List.replicate x.length dQ).map aG=out.map aG∧k≤x.length∧out=x.take k++List.replicate (x.length - k) dQ)∧ ∀(k:Nat) (out:List aM),(k≤x.length∧out=x.take k++List.replicate (x.length - k) dQ)→Lm aG x∧Br ((k:Int)<(x.length:Int)) (0≤(k:Int)∧Em aG x k fun e18=>wO e18∧(0≤(k:Int)∧Lm aG out∧(k:Int)<(out.length:Int)∧(out.map aG=out.map aG∧k<out.length∧ ∀s5_8,out[k]? =some s5_8→0+4≤(aG s5_8).length∧(aG s5_8).take 0++((aG e18).drop 0).take 4++(aG s5_8).drop (0+4)=aG e18∧e18.name=e18.name∧e18.arity=e18.arity∧e18.rowCount=e18.rowCount∧e18.groups.map aD=e18.groups.map aD∧bO ((k:Int)+1)∧ ∃(k' :Nat) (out' :List aM),((k:Int)+1)=(k' :Int)∧(out.set k e18).map aG=out'.map aG∧(k' ≤x.length∧out' =x.take k' ++List.replicate (x.length - k') dQ)∧x.length - k' <x.length - k))) (out.map aG=x.map aG∧True)))) (by kernel_rfl) ?_
 intro n0
 simp only[List.length_map] at n0
 refine⟨List.length_map _,rfl,rfl,by have:=tN x;omega,by have:=tN x;omega,by (rw[List.map_replicate];rfl),⟨0,List.replicate x.length dQ,rfl,rfl,Nat.zero_le _,by simp⟩,fun k out ⟨hk,ho⟩=>?_⟩
 have hl:out.length=x.length:=by rw[ho];exact pR hk
 refine⟨List.length_map _,dd (fun c0=>?_) fun c0=>?_⟩
 ·refine⟨by omega,rfl,by omega,fun e18 h18=>?_⟩
  refine⟨aIm e18 (by (have:=kM ‹x[k]? =some _›;omega)),by omega,List.length_map _,by omega,rfl,by omega,fun s5_8 hs5_8=>?_⟩
  refine⟨Nat.le_of_ble_eq_true rfl,rfl,rfl,rfl,rfl,rfl,⟨by omega,by omega⟩,?_⟩
  exact⟨k+1,out.set k e18,rfl,rfl,⟨by omega,by rw[ho];exact mQ ‹x[k]? =some _›⟩,by omega⟩
 ·refine⟨?_,trivial⟩
  ·rw[ho,mR hk (by omega)]
abbrev rU (x:cJ):AV × List (Nat × Rs):=(.agg [vI x.version,.own 0],[(0,.arr 88 4 true (x.tables.map aG))])
abbrev aAE (x:cJ):Prop:=cH Tryz.prog 30 [.agg [.int .i64 x.version,.sl 88 4 (x.tables.map aG)]] (rU x).1 (rU x).2
theorem aL4 (x:cJ)(hc:bX x≤1048576):aAE x:=by
 refine aW bH aO Tryz.func30 (by kernel_rfl) (bL (oU x.tables)<| .fin [(0,900)]) (p:=(x.tables.map aG).length≤9223372036854775807→uE x.tables∧x.version=x.version∧x.tables.map aG=x.tables.map aG∧True) (by kernel_rfl) ?_
 intro n0
 simp only[List.length_map] at n0
 unfold bX at hc
 refine⟨aIE x.tables (by omega),?_⟩
 exact⟨rfl,rfl,trivial⟩
abbrev qB (x:bD):AV × List (Nat × Rs):=(.agg [.p none (.str x.name),.own 0,vI x.dst],[(0,.arr 3 1 true (x.src.map intD))])
abbrev wP (x:bD):Prop:=cH Tryz.prog 64 [.agg [.str x.name,.sl 3 1 (x.src.map intD),.int .i64 x.dst]] (qB x).1 (qB x).2
theorem aIn (x:bD)(hc:dD x≤1048576):wP x:=by
 refine aW bH aO Tryz.func64 (by kernel_rfl) (bL (oS x.src)<| .fin [(0,900)]) (p:=(x.src.map intD).length≤9223372036854775807→qR x.src∧x.name=x.name∧x.dst=x.dst∧x.src.map intD=x.src.map intD∧True) (by kernel_rfl) ?_
 intro n0
 simp only[List.length_map] at n0
 unfold dD at hc
 refine⟨aDA x.src (by omega),?_⟩
 exact⟨rfl,rfl,rfl,trivial⟩
abbrev oV (x:List bD):AV × List (Nat × Rs):=(.own 0,[(0,.arr 121 3 true (x.map aP))])
abbrev uF (x:List bD):Prop:=cH Tryz.prog 31 [.one (.sl 121 3 (x.map aP))] (oV x).1 (oV x).2
theorem aIF (x:List bD)(hc:cC x≤1048576):uF x:=by
 refine aW bH aO Tryz.func31 (by kernel_rfl) (.len x.length<| .mk x.length [.str fD.name,.sl 3 1 (fD.src.map intD),.int .i64 fD.dst] ((List.replicate x.length fD).map aP)<| .loop (Nat × (List bD)) (Q2 Nat (List bD)) ([3,4]++rg 8 14) [700,2000] (fun yy0=>[(3,.own 700),(4,vI (yy0.1:Int))]) (fun yy0=>[(700,some (.arr 121 3 true (yy0.2.map aP)))]) (fun yy0=>yy0.1≤x.length∧yy0.2=x.take yy0.1++List.replicate (x.length - yy0.1) fD) (fun yy0=>x.length - yy0.1) (fun yy0=> .len x.length<| .br (.elem _ aP x (fun e18=>bL (qB e18)<| .len yy0.2.length<| .setm bD aP yy0.2 (fun s5_8=>e18) (fun s5_8=> .back [(700,700)]))) (.fin [(0,700)]))) (p:=(x.map aP).length≤9223372036854775807→Lm aP x∧((x.length:Int)=(x.length:Int)∧(x.length:Int)=(x.length:Int)∧48*x.length≤281474976710656∧x.length≤9223372036854775807∧List.replicate x.length [.str fD.name,.sl 3 1 (fD.src.map intD),.int .i64 fD.dst]=(List.replicate x.length fD).map aP∧((∃(k:Nat) (out:List bD),0=(k:Int)∧(List.replicate x.length fD).map aP=out.map aP∧k≤x.length∧out=x.take k++List.replicate (x.length - k) fD)∧ ∀(k:Nat) (out:List bD),(k≤x.length∧out=x.take k++List.replicate (x.length - k) fD)→Lm aP x∧Br ((k:Int)<(x.length:Int)) (0≤(k:Int)∧Em aP x k fun e18=>wP e18∧(0≤(k:Int)∧Lm aP out∧(k:Int)<(out.length:Int)∧(out.map aP=out.map aP∧k<out.length∧ ∀s5_8,out[k]? =some s5_8→0+3≤(aP s5_8).length∧(aP s5_8).take 0++((aP e18).drop 0).take 3++(aP s5_8).drop (0+3)=aP e18∧e18.name=e18.name∧e18.src.map intD=e18.src.map intD∧e18.dst=e18.dst∧bO ((k:Int)+1)∧ ∃(k' :Nat) (out' :List bD),((k:Int)+1)=(k' :Int)∧(out.set k e18).map aP=out'.map aP∧(k' ≤x.length∧out' =x.take k' ++List.replicate (x.length - k') fD)∧x.length - k' <x.length - k))) (out.map aP=x.map aP∧True)))) (by kernel_rfl) ?_
 intro n0
 simp only[List.length_map] at n0
 refine⟨List.length_map _,rfl,rfl,by have:=tO x;omega,by have:=tO x;omega,by (rw[List.map_replicate];rfl),⟨0,List.replicate x.length fD,rfl,rfl,Nat.zero_le _,by simp⟩,fun k out ⟨hk,ho⟩=>?_⟩
 have hl:out.length=x.length:=by rw[ho];exact pR hk
 refine⟨List.length_map _,dd (fun c0=>?_) fun c0=>?_⟩
 ·refine⟨by omega,rfl,by omega,fun e18 h18=>?_⟩
  refine⟨aIn e18 (by (have:=aEy ‹x[k]? =some _›;omega)),by omega,List.length_map _,by omega,rfl,by omega,fun s5_8 hs5_8=>?_⟩
  refine⟨Nat.le_of_ble_eq_true rfl,rfl,rfl,rfl,rfl,⟨by omega,by omega⟩,?_⟩
  exact⟨k+1,out.set k e18,rfl,rfl,⟨by omega,by rw[ho];exact mQ ‹x[k]? =some _›⟩,by omega⟩
 ·refine⟨?_,trivial⟩
  ·rw[ho,mR hk (by omega)]
abbrev rV (x:bB):AV × List (Nat × Rs):=(.agg [.p none (.str x.name),vI x.column,.p none (.str x.into),vI x.intoColumn],[])
abbrev aAF (x:bB):Prop:=cH Tryz.prog 65 [.agg [.str x.name,.int .i64 x.column,.str x.into,.int .i64 x.intoColumn]] (rV x).1 (rV x).2
theorem aL5 (x:bB)(hc:dO x≤1048576):aAF x:=by
 refine aW bH aO Tryz.func65 (by kernel_rfl) (.fin []) (p:=x.name=x.name∧x.column=x.column∧x.into=x.into∧x.intoColumn=x.intoColumn∧True) (by kernel_rfl) ?_
 unfold dO at hc
 exact⟨rfl,rfl,rfl,rfl,trivial⟩
abbrev qC (x:List bB):AV × List (Nat × Rs):=(.own 0,[(0,.arr 123 4 true (x.map aS))])
abbrev wQ (x:List bB):Prop:=cH Tryz.prog 32 [.one (.sl 123 4 (x.map aS))] (qC x).1 (qC x).2
theorem aIo (x:List bB)(hc:cU x≤1048576):wQ x:=by
 refine aW bH aO Tryz.func32 (by kernel_rfl) (.len x.length<| .mk x.length [.str fA.name,.int .i64 fA.column,.str fA.into,.int .i64 fA.intoColumn] ((List.replicate x.length fA).map aS)<| .loop (Nat × (List bB)) (Q2 Nat (List bB)) ([3,4]++rg 8 14) [700] (fun yy0=>[(3,.own 700),(4,vI (yy0.1:Int))]) (fun yy0=>[(700,some (.arr 123 4 true (yy0.2.map aS)))]) (fun yy0=>yy0.1≤x.length∧yy0.2=x.take yy0.1++List.replicate (x.length - yy0.1) fA) (fun yy0=>x.length - yy0.1) (fun yy0=> .len x.length<| .br (.elem _ aS x (fun e18=>bL (rV e18)<| .len yy0.2.length<| .set bB aS yy0.2 (fun s5_8=>e18) (fun s5_8=> .back [(700,700)]))) (.fin [(0,700)]))) (p:=(x.map aS).length≤9223372036854775807→Lm aS x∧((x.length:Int)=(x.length:Int)∧(x.length:Int)=(x.length:Int)∧48*x.length≤281474976710656∧x.length≤9223372036854775807∧List.replicate x.length [.str fA.name,.int .i64 fA.column,.str fA.into,.int .i64 fA.intoColumn]=(List.replicate x.length fA).map aS∧((∃(k:Nat) (out:List bB),0=(k:Int)∧(List.replicate x.length fA).map aS=out.map aS∧k≤x.length∧out=x.take k++List.replicate (x.length - k) fA)∧ ∀(k:Nat) (out:List bB),(k≤x.length∧out=x.take k++List.replicate (x.length - k) fA)→Lm aS x∧Br ((k:Int)<(x.length:Int)) (0≤(k:Int)∧Em aS x k fun e18=>aAF e18∧(0≤(k:Int)∧Lm aS out∧(k:Int)<(out.length:Int)∧(out.map aS=out.map aS∧k<out.length∧ ∀s5_8,out[k]? =some s5_8→bW (aS s5_8)=true∧0+4≤(aS s5_8).length∧(aS s5_8).take 0++[.str e18.name,.int .i64 e18.column,.str e18.into,.int .i64 e18.intoColumn]++(aS s5_8).drop (0+4)=aS e18∧bO ((k:Int)+1)∧ ∃(k' :Nat) (out' :List bB),((k:Int)+1)=(k' :Int)∧(out.set k e18).map aS=out'.map aS∧(k' ≤x.length∧out' =x.take k' ++List.replicate (x.length - k') fA)∧x.length - k' <x.length - k))) (out.map aS=x.map aS∧True)))) (by kernel_rfl) ?_
 intro n0
 simp only[List.length_map] at n0
 refine⟨List.length_map _,rfl,rfl,by have:=eC x;omega,by have:=eC x;omega,by (rw[List.map_replicate];rfl),⟨0,List.replicate x.length fA,rfl,rfl,Nat.zero_le _,by simp⟩,fun k out ⟨hk,ho⟩=>?_⟩
 have hl:out.length=x.length:=by rw[ho];exact pR hk
 refine⟨List.length_map _,dd (fun c0=>?_) fun c0=>?_⟩
 ·refine⟨by omega,rfl,by omega,fun e18 h18=>?_⟩
  refine⟨aL5 e18 (by (have:=aGQ ‹x[k]? =some _›;omega)),by omega,List.length_map _,by omega,rfl,by omega,fun s5_8 hs5_8=>⟨rfl,Nat.le_of_ble_eq_true rfl,rfl,?_⟩⟩
  refine⟨⟨by omega,by omega⟩,?_⟩
  exact⟨k+1,out.set k e18,rfl,rfl,⟨by omega,by rw[ho];exact mQ ‹x[k]? =some _›⟩,by omega⟩
 ·refine⟨?_,trivial⟩
  ·rw[ho,mR hk (by omega)]
abbrev rW (x:StoreD):AV × List (Nat × Rs):=(.agg [.own 0,vI x.catalogue.version,.own 1,.own 2,.own 3],[(0,.arr 142 3 true (x.database.tables.map aT)),(1,.arr 88 4 true (x.catalogue.tables.map aG)),(2,.arr 121 3 true (x.dependencies.map aP)),(3,.arr 123 4 true (x.inclusions.map aS))])
abbrev wD (x:StoreD):Prop:=cH Tryz.prog 9 [.agg [.sl 142 3 (x.database.tables.map aT),.int .i64 x.catalogue.version,.sl 88 4 (x.catalogue.tables.map aG),.sl 121 3 (x.dependencies.map aP),.sl 123 4 (x.inclusions.map aS)]] (rW x).1 (rW x).2
theorem aIG (x:StoreD)(hc:dT x≤1048576):wD x:=by
 refine aW bH aO Tryz.func9 (by kernel_rfl) (bL (tC x.database)<| bL (rU x.catalogue)<| bL (oV x.dependencies)<| bL (qC x.inclusions)<| .fin [(0,600),(1,1000),(2,1400),(3,1800)]) (p:=(x.database.tables.map aT).length≤9223372036854775807→(x.catalogue.tables.map aG).length≤9223372036854775807→(x.dependencies.map aP).length≤9223372036854775807→(x.inclusions.map aS).length≤9223372036854775807→aAr x.database∧aAE x.catalogue∧uF x.dependencies∧wQ x.inclusions∧x.catalogue.version=x.catalogue.version∧x.database.tables.map aT=x.database.tables.map aT∧x.catalogue.tables.map aG=x.catalogue.tables.map aG∧x.dependencies.map aP=x.dependencies.map aP∧x.inclusions.map aS=x.inclusions.map aS∧True) (by kernel_rfl) ?_
 intro n0 n1 n2 n3
 simp only[List.length_map] at n0 n1 n2 n3
 unfold dT at hc
 refine⟨aNk x.database (by omega),aL4 x.catalogue (by omega),aIF x.dependencies (by omega),aIo x.inclusions (by omega),?_⟩
 exact⟨rfl,rfl,rfl,rfl,rfl,trivial⟩
abbrev uG (x:List Int):Prop:=cH Tryz.prog 121 [.one (.sl 3 1 (x.map intD)),.one (.sl 3 1 (x.map intD))] (vB true) []
theorem aDB (x:List Int):uG x:=by
 refine aW bH aO Tryz.func121 (by kernel_rfl) (.len x.length<| .len x.length<| .no<| .loop Nat (Q1 Nat) ([5]++rg 11 15) [] (fun k=>[(5,vI (k:Int))]) (fun k=>[]) (fun k=>k≤x.length) (fun k=>x.length - k) (fun k=> .len x.length<| .br (.elem _ intD x (fun e19=> .elem _ intD x (fun e23=> .no<| .back []))) (.fin []))) (p:=(x.map intD).length≤9223372036854775807→(x.map intD).length≤9223372036854775807→Lm intD x∧(Lm intD x∧((!(decide ((x.length:Int)=(x.length:Int))))=false∧((∃(k:Nat),0=(k:Int)∧k≤x.length)∧ ∀(k:Nat),k≤x.length→Lm intD x∧Br ((k:Int)<(x.length:Int)) (0≤(k:Int)∧Em intD x k fun e19=>0≤(k:Int)∧Em intD x k fun e23=>(!(decide (e19=e23)))=false∧bO ((k:Int)+1)∧ ∃(k' :Nat),((k:Int)+1)=(k' :Int)∧k' ≤x.length∧x.length - k' <x.length - k) ((true)=true∧True))))) (by kernel_rfl) ?_
 intro n0 n1
 simp only[List.length_map] at n0 n1
 refine⟨List.length_map _,List.length_map _,by simp,⟨0,rfl,Nat.zero_le _⟩,fun k hk=>?_⟩
 refine⟨List.length_map _,dd (fun c1=>?_) fun c1=>?_⟩
 ·obtain⟨y,hy⟩:=dE (l:=x) (k:=k) (by omega)
  refine⟨by omega,rfl,by omega,fun e19 h19=>?_⟩
  try (obtain rfl:=aZ hy h19)
  refine⟨by omega,rfl,by omega,fun e23 h23=>?_⟩
  try (obtain rfl:=aZ hy h23)
  refine⟨by simp,⟨by omega,by omega⟩,?_⟩
  exact⟨k+1,rfl,by omega,by omega⟩
 ·refine⟨?_,trivial⟩
  ·rfl
abbrev aBx (x:List (List Int)):Prop:=cH Tryz.prog 175 [.one (.sl 91 1 (x.map aC)),.one (.sl 91 1 (x.map aC))] (vB true) []
theorem aNl (x:List (List Int)):aBx x:=by
 refine aW bH aO Tryz.func175 (by kernel_rfl) (.len x.length<| .len x.length<| .no<| .loop Nat (Q1 Nat) ([5]++rg 11 16) [] (fun k=>[(5,vI (k:Int))]) (fun k=>[]) (fun k=>k≤x.length) (fun k=>x.length - k) (fun k=> .len x.length<| .br (.elem _ aC x (fun e19=> .elem _ aC x (fun e23=> .call (vB true) []<| .back []))) (.fin []))) (p:=(x.map aC).length≤9223372036854775807→(x.map aC).length≤9223372036854775807→Lm aC x∧(Lm aC x∧((!(decide ((x.length:Int)=(x.length:Int))))=false∧((∃(k:Nat),0=(k:Int)∧k≤x.length)∧ ∀(k:Nat),k≤x.length→Lm aC x∧Br ((k:Int)<(x.length:Int)) (0≤(k:Int)∧Em aC x k fun e19=>0≤(k:Int)∧Em aC x k fun e23=>cH Tryz.prog 121 [.one (.sl 3 1 (e19.map intD)),.one (.sl 3 1 (e23.map intD))] (vB true) []∧bO ((k:Int)+1)∧ ∃(k' :Nat),((k:Int)+1)=(k' :Int)∧k' ≤x.length∧x.length - k' <x.length - k) ((true)=true∧True))))) (by kernel_rfl) ?_
 intro n0 n1
 simp only[List.length_map] at n0 n1
 refine⟨List.length_map _,List.length_map _,by simp,⟨0,rfl,Nat.zero_le _⟩,fun k hk=>?_⟩
 refine⟨List.length_map _,dd (fun c1=>?_) fun c1=>?_⟩
 ·obtain⟨y,hy⟩:=dE (l:=x) (k:=k) (by omega)
  refine⟨by omega,rfl,by omega,fun e19 h19=>?_⟩
  try (obtain rfl:=aZ hy h19)
  refine⟨by omega,rfl,by omega,fun e23 h23=>?_⟩
  try (obtain rfl:=aZ hy h23)
  refine⟨by exact aDB _,⟨by omega,by omega⟩,?_⟩
  exact⟨k+1,rfl,by omega,by omega⟩
 ·refine⟨?_,trivial⟩
  ·rfl
abbrev aPG (x:bA):Prop:=cH Tryz.prog 119 [.agg [.str x.name,.int .i64 x.arity,.sl 91 1 (x.rows.map aC)],.agg [.str x.name,.int .i64 x.arity,.sl 91 1 (x.rows.map aC)]] (vB true) []
theorem aVB (x:bA):aPG x:=by
 refine aW bH aO Tryz.func119 (by kernel_rfl) (.no<| .no<| .call (vB true) []<| .fin []) (p:=(x.rows.map aC).length≤9223372036854775807→(x.rows.map aC).length≤9223372036854775807→(!(x.name.toList==x.name.toList))=false∧(!(decide (x.arity=x.arity)))=false∧aBx x.rows∧(true)=true∧True) (by kernel_rfl) ?_
 intro n0 n1
 simp only[List.length_map] at n0 n1
 refine⟨by simp,by simp,by exact aNl x.rows,?_,trivial⟩
 ·rfl
abbrev aEs (x:List bA):Prop:=cH Tryz.prog 67 [.one (.sl 142 3 (x.map aT)),.one (.sl 142 3 (x.map aT))] (vB true) []
theorem aSA (x:List bA):aEs x:=by
 refine aW bH aO Tryz.func67 (by kernel_rfl) (.len x.length<| .len x.length<| .no<| .loop Nat (Q1 Nat) ([5]++rg 11 16) [] (fun k=>[(5,vI (k:Int))]) (fun k=>[]) (fun k=>k≤x.length) (fun k=>x.length - k) (fun k=> .len x.length<| .br (.elem _ aT x (fun e19=> .elem _ aT x (fun e23=> .call (vB true) []<| .back []))) (.fin []))) (p:=(x.map aT).length≤9223372036854775807→(x.map aT).length≤9223372036854775807→Lm aT x∧(Lm aT x∧((!(decide ((x.length:Int)=(x.length:Int))))=false∧((∃(k:Nat),0=(k:Int)∧k≤x.length)∧ ∀(k:Nat),k≤x.length→Lm aT x∧Br ((k:Int)<(x.length:Int)) (0≤(k:Int)∧Em aT x k fun e19=>0≤(k:Int)∧Em aT x k fun e23=>cH Tryz.prog 119 [.agg [.str e19.name,.int .i64 e19.arity,.sl 91 1 (e19.rows.map aC)],.agg [.str e23.name,.int .i64 e23.arity,.sl 91 1 (e23.rows.map aC)]] (vB true) []∧bO ((k:Int)+1)∧ ∃(k' :Nat),((k:Int)+1)=(k' :Int)∧k' ≤x.length∧x.length - k' <x.length - k) ((true)=true∧True))))) (by kernel_rfl) ?_
 intro n0 n1
 simp only[List.length_map] at n0 n1
 refine⟨List.length_map _,List.length_map _,by simp,⟨0,rfl,Nat.zero_le _⟩,fun k hk=>?_⟩
 refine⟨List.length_map _,dd (fun c1=>?_) fun c1=>?_⟩
 ·obtain⟨y,hy⟩:=dE (l:=x) (k:=k) (by omega)
  refine⟨by omega,rfl,by omega,fun e19 h19=>?_⟩
  try (obtain rfl:=aZ hy h19)
  refine⟨by omega,rfl,by omega,fun e23 h23=>?_⟩
  try (obtain rfl:=aZ hy h23)
  refine⟨by exact aVB _,⟨by omega,by omega⟩,?_⟩
  exact⟨k+1,rfl,by omega,by omega⟩
 ·refine⟨?_,trivial⟩
  ·rfl
abbrev aAs (x:aV):Prop:=cH Tryz.prog 34 [.agg [.sl 142 3 (x.tables.map aT)],.agg [.sl 142 3 (x.tables.map aT)]] (vB true) []
theorem aNm (x:aV):aAs x:=by
 refine aW bH aO Tryz.func34 (by kernel_rfl) (.call (vB true) []<| .fin []) (p:=(x.tables.map aT).length≤9223372036854775807→(x.tables.map aT).length≤9223372036854775807→aEs x.tables∧(true)=true∧True) (by kernel_rfl) ?_
 intro n0 n1
 simp only[List.length_map] at n0 n1
 refine⟨by exact aSA x.tables,?_,trivial⟩
 ·rfl
abbrev aSB (x:dG):Prop:=cH Tryz.prog 71 [.agg [.str x.name,.sl 3 1 (x.vars.map intD)],.agg [.str x.name,.sl 3 1 (x.vars.map intD)]] (vB true) []
theorem aWd (x:dG):aSB x:=by
 refine aW bH aO Tryz.func71 (by kernel_rfl) (.no<| .call (vB true) []<| .fin []) (p:=(x.vars.map intD).length≤9223372036854775807→(x.vars.map intD).length≤9223372036854775807→(!(x.name.toList==x.name.toList))=false∧uG x.vars∧(true)=true∧True) (by kernel_rfl) ?_
 intro n0 n1
 simp only[List.length_map] at n0 n1
 refine⟨by simp,by exact aDB x.vars,?_,trivial⟩
 ·rfl
abbrev aIH (x:List dG):Prop:=cH Tryz.prog 38 [.one (.sl 125 2 (x.map bM)),.one (.sl 125 2 (x.map bM))] (vB true) []
theorem aVC (x:List dG):aIH x:=by
 refine aW bH aO Tryz.func38 (by kernel_rfl) (.len x.length<| .len x.length<| .no<| .loop Nat (Q1 Nat) ([5]++rg 11 16) [] (fun k=>[(5,vI (k:Int))]) (fun k=>[]) (fun k=>k≤x.length) (fun k=>x.length - k) (fun k=> .len x.length<| .br (.elem _ bM x (fun e19=> .elem _ bM x (fun e23=> .call (vB true) []<| .back []))) (.fin []))) (p:=(x.map bM).length≤9223372036854775807→(x.map bM).length≤9223372036854775807→Lm bM x∧(Lm bM x∧((!(decide ((x.length:Int)=(x.length:Int))))=false∧((∃(k:Nat),0=(k:Int)∧k≤x.length)∧ ∀(k:Nat),k≤x.length→Lm bM x∧Br ((k:Int)<(x.length:Int)) (0≤(k:Int)∧Em bM x k fun e19=>0≤(k:Int)∧Em bM x k fun e23=>cH Tryz.prog 71 [.agg [.str e19.name,.sl 3 1 (e19.vars.map intD)],.agg [.str e23.name,.sl 3 1 (e23.vars.map intD)]] (vB true) []∧bO ((k:Int)+1)∧ ∃(k' :Nat),((k:Int)+1)=(k' :Int)∧k' ≤x.length∧x.length - k' <x.length - k) ((true)=true∧True))))) (by kernel_rfl) ?_
 intro n0 n1
 simp only[List.length_map] at n0 n1
 refine⟨List.length_map _,List.length_map _,by simp,⟨0,rfl,Nat.zero_le _⟩,fun k hk=>?_⟩
 refine⟨List.length_map _,dd (fun c1=>?_) fun c1=>?_⟩
 ·obtain⟨y,hy⟩:=dE (l:=x) (k:=k) (by omega)
  refine⟨by omega,rfl,by omega,fun e19 h19=>?_⟩
  try (obtain rfl:=aZ hy h19)
  refine⟨by omega,rfl,by omega,fun e23 h23=>?_⟩
  try (obtain rfl:=aZ hy h23)
  refine⟨by exact aWd _,⟨by omega,by omega⟩,?_⟩
  exact⟨k+1,rfl,by omega,by omega⟩
 ·refine⟨?_,trivial⟩
  ·rfl
abbrev aII (x:QueryD):Prop:=cH Tryz.prog 14 [.agg [.int .i64 x.variableCount,.sl 125 2 (x.atoms.map bM)],.agg [.int .i64 x.variableCount,.sl 125 2 (x.atoms.map bM)]] (vB true) []
theorem aVD (x:QueryD):aII x:=by
 refine aW bH aO Tryz.func14 (by kernel_rfl) (.no<| .call (vB true) []<| .fin []) (p:=(x.atoms.map bM).length≤9223372036854775807→(x.atoms.map bM).length≤9223372036854775807→(!(decide (x.variableCount=x.variableCount)))=false∧aIH x.atoms∧(true)=true∧True) (by kernel_rfl) ?_
 intro n0 n1
 simp only[List.length_map] at n0 n1
 refine⟨by simp,by exact aVC x.atoms,?_,trivial⟩
 ·rfl
abbrev aFF (x:aR):Prop:=cH Tryz.prog 217 [.agg [.sl 3 1 (x.columns.map intD),.sl 91 1 (x.values.map aC),.sl 3 1 (x.counts.map intD)],.agg [.sl 3 1 (x.columns.map intD),.sl 91 1 (x.values.map aC),.sl 3 1 (x.counts.map intD)]] (vB true) []
theorem aIp (x:aR):aFF x:=by
 refine aW bH aO Tryz.func217 (by kernel_rfl) (.call (vB true) []<| .call (vB true) []<| .call (vB true) []<| .fin []) (p:=(x.columns.map intD).length≤9223372036854775807→(x.values.map aC).length≤9223372036854775807→(x.counts.map intD).length≤9223372036854775807→(x.columns.map intD).length≤9223372036854775807→(x.values.map aC).length≤9223372036854775807→(x.counts.map intD).length≤9223372036854775807→uG x.columns∧aBx x.values∧uG x.counts∧(true)=true∧True) (by kernel_rfl) ?_
 intro n0 n1 n2 n3 n4 n5
 simp only[List.length_map] at n0 n1 n2 n3 n4 n5
 refine⟨by exact aDB x.columns,by exact aNl x.values,by exact aDB x.counts,?_,trivial⟩
 ·rfl
abbrev uH (x:List aR):Prop:=cH Tryz.prog 176 [.one (.sl 220 3 (x.map aD)),.one (.sl 220 3 (x.map aD))] (vB true) []
theorem aIJ (x:List aR):uH x:=by
 refine aW bH aO Tryz.func176 (by kernel_rfl) (.len x.length<| .len x.length<| .no<| .loop Nat (Q1 Nat) ([5]++rg 11 16) [] (fun k=>[(5,vI (k:Int))]) (fun k=>[]) (fun k=>k≤x.length) (fun k=>x.length - k) (fun k=> .len x.length<| .br (.elem _ aD x (fun e19=> .elem _ aD x (fun e23=> .call (vB true) []<| .back []))) (.fin []))) (p:=(x.map aD).length≤9223372036854775807→(x.map aD).length≤9223372036854775807→Lm aD x∧(Lm aD x∧((!(decide ((x.length:Int)=(x.length:Int))))=false∧((∃(k:Nat),0=(k:Int)∧k≤x.length)∧ ∀(k:Nat),k≤x.length→Lm aD x∧Br ((k:Int)<(x.length:Int)) (0≤(k:Int)∧Em aD x k fun e19=>0≤(k:Int)∧Em aD x k fun e23=>cH Tryz.prog 217 [.agg [.sl 3 1 (e19.columns.map intD),.sl 91 1 (e19.values.map aC),.sl 3 1 (e19.counts.map intD)],.agg [.sl 3 1 (e23.columns.map intD),.sl 91 1 (e23.values.map aC),.sl 3 1 (e23.counts.map intD)]] (vB true) []∧bO ((k:Int)+1)∧ ∃(k' :Nat),((k:Int)+1)=(k' :Int)∧k' ≤x.length∧x.length - k' <x.length - k) ((true)=true∧True))))) (by kernel_rfl) ?_
 intro n0 n1
 simp only[List.length_map] at n0 n1
 refine⟨List.length_map _,List.length_map _,by simp,⟨0,rfl,Nat.zero_le _⟩,fun k hk=>?_⟩
 refine⟨List.length_map _,dd (fun c1=>?_) fun c1=>?_⟩
 ·obtain⟨y,hy⟩:=dE (l:=x) (k:=k) (by omega)
  refine⟨by omega,rfl,by omega,fun e19 h19=>?_⟩
  try (obtain rfl:=aZ hy h19)
  refine⟨by omega,rfl,by omega,fun e23 h23=>?_⟩
  try (obtain rfl:=aZ hy h23)
  refine⟨by exact aIp _,⟨by omega,by omega⟩,?_⟩
  exact⟨k+1,rfl,by omega,by omega⟩
 ·refine⟨?_,trivial⟩
  ·rfl
abbrev aFG (x:aM):Prop:=cH Tryz.prog 120 [.agg [.str x.name,.int .i64 x.arity,.int .i64 x.rowCount,.sl 220 3 (x.groups.map aD)],.agg [.str x.name,.int .i64 x.arity,.int .i64 x.rowCount,.sl 220 3 (x.groups.map aD)]] (vB true) []
theorem aIq (x:aM):aFG x:=by
 refine aW bH aO Tryz.func120 (by kernel_rfl) (.no<| .no<| .no<| .call (vB true) []<| .fin []) (p:=(x.groups.map aD).length≤9223372036854775807→(x.groups.map aD).length≤9223372036854775807→(!(x.name.toList==x.name.toList))=false∧(!(decide (x.arity=x.arity)))=false∧(!(decide (x.rowCount=x.rowCount)))=false∧uH x.groups∧(true)=true∧True) (by kernel_rfl) ?_
 intro n0 n1
 simp only[List.length_map] at n0 n1
 refine⟨by simp,by simp,by simp,by exact aIJ x.groups,?_,trivial⟩
 ·rfl
abbrev uI (x:List aM):Prop:=cH Tryz.prog 68 [.one (.sl 88 4 (x.map aG)),.one (.sl 88 4 (x.map aG))] (vB true) []
theorem aIK (x:List aM):uI x:=by
 refine aW bH aO Tryz.func68 (by kernel_rfl) (.len x.length<| .len x.length<| .no<| .loop Nat (Q1 Nat) ([5]++rg 11 16) [] (fun k=>[(5,vI (k:Int))]) (fun k=>[]) (fun k=>k≤x.length) (fun k=>x.length - k) (fun k=> .len x.length<| .br (.elem _ aG x (fun e19=> .elem _ aG x (fun e23=> .call (vB true) []<| .back []))) (.fin []))) (p:=(x.map aG).length≤9223372036854775807→(x.map aG).length≤9223372036854775807→Lm aG x∧(Lm aG x∧((!(decide ((x.length:Int)=(x.length:Int))))=false∧((∃(k:Nat),0=(k:Int)∧k≤x.length)∧ ∀(k:Nat),k≤x.length→Lm aG x∧Br ((k:Int)<(x.length:Int)) (0≤(k:Int)∧Em aG x k fun e19=>0≤(k:Int)∧Em aG x k fun e23=>cH Tryz.prog 120 [.agg [.str e19.name,.int .i64 e19.arity,.int .i64 e19.rowCount,.sl 220 3 (e19.groups.map aD)],.agg [.str e23.name,.int .i64 e23.arity,.int .i64 e23.rowCount,.sl 220 3 (e23.groups.map aD)]] (vB true) []∧bO ((k:Int)+1)∧ ∃(k' :Nat),((k:Int)+1)=(k' :Int)∧k' ≤x.length∧x.length - k' <x.length - k) ((true)=true∧True))))) (by kernel_rfl) ?_
 intro n0 n1
 simp only[List.length_map] at n0 n1
 refine⟨List.length_map _,List.length_map _,by simp,⟨0,rfl,Nat.zero_le _⟩,fun k hk=>?_⟩
 refine⟨List.length_map _,dd (fun c1=>?_) fun c1=>?_⟩
 ·obtain⟨y,hy⟩:=dE (l:=x) (k:=k) (by omega)
  refine⟨by omega,rfl,by omega,fun e19 h19=>?_⟩
  try (obtain rfl:=aZ hy h19)
  refine⟨by omega,rfl,by omega,fun e23 h23=>?_⟩
  try (obtain rfl:=aZ hy h23)
  refine⟨by exact aIq _,⟨by omega,by omega⟩,?_⟩
  exact⟨k+1,rfl,by omega,by omega⟩
 ·refine⟨?_,trivial⟩
  ·rfl
abbrev aAG (x:cJ):Prop:=cH Tryz.prog 35 [.agg [.int .i64 x.version,.sl 88 4 (x.tables.map aG)],.agg [.int .i64 x.version,.sl 88 4 (x.tables.map aG)]] (vB true) []
theorem aL6 (x:cJ):aAG x:=by
 refine aW bH aO Tryz.func35 (by kernel_rfl) (.no<| .call (vB true) []<| .fin []) (p:=(x.tables.map aG).length≤9223372036854775807→(x.tables.map aG).length≤9223372036854775807→(!(decide (x.version=x.version)))=false∧uI x.tables∧(true)=true∧True) (by kernel_rfl) ?_
 intro n0 n1
 simp only[List.length_map] at n0 n1
 refine⟨by simp,by exact aIK x.tables,?_,trivial⟩
 ·rfl
abbrev aFH (x:bD):Prop:=cH Tryz.prog 69 [.agg [.str x.name,.sl 3 1 (x.src.map intD),.int .i64 x.dst],.agg [.str x.name,.sl 3 1 (x.src.map intD),.int .i64 x.dst]] (vB true) []
theorem aIr (x:bD):aFH x:=by
 refine aW bH aO Tryz.func69 (by kernel_rfl) (.no<| .call (vB true) []<| .lit<| .no<| .fin []) (p:=(x.src.map intD).length≤9223372036854775807→(x.src.map intD).length≤9223372036854775807→(!(x.name.toList==x.name.toList))=false∧uG x.src∧(!(decide (x.dst=x.dst)))=false∧(true)=true∧True) (by kernel_rfl) ?_
 intro n0 n1
 simp only[List.length_map] at n0 n1
 refine⟨by simp,by exact aDB x.src,by simp,?_,trivial⟩
 ·rfl
abbrev uJ (x:List bD):Prop:=cH Tryz.prog 36 [.one (.sl 121 3 (x.map aP)),.one (.sl 121 3 (x.map aP))] (vB true) []
theorem aIL (x:List bD):uJ x:=by
 refine aW bH aO Tryz.func36 (by kernel_rfl) (.len x.length<| .len x.length<| .no<| .loop Nat (Q1 Nat) ([5]++rg 11 16) [] (fun k=>[(5,vI (k:Int))]) (fun k=>[]) (fun k=>k≤x.length) (fun k=>x.length - k) (fun k=> .len x.length<| .br (.elem _ aP x (fun e19=> .elem _ aP x (fun e23=> .call (vB true) []<| .back []))) (.fin []))) (p:=(x.map aP).length≤9223372036854775807→(x.map aP).length≤9223372036854775807→Lm aP x∧(Lm aP x∧((!(decide ((x.length:Int)=(x.length:Int))))=false∧((∃(k:Nat),0=(k:Int)∧k≤x.length)∧ ∀(k:Nat),k≤x.length→Lm aP x∧Br ((k:Int)<(x.length:Int)) (0≤(k:Int)∧Em aP x k fun e19=>0≤(k:Int)∧Em aP x k fun e23=>cH Tryz.prog 69 [.agg [.str e19.name,.sl 3 1 (e19.src.map intD),.int .i64 e19.dst],.agg [.str e23.name,.sl 3 1 (e23.src.map intD),.int .i64 e23.dst]] (vB true) []∧bO ((k:Int)+1)∧ ∃(k' :Nat),((k:Int)+1)=(k' :Int)∧k' ≤x.length∧x.length - k' <x.length - k) ((true)=true∧True))))) (by kernel_rfl) ?_
 intro n0 n1
 simp only[List.length_map] at n0 n1
 refine⟨List.length_map _,List.length_map _,by simp,⟨0,rfl,Nat.zero_le _⟩,fun k hk=>?_⟩
 refine⟨List.length_map _,dd (fun c1=>?_) fun c1=>?_⟩
 ·obtain⟨y,hy⟩:=dE (l:=x) (k:=k) (by omega)
  refine⟨by omega,rfl,by omega,fun e19 h19=>?_⟩
  try (obtain rfl:=aZ hy h19)
  refine⟨by omega,rfl,by omega,fun e23 h23=>?_⟩
  try (obtain rfl:=aZ hy h23)
  refine⟨by exact aIr _,⟨by omega,by omega⟩,?_⟩
  exact⟨k+1,rfl,by omega,by omega⟩
 ·refine⟨?_,trivial⟩
  ·rfl
abbrev aIM (x:bB):Prop:=cH Tryz.prog 70 [.agg [.str x.name,.int .i64 x.column,.str x.into,.int .i64 x.intoColumn],.agg [.str x.name,.int .i64 x.column,.str x.into,.int .i64 x.intoColumn]] (vB true) []
theorem aL7 (x:bB):aIM x:=by
 refine aW bH aO Tryz.func70 (by kernel_rfl) (.no<| .no<| .no<| .no<| .fin []) (p:=(!(x.name.toList==x.name.toList))=false∧(!(decide (x.column=x.column)))=false∧(!(x.into.toList==x.into.toList))=false∧(!(decide (x.intoColumn=x.intoColumn)))=false∧(true)=true∧True) (by kernel_rfl) ?_
 refine⟨by simp,by simp,by simp,by simp,?_,trivial⟩
 ·rfl
abbrev wR (x:List bB):Prop:=cH Tryz.prog 37 [.one (.sl 123 4 (x.map aS)),.one (.sl 123 4 (x.map aS))] (vB true) []
theorem aIs (x:List bB):wR x:=by
 refine aW bH aO Tryz.func37 (by kernel_rfl) (.len x.length<| .len x.length<| .no<| .loop Nat (Q1 Nat) ([5]++rg 11 16) [] (fun k=>[(5,vI (k:Int))]) (fun k=>[]) (fun k=>k≤x.length) (fun k=>x.length - k) (fun k=> .len x.length<| .br (.elem _ aS x (fun e19=> .elem _ aS x (fun e23=> .call (vB true) []<| .back []))) (.fin []))) (p:=(x.map aS).length≤9223372036854775807→(x.map aS).length≤9223372036854775807→Lm aS x∧(Lm aS x∧((!(decide ((x.length:Int)=(x.length:Int))))=false∧((∃(k:Nat),0=(k:Int)∧k≤x.length)∧ ∀(k:Nat),k≤x.length→Lm aS x∧Br ((k:Int)<(x.length:Int)) (0≤(k:Int)∧Em aS x k fun e19=>0≤(k:Int)∧Em aS x k fun e23=>cH Tryz.prog 70 [.agg [.str e19.name,.int .i64 e19.column,.str e19.into,.int .i64 e19.intoColumn],.agg [.str e23.name,.int .i64 e23.column,.str e23.into,.int .i64 e23.intoColumn]] (vB true) []∧bO ((k:Int)+1)∧ ∃(k' :Nat),((k:Int)+1)=(k' :Int)∧k' ≤x.length∧x.length - k' <x.length - k) ((true)=true∧True))))) (by kernel_rfl) ?_
 intro n0 n1
 simp only[List.length_map] at n0 n1
 refine⟨List.length_map _,List.length_map _,by simp,⟨0,rfl,Nat.zero_le _⟩,fun k hk=>?_⟩
 refine⟨List.length_map _,dd (fun c1=>?_) fun c1=>?_⟩
 ·obtain⟨y,hy⟩:=dE (l:=x) (k:=k) (by omega)
  refine⟨by omega,rfl,by omega,fun e19 h19=>?_⟩
  try (obtain rfl:=aZ hy h19)
  refine⟨by omega,rfl,by omega,fun e23 h23=>?_⟩
  try (obtain rfl:=aZ hy h23)
  refine⟨by exact aL7 _,⟨by omega,by omega⟩,?_⟩
  exact⟨k+1,rfl,by omega,by omega⟩
 ·refine⟨?_,trivial⟩
  ·rfl
abbrev aIN (x:StoreD):Prop:=cH Tryz.prog 13 [.agg [.sl 142 3 (x.database.tables.map aT),.int .i64 x.catalogue.version,.sl 88 4 (x.catalogue.tables.map aG),.sl 121 3 (x.dependencies.map aP),.sl 123 4 (x.inclusions.map aS)],.agg [.sl 142 3 (x.database.tables.map aT),.int .i64 x.catalogue.version,.sl 88 4 (x.catalogue.tables.map aG),.sl 121 3 (x.dependencies.map aP),.sl 123 4 (x.inclusions.map aS)]] (vB true) []
theorem aVE (x:StoreD):aIN x:=by
 refine aW bH aO Tryz.func13 (by kernel_rfl) (.call (vB true) []<| .call (vB true) []<| .call (vB true) []<| .call (vB true) []<| .fin []) (p:=(x.database.tables.map aT).length≤9223372036854775807→(x.catalogue.tables.map aG).length≤9223372036854775807→(x.dependencies.map aP).length≤9223372036854775807→(x.inclusions.map aS).length≤9223372036854775807→(x.database.tables.map aT).length≤9223372036854775807→(x.catalogue.tables.map aG).length≤9223372036854775807→(x.dependencies.map aP).length≤9223372036854775807→(x.inclusions.map aS).length≤9223372036854775807→aAs x.database∧aAG x.catalogue∧uJ x.dependencies∧wR x.inclusions∧(true)=true∧True) (by kernel_rfl) ?_
 intro n0 n1 n2 n3 n4 n5 n6 n7
 simp only[List.length_map] at n0 n1 n2 n3 n4 n5 n6 n7
 refine⟨by exact aNm x.database,by exact aL6 x.catalogue,by exact aIL x.dependencies,by exact aIs x.inclusions,?_,trivial⟩
 ·rfl
abbrev aAt (x:aB):Prop:=cH Tryz.prog 12 [.agg [.int .i64 x.num,.int .i64 x.den],.agg [.int .i64 x.num,.int .i64 x.den]] (vB true) []
theorem aNn (x:aB):aAt x:=by
 refine aW bH aO Tryz.func12 (by kernel_rfl) (.no<| .no<| .fin []) (p:=(!(decide (x.num=x.num)))=false∧(!(decide (x.den=x.den)))=false∧(true)=true∧True) (by kernel_rfl) ?_
 refine⟨by simp,by simp,?_,trivial⟩
 ·rfl
abbrev qS (x:List Int)(m:Int):Prop:=cH Tryz.prog 115 [.one (.sl 3 1 (x.map intD)),.one (.int .i64 m)] (vI (aU (cG x) m)) []
theorem aDC (x:List Int)(m:Int)(hf:aDv x)(h0:0≤m)(h1:m≤1048576):qS x m:=by
 refine aW bH aO Tryz.func115 (by kernel_rfl) (.len x.length<| .br (.fin []) (.fin [])) (p:=(x.map intD).length≤9223372036854775807→Lm intD x∧bO (m - (x.length:Int))∧Br ((m - (x.length:Int))<0) ((-1:Int)=(aU (cG x) m)∧True) ((m - (x.length:Int))=(aU (cG x) m)∧True)) (by kernel_rfl) ?_
 intro n0
 simp only[List.length_map] at n0
 refine⟨List.length_map _,⟨by omega,by omega⟩,dd (fun c0=>?_) fun c0=>?_⟩
 ·refine⟨?_,trivial⟩
  ·unfold cG;(rw[cM (by omega)];done)
 ·refine⟨?_,trivial⟩
  ·unfold cG;(rw[bV (by omega)];done)
abbrev aBy (x:List (List Int))(m:Int):Prop:=cH Tryz.prog 171 [.one (.sl 91 1 (x.map aC)),.one (.int .i64 m)] (vI (aU (cT x) m)) []
theorem aNo (x:List (List Int))(m:Int)(hf:aGN x)(h0:0≤m)(h1:m≤1048576):aBy x m:=by
 refine aW bH aO Tryz.func171 (by kernel_rfl) (.len x.length<| .br (.fin []) (.loop (Nat × Int) (Q2 Nat Int) ([1,5]++rg 12 14) [] (fun yy0=>[(5,vI (yy0.1:Int)),(1,vI yy0.2)]) (fun yy0=>[]) (fun yy0=>yy0.1≤x.length∧yy0.2=m - x.length - (fE cG (x.take yy0.1):Nat)∧0≤yy0.2) (fun yy0=>x.length - yy0.1) (fun yy0=> .len x.length<| .br (.elem _ aC x (fun e20=> .call (vI (aU (cG e20) yy0.2)) []<| .br (.fin []) (.back []))) (.fin [])))) (p:=(x.map aC).length≤9223372036854775807→Lm aC x∧(bO (m - (x.length:Int))∧Br ((m - (x.length:Int))<0) ((-1:Int)=(aU (cT x) m)∧True) ((∃(k:Nat) (z:Int),0=(k:Int)∧(m - (x.length:Int))=z∧k≤x.length∧z=m - x.length - (fE cG (x.take k):Nat)∧0≤z)∧ ∀(k:Nat) (z:Int),(k≤x.length∧z=m - x.length - (fE cG (x.take k):Nat)∧0≤z)→Lm aC x∧Br ((k:Int)<(x.length:Int)) (0≤(k:Int)∧Em aC x k fun e20=>qS e20 z∧Br ((aU (cG e20) z)<0) ((-1:Int)=(aU (cT x) m)∧True) (bO ((k:Int)+1)∧ ∃(k' :Nat) (z' :Int),((k:Int)+1)=(k' :Int)∧(aU (cG e20) z)=z' ∧(k' ≤x.length∧z' =m - x.length - (fE cG (x.take k'):Nat)∧0≤z')∧x.length - k' <x.length - k)) (z=(aU (cT x) m)∧True)))) (by kernel_rfl) ?_
 intro n0
 simp only[List.length_map] at n0
 have hS:cT x=x.length+fE cG x:=rfl
 refine⟨List.length_map _,⟨by omega,by omega⟩,dd (fun c0=>?_) fun c0=>?_⟩
 ·refine⟨?_,trivial⟩
  ·(rw[cM (by omega)];done)
 ·refine⟨⟨0,m - (x.length:Int),rfl,rfl,Nat.zero_le _,by simp[fE],by omega⟩,fun k z ⟨hk,hz,hz0⟩=>?_⟩
  refine⟨List.length_map _,dd (fun c1=>?_) fun c1=>?_⟩
  ·obtain⟨y,hy⟩:=dE (l:=x) (k:=k) (by omega)
   have hfy:=hf y (List.mem_of_getElem? hy)
   refine⟨by omega,rfl,by omega,fun e20 h20=>?_⟩
   obtain rfl:=aZ hy h20
   refine⟨aDC e20 _ (by assumption) (by omega) (by omega),dd (fun c2=>?_) fun c2=>?_⟩
   ·have y3:=jM c2
    have y4:=gW cG ‹x[k]? =some _›
    have y5:=uP cG x (k+1)
    refine⟨?_,trivial⟩
    ·(rw[cM (by omega)];done)
   ·have y2:=bV (iY c2)
    have y3:=iY c2
    have y4:=gW cG ‹x[k]? =some _›
    refine⟨⟨by omega,by omega⟩,?_⟩
    exact⟨k+1,aU (cG e20) z,rfl,rfl,⟨by omega,by rw[y2,y4,hz];omega,by rw[y2];omega⟩,by omega⟩
  ·have y6:k=x.length:=by omega
   rw[y6,List.take_length] at hz
   refine⟨?_,trivial⟩
   ·(rw[bV (by omega)];omega)
abbrev aIO (x:bA)(m:Int):Prop:=cH Tryz.prog 113 [.agg [.str x.name,.int .i64 x.arity,.sl 91 1 (x.rows.map aC)],.one (.int .i64 m)] (vI (aU (gG x) m)) []
theorem aVF (x:bA)(m:Int)(hf:aOS x)(h0:0≤m)(h1:m≤1048576):aIO x m:=by
 refine aW bH aO Tryz.func113 (by kernel_rfl) (.br (.fin []) (.call (vI (aU (cT x.rows) (m - (x.name.size:Int)))) []<| .br (.fin []) (.fin []))) (p:=(x.rows.map aC).length≤9223372036854775807→bO (m - (x.name.size:Int))∧Br ((m - (x.name.size:Int))<0) ((-1:Int)=(aU (gG x) m)∧True) (aBy x.rows (m - (x.name.size:Int))∧Br ((aU (cT x.rows) (m - (x.name.size:Int)))<0) ((-1:Int)=(aU (gG x) m)∧True) ((aU (cT x.rows) (m - (x.name.size:Int)))=(aU (gG x) m)∧True))) (by kernel_rfl) ?_
 intro n0
 simp only[List.length_map] at n0
 obtain⟨f_name,f_arity,f_rows⟩:=hf
 have hmx:maxLen=9223372036854775807:=rfl
 have g_name:x.name.size≤maxLen:=f_name
 refine⟨⟨by omega,by omega⟩,dd (fun c0=>?_) fun c0=>?_⟩
 ·refine⟨?_,trivial⟩
  ·unfold gG;(rw[cM (by omega)];done)
 ·refine⟨aNo x.rows _ (by assumption) (by omega) (by omega),dd (fun c1=>?_) fun c1=>?_⟩
  ·have y1:=jM c1
   refine⟨?_,trivial⟩
   ·unfold gG;(rw[cM (by omega)];done)
  ·have y1:=iY c1
   rw[bV y1] at*
   refine⟨?_,trivial⟩
   ·unfold gG;(rw[bV (by omega)];omega)
abbrev aEt (x:List bA)(m:Int):Prop:=cH Tryz.prog 57 [.one (.sl 142 3 (x.map aT)),.one (.int .i64 m)] (vI (aU (lB x) m)) []
theorem aSC (x:List bA)(m:Int)(hf:aFR x)(h0:0≤m)(h1:m≤1048576):aEt x m:=by
 refine aW bH aO Tryz.func57 (by kernel_rfl) (.len x.length<| .br (.fin []) (.loop (Nat × Int) (Q2 Nat Int) ([1,5]++rg 12 14) [] (fun yy0=>[(5,vI (yy0.1:Int)),(1,vI yy0.2)]) (fun yy0=>[]) (fun yy0=>yy0.1≤x.length∧yy0.2=m - x.length - (fE gG (x.take yy0.1):Nat)∧0≤yy0.2) (fun yy0=>x.length - yy0.1) (fun yy0=> .len x.length<| .br (.elem _ aT x (fun e20=> .call (vI (aU (gG e20) yy0.2)) []<| .br (.fin []) (.back []))) (.fin [])))) (p:=(x.map aT).length≤9223372036854775807→Lm aT x∧(bO (m - (x.length:Int))∧Br ((m - (x.length:Int))<0) ((-1:Int)=(aU (lB x) m)∧True) ((∃(k:Nat) (z:Int),0=(k:Int)∧(m - (x.length:Int))=z∧k≤x.length∧z=m - x.length - (fE gG (x.take k):Nat)∧0≤z)∧ ∀(k:Nat) (z:Int),(k≤x.length∧z=m - x.length - (fE gG (x.take k):Nat)∧0≤z)→Lm aT x∧Br ((k:Int)<(x.length:Int)) (0≤(k:Int)∧Em aT x k fun e20=>aIO e20 z∧Br ((aU (gG e20) z)<0) ((-1:Int)=(aU (lB x) m)∧True) (bO ((k:Int)+1)∧ ∃(k' :Nat) (z' :Int),((k:Int)+1)=(k' :Int)∧(aU (gG e20) z)=z' ∧(k' ≤x.length∧z' =m - x.length - (fE gG (x.take k'):Nat)∧0≤z')∧x.length - k' <x.length - k)) (z=(aU (lB x) m)∧True)))) (by kernel_rfl) ?_
 intro n0
 simp only[List.length_map] at n0
 have hS:lB x=x.length+fE gG x:=rfl
 refine⟨List.length_map _,⟨by omega,by omega⟩,dd (fun c0=>?_) fun c0=>?_⟩
 ·refine⟨?_,trivial⟩
  ·(rw[cM (by omega)];done)
 ·refine⟨⟨0,m - (x.length:Int),rfl,rfl,Nat.zero_le _,by simp[fE],by omega⟩,fun k z ⟨hk,hz,hz0⟩=>?_⟩
  refine⟨List.length_map _,dd (fun c1=>?_) fun c1=>?_⟩
  ·obtain⟨y,hy⟩:=dE (l:=x) (k:=k) (by omega)
   have hfy:=hf y (List.mem_of_getElem? hy)
   refine⟨by omega,rfl,by omega,fun e20 h20=>?_⟩
   obtain rfl:=aZ hy h20
   refine⟨aVF e20 _ (by assumption) (by omega) (by omega),dd (fun c2=>?_) fun c2=>?_⟩
   ·have y3:=jM c2
    have y4:=gW gG ‹x[k]? =some _›
    have y5:=uP gG x (k+1)
    refine⟨?_,trivial⟩
    ·(rw[cM (by omega)];done)
   ·have y2:=bV (iY c2)
    have y3:=iY c2
    have y4:=gW gG ‹x[k]? =some _›
    refine⟨⟨by omega,by omega⟩,?_⟩
    exact⟨k+1,aU (gG e20) z,rfl,rfl,⟨by omega,by rw[y2,y4,hz];omega,by rw[y2];omega⟩,by omega⟩
  ·have y6:k=x.length:=by omega
   rw[y6,List.take_length] at hz
   refine⟨?_,trivial⟩
   ·(rw[bV (by omega)];omega)
abbrev aAu (x:aV)(m:Int):Prop:=cH Tryz.prog 24 [.agg [.sl 142 3 (x.tables.map aT)],.one (.int .i64 m)] (vI (aU (bR x) m)) []
theorem aNp (x:aV)(m:Int)(hf:aDU x)(h0:0≤m)(h1:m≤1048576):aAu x m:=by
 refine aW bH aO Tryz.func24 (by kernel_rfl) (.call (vI (aU (lB x.tables) m)) []<| .br (.fin []) (.fin [])) (p:=(x.tables.map aT).length≤9223372036854775807→aEt x.tables m∧Br ((aU (lB x.tables) m)<0) ((-1:Int)=(aU (bR x) m)∧True) ((aU (lB x.tables) m)=(aU (bR x) m)∧True)) (by kernel_rfl) ?_
 intro n0
 simp only[List.length_map] at n0
 have f_tables:=hf
 have hmx:maxLen=9223372036854775807:=rfl
 refine⟨aSC x.tables _ (by assumption) (by omega) (by omega),dd (fun c0=>?_) fun c0=>?_⟩
 ·have y0:=jM c0
  refine⟨?_,trivial⟩
  ·unfold bR;(rw[cM (by omega)];done)
 ·have y0:=iY c0
  rw[bV y0] at*
  refine⟨?_,trivial⟩
  ·unfold bR;(rw[bV (by omega)];done)
abbrev aK6 (x:dG)(m:Int):Prop:=cH Tryz.prog 61 [.agg [.str x.name,.sl 3 1 (x.vars.map intD)],.one (.int .i64 m)] (vI (aU (jU x) m)) []
theorem aWe (x:dG)(m:Int)(hf:aTO x)(h0:0≤m)(h1:m≤1048576):aK6 x m:=by
 refine aW bH aO Tryz.func61 (by kernel_rfl) (.br (.fin []) (.call (vI (aU (cG x.vars) (m - (x.name.size:Int)))) []<| .br (.fin []) (.fin []))) (p:=(x.vars.map intD).length≤9223372036854775807→bO (m - (x.name.size:Int))∧Br ((m - (x.name.size:Int))<0) ((-1:Int)=(aU (jU x) m)∧True) (qS x.vars (m - (x.name.size:Int))∧Br ((aU (cG x.vars) (m - (x.name.size:Int)))<0) ((-1:Int)=(aU (jU x) m)∧True) ((aU (cG x.vars) (m - (x.name.size:Int)))=(aU (jU x) m)∧True))) (by kernel_rfl) ?_
 intro n0
 simp only[List.length_map] at n0
 obtain⟨f_name,f_vars⟩:=hf
 have hmx:maxLen=9223372036854775807:=rfl
 have g_name:x.name.size≤maxLen:=f_name
 refine⟨⟨by omega,by omega⟩,dd (fun c0=>?_) fun c0=>?_⟩
 ·refine⟨?_,trivial⟩
  ·unfold jU;(rw[cM (by omega)];done)
 ·refine⟨aDC x.vars _ (by assumption) (by omega) (by omega),dd (fun c1=>?_) fun c1=>?_⟩
  ·have y1:=jM c1
   refine⟨?_,trivial⟩
   ·unfold jU;(rw[cM (by omega)];done)
  ·have y1:=iY c1
   rw[bV y1] at*
   refine⟨?_,trivial⟩
   ·unfold jU;(rw[bV (by omega)];omega)
abbrev aIP (x:List dG)(m:Int):Prop:=cH Tryz.prog 28 [.one (.sl 125 2 (x.map bM)),.one (.int .i64 m)] (vI (aU (jV x) m)) []
theorem aVG (x:List dG)(m:Int)(hf:aKv x)(h0:0≤m)(h1:m≤1048576):aIP x m:=by
 refine aW bH aO Tryz.func28 (by kernel_rfl) (.len x.length<| .br (.fin []) (.loop (Nat × Int) (Q2 Nat Int) ([1,5]++rg 12 14) [] (fun yy0=>[(5,vI (yy0.1:Int)),(1,vI yy0.2)]) (fun yy0=>[]) (fun yy0=>yy0.1≤x.length∧yy0.2=m - x.length - (fE jU (x.take yy0.1):Nat)∧0≤yy0.2) (fun yy0=>x.length - yy0.1) (fun yy0=> .len x.length<| .br (.elem _ bM x (fun e20=> .call (vI (aU (jU e20) yy0.2)) []<| .br (.fin []) (.back []))) (.fin [])))) (p:=(x.map bM).length≤9223372036854775807→Lm bM x∧(bO (m - (x.length:Int))∧Br ((m - (x.length:Int))<0) ((-1:Int)=(aU (jV x) m)∧True) ((∃(k:Nat) (z:Int),0=(k:Int)∧(m - (x.length:Int))=z∧k≤x.length∧z=m - x.length - (fE jU (x.take k):Nat)∧0≤z)∧ ∀(k:Nat) (z:Int),(k≤x.length∧z=m - x.length - (fE jU (x.take k):Nat)∧0≤z)→Lm bM x∧Br ((k:Int)<(x.length:Int)) (0≤(k:Int)∧Em bM x k fun e20=>aK6 e20 z∧Br ((aU (jU e20) z)<0) ((-1:Int)=(aU (jV x) m)∧True) (bO ((k:Int)+1)∧ ∃(k' :Nat) (z' :Int),((k:Int)+1)=(k' :Int)∧(aU (jU e20) z)=z' ∧(k' ≤x.length∧z' =m - x.length - (fE jU (x.take k'):Nat)∧0≤z')∧x.length - k' <x.length - k)) (z=(aU (jV x) m)∧True)))) (by kernel_rfl) ?_
 intro n0
 simp only[List.length_map] at n0
 have hS:jV x=x.length+fE jU x:=rfl
 refine⟨List.length_map _,⟨by omega,by omega⟩,dd (fun c0=>?_) fun c0=>?_⟩
 ·refine⟨?_,trivial⟩
  ·(rw[cM (by omega)];done)
 ·refine⟨⟨0,m - (x.length:Int),rfl,rfl,Nat.zero_le _,by simp[fE],by omega⟩,fun k z ⟨hk,hz,hz0⟩=>?_⟩
  refine⟨List.length_map _,dd (fun c1=>?_) fun c1=>?_⟩
  ·obtain⟨y,hy⟩:=dE (l:=x) (k:=k) (by omega)
   have hfy:=hf y (List.mem_of_getElem? hy)
   refine⟨by omega,rfl,by omega,fun e20 h20=>?_⟩
   obtain rfl:=aZ hy h20
   refine⟨aWe e20 _ (by assumption) (by omega) (by omega),dd (fun c2=>?_) fun c2=>?_⟩
   ·have y3:=jM c2
    have y4:=gW jU ‹x[k]? =some _›
    have y5:=uP jU x (k+1)
    refine⟨?_,trivial⟩
    ·(rw[cM (by omega)];done)
   ·have y2:=bV (iY c2)
    have y3:=iY c2
    have y4:=gW jU ‹x[k]? =some _›
    refine⟨⟨by omega,by omega⟩,?_⟩
    exact⟨k+1,aU (jU e20) z,rfl,rfl,⟨by omega,by rw[y2,y4,hz];omega,by rw[y2];omega⟩,by omega⟩
  ·have y6:k=x.length:=by omega
   rw[y6,List.take_length] at hz
   refine⟨?_,trivial⟩
   ·(rw[bV (by omega)];omega)
abbrev aIQ (x:QueryD)(m:Int):Prop:=cH Tryz.prog 7 [.agg [.int .i64 x.variableCount,.sl 125 2 (x.atoms.map bM)],.one (.int .i64 m)] (vI (aU (hY x) m)) []
theorem aVH (x:QueryD)(m:Int)(hf:aOT x)(h0:0≤m)(h1:m≤1048576):aIQ x m:=by
 refine aW bH aO Tryz.func7 (by kernel_rfl) (.call (vI (aU (jV x.atoms) m)) []<| .br (.fin []) (.fin [])) (p:=(x.atoms.map bM).length≤9223372036854775807→aIP x.atoms m∧Br ((aU (jV x.atoms) m)<0) ((-1:Int)=(aU (hY x) m)∧True) ((aU (jV x.atoms) m)=(aU (hY x) m)∧True)) (by kernel_rfl) ?_
 intro n0
 simp only[List.length_map] at n0
 obtain⟨f_variableCount,f_atoms⟩:=hf
 have hmx:maxLen=9223372036854775807:=rfl
 refine⟨aVG x.atoms _ (by assumption) (by omega) (by omega),dd (fun c0=>?_) fun c0=>?_⟩
 ·have y0:=jM c0
  refine⟨?_,trivial⟩
  ·unfold hY;(rw[cM (by omega)];done)
 ·have y0:=iY c0
  rw[bV y0] at*
  refine⟨?_,trivial⟩
  ·unfold hY;(rw[bV (by omega)];done)
abbrev wS (x:aR)(m:Int):Prop:=cH Tryz.prog 215 [.agg [.sl 3 1 (x.columns.map intD),.sl 91 1 (x.values.map aC),.sl 3 1 (x.counts.map intD)],.one (.int .i64 m)] (vI (aU (cA x) m)) []
theorem aIt (x:aR)(m:Int)(hf:xW x)(h0:0≤m)(h1:m≤1048576):wS x m:=by
 refine aW bH aO Tryz.func215 (by kernel_rfl) (.call (vI (aU (cG x.columns) m)) []<| .br (.fin []) (.call (vI (aU (cT x.values) (aU (cG x.columns) m))) []<| .br (.fin []) (.call (vI (aU (cG x.counts) (aU (cT x.values) (aU (cG x.columns) m)))) []<| .br (.fin []) (.fin [])))) (p:=(x.columns.map intD).length≤9223372036854775807→(x.values.map aC).length≤9223372036854775807→(x.counts.map intD).length≤9223372036854775807→qS x.columns m∧Br ((aU (cG x.columns) m)<0) ((-1:Int)=(aU (cA x) m)∧True) (aBy x.values (aU (cG x.columns) m)∧Br ((aU (cT x.values) (aU (cG x.columns) m))<0) ((-1:Int)=(aU (cA x) m)∧True) (qS x.counts (aU (cT x.values) (aU (cG x.columns) m))∧Br ((aU (cG x.counts) (aU (cT x.values) (aU (cG x.columns) m)))<0) ((-1:Int)=(aU (cA x) m)∧True) ((aU (cG x.counts) (aU (cT x.values) (aU (cG x.columns) m)))=(aU (cA x) m)∧True)))) (by kernel_rfl) ?_
 intro n0 n1 n2
 simp only[List.length_map] at n0 n1 n2
 obtain⟨f_columns,f_values,f_counts⟩:=hf
 have hmx:maxLen=9223372036854775807:=rfl
 refine⟨aDC x.columns _ (by assumption) (by omega) (by omega),dd (fun c0=>?_) fun c0=>?_⟩
 ·have y0:=jM c0
  refine⟨?_,trivial⟩
  ·unfold cA;(rw[cM (by omega)];done)
 ·have y0:=iY c0
  rw[bV y0] at*
  refine⟨aNo x.values _ (by assumption) (by omega) (by omega),dd (fun c1=>?_) fun c1=>?_⟩
  ·have y1:=jM c1
   refine⟨?_,trivial⟩
   ·unfold cA;(rw[cM (by omega)];done)
  ·have y1:=iY c1
   rw[bV y1] at*
   refine⟨aDC x.counts _ (by assumption) (by omega) (by omega),dd (fun c2=>?_) fun c2=>?_⟩
   ·have y2:=jM c2
    refine⟨?_,trivial⟩
    ·unfold cA;(rw[cM (by omega)];done)
   ·have y2:=iY c2
    rw[bV y2] at*
    refine⟨?_,trivial⟩
    ·unfold cA;(rw[bV (by omega)];omega)
abbrev uK (x:List aR)(m:Int):Prop:=cH Tryz.prog 172 [.one (.sl 220 3 (x.map aD)),.one (.int .i64 m)] (vI (aU (dP x) m)) []
theorem aIR (x:List aR)(m:Int)(hf:qG x)(h0:0≤m)(h1:m≤1048576):uK x m:=by
 refine aW bH aO Tryz.func172 (by kernel_rfl) (.len x.length<| .br (.fin []) (.loop (Nat × Int) (Q2 Nat Int) ([1,5]++rg 12 14) [] (fun yy0=>[(5,vI (yy0.1:Int)),(1,vI yy0.2)]) (fun yy0=>[]) (fun yy0=>yy0.1≤x.length∧yy0.2=m - x.length - (fE cA (x.take yy0.1):Nat)∧0≤yy0.2) (fun yy0=>x.length - yy0.1) (fun yy0=> .len x.length<| .br (.elem _ aD x (fun e20=> .call (vI (aU (cA e20) yy0.2)) []<| .br (.fin []) (.back []))) (.fin [])))) (p:=(x.map aD).length≤9223372036854775807→Lm aD x∧(bO (m - (x.length:Int))∧Br ((m - (x.length:Int))<0) ((-1:Int)=(aU (dP x) m)∧True) ((∃(k:Nat) (z:Int),0=(k:Int)∧(m - (x.length:Int))=z∧k≤x.length∧z=m - x.length - (fE cA (x.take k):Nat)∧0≤z)∧ ∀(k:Nat) (z:Int),(k≤x.length∧z=m - x.length - (fE cA (x.take k):Nat)∧0≤z)→Lm aD x∧Br ((k:Int)<(x.length:Int)) (0≤(k:Int)∧Em aD x k fun e20=>wS e20 z∧Br ((aU (cA e20) z)<0) ((-1:Int)=(aU (dP x) m)∧True) (bO ((k:Int)+1)∧ ∃(k' :Nat) (z' :Int),((k:Int)+1)=(k' :Int)∧(aU (cA e20) z)=z' ∧(k' ≤x.length∧z' =m - x.length - (fE cA (x.take k'):Nat)∧0≤z')∧x.length - k' <x.length - k)) (z=(aU (dP x) m)∧True)))) (by kernel_rfl) ?_
 intro n0
 simp only[List.length_map] at n0
 have hS:dP x=x.length+fE cA x:=rfl
 refine⟨List.length_map _,⟨by omega,by omega⟩,dd (fun c0=>?_) fun c0=>?_⟩
 ·refine⟨?_,trivial⟩
  ·(rw[cM (by omega)];done)
 ·refine⟨⟨0,m - (x.length:Int),rfl,rfl,Nat.zero_le _,by simp[fE],by omega⟩,fun k z ⟨hk,hz,hz0⟩=>?_⟩
  refine⟨List.length_map _,dd (fun c1=>?_) fun c1=>?_⟩
  ·obtain⟨y,hy⟩:=dE (l:=x) (k:=k) (by omega)
   have hfy:=hf y (List.mem_of_getElem? hy)
   refine⟨by omega,rfl,by omega,fun e20 h20=>?_⟩
   obtain rfl:=aZ hy h20
   refine⟨aIt e20 _ (by assumption) (by omega) (by omega),dd (fun c2=>?_) fun c2=>?_⟩
   ·have y3:=jM c2
    have y4:=gW cA ‹x[k]? =some _›
    have y5:=uP cA x (k+1)
    refine⟨?_,trivial⟩
    ·(rw[cM (by omega)];done)
   ·have y2:=bV (iY c2)
    have y3:=iY c2
    have y4:=gW cA ‹x[k]? =some _›
    refine⟨⟨by omega,by omega⟩,?_⟩
    exact⟨k+1,aU (cA e20) z,rfl,rfl,⟨by omega,by rw[y2,y4,hz];omega,by rw[y2];omega⟩,by omega⟩
  ·have y6:k=x.length:=by omega
   rw[y6,List.take_length] at hz
   refine⟨?_,trivial⟩
   ·(rw[bV (by omega)];omega)
abbrev wT (x:aM)(m:Int):Prop:=cH Tryz.prog 114 [.agg [.str x.name,.int .i64 x.arity,.int .i64 x.rowCount,.sl 220 3 (x.groups.map aD)],.one (.int .i64 m)] (vI (aU (bI x) m)) []
theorem aIu (x:aM)(m:Int)(hf:xX x)(h0:0≤m)(h1:m≤1048576):wT x m:=by
 refine aW bH aO Tryz.func114 (by kernel_rfl) (.br (.fin []) (.call (vI (aU (dP x.groups) (m - (x.name.size:Int)))) []<| .br (.fin []) (.fin []))) (p:=(x.groups.map aD).length≤9223372036854775807→bO (m - (x.name.size:Int))∧Br ((m - (x.name.size:Int))<0) ((-1:Int)=(aU (bI x) m)∧True) (uK x.groups (m - (x.name.size:Int))∧Br ((aU (dP x.groups) (m - (x.name.size:Int)))<0) ((-1:Int)=(aU (bI x) m)∧True) ((aU (dP x.groups) (m - (x.name.size:Int)))=(aU (bI x) m)∧True))) (by kernel_rfl) ?_
 intro n0
 simp only[List.length_map] at n0
 obtain⟨f_name,f_arity,f_rowCount,f_groups⟩:=hf
 have hmx:maxLen=9223372036854775807:=rfl
 have g_name:x.name.size≤maxLen:=f_name
 refine⟨⟨by omega,by omega⟩,dd (fun c0=>?_) fun c0=>?_⟩
 ·refine⟨?_,trivial⟩
  ·unfold bI;(rw[cM (by omega)];done)
 ·refine⟨aIR x.groups _ (by assumption) (by omega) (by omega),dd (fun c1=>?_) fun c1=>?_⟩
  ·have y1:=jM c1
   refine⟨?_,trivial⟩
   ·unfold bI;(rw[cM (by omega)];done)
  ·have y1:=iY c1
   rw[bV y1] at*
   refine⟨?_,trivial⟩
   ·unfold bI;(rw[bV (by omega)];omega)
abbrev uL (x:List aM)(m:Int):Prop:=cH Tryz.prog 58 [.one (.sl 88 4 (x.map aG)),.one (.int .i64 m)] (vI (aU (dZ x) m)) []
theorem aIS (x:List aM)(m:Int)(hf:qH x)(h0:0≤m)(h1:m≤1048576):uL x m:=by
 refine aW bH aO Tryz.func58 (by kernel_rfl) (.len x.length<| .br (.fin []) (.loop (Nat × Int) (Q2 Nat Int) ([1,5]++rg 12 14) [] (fun yy0=>[(5,vI (yy0.1:Int)),(1,vI yy0.2)]) (fun yy0=>[]) (fun yy0=>yy0.1≤x.length∧yy0.2=m - x.length - (fE bI (x.take yy0.1):Nat)∧0≤yy0.2) (fun yy0=>x.length - yy0.1) (fun yy0=> .len x.length<| .br (.elem _ aG x (fun e20=> .call (vI (aU (bI e20) yy0.2)) []<| .br (.fin []) (.back []))) (.fin [])))) (p:=(x.map aG).length≤9223372036854775807→Lm aG x∧(bO (m - (x.length:Int))∧Br ((m - (x.length:Int))<0) ((-1:Int)=(aU (dZ x) m)∧True) ((∃(k:Nat) (z:Int),0=(k:Int)∧(m - (x.length:Int))=z∧k≤x.length∧z=m - x.length - (fE bI (x.take k):Nat)∧0≤z)∧ ∀(k:Nat) (z:Int),(k≤x.length∧z=m - x.length - (fE bI (x.take k):Nat)∧0≤z)→Lm aG x∧Br ((k:Int)<(x.length:Int)) (0≤(k:Int)∧Em aG x k fun e20=>wT e20 z∧Br ((aU (bI e20) z)<0) ((-1:Int)=(aU (dZ x) m)∧True) (bO ((k:Int)+1)∧ ∃(k' :Nat) (z' :Int),((k:Int)+1)=(k' :Int)∧(aU (bI e20) z)=z' ∧(k' ≤x.length∧z' =m - x.length - (fE bI (x.take k'):Nat)∧0≤z')∧x.length - k' <x.length - k)) (z=(aU (dZ x) m)∧True)))) (by kernel_rfl) ?_
 intro n0
 simp only[List.length_map] at n0
 have hS:dZ x=x.length+fE bI x:=rfl
 refine⟨List.length_map _,⟨by omega,by omega⟩,dd (fun c0=>?_) fun c0=>?_⟩
 ·refine⟨?_,trivial⟩
  ·(rw[cM (by omega)];done)
 ·refine⟨⟨0,m - (x.length:Int),rfl,rfl,Nat.zero_le _,by simp[fE],by omega⟩,fun k z ⟨hk,hz,hz0⟩=>?_⟩
  refine⟨List.length_map _,dd (fun c1=>?_) fun c1=>?_⟩
  ·obtain⟨y,hy⟩:=dE (l:=x) (k:=k) (by omega)
   have hfy:=hf y (List.mem_of_getElem? hy)
   refine⟨by omega,rfl,by omega,fun e20 h20=>?_⟩
   obtain rfl:=aZ hy h20
   refine⟨aIu e20 _ (by assumption) (by omega) (by omega),dd (fun c2=>?_) fun c2=>?_⟩
   ·have y3:=jM c2
    have y4:=gW bI ‹x[k]? =some _›
    have y5:=uP bI x (k+1)
    refine⟨?_,trivial⟩
    ·(rw[cM (by omega)];done)
   ·have y2:=bV (iY c2)
    have y3:=iY c2
    have y4:=gW bI ‹x[k]? =some _›
    refine⟨⟨by omega,by omega⟩,?_⟩
    exact⟨k+1,aU (bI e20) z,rfl,rfl,⟨by omega,by rw[y2,y4,hz];omega,by rw[y2];omega⟩,by omega⟩
  ·have y6:k=x.length:=by omega
   rw[y6,List.take_length] at hz
   refine⟨?_,trivial⟩
   ·(rw[bV (by omega)];omega)
abbrev aAH (x:cJ)(m:Int):Prop:=cH Tryz.prog 25 [.agg [.int .i64 x.version,.sl 88 4 (x.tables.map aG)],.one (.int .i64 m)] (vI (aU (bX x) m)) []
theorem aL8 (x:cJ)(m:Int)(hf:aBJ x)(h0:0≤m)(h1:m≤1048576):aAH x m:=by
 refine aW bH aO Tryz.func25 (by kernel_rfl) (.call (vI (aU (dZ x.tables) m)) []<| .br (.fin []) (.fin [])) (p:=(x.tables.map aG).length≤9223372036854775807→uL x.tables m∧Br ((aU (dZ x.tables) m)<0) ((-1:Int)=(aU (bX x) m)∧True) ((aU (dZ x.tables) m)=(aU (bX x) m)∧True)) (by kernel_rfl) ?_
 intro n0
 simp only[List.length_map] at n0
 obtain⟨f_version,f_tables⟩:=hf
 have hmx:maxLen=9223372036854775807:=rfl
 refine⟨aIS x.tables _ (by assumption) (by omega) (by omega),dd (fun c0=>?_) fun c0=>?_⟩
 ·have y0:=jM c0
  refine⟨?_,trivial⟩
  ·unfold bX;(rw[cM (by omega)];done)
 ·have y0:=iY c0
  rw[bV y0] at*
  refine⟨?_,trivial⟩
  ·unfold bX;(rw[bV (by omega)];done)
abbrev wU (x:bD)(m:Int):Prop:=cH Tryz.prog 59 [.agg [.str x.name,.sl 3 1 (x.src.map intD),.int .i64 x.dst],.one (.int .i64 m)] (vI (aU (dD x) m)) []
theorem aIv (x:bD)(m:Int)(hf:xY x)(h0:0≤m)(h1:m≤1048576):wU x m:=by
 refine aW bH aO Tryz.func59 (by kernel_rfl) (.br (.fin []) (.call (vI (aU (cG x.src) (m - (x.name.size:Int)))) []<| .br (.fin []) (.fin []))) (p:=(x.src.map intD).length≤9223372036854775807→bO (m - (x.name.size:Int))∧Br ((m - (x.name.size:Int))<0) ((-1:Int)=(aU (dD x) m)∧True) (qS x.src (m - (x.name.size:Int))∧Br ((aU (cG x.src) (m - (x.name.size:Int)))<0) ((-1:Int)=(aU (dD x) m)∧True) ((aU (cG x.src) (m - (x.name.size:Int)))=(aU (dD x) m)∧True))) (by kernel_rfl) ?_
 intro n0
 simp only[List.length_map] at n0
 obtain⟨f_name,f_src,f_dst⟩:=hf
 have hmx:maxLen=9223372036854775807:=rfl
 have g_name:x.name.size≤maxLen:=f_name
 refine⟨⟨by omega,by omega⟩,dd (fun c0=>?_) fun c0=>?_⟩
 ·refine⟨?_,trivial⟩
  ·unfold dD;(rw[cM (by omega)];done)
 ·refine⟨aDC x.src _ (by assumption) (by omega) (by omega),dd (fun c1=>?_) fun c1=>?_⟩
  ·have y1:=jM c1
   refine⟨?_,trivial⟩
   ·unfold dD;(rw[cM (by omega)];done)
  ·have y1:=iY c1
   rw[bV y1] at*
   refine⟨?_,trivial⟩
   ·unfold dD;(rw[bV (by omega)];omega)
abbrev uM (x:List bD)(m:Int):Prop:=cH Tryz.prog 26 [.one (.sl 121 3 (x.map aP)),.one (.int .i64 m)] (vI (aU (cC x) m)) []
theorem aIT (x:List bD)(m:Int)(hf:qI x)(h0:0≤m)(h1:m≤1048576):uM x m:=by
 refine aW bH aO Tryz.func26 (by kernel_rfl) (.len x.length<| .br (.fin []) (.loop (Nat × Int) (Q2 Nat Int) ([1,5]++rg 12 14) [] (fun yy0=>[(5,vI (yy0.1:Int)),(1,vI yy0.2)]) (fun yy0=>[]) (fun yy0=>yy0.1≤x.length∧yy0.2=m - x.length - (fE dD (x.take yy0.1):Nat)∧0≤yy0.2) (fun yy0=>x.length - yy0.1) (fun yy0=> .len x.length<| .br (.elem _ aP x (fun e20=> .call (vI (aU (dD e20) yy0.2)) []<| .br (.fin []) (.back []))) (.fin [])))) (p:=(x.map aP).length≤9223372036854775807→Lm aP x∧(bO (m - (x.length:Int))∧Br ((m - (x.length:Int))<0) ((-1:Int)=(aU (cC x) m)∧True) ((∃(k:Nat) (z:Int),0=(k:Int)∧(m - (x.length:Int))=z∧k≤x.length∧z=m - x.length - (fE dD (x.take k):Nat)∧0≤z)∧ ∀(k:Nat) (z:Int),(k≤x.length∧z=m - x.length - (fE dD (x.take k):Nat)∧0≤z)→Lm aP x∧Br ((k:Int)<(x.length:Int)) (0≤(k:Int)∧Em aP x k fun e20=>wU e20 z∧Br ((aU (dD e20) z)<0) ((-1:Int)=(aU (cC x) m)∧True) (bO ((k:Int)+1)∧ ∃(k' :Nat) (z' :Int),((k:Int)+1)=(k' :Int)∧(aU (dD e20) z)=z' ∧(k' ≤x.length∧z' =m - x.length - (fE dD (x.take k'):Nat)∧0≤z')∧x.length - k' <x.length - k)) (z=(aU (cC x) m)∧True)))) (by kernel_rfl) ?_
 intro n0
 simp only[List.length_map] at n0
 have hS:cC x=x.length+fE dD x:=rfl
 refine⟨List.length_map _,⟨by omega,by omega⟩,dd (fun c0=>?_) fun c0=>?_⟩
 ·refine⟨?_,trivial⟩
  ·(rw[cM (by omega)];done)
 ·refine⟨⟨0,m - (x.length:Int),rfl,rfl,Nat.zero_le _,by simp[fE],by omega⟩,fun k z ⟨hk,hz,hz0⟩=>?_⟩
  refine⟨List.length_map _,dd (fun c1=>?_) fun c1=>?_⟩
  ·obtain⟨y,hy⟩:=dE (l:=x) (k:=k) (by omega)
   have hfy:=hf y (List.mem_of_getElem? hy)
   refine⟨by omega,rfl,by omega,fun e20 h20=>?_⟩
   obtain rfl:=aZ hy h20
   refine⟨aIv e20 _ (by assumption) (by omega) (by omega),dd (fun c2=>?_) fun c2=>?_⟩
   ·have y3:=jM c2
    have y4:=gW dD ‹x[k]? =some _›
    have y5:=uP dD x (k+1)
    refine⟨?_,trivial⟩
    ·(rw[cM (by omega)];done)
   ·have y2:=bV (iY c2)
    have y3:=iY c2
    have y4:=gW dD ‹x[k]? =some _›
    refine⟨⟨by omega,by omega⟩,?_⟩
    exact⟨k+1,aU (dD e20) z,rfl,rfl,⟨by omega,by rw[y2,y4,hz];omega,by rw[y2];omega⟩,by omega⟩
  ·have y6:k=x.length:=by omega
   rw[y6,List.take_length] at hz
   refine⟨?_,trivial⟩
   ·(rw[bV (by omega)];omega)
abbrev aAI (x:bB)(m:Int):Prop:=cH Tryz.prog 60 [.agg [.str x.name,.int .i64 x.column,.str x.into,.int .i64 x.intoColumn],.one (.int .i64 m)] (vI (aU (dO x) m)) []
theorem aL9 (x:bB)(m:Int)(hf:aBK x)(h0:0≤m)(h1:m≤1048576):aAI x m:=by
 refine aW bH aO Tryz.func60 (by kernel_rfl) (.br (.fin []) (.br (.fin []) (.fin []))) (p:=bO (m - (x.name.size:Int))∧Br ((m - (x.name.size:Int))<0) ((-1:Int)=(aU (dO x) m)∧True) (bO ((m - (x.name.size:Int)) - (x.into.size:Int))∧Br (((m - (x.name.size:Int)) - (x.into.size:Int))<0) ((-1:Int)=(aU (dO x) m)∧True) (((m - (x.name.size:Int)) - (x.into.size:Int))=(aU (dO x) m)∧True))) (by kernel_rfl) ?_
 obtain⟨f_name,f_column,f_into,f_intoColumn⟩:=hf
 have hmx:maxLen=9223372036854775807:=rfl
 have g_name:x.name.size≤maxLen:=f_name
 have g_into:x.into.size≤maxLen:=f_into
 refine⟨⟨by omega,by omega⟩,dd (fun c0=>?_) fun c0=>?_⟩
 ·refine⟨?_,trivial⟩
  ·unfold dO;(rw[cM (by omega)];done)
 ·refine⟨⟨by omega,by omega⟩,dd (fun c1=>?_) fun c1=>?_⟩
  ·refine⟨?_,trivial⟩
   ·unfold dO;(rw[cM (by omega)];done)
  ·refine⟨?_,trivial⟩
   ·unfold dO;(rw[bV (by omega)];omega)
abbrev wV (x:List bB)(m:Int):Prop:=cH Tryz.prog 27 [.one (.sl 123 4 (x.map aS)),.one (.int .i64 m)] (vI (aU (cU x) m)) []
theorem aIw (x:List bB)(m:Int)(hf:sH x)(h0:0≤m)(h1:m≤1048576):wV x m:=by
 refine aW bH aO Tryz.func27 (by kernel_rfl) (.len x.length<| .br (.fin []) (.loop (Nat × Int) (Q2 Nat Int) ([1,5]++rg 12 14) [] (fun yy0=>[(5,vI (yy0.1:Int)),(1,vI yy0.2)]) (fun yy0=>[]) (fun yy0=>yy0.1≤x.length∧yy0.2=m - x.length - (fE dO (x.take yy0.1):Nat)∧0≤yy0.2) (fun yy0=>x.length - yy0.1) (fun yy0=> .len x.length<| .br (.elem _ aS x (fun e20=> .call (vI (aU (dO e20) yy0.2)) []<| .br (.fin []) (.back []))) (.fin [])))) (p:=(x.map aS).length≤9223372036854775807→Lm aS x∧(bO (m - (x.length:Int))∧Br ((m - (x.length:Int))<0) ((-1:Int)=(aU (cU x) m)∧True) ((∃(k:Nat) (z:Int),0=(k:Int)∧(m - (x.length:Int))=z∧k≤x.length∧z=m - x.length - (fE dO (x.take k):Nat)∧0≤z)∧ ∀(k:Nat) (z:Int),(k≤x.length∧z=m - x.length - (fE dO (x.take k):Nat)∧0≤z)→Lm aS x∧Br ((k:Int)<(x.length:Int)) (0≤(k:Int)∧Em aS x k fun e20=>aAI e20 z∧Br ((aU (dO e20) z)<0) ((-1:Int)=(aU (cU x) m)∧True) (bO ((k:Int)+1)∧ ∃(k' :Nat) (z' :Int),((k:Int)+1)=(k' :Int)∧(aU (dO e20) z)=z' ∧(k' ≤x.length∧z' =m - x.length - (fE dO (x.take k'):Nat)∧0≤z')∧x.length - k' <x.length - k)) (z=(aU (cU x) m)∧True)))) (by kernel_rfl) ?_
 intro n0
 simp only[List.length_map] at n0
 have hS:cU x=x.length+fE dO x:=rfl
 refine⟨List.length_map _,⟨by omega,by omega⟩,dd (fun c0=>?_) fun c0=>?_⟩
 ·refine⟨?_,trivial⟩
  ·(rw[cM (by omega)];done)
 ·refine⟨⟨0,m - (x.length:Int),rfl,rfl,Nat.zero_le _,by simp[fE],by omega⟩,fun k z ⟨hk,hz,hz0⟩=>?_⟩
  refine⟨List.length_map _,dd (fun c1=>?_) fun c1=>?_⟩
  ·obtain⟨y,hy⟩:=dE (l:=x) (k:=k) (by omega)
   have hfy:=hf y (List.mem_of_getElem? hy)
   refine⟨by omega,rfl,by omega,fun e20 h20=>?_⟩
   obtain rfl:=aZ hy h20
   refine⟨aL9 e20 _ (by assumption) (by omega) (by omega),dd (fun c2=>?_) fun c2=>?_⟩
   ·have y3:=jM c2
    have y4:=gW dO ‹x[k]? =some _›
    have y5:=uP dO x (k+1)
    refine⟨?_,trivial⟩
    ·(rw[cM (by omega)];done)
   ·have y2:=bV (iY c2)
    have y3:=iY c2
    have y4:=gW dO ‹x[k]? =some _›
    refine⟨⟨by omega,by omega⟩,?_⟩
    exact⟨k+1,aU (dO e20) z,rfl,rfl,⟨by omega,by rw[y2,y4,hz];omega,by rw[y2];omega⟩,by omega⟩
  ·have y6:k=x.length:=by omega
   rw[y6,List.take_length] at hz
   refine⟨?_,trivial⟩
   ·(rw[bV (by omega)];omega)
abbrev aIU (x:StoreD)(m:Int):Prop:=cH Tryz.prog 6 [.agg [.sl 142 3 (x.database.tables.map aT),.int .i64 x.catalogue.version,.sl 88 4 (x.catalogue.tables.map aG),.sl 121 3 (x.dependencies.map aP),.sl 123 4 (x.inclusions.map aS)],.one (.int .i64 m)] (vI (aU (dT x) m)) []
theorem aVI (x:StoreD)(m:Int)(hf:aOV x)(h0:0≤m)(h1:m≤1048576):aIU x m:=by
 refine aW bH aO Tryz.func6 (by kernel_rfl) (.call (vI (aU (bR x.database) m)) []<| .br (.fin []) (.call (vI (aU (bX x.catalogue) (aU (bR x.database) m))) []<| .br (.fin []) (.call (vI (aU (cC x.dependencies) (aU (bX x.catalogue) (aU (bR x.database) m)))) []<| .br (.fin []) (.call (vI (aU (cU x.inclusions) (aU (cC x.dependencies) (aU (bX x.catalogue) (aU (bR x.database) m))))) []<| .br (.fin []) (.fin []))))) (p:=(x.database.tables.map aT).length≤9223372036854775807→(x.catalogue.tables.map aG).length≤9223372036854775807→(x.dependencies.map aP).length≤9223372036854775807→(x.inclusions.map aS).length≤9223372036854775807→aAu x.database m∧Br ((aU (bR x.database) m)<0) ((-1:Int)=(aU (dT x) m)∧True) (aAH x.catalogue (aU (bR x.database) m)∧Br ((aU (bX x.catalogue) (aU (bR x.database) m))<0) ((-1:Int)=(aU (dT x) m)∧True) (uM x.dependencies (aU (bX x.catalogue) (aU (bR x.database) m))∧Br ((aU (cC x.dependencies) (aU (bX x.catalogue) (aU (bR x.database) m)))<0) ((-1:Int)=(aU (dT x) m)∧True) (wV x.inclusions (aU (cC x.dependencies) (aU (bX x.catalogue) (aU (bR x.database) m)))∧Br ((aU (cU x.inclusions) (aU (cC x.dependencies) (aU (bX x.catalogue) (aU (bR x.database) m))))<0) ((-1:Int)=(aU (dT x) m)∧True) ((aU (cU x.inclusions) (aU (cC x.dependencies) (aU (bX x.catalogue) (aU (bR x.database) m))))=(aU (dT x) m)∧True))))) (by kernel_rfl) ?_
 intro n0 n1 n2 n3
 simp only[List.length_map] at n0 n1 n2 n3
 obtain⟨f_database,f_catalogue,f_dependencies,f_inclusions⟩:=hf
 have hmx:maxLen=9223372036854775807:=rfl
 refine⟨aNp x.database _ (by assumption) (by omega) (by omega),dd (fun c0=>?_) fun c0=>?_⟩
 ·have y0:=jM c0
  refine⟨?_,trivial⟩
  ·unfold dT;(rw[cM (by omega)];done)
 ·have y0:=iY c0
  rw[bV y0] at*
  refine⟨aL8 x.catalogue _ (by assumption) (by omega) (by omega),dd (fun c1=>?_) fun c1=>?_⟩
  ·have y1:=jM c1
   refine⟨?_,trivial⟩
   ·unfold dT;(rw[cM (by omega)];done)
  ·have y1:=iY c1
   rw[bV y1] at*
   refine⟨aIT x.dependencies _ (by assumption) (by omega) (by omega),dd (fun c2=>?_) fun c2=>?_⟩
   ·have y2:=jM c2
    refine⟨?_,trivial⟩
    ·unfold dT;(rw[cM (by omega)];done)
   ·have y2:=iY c2
    rw[bV y2] at*
    refine⟨aIw x.inclusions _ (by assumption) (by omega) (by omega),dd (fun c3=>?_) fun c3=>?_⟩
    ·have y3:=jM c3
     refine⟨?_,trivial⟩
     ·unfold dT;(rw[cM (by omega)];done)
    ·have y3:=iY c3
     rw[bV y3] at*
     refine⟨?_,trivial⟩
     ·unfold dT;(rw[bV (by omega)];omega)
theorem lawEntropyBound (a0:StoreD)(a1:QueryD)(a2:Int)(h0:aOV a0)(h1:aOT a1)(h2:Fits a2):cH Tryz.prog 3 [.agg [.sl 142 3 (a0.database.tables.map aT),.int .i64 a0.catalogue.version,.sl 88 4 (a0.catalogue.tables.map aG),.sl 121 3 (a0.dependencies.map aP),.sl 123 4 (a0.inclusions.map aS)],.agg [.int .i64 a1.variableCount,.sl 125 2 (a1.atoms.map bM)],.one (.int .i64 a2)] (vB true) []:=by
 refine aW bH aO Tryz.func3 (by kernel_rfl) (.call (vI (aU (dT a0) (1048576:Int))) []<| .br (.fin []) (.call (vI (aU (hY a1) (aU (dT a0) (1048576:Int)))) []<| .br (.fin []) (bL (rW a0)<| bL (rT a1)<| bL (aAC a0 a1 a2)<| bL (rW a0)<| bL (rT a1)<| bL (aAB a0 a1 a2)<| .call (vB true) []<| .lit<| .lit<| .lit<| .lit<| .no<| bL (rW a0)<| .call (vB true) []<| bL (rT a1)<| .call (vB true) []<| .fin []))) (p:=(a0.database.tables.map aT).length≤9223372036854775807→(a0.catalogue.tables.map aG).length≤9223372036854775807→(a0.dependencies.map aP).length≤9223372036854775807→(a0.inclusions.map aS).length≤9223372036854775807→(a1.atoms.map bM).length≤9223372036854775807→aIU a0 (1048576:Int)∧Br ((aU (dT a0) (1048576:Int))<0) ((true)=true∧True) (aIQ a1 (aU (dT a0) (1048576:Int))∧Br ((aU (hY a1) (aU (dT a0) (1048576:Int)))<0) ((true)=true∧True) (wD a0∧wC a1∧aEq a0 a1 a2∧wD a0∧wC a1∧aEp a0 a1 a2∧aAt ((cX a0 a1 a2).1.value)∧(!(((cX a0 a1 a2).2)==((cX a0 a1 a2).2)))=false∧wD a0∧aIN a0∧wC a1∧aII a1∧(true)=true∧True))) (by kernel_rfl) ?_
 intro n0 n1 n2 n3 n4
 simp only[List.length_map] at n0 n1 n2 n3 n4
 refine⟨aVI a0 _ (by assumption) (by omega) (by omega),dd (fun c0=>?_) fun c0=>?_⟩
 ·refine⟨?_,trivial⟩
  ·rfl
 ·try (have y0:=iY c0;try rw[bV y0] at*)
  refine⟨aVH a1 _ (by assumption) (by omega) (by omega),dd (fun c1=>?_) fun c1=>?_⟩
  ·refine⟨?_,trivial⟩
   ·rfl
  ·try (have y1:=iY c1;try rw[bV y1] at*)
   refine⟨aIG a0 (by omega),aIC a1 (by omega),aRy a0 a1 a2 (by omega) (by omega),aIG a0 (by omega),aIC a1 (by omega),aRx a0 a1 a2 (by omega) (by omega),by exact aNn ((cX a0 a1 a2).1.value),by (simp;done),aIG a0 (by omega),by exact aVE a0,aIC a1 (by omega),by exact aVD a1,?_,trivial⟩
   ·rfl
end Go.Proofs.YtlidmoeecphbmaaGreat
namespace Go.Proofs.YtlidmoeecphbmaaGreat
open Go.ChangeShapes Go.WideShapes Go.ChangeAt Go.RowKit
set_option linter.unusedVariables false
set_option linter.unusedSimpArgs false
set_option maxRecDepth 100000
set_option maxHeartbeats 4000000
def aVJ:Rd (List Int):=fun w cs l=>jB (Lv w) w (aC l) cs∧aDv l
theorem aAJ {H:Type}{enc:TypeId × Value→H}{w:World}{base:Nat}{spare:Nat→Bool}{held:Bool}{fuel:Nat}{cs:List Value}{x:DataW H × List MemPlace}(h:DataW.trod enc Tryz.prog w base spare held fuel 91 cs=some x): ∃l,aVJ w cs l:=by
 obtain⟨l,hl⟩:=lG (k:=1) (R:=aQI) Tryz.underlying91 (by kernel_rfl) (by omega) (fun _ _ _ h=>trod_int Tryz.underlying3 h) h
 have hf:aDv l:=hl.all_ (fun _ _ _ h=>h.2)
 obtain⟨A,c,rfl,_⟩:=id hl
 exact⟨l,eQ (pK (R:=aQI) (enc:=intD) (fun cs x h=>by obtain⟨rfl,_⟩:=h;exact eQ rdV_int iI) hl) iI,hf⟩
def aYH:Rd (List (List Int)):=fun w cs l=>jB (Lv w) w (aXs l) cs∧aGN l
theorem aK7 {H:Type}{enc:TypeId × Value→H}{w:World}{base:Nat}{spare:Nat→Bool}{held:Bool}{fuel:Nat}{cs:List Value}{x:DataW H × List MemPlace}(h:DataW.trod enc Tryz.prog w base spare held fuel 92 cs=some x): ∃l,aYH w cs l:=by
 obtain⟨l,hl⟩:=lG (k:=1) (R:=aVJ) Tryz.underlying92 (by kernel_rfl) (by omega) (fun _ _ _ h=>aAJ h) h
 have hf:aGN l:=hl.all_ (fun _ _ _ h=>h.2)
 obtain⟨A,c,rfl,_⟩:=id hl
 exact⟨l,eQ (pK (R:=aVJ) (enc:=aC) (fun cs x h=>h.1) hl) iI,hf⟩
def aPH:Rd bA:=fun w cs x=>jB (Lv w) w (aT x) cs∧aOS x
set_option maxRecDepth 100000 in
theorem aSD {H:Type}{enc:TypeId × Value→H}{w:World}{base:Nat}{spare:Nat→Bool}{held:Bool}{fuel:Nat}{cs:List Value}{x:DataW H × List MemPlace}(h:DataW.trod enc Tryz.prog w base spare held fuel 165 cs=some x): ∃b,aPH w cs b:=by
 obtain⟨xs,n,_,_,hl,hxl,hf⟩:=DataW.trod_struct Tryz.underlying165 h
 have hl2:cs.length=3:=hl.trans (by kernel_rfl)
 match cs,hl2 with
 | [c0,c1,c2],_=>
   match xs,hxl with
   | [y0,y1,y2],_=>
     obtain⟨l0,r0⟩:=tD Tryz.underlying9 (hf 0 _ rfl)
     obtain⟨l1,r1⟩:=trod_int Tryz.underlying3 (hf 1 _ rfl)
     obtain⟨l2,r2,f2⟩:=aK7 (hf 2 _ rfl)
     exact⟨⟨l0,l1,l2⟩,(eQ (rdS r0) (eQ (rdI r1) (jB.append r2 iI))),r0.2,r1.2,f2⟩
def aWf:Rd (List bA):=fun w cs l=>jB (Lv w) w (aWB l) cs∧aFR l
theorem aPI {H:Type}{enc:TypeId × Value→H}{w:World}{base:Nat}{spare:Nat→Bool}{held:Bool}{fuel:Nat}{cs:List Value}{x:DataW H × List MemPlace}(h:DataW.trod enc Tryz.prog w base spare held fuel 22 cs=some x): ∃l,aWf w cs l:=by
 obtain⟨l,hl⟩:=lG (k:=3) (R:=aPH) Tryz.underlying22 (by kernel_rfl) (by omega) (fun _ _ _ h=>aSD h) h
 have hf:aFR l:=hl.all_ (fun _ _ _ h=>h.2)
 obtain⟨A,c,rfl,_⟩:=id hl
 exact⟨l,eQ (pK (R:=aPH) (enc:=aT) (fun cs x h=>h.1) hl) iI,hf⟩
def aSE:Rd aV:=fun w cs x=>jB (Lv w) w (aQj x) cs∧aDU x
set_option maxRecDepth 100000 in
theorem aLa {H:Type}{enc:TypeId × Value→H}{w:World}{base:Nat}{spare:Nat→Bool}{held:Bool}{fuel:Nat}{cs:List Value}{x:DataW H × List MemPlace}(h:DataW.trod enc Tryz.prog w base spare held fuel 24 cs=some x): ∃b,aSE w cs b:=by
 obtain⟨xs,n,_,_,hl,hxl,hf⟩:=DataW.trod_struct Tryz.underlying24 h
 have hl2:cs.length=1:=hl.trans (by kernel_rfl)
 match cs,hl2 with
 | [c0],_=>
   match xs,hxl with
   | [y0],_=>
     obtain⟨l0,r0,f0⟩:=aPI (hf 0 _ rfl)
     exact⟨⟨l0⟩,(jB.append r0 iI),f0⟩
def aVK:Rd dG:=fun w cs x=>jB (Lv w) w (bM x) cs∧aTO x
set_option maxRecDepth 100000 in
theorem aVL {H:Type}{enc:TypeId × Value→H}{w:World}{base:Nat}{spare:Nat→Bool}{held:Bool}{fuel:Nat}{cs:List Value}{x:DataW H × List MemPlace}(h:DataW.trod enc Tryz.prog w base spare held fuel 118 cs=some x): ∃b,aVK w cs b:=by
 obtain⟨xs,n,_,_,hl,hxl,hf⟩:=DataW.trod_struct Tryz.underlying118 h
 have hl2:cs.length=2:=hl.trans (by kernel_rfl)
 match cs,hl2 with
 | [c0,c1],_=>
   match xs,hxl with
   | [y0,y1],_=>
     obtain⟨l0,r0⟩:=tD Tryz.underlying9 (hf 0 _ rfl)
     obtain⟨l1,r1,f1⟩:=aAJ (hf 1 _ rfl)
     exact⟨⟨l0,l1⟩,(eQ (rdS r0) (jB.append r1 iI)),r0.2,f1⟩
def aYI:Rd (List dG):=fun w cs l=>jB (Lv w) w (aXt l) cs∧aKv l
theorem aSF {H:Type}{enc:TypeId × Value→H}{w:World}{base:Nat}{spare:Nat→Bool}{held:Bool}{fuel:Nat}{cs:List Value}{x:DataW H × List MemPlace}(h:DataW.trod enc Tryz.prog w base spare held fuel 32 cs=some x): ∃l,aYI w cs l:=by
 obtain⟨l,hl⟩:=lG (k:=2) (R:=aVK) Tryz.underlying32 (by kernel_rfl) (by omega) (fun _ _ _ h=>aVL h) h
 have hf:aKv l:=hl.all_ (fun _ _ _ h=>h.2)
 obtain⟨A,c,rfl,_⟩:=id hl
 exact⟨l,eQ (pK (R:=aVK) (enc:=bM) (fun cs x h=>h.1) hl) iI,hf⟩
def RQuery:Rd QueryD:=fun w cs x=>jB (Lv w) w (aXu x) cs∧aOT x
set_option maxRecDepth 100000 in
theorem openQuery {H:Type}{enc:TypeId × Value→H}{w:World}{base:Nat}{spare:Nat→Bool}{held:Bool}{fuel:Nat}{cs:List Value}{x:DataW H × List MemPlace}(h:DataW.trod enc Tryz.prog w base spare held fuel 34 cs=some x): ∃b,RQuery w cs b:=by
 obtain⟨xs,n,_,_,hl,hxl,hf⟩:=DataW.trod_struct Tryz.underlying34 h
 have hl2:cs.length=2:=hl.trans (by kernel_rfl)
 match cs,hl2 with
 | [c0,c1],_=>
   match xs,hxl with
   | [y0,y1],_=>
     obtain⟨l0,r0⟩:=trod_int Tryz.underlying3 (hf 0 _ rfl)
     obtain⟨l1,r1,f1⟩:=aSF (hf 1 _ rfl)
     exact⟨⟨l0,l1⟩,(eQ (rdI r0) (jB.append r1 iI)),r0.2,f1⟩
def aAK:Rd aR:=fun w cs x=>jB (Lv w) w (aD x) cs∧xW x
set_option maxRecDepth 100000 in
theorem aIV {H:Type}{enc:TypeId × Value→H}{w:World}{base:Nat}{spare:Nat→Bool}{held:Bool}{fuel:Nat}{cs:List Value}{x:DataW H × List MemPlace}(h:DataW.trod enc Tryz.prog w base spare held fuel 233 cs=some x): ∃b,aAK w cs b:=by
 obtain⟨xs,n,_,_,hl,hxl,hf⟩:=DataW.trod_struct Tryz.underlying233 h
 have hl2:cs.length=3:=hl.trans (by kernel_rfl)
 match cs,hl2 with
 | [c0,c1,c2],_=>
   match xs,hxl with
   | [y0,y1,y2],_=>
     obtain⟨l0,r0,f0⟩:=aAJ (hf 0 _ rfl)
     obtain⟨l1,r1,f1⟩:=aK7 (hf 1 _ rfl)
     obtain⟨l2,r2,f2⟩:=aAJ (hf 2 _ rfl)
     exact⟨⟨l0,l1,l2⟩,(jB.append r0 (jB.append r1 (jB.append r2 iI))),f0,f1,f2⟩
def aLb:Rd (List aR):=fun w cs l=>jB (Lv w) w (aKw l) cs∧qG l
theorem aFI {H:Type}{enc:TypeId × Value→H}{w:World}{base:Nat}{spare:Nat→Bool}{held:Bool}{fuel:Nat}{cs:List Value}{x:DataW H × List MemPlace}(h:DataW.trod enc Tryz.prog w base spare held fuel 167 cs=some x): ∃l,aLb w cs l:=by
 obtain⟨l,hl⟩:=lG (k:=3) (R:=aAK) Tryz.underlying167 (by kernel_rfl) (by omega) (fun _ _ _ h=>aIV h) h
 have hf:qG l:=hl.all_ (fun _ _ _ h=>h.2)
 obtain⟨A,c,rfl,_⟩:=id hl
 exact⟨l,eQ (pK (R:=aAK) (enc:=aD) (fun cs x h=>h.1) hl) iI,hf⟩
def aAL:Rd aM:=fun w cs x=>jB (Lv w) w (aG x) cs∧xX x
set_option maxRecDepth 100000 in
theorem aIW {H:Type}{enc:TypeId × Value→H}{w:World}{base:Nat}{spare:Nat→Bool}{held:Bool}{fuel:Nat}{cs:List Value}{x:DataW H × List MemPlace}(h:DataW.trod enc Tryz.prog w base spare held fuel 169 cs=some x): ∃b,aAL w cs b:=by
 obtain⟨xs,n,_,_,hl,hxl,hf⟩:=DataW.trod_struct Tryz.underlying169 h
 have hl2:cs.length=4:=hl.trans (by kernel_rfl)
 match cs,hl2 with
 | [c0,c1,c2,c3],_=>
   match xs,hxl with
   | [y0,y1,y2,y3],_=>
     obtain⟨l0,r0⟩:=tD Tryz.underlying9 (hf 0 _ rfl)
     obtain⟨l1,r1⟩:=trod_int Tryz.underlying3 (hf 1 _ rfl)
     obtain⟨l2,r2⟩:=trod_int Tryz.underlying3 (hf 2 _ rfl)
     obtain⟨l3,r3,f3⟩:=aFI (hf 3 _ rfl)
     exact⟨⟨l0,l1,l2,l3⟩,(eQ (rdS r0) (eQ (rdI r1) (eQ (rdI r2) (jB.append r3 iI)))),r0.2,r1.2,r2.2,f3⟩
def aLc:Rd (List aM):=fun w cs l=>jB (Lv w) w (aKx l) cs∧qH l
theorem aFJ {H:Type}{enc:TypeId × Value→H}{w:World}{base:Nat}{spare:Nat→Bool}{held:Bool}{fuel:Nat}{cs:List Value}{x:DataW H × List MemPlace}(h:DataW.trod enc Tryz.prog w base spare held fuel 25 cs=some x): ∃l,aLc w cs l:=by
 obtain⟨l,hl⟩:=lG (k:=4) (R:=aAL) Tryz.underlying25 (by kernel_rfl) (by omega) (fun _ _ _ h=>aIW h) h
 have hf:qH l:=hl.all_ (fun _ _ _ h=>h.2)
 obtain⟨A,c,rfl,_⟩:=id hl
 exact⟨l,eQ (pK (R:=aAL) (enc:=aG) (fun cs x h=>h.1) hl) iI,hf⟩
def aPJ:Rd cJ:=fun w cs x=>jB (Lv w) w (aOU x) cs∧aBJ x
set_option maxRecDepth 100000 in
theorem aIx {H:Type}{enc:TypeId × Value→H}{w:World}{base:Nat}{spare:Nat→Bool}{held:Bool}{fuel:Nat}{cs:List Value}{x:DataW H × List MemPlace}(h:DataW.trod enc Tryz.prog w base spare held fuel 27 cs=some x): ∃b,aPJ w cs b:=by
 obtain⟨xs,n,_,_,hl,hxl,hf⟩:=DataW.trod_struct Tryz.underlying27 h
 have hl2:cs.length=2:=hl.trans (by kernel_rfl)
 match cs,hl2 with
 | [c0,c1],_=>
   match xs,hxl with
   | [y0,y1],_=>
     obtain⟨l0,r0⟩:=trod_int Tryz.underlying3 (hf 0 _ rfl)
     obtain⟨l1,r1,f1⟩:=aFJ (hf 1 _ rfl)
     exact⟨⟨l0,l1⟩,(eQ (rdI r0) (jB.append r1 iI)),r0.2,f1⟩
def aAM:Rd bD:=fun w cs x=>jB (Lv w) w (aP x) cs∧xY x
set_option maxRecDepth 100000 in
theorem aIX {H:Type}{enc:TypeId × Value→H}{w:World}{base:Nat}{spare:Nat→Bool}{held:Bool}{fuel:Nat}{cs:List Value}{x:DataW H × List MemPlace}(h:DataW.trod enc Tryz.prog w base spare held fuel 112 cs=some x): ∃b,aAM w cs b:=by
 obtain⟨xs,n,_,_,hl,hxl,hf⟩:=DataW.trod_struct Tryz.underlying112 h
 have hl2:cs.length=3:=hl.trans (by kernel_rfl)
 match cs,hl2 with
 | [c0,c1,c2],_=>
   match xs,hxl with
   | [y0,y1,y2],_=>
     obtain⟨l0,r0⟩:=tD Tryz.underlying9 (hf 0 _ rfl)
     obtain⟨l1,r1,f1⟩:=aAJ (hf 1 _ rfl)
     obtain⟨l2,r2⟩:=trod_int Tryz.underlying3 (hf 2 _ rfl)
     exact⟨⟨l0,l1,l2⟩,(eQ (rdS r0) (jB.append r1 (eQ (rdI r2) iI))),r0.2,f1,r2.2⟩
def aLd:Rd (List bD):=fun w cs l=>jB (Lv w) w (aKy l) cs∧qI l
theorem aFK {H:Type}{enc:TypeId × Value→H}{w:World}{base:Nat}{spare:Nat→Bool}{held:Bool}{fuel:Nat}{cs:List Value}{x:DataW H × List MemPlace}(h:DataW.trod enc Tryz.prog w base spare held fuel 28 cs=some x): ∃l,aLd w cs l:=by
 obtain⟨l,hl⟩:=lG (k:=3) (R:=aAM) Tryz.underlying28 (by kernel_rfl) (by omega) (fun _ _ _ h=>aIX h) h
 have hf:qI l:=hl.all_ (fun _ _ _ h=>h.2)
 obtain⟨A,c,rfl,_⟩:=id hl
 exact⟨l,eQ (pK (R:=aAM) (enc:=aP) (fun cs x h=>h.1) hl) iI,hf⟩
def aBz:Rd bB:=fun w cs x=>jB (Lv w) w (aS x) cs∧aBK x
set_option maxRecDepth 100000 in
theorem aIy {H:Type}{enc:TypeId × Value→H}{w:World}{base:Nat}{spare:Nat→Bool}{held:Bool}{fuel:Nat}{cs:List Value}{x:DataW H × List MemPlace}(h:DataW.trod enc Tryz.prog w base spare held fuel 115 cs=some x): ∃b,aBz w cs b:=by
 obtain⟨xs,n,_,_,hl,hxl,hf⟩:=DataW.trod_struct Tryz.underlying115 h
 have hl2:cs.length=4:=hl.trans (by kernel_rfl)
 match cs,hl2 with
 | [c0,c1,c2,c3],_=>
   match xs,hxl with
   | [y0,y1,y2,y3],_=>
     obtain⟨l0,r0⟩:=tD Tryz.underlying9 (hf 0 _ rfl)
     obtain⟨l1,r1⟩:=trod_int Tryz.underlying3 (hf 1 _ rfl)
     obtain⟨l2,r2⟩:=tD Tryz.underlying9 (hf 2 _ rfl)
     obtain⟨l3,r3⟩:=trod_int Tryz.underlying3 (hf 3 _ rfl)
     exact⟨⟨l0,l1,l2,l3⟩,(eQ (rdS r0) (eQ (rdI r1) (eQ (rdS r2) (eQ (rdI r3) iI)))),r0.2,r1.2,r2.2,r3.2⟩
def aNq:Rd (List bB):=fun w cs l=>jB (Lv w) w (aMW l) cs∧sH l
theorem aIY {H:Type}{enc:TypeId × Value→H}{w:World}{base:Nat}{spare:Nat→Bool}{held:Bool}{fuel:Nat}{cs:List Value}{x:DataW H × List MemPlace}(h:DataW.trod enc Tryz.prog w base spare held fuel 29 cs=some x): ∃l,aNq w cs l:=by
 obtain⟨l,hl⟩:=lG (k:=4) (R:=aBz) Tryz.underlying29 (by kernel_rfl) (by omega) (fun _ _ _ h=>aIy h) h
 have hf:sH l:=hl.all_ (fun _ _ _ h=>h.2)
 obtain⟨A,c,rfl,_⟩:=id hl
 exact⟨l,eQ (pK (R:=aBz) (enc:=aS) (fun cs x h=>h.1) hl) iI,hf⟩
def RStore:Rd StoreD:=fun w cs x=>jB (Lv w) w (aXv x) cs∧aOV x
set_option maxRecDepth 100000 in
theorem openStore {H:Type}{enc:TypeId × Value→H}{w:World}{base:Nat}{spare:Nat→Bool}{held:Bool}{fuel:Nat}{cs:List Value}{x:DataW H × List MemPlace}(h:DataW.trod enc Tryz.prog w base spare held fuel 31 cs=some x): ∃b,RStore w cs b:=by
 obtain⟨xs,n,_,_,hl,hxl,hf⟩:=DataW.trod_struct Tryz.underlying31 h
 have hl2:cs.length=5:=hl.trans (by kernel_rfl)
 match cs,hl2 with
 | [c0,c1,c2,c3,c4],_=>
   match xs,hxl with
   | [y0,y1,y2,y3],_=>
     obtain⟨l0,r0,f0⟩:=aLa (hf 0 _ rfl)
     obtain⟨l1,r1,f1⟩:=aIx (hf 1 _ rfl)
     obtain⟨l2,r2,f2⟩:=aFK (hf 2 _ rfl)
     obtain⟨l3,r3,f3⟩:=aIY (hf 3 _ rfl)
     exact⟨⟨l0,l1,l2,l3⟩,(jB.append r0 (jB.append r1 (jB.append r2 (jB.append r3 iI)))),f0,f1,f2,f3⟩
end Go.Proofs.YtlidmoeecphbmaaGreat
namespace Go.Proofs.YtlidmoeecphbmaaGreat
open Go.ChangeShapes Go.WideShapes Go.ChangeAt Go.RowKit
set_option linter.unusedVariables false
set_option linter.unusedSimpArgs false
set_option maxRecDepth 100000
set_option maxHeartbeats 4000000
theorem fr_own:ownKnob Tryz.prog.godebug=none:=by kernel_rfl
theorem fr_laid:laidOutB Tryz.prog=true:=by kernel_rfl
theorem fr_maps:mapsRowed Tryz.prog=true:=by kernel_rfl
theorem fr_stops:(Tryz.prog.stops== [])=true:=by kernel_rfl
theorem fr_sk:(Tryz.prog.stopKnobs== [])=true:=by kernel_rfl
theorem fr_heard:Tryz.prog.stopsHeard=true:=by kernel_rfl
theorem fr_enter:Tryz.prog.mayEnter=true:=by kernel_rfl
theorem fr_keys:(Rows.fnExactEntropyBoundRow.plainKeys==Tryz.prog.plainKeys)=true:=by kernel_rfl
theorem fr_lifts:(Rows.fnExactEntropyBoundRow.lifted==Tryz.prog.liftsFinal)=true:=by kernel_rfl
theorem fr_make:(Tryz.prog.make==some Rows.fnExactEntropyBoundRow.make)=true:=by kernel_rfl
end Go.Proofs.YtlidmoeecphbmaaGreat
