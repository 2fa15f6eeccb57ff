/-
  Contracts and plain laws, joined: part 15.
-/
import Derived.Test.YtpoobcnmhnbdlaaP13
namespace Go.Proofs.Ytpoobcnmhnbdlaa
open Go.ChangeShapes Go.WideShapes Go.ChangeAt Go.RowKit
set_option linter.unusedVariables false
set_option linter.unusedSimpArgs false
set_option maxRecDepth 100000
set_option maxHeartbeats 4000000
abbrev mJ (x:List Int):AV × List (Nat × Rs):=(.own 0,[(0,.arr 3 1 true (x.map aG))])
abbrev nY (x:List Int):Prop:=gF Try.prog 27 [.one (.sl 3 1 (x.map aG))] (mJ x).1 (mJ x).2
theorem xC (x:List Int) (hc:bL x≤1048576):nY x:=by
 refine cT dR bK Try.func27 (by kernel_rfl) (.len x.length<| .mk x.length [.int .i64 (0:Int)] ((List.replicate x.length (0:Int)).map aG)<| .loop (Nat × (List Int)) (Q2 Nat (List Int)) [3,4,8,9,10,11,12,13,14,15,16,17,18,19,20] [700] (fun yy0=>[(3,.own 700),(4,vI (yy0.1:Int))]) (fun yy0=>[(700,some (.arr 3 1 true (yy0.2.map aG)))]) (fun yy0=>yy0.1≤x.length∧yy0.2=x.take yy0.1++List.replicate (x.length - yy0.1) (0:Int)) (fun yy0=>x.length - yy0.1) (fun yy0=> .len x.length<| .br (.elem _ aG x (fun e18=> .len yy0.2.length<| .set Int aG yy0.2 (fun s5_7=>e18) (fun s5_7=> .back [(700,700)]))) (.fin [(0,700)]))) (p:=(x.map aG).length≤9223372036854775807→Lm aG x∧(((x.length:Nat):Int)=((x.length:Nat):Int)∧((x.length:Nat):Int)=((x.length:Nat):Int)∧8*x.length≤281474976710656∧x.length≤9223372036854775807∧List.replicate x.length [.int .i64 (0:Int)]=(List.replicate x.length (0:Int)).map aG∧((∃(k:Nat) (out:List Int),(0:Int)=(k:Int)∧(List.replicate x.length (0:Int)).map aG=out.map aG∧k≤x.length∧out=x.take k++List.replicate (x.length - k) (0:Int))∧ ∀(k:Nat) (out:List Int),(k≤x.length∧out=x.take k++List.replicate (x.length - k) (0:Int))→Lm aG x∧(((decide ((k:Int)<((x.length:Nat):Int)))=true→0≤(k:Int)∧Em aG x k fun e18=>0≤(k:Int)∧Lm aG out∧(k:Int)<((out.length:Nat):Int)∧(out.map aG=out.map aG∧k<out.length∧ ∀s5_7,out[k]? =some s5_7→cV (aG s5_7)=true∧0+1≤(aG s5_7).length∧(aG s5_7).take 0++[.int .i64 e18]++(aG s5_7).drop (0+1)=aG e18∧dN ((k:Int)+(1:Int))∧ ∃(k' :Nat) (out' :List Int),((k:Int)+(1:Int))=(k' :Int)∧(out.set k e18).map aG=out'.map aG∧(k' ≤x.length∧out' =x.take k' ++List.replicate (x.length - k') (0:Int))∧x.length - k' <x.length - k))∧((decide ((k:Int)<((x.length:Nat):Int)))=false→out.map aG=x.map aG∧True))))) (by kernel_rfl) ?_
 intro n0
 simp only [List.length_map] at n0
 refine ⟨List.length_map _,rfl,rfl,by have:=aBx x;omega,by have:=aBx x;omega,by first | (rw [List.map_replicate];done) | (rw [List.map_replicate];rfl),⟨0,List.replicate x.length (0:Int),rfl,rfl,Nat.zero_le _,by simp⟩,fun k out ⟨hk,ho⟩=>?_⟩
 have hl:out.length=x.length:=by rw [ho];exact wR hk
 refine ⟨List.length_map _,fun c0=>?_,fun c0=>?_⟩
 ·replace c0:=yq c0
  refine ⟨by omega,rfl,by omega,fun e18 h18=>?_⟩
  refine ⟨by omega,List.length_map _,by omega,rfl,by omega,fun s5_7 hs5_7=>⟨rfl,Nat.le_of_ble_eq_true rfl,rfl,?_⟩⟩
  refine ⟨⟨by omega,by omega⟩,?_⟩
  exact ⟨k+1,out.set k e18,rfl,rfl,⟨by omega,by rw [ho];exact tS ‹x[k]? =some _›⟩,by omega⟩
 ·replace c0:=nq c0
  refine ⟨?_,trivial⟩
  ·rw [ho,tT hk (by omega)]
abbrev vN (x:List (List Int)):AV × List (Nat × Rs):=(.own 0,[(0,.arr 22 1 true (x.map bD))])
abbrev aAx (x:List (List Int)):Prop:=gF Try.prog 28 [.one (.sl 22 1 (x.map bD))] (vN x).1 (vN x).2
theorem aHp (x:List (List Int)) (hc:gV x≤1048576):aAx x:=by
 refine cT dR bK Try.func28 (by kernel_rfl) (.len x.length<| .mk x.length [.sl 3 1 (([]:List Int).map aG)] ((List.replicate x.length ([]:List Int)).map bD)<| .loop (Nat × (List (List Int))) (Q2 Nat (List (List Int))) [3,4,8,9,10,11,12,13,14,15,16,17,18,19,20,21] [700,2000] (fun yy0=>[(3,.own 700),(4,vI (yy0.1:Int))]) (fun yy0=>[(700,some (.arr 22 1 true (yy0.2.map bD)))]) (fun yy0=>yy0.1≤x.length∧yy0.2=x.take yy0.1++List.replicate (x.length - yy0.1) ([]:List Int)) (fun yy0=>x.length - yy0.1) (fun yy0=> .len x.length<| .br (.elem _ bD x (fun e18=>dA (mJ e18)<| .len yy0.2.length<| .setm (List Int) bD yy0.2 (fun s5_8=>e18) (fun s5_8=> .back [(700,700)]))) (.fin [(0,700)]))) (p:=(x.map bD).length≤9223372036854775807→Lm bD x∧(((x.length:Nat):Int)=((x.length:Nat):Int)∧((x.length:Nat):Int)=((x.length:Nat):Int)∧24*x.length≤281474976710656∧x.length≤9223372036854775807∧List.replicate x.length [.sl 3 1 (([]:List Int).map aG)]=(List.replicate x.length ([]:List Int)).map bD∧((∃(k:Nat) (out:List (List Int)),(0:Int)=(k:Int)∧(List.replicate x.length ([]:List Int)).map bD=out.map bD∧k≤x.length∧out=x.take k++List.replicate (x.length - k) ([]:List Int))∧ ∀(k:Nat) (out:List (List Int)),(k≤x.length∧out=x.take k++List.replicate (x.length - k) ([]:List Int))→Lm bD x∧(((decide ((k:Int)<((x.length:Nat):Int)))=true→0≤(k:Int)∧Em bD x k fun e18=>nY e18∧(0≤(k:Int)∧Lm bD out∧(k:Int)<((out.length:Nat):Int)∧(out.map bD=out.map bD∧k<out.length∧ ∀s5_8,out[k]? =some s5_8→0+1≤(bD s5_8).length∧(bD s5_8).take 0++((bD e18).drop 0).take 1++(bD s5_8).drop (0+1)=bD e18∧e18.map aG=e18.map aG∧dN ((k:Int)+(1:Int))∧ ∃(k' :Nat) (out' :List (List Int)),((k:Int)+(1:Int))=(k' :Int)∧(out.set k e18).map bD=out'.map bD∧(k' ≤x.length∧out' =x.take k' ++List.replicate (x.length - k') ([]:List Int))∧x.length - k' <x.length - k)))∧((decide ((k:Int)<((x.length:Nat):Int)))=false→out.map bD=x.map bD∧True))))) (by kernel_rfl) ?_
 intro n0
 simp only [List.length_map] at n0
 refine ⟨List.length_map _,rfl,rfl,by have:=aA2 x;omega,by have:=aA2 x;omega,by first | (rw [List.map_replicate];done) | (rw [List.map_replicate];rfl),⟨0,List.replicate x.length ([]:List Int),rfl,rfl,Nat.zero_le _,by simp⟩,fun k out ⟨hk,ho⟩=>?_⟩
 have hl:out.length=x.length:=by rw [ho];exact wR hk
 refine ⟨List.length_map _,fun c0=>?_,fun c0=>?_⟩
 ·replace c0:=yq c0
  refine ⟨by omega,rfl,by omega,fun e18 h18=>?_⟩
  refine ⟨xC e18 (by first | omega | (have:=nT ‹x[k]? =some _›;omega)),by omega,List.length_map _,by omega,rfl,by omega,fun s5_8 hs5_8=>?_⟩
  refine ⟨Nat.le_of_ble_eq_true rfl,rfl,rfl,⟨by omega,by omega⟩,?_⟩
  exact ⟨k+1,out.set k e18,rfl,rfl,⟨by omega,by rw [ho];exact tS ‹x[k]? =some _›⟩,by omega⟩
 ·replace c0:=nq c0
  refine ⟨?_,trivial⟩
  ·rw [ho,tT hk (by omega)]
abbrev pQ (x:aC):Prop:=gF Try.prog 53 [.agg [.int .i64 x.num,.int .i64 x.den]] (.agg [vI x.num,vI x.den]) []
theorem yY (x:aC):pQ x:=by
 refine cT dR bK Try.func53 (by kernel_rfl) (.fin []) (p:=x.num=x.num∧x.den=x.den∧True) (by kernel_rfl) ?_
 exact ⟨rfl,rfl,trivial⟩
abbrev jP (x:List aC):AV × List (Nat × Rs):=(.own 0,[(0,.arr 28 2 true (x.map aA))])
abbrev lM (x:List aC):Prop:=gF Try.prog 52 [.one (.sl 28 2 (x.map aA))] (jP x).1 (jP x).2
theorem rC (x:List aC) (hc:aV x≤1048576):lM x:=by
 refine cT dR bK Try.func52 (by kernel_rfl) (.len x.length<| .mk x.length [.int .i64 gL.num,.int .i64 gL.den] ((List.replicate x.length gL).map aA)<| .loop (Nat × (List aC)) (Q2 Nat (List aC)) [3,4,8,9,10,11,12,13,14,15,16,17,18,19,20,21] [700] (fun yy0=>[(3,.own 700),(4,vI (yy0.1:Int))]) (fun yy0=>[(700,some (.arr 28 2 true (yy0.2.map aA)))]) (fun yy0=>yy0.1≤x.length∧yy0.2=x.take yy0.1++List.replicate (x.length - yy0.1) gL) (fun yy0=>x.length - yy0.1) (fun yy0=> .len x.length<| .br (.elem _ aA x (fun e18=> .call (.agg [vI e18.num,vI e18.den]) []<| .len yy0.2.length<| .set aC aA yy0.2 (fun s5_8=>e18) (fun s5_8=> .back [(700,700)]))) (.fin [(0,700)]))) (p:=(x.map aA).length≤9223372036854775807→Lm aA x∧(((x.length:Nat):Int)=((x.length:Nat):Int)∧((x.length:Nat):Int)=((x.length:Nat):Int)∧16*x.length≤281474976710656∧x.length≤9223372036854775807∧List.replicate x.length [.int .i64 gL.num,.int .i64 gL.den]=(List.replicate x.length gL).map aA∧((∃(k:Nat) (out:List aC),(0:Int)=(k:Int)∧(List.replicate x.length gL).map aA=out.map aA∧k≤x.length∧out=x.take k++List.replicate (x.length - k) gL)∧ ∀(k:Nat) (out:List aC),(k≤x.length∧out=x.take k++List.replicate (x.length - k) gL)→Lm aA x∧(((decide ((k:Int)<((x.length:Nat):Int)))=true→0≤(k:Int)∧Em aA x k fun e18=>pQ e18∧(0≤(k:Int)∧Lm aA out∧(k:Int)<((out.length:Nat):Int)∧(out.map aA=out.map aA∧k<out.length∧ ∀s5_8,out[k]? =some s5_8→cV (aA s5_8)=true∧0+2≤(aA s5_8).length∧(aA s5_8).take 0++[.int .i64 e18.num,.int .i64 e18.den]++(aA s5_8).drop (0+2)=aA e18∧dN ((k:Int)+(1:Int))∧ ∃(k' :Nat) (out' :List aC),((k:Int)+(1:Int))=(k' :Int)∧(out.set k e18).map aA=out'.map aA∧(k' ≤x.length∧out' =x.take k' ++List.replicate (x.length - k') gL)∧x.length - k' <x.length - k)))∧((decide ((k:Int)<((x.length:Nat):Int)))=false→out.map aA=x.map aA∧True))))) (by kernel_rfl) ?_
 intro n0
 simp only [List.length_map] at n0
 refine ⟨List.length_map _,rfl,rfl,by have:=sY x;omega,by have:=sY x;omega,by first | (rw [List.map_replicate];done) | (rw [List.map_replicate];rfl),⟨0,List.replicate x.length gL,rfl,rfl,Nat.zero_le _,by simp⟩,fun k out ⟨hk,ho⟩=>?_⟩
 have hl:out.length=x.length:=by rw [ho];exact wR hk
 refine ⟨List.length_map _,fun c0=>?_,fun c0=>?_⟩
 ·replace c0:=yq c0
  refine ⟨by omega,rfl,by omega,fun e18 h18=>?_⟩
  refine ⟨yY e18,by omega,List.length_map _,by omega,rfl,by omega,fun s5_8 hs5_8=>⟨rfl,Nat.le_of_ble_eq_true rfl,rfl,?_⟩⟩
  refine ⟨⟨by omega,by omega⟩,?_⟩
  exact ⟨k+1,out.set k e18,rfl,rfl,⟨by omega,by rw [ho];exact tS ‹x[k]? =some _›⟩,by omega⟩
 ·replace c0:=nq c0
  refine ⟨?_,trivial⟩
  ·rw [ho,tT hk (by omega)]
abbrev nL (x:List (List aC)):AV × List (Nat × Rs):=(.own 0,[(0,.arr 29 1 true (x.map aD))])
abbrev rU (x:List (List aC)):Prop:=gF Try.prog 51 [.one (.sl 29 1 (x.map aD))] (nL x).1 (nL x).2
theorem aB0 (x:List (List aC)) (hc:bQ x≤1048576):rU x:=by
 refine cT dR bK Try.func51 (by kernel_rfl) (.len x.length<| .mk x.length [.sl 28 2 (([]:List aC).map aA)] ((List.replicate x.length ([]:List aC)).map aD)<| .loop (Nat × (List (List aC))) (Q2 Nat (List (List aC))) [3,4,8,9,10,11,12,13,14,15,16,17,18,19,20,21] [700,2000] (fun yy0=>[(3,.own 700),(4,vI (yy0.1:Int))]) (fun yy0=>[(700,some (.arr 29 1 true (yy0.2.map aD)))]) (fun yy0=>yy0.1≤x.length∧yy0.2=x.take yy0.1++List.replicate (x.length - yy0.1) ([]:List aC)) (fun yy0=>x.length - yy0.1) (fun yy0=> .len x.length<| .br (.elem _ aD x (fun e18=>dA (jP e18)<| .len yy0.2.length<| .setm (List aC) aD yy0.2 (fun s5_8=>e18) (fun s5_8=> .back [(700,700)]))) (.fin [(0,700)]))) (p:=(x.map aD).length≤9223372036854775807→Lm aD x∧(((x.length:Nat):Int)=((x.length:Nat):Int)∧((x.length:Nat):Int)=((x.length:Nat):Int)∧24*x.length≤281474976710656∧x.length≤9223372036854775807∧List.replicate x.length [.sl 28 2 (([]:List aC).map aA)]=(List.replicate x.length ([]:List aC)).map aD∧((∃(k:Nat) (out:List (List aC)),(0:Int)=(k:Int)∧(List.replicate x.length ([]:List aC)).map aD=out.map aD∧k≤x.length∧out=x.take k++List.replicate (x.length - k) ([]:List aC))∧ ∀(k:Nat) (out:List (List aC)),(k≤x.length∧out=x.take k++List.replicate (x.length - k) ([]:List aC))→Lm aD x∧(((decide ((k:Int)<((x.length:Nat):Int)))=true→0≤(k:Int)∧Em aD x k fun e18=>lM e18∧(0≤(k:Int)∧Lm aD out∧(k:Int)<((out.length:Nat):Int)∧(out.map aD=out.map aD∧k<out.length∧ ∀s5_8,out[k]? =some s5_8→0+1≤(aD s5_8).length∧(aD s5_8).take 0++((aD e18).drop 0).take 1++(aD s5_8).drop (0+1)=aD e18∧e18.map aA=e18.map aA∧dN ((k:Int)+(1:Int))∧ ∃(k' :Nat) (out' :List (List aC)),((k:Int)+(1:Int))=(k' :Int)∧(out.set k e18).map aD=out'.map aD∧(k' ≤x.length∧out' =x.take k' ++List.replicate (x.length - k') ([]:List aC))∧x.length - k' <x.length - k)))∧((decide ((k:Int)<((x.length:Nat):Int)))=false→out.map aD=x.map aD∧True))))) (by kernel_rfl) ?_
 intro n0
 simp only [List.length_map] at n0
 refine ⟨List.length_map _,rfl,rfl,by have:=rL x;omega,by have:=rL x;omega,by first | (rw [List.map_replicate];done) | (rw [List.map_replicate];rfl),⟨0,List.replicate x.length ([]:List aC),rfl,rfl,Nat.zero_le _,by simp⟩,fun k out ⟨hk,ho⟩=>?_⟩
 have hl:out.length=x.length:=by rw [ho];exact wR hk
 refine ⟨List.length_map _,fun c0=>?_,fun c0=>?_⟩
 ·replace c0:=yq c0
  refine ⟨by omega,rfl,by omega,fun e18 h18=>?_⟩
  refine ⟨rC e18 (by first | omega | (have:=oJ ‹x[k]? =some _›;omega)),by omega,List.length_map _,by omega,rfl,by omega,fun s5_8 hs5_8=>?_⟩
  refine ⟨Nat.le_of_ble_eq_true rfl,rfl,rfl,⟨by omega,by omega⟩,?_⟩
  exact ⟨k+1,out.set k e18,rfl,rfl,⟨by omega,by rw [ho];exact tS ‹x[k]? =some _›⟩,by omega⟩
 ·replace c0:=nq c0
  refine ⟨?_,trivial⟩
  ·rw [ho,tT hk (by omega)]
abbrev jY (x:ProgramD):AV × List (Nat × Rs):=(.agg [.own 0,.own 1,.own 2],[(0,.arr 3 1 true (x.objective.map aG)),(1,.arr 22 1 true (x.rows.map bD)),(2,.arr 3 1 true (x.limits.map aG))])
abbrev lN (x:ProgramD):Prop:=gF Try.prog 7 [.agg [.sl 3 1 (x.objective.map aG),.sl 22 1 (x.rows.map bD),.sl 3 1 (x.limits.map aG)]] (jY x).1 (jY x).2
theorem rD (x:ProgramD) (hc:fB x≤1048576):lN x:=by
 refine cT dR bK Try.func7 (by kernel_rfl) (dA (mJ x.objective)<| dA (vN x.rows)<| dA (mJ x.limits)<| .fin [(0,600),(1,1000),(2,1400)]) (p:=(x.objective.map aG).length≤9223372036854775807→(x.rows.map bD).length≤9223372036854775807→(x.limits.map aG).length≤9223372036854775807→nY x.objective∧aAx x.rows∧nY x.limits∧x.objective.map aG=x.objective.map aG∧x.rows.map bD=x.rows.map bD∧x.limits.map aG=x.limits.map aG∧True) (by kernel_rfl) ?_
 intro n0 n1 n2
 simp only [List.length_map] at n0 n1 n2
 unfold fB at hc
 refine ⟨xC x.objective (by first | omega | (have:=nT ‹x[k]? =some _›;omega)),aHp x.rows (by first | omega | (have:=cIntSSS_el ‹x[k]? =some _›;omega)),xC x.limits (by first | omega | (have:=nT ‹x[k]? =some _›;omega)),?_⟩
 exact ⟨rfl,rfl,rfl,trivial⟩
abbrev hJ (x:DictionaryD):AV × List (Nat × Rs):=(.agg [.own 0,.own 1,.own 2,.own 3,.own 4,vI x.value.num,vI x.value.den],[(0,.arr 3 1 true (x.basic.map aG)),(1,.arr 3 1 true (x.others.map aG)),(2,.arr 29 1 true (x.table.map aD)),(3,.arr 28 2 true (x.limits.map aA)),(4,.arr 28 2 true (x.costs.map aA))])
abbrev iY (x:DictionaryD):Prop:=gF Try.prog 16 [.agg [.sl 3 1 (x.basic.map aG),.sl 3 1 (x.others.map aG),.sl 29 1 (x.table.map aD),.sl 28 2 (x.limits.map aA),.sl 28 2 (x.costs.map aA),.int .i64 x.value.num,.int .i64 x.value.den]] (hJ x).1 (hJ x).2
theorem mN (x:DictionaryD) (hc:bU x≤1048576):iY x:=by
 refine cT dR bK Try.func16 (by kernel_rfl) (dA (mJ x.basic)<| dA (mJ x.others)<| dA (nL x.table)<| dA (jP x.limits)<| dA (jP x.costs)<| .call (.agg [vI x.value.num,vI x.value.den]) []<| .fin [(0,600),(1,1000),(2,1400),(3,1800),(4,2200)]) (p:=(x.basic.map aG).length≤9223372036854775807→(x.others.map aG).length≤9223372036854775807→(x.table.map aD).length≤9223372036854775807→(x.limits.map aA).length≤9223372036854775807→(x.costs.map aA).length≤9223372036854775807→nY x.basic∧nY x.others∧rU x.table∧lM x.limits∧lM x.costs∧pQ x.value∧x.value.num=x.value.num∧x.value.den=x.value.den∧x.basic.map aG=x.basic.map aG∧x.others.map aG=x.others.map aG∧x.table.map aD=x.table.map aD∧x.limits.map aA=x.limits.map aA∧x.costs.map aA=x.costs.map aA∧True) (by kernel_rfl) ?_
 intro n0 n1 n2 n3 n4
 simp only [List.length_map] at n0 n1 n2 n3 n4
 unfold bU at hc
 refine ⟨xC x.basic (by first | omega | (have:=nT ‹x[k]? =some _›;omega)),xC x.others (by first | omega | (have:=nT ‹x[k]? =some _›;omega)),aB0 x.table (by first | omega | (have:=cRationalSSS_el ‹x[k]? =some _›;omega)),rC x.limits (by first | omega | (have:=oJ ‹x[k]? =some _›;omega)),rC x.costs (by first | omega | (have:=oJ ‹x[k]? =some _›;omega)),yY x.value,?_⟩
 exact ⟨rfl,rfl,rfl,rfl,rfl,rfl,rfl,trivial⟩
abbrev qI (x:List Int):Prop:=gF Try.prog 37 [.one (.sl 3 1 (x.map aG)),.one (.sl 3 1 (x.map aG))] (vB true) []
theorem mO (x:List Int):qI x:=by
 refine cT dR bK Try.func37 (by kernel_rfl) (.len x.length<| .len x.length<| .no<| .loop Nat (Q1 Nat) [5,11,12,13,14,15,16,17,18,19,20,21,22,23,24,25] [] (fun k=>[(5,vI (k:Int))]) (fun k=>[]) (fun k=>k≤x.length) (fun k=>x.length - k) (fun k=> .len x.length<| .br (.elem _ aG x (fun e19=> .elem _ aG x (fun e23=> .no<| .back []))) (.fin []))) (p:=(x.map aG).length≤9223372036854775807→(x.map aG).length≤9223372036854775807→Lm aG x∧(Lm aG x∧((!(decide (((x.length:Nat):Int)=((x.length:Nat):Int))))=false∧((∃(k:Nat),(0:Int)=(k:Int)∧k≤x.length)∧ ∀(k:Nat),k≤x.length→Lm aG x∧(((decide ((k:Int)<((x.length:Nat):Int)))=true→0≤(k:Int)∧Em aG x k fun e19=>0≤(k:Int)∧Em aG x k fun e23=>(!(decide (e19=e23)))=false∧dN ((k:Int)+(1:Int))∧ ∃(k' :Nat),((k:Int)+(1:Int))=(k' :Int)∧k' ≤x.length∧x.length - k' <x.length - k)∧((decide ((k:Int)<((x.length:Nat):Int)))=false→(true)=true∧True)))))) (by kernel_rfl) ?_
 intro n0 n1
 simp only [List.length_map] at n0 n1
 refine ⟨List.length_map _,List.length_map _,by simp,⟨0,rfl,Nat.zero_le _⟩,fun k hk=>?_⟩
 refine ⟨List.length_map _,fun c1=>?_,fun c1=>?_⟩
 ·replace c1:=yq c1
  obtain ⟨y,hy⟩:=jV (l:=x) (k:=k) (by omega)
  refine ⟨by omega,rfl,by omega,fun e19 h19=>?_⟩
  try (obtain rfl:=dE hy h19)
  refine ⟨by omega,rfl,by omega,fun e23 h23=>?_⟩
  try (obtain rfl:=dE hy h23)
  refine ⟨by simp,⟨by omega,by omega⟩,?_⟩
  exact ⟨k+1,rfl,by omega,by omega⟩
 ·replace c1:=nq c1
  refine ⟨?_,trivial⟩
  ·rfl
abbrev aAy (x:List (List Int)):Prop:=gF Try.prog 38 [.one (.sl 22 1 (x.map bD)),.one (.sl 22 1 (x.map bD))] (vB true) []
theorem aED (x:List (List Int)):aAy x:=by
 refine cT dR bK Try.func38 (by kernel_rfl) (.len x.length<| .len x.length<| .no<| .loop Nat (Q1 Nat) [5,11,12,13,14,15,16,17,18,19,20,21,22,23,24,25,26] [] (fun k=>[(5,vI (k:Int))]) (fun k=>[]) (fun k=>k≤x.length) (fun k=>x.length - k) (fun k=> .len x.length<| .br (.elem _ bD x (fun e19=> .elem _ bD x (fun e23=> .call (vB true) []<| .back []))) (.fin []))) (p:=(x.map bD).length≤9223372036854775807→(x.map bD).length≤9223372036854775807→Lm bD x∧(Lm bD x∧((!(decide (((x.length:Nat):Int)=((x.length:Nat):Int))))=false∧((∃(k:Nat),(0:Int)=(k:Int)∧k≤x.length)∧ ∀(k:Nat),k≤x.length→Lm bD x∧(((decide ((k:Int)<((x.length:Nat):Int)))=true→0≤(k:Int)∧Em bD x k fun e19=>0≤(k:Int)∧Em bD x k fun e23=>gF Try.prog 37 [.one (.sl 3 1 (e19.map aG)),.one (.sl 3 1 (e23.map aG))] (vB true) []∧dN ((k:Int)+(1:Int))∧ ∃(k' :Nat),((k:Int)+(1:Int))=(k' :Int)∧k' ≤x.length∧x.length - k' <x.length - k)∧((decide ((k:Int)<((x.length:Nat):Int)))=false→(true)=true∧True)))))) (by kernel_rfl) ?_
 intro n0 n1
 simp only [List.length_map] at n0 n1
 refine ⟨List.length_map _,List.length_map _,by simp,⟨0,rfl,Nat.zero_le _⟩,fun k hk=>?_⟩
 refine ⟨List.length_map _,fun c1=>?_,fun c1=>?_⟩
 ·replace c1:=yq c1
  obtain ⟨y,hy⟩:=jV (l:=x) (k:=k) (by omega)
  refine ⟨by omega,rfl,by omega,fun e19 h19=>?_⟩
  try (obtain rfl:=dE hy h19)
  refine ⟨by omega,rfl,by omega,fun e23 h23=>?_⟩
  try (obtain rfl:=dE hy h23)
  refine ⟨by first | exact mO e19 | exact mO _,⟨by omega,by omega⟩,?_⟩
  exact ⟨k+1,rfl,by omega,by omega⟩
 ·replace c1:=nq c1
  refine ⟨?_,trivial⟩
  ·rfl
abbrev pR (x:aC):Prop:=gF Try.prog 35 [.agg [.int .i64 x.num,.int .i64 x.den],.agg [.int .i64 x.num,.int .i64 x.den]] (vB true) []
theorem kZ (x:aC):pR x:=by
 refine cT dR bK Try.func35 (by kernel_rfl) (.no<| .no<| .fin []) (p:=(!(decide (x.num=x.num)))=false∧(!(decide (x.den=x.den)))=false∧(true)=true∧True) (by kernel_rfl) ?_
 refine ⟨by simp,by simp,?_,trivial⟩
 ·rfl
abbrev jQ (x:List aC):Prop:=gF Try.prog 36 [.one (.sl 28 2 (x.map aA)),.one (.sl 28 2 (x.map aA))] (vB true) []
theorem fT (x:List aC):jQ x:=by
 refine cT dR bK Try.func36 (by kernel_rfl) (.len x.length<| .len x.length<| .no<| .loop Nat (Q1 Nat) [5,11,12,13,14,15,16,17,18,19,20,21,22,23,24,25,26] [] (fun k=>[(5,vI (k:Int))]) (fun k=>[]) (fun k=>k≤x.length) (fun k=>x.length - k) (fun k=> .len x.length<| .br (.elem _ aA x (fun e19=> .elem _ aA x (fun e23=> .call (vB true) []<| .back []))) (.fin []))) (p:=(x.map aA).length≤9223372036854775807→(x.map aA).length≤9223372036854775807→Lm aA x∧(Lm aA x∧((!(decide (((x.length:Nat):Int)=((x.length:Nat):Int))))=false∧((∃(k:Nat),(0:Int)=(k:Int)∧k≤x.length)∧ ∀(k:Nat),k≤x.length→Lm aA x∧(((decide ((k:Int)<((x.length:Nat):Int)))=true→0≤(k:Int)∧Em aA x k fun e19=>0≤(k:Int)∧Em aA x k fun e23=>gF Try.prog 35 [.agg [.int .i64 e19.num,.int .i64 e19.den],.agg [.int .i64 e23.num,.int .i64 e23.den]] (vB true) []∧dN ((k:Int)+(1:Int))∧ ∃(k' :Nat),((k:Int)+(1:Int))=(k' :Int)∧k' ≤x.length∧x.length - k' <x.length - k)∧((decide ((k:Int)<((x.length:Nat):Int)))=false→(true)=true∧True)))))) (by kernel_rfl) ?_
 intro n0 n1
 simp only [List.length_map] at n0 n1
 refine ⟨List.length_map _,List.length_map _,by simp,⟨0,rfl,Nat.zero_le _⟩,fun k hk=>?_⟩
 refine ⟨List.length_map _,fun c1=>?_,fun c1=>?_⟩
 ·replace c1:=yq c1
  obtain ⟨y,hy⟩:=jV (l:=x) (k:=k) (by omega)
  refine ⟨by omega,rfl,by omega,fun e19 h19=>?_⟩
  try (obtain rfl:=dE hy h19)
  refine ⟨by omega,rfl,by omega,fun e23 h23=>?_⟩
  try (obtain rfl:=dE hy h23)
  refine ⟨by first | exact kZ e19 | exact kZ _,⟨by omega,by omega⟩,?_⟩
  exact ⟨k+1,rfl,by omega,by omega⟩
 ·replace c1:=nq c1
  refine ⟨?_,trivial⟩
  ·rfl
abbrev rV (x:List (List aC)):Prop:=gF Try.prog 56 [.one (.sl 29 1 (x.map aD)),.one (.sl 29 1 (x.map aD))] (vB true) []
theorem uM (x:List (List aC)):rV x:=by
 refine cT dR bK Try.func56 (by kernel_rfl) (.len x.length<| .len x.length<| .no<| .loop Nat (Q1 Nat) [5,11,12,13,14,15,16,17,18,19,20,21,22,23,24,25,26] [] (fun k=>[(5,vI (k:Int))]) (fun k=>[]) (fun k=>k≤x.length) (fun k=>x.length - k) (fun k=> .len x.length<| .br (.elem _ aD x (fun e19=> .elem _ aD x (fun e23=> .call (vB true) []<| .back []))) (.fin []))) (p:=(x.map aD).length≤9223372036854775807→(x.map aD).length≤9223372036854775807→Lm aD x∧(Lm aD x∧((!(decide (((x.length:Nat):Int)=((x.length:Nat):Int))))=false∧((∃(k:Nat),(0:Int)=(k:Int)∧k≤x.length)∧ ∀(k:Nat),k≤x.length→Lm aD x∧(((decide ((k:Int)<((x.length:Nat):Int)))=true→0≤(k:Int)∧Em aD x k fun e19=>0≤(k:Int)∧Em aD x k fun e23=>gF Try.prog 36 [.one (.sl 28 2 (e19.map aA)),.one (.sl 28 2 (e23.map aA))] (vB true) []∧dN ((k:Int)+(1:Int))∧ ∃(k' :Nat),((k:Int)+(1:Int))=(k' :Int)∧k' ≤x.length∧x.length - k' <x.length - k)∧((decide ((k:Int)<((x.length:Nat):Int)))=false→(true)=true∧True)))))) (by kernel_rfl) ?_
 intro n0 n1
 simp only [List.length_map] at n0 n1
 refine ⟨List.length_map _,List.length_map _,by simp,⟨0,rfl,Nat.zero_le _⟩,fun k hk=>?_⟩
 refine ⟨List.length_map _,fun c1=>?_,fun c1=>?_⟩
 ·replace c1:=yq c1
  obtain ⟨y,hy⟩:=jV (l:=x) (k:=k) (by omega)
  refine ⟨by omega,rfl,by omega,fun e19 h19=>?_⟩
  try (obtain rfl:=dE hy h19)
  refine ⟨by omega,rfl,by omega,fun e23 h23=>?_⟩
  try (obtain rfl:=dE hy h23)
  refine ⟨by first | exact fT e19 | exact fT _,⟨by omega,by omega⟩,?_⟩
  exact ⟨k+1,rfl,by omega,by omega⟩
 ·replace c1:=nq c1
  refine ⟨?_,trivial⟩
  ·rfl
abbrev xD (x:ProgramD):Prop:=gF Try.prog 10 [.agg [.sl 3 1 (x.objective.map aG),.sl 22 1 (x.rows.map bD),.sl 3 1 (x.limits.map aG)],.agg [.sl 3 1 (x.objective.map aG),.sl 22 1 (x.rows.map bD),.sl 3 1 (x.limits.map aG)]] (vB true) []
theorem aAz (x:ProgramD):xD x:=by
 refine cT dR bK Try.func10 (by kernel_rfl) (.call (vB true) []<| .call (vB true) []<| .call (vB true) []<| .fin []) (p:=(x.objective.map aG).length≤9223372036854775807→(x.rows.map bD).length≤9223372036854775807→(x.limits.map aG).length≤9223372036854775807→(x.objective.map aG).length≤9223372036854775807→(x.rows.map bD).length≤9223372036854775807→(x.limits.map aG).length≤9223372036854775807→qI x.objective∧aAy x.rows∧qI x.limits∧(true)=true∧True) (by kernel_rfl) ?_
 intro n0 n1 n2 n3 n4 n5
 simp only [List.length_map] at n0 n1 n2 n3 n4 n5
 refine ⟨by first | exact mO x.objective | exact mO _,by first | exact aED x.rows | exact aED _,by first | exact mO x.limits | exact mO _,?_,trivial⟩
 ·rfl
abbrev iZ (x:DictionaryD):Prop:=gF Try.prog 18 [.agg [.sl 3 1 (x.basic.map aG),.sl 3 1 (x.others.map aG),.sl 29 1 (x.table.map aD),.sl 28 2 (x.limits.map aA),.sl 28 2 (x.costs.map aA),.int .i64 x.value.num,.int .i64 x.value.den],.agg [.sl 3 1 (x.basic.map aG),.sl 3 1 (x.others.map aG),.sl 29 1 (x.table.map aD),.sl 28 2 (x.limits.map aA),.sl 28 2 (x.costs.map aA),.int .i64 x.value.num,.int .i64 x.value.den]] (vB true) []
theorem gK (x:DictionaryD):iZ x:=by
 refine cT dR bK Try.func18 (by kernel_rfl) (.call (vB true) []<| .call (vB true) []<| .call (vB true) []<| .call (vB true) []<| .call (vB true) []<| .call (vB true) []<| .fin []) (p:=(x.basic.map aG).length≤9223372036854775807→(x.others.map aG).length≤9223372036854775807→(x.table.map aD).length≤9223372036854775807→(x.limits.map aA).length≤9223372036854775807→(x.costs.map aA).length≤9223372036854775807→(x.basic.map aG).length≤9223372036854775807→(x.others.map aG).length≤9223372036854775807→(x.table.map aD).length≤9223372036854775807→(x.limits.map aA).length≤9223372036854775807→(x.costs.map aA).length≤9223372036854775807→qI x.basic∧qI x.others∧rV x.table∧jQ x.limits∧jQ x.costs∧pR x.value∧(true)=true∧True) (by kernel_rfl) ?_
 intro n0 n1 n2 n3 n4 n5 n6 n7 n8 n9
 simp only [List.length_map] at n0 n1 n2 n3 n4 n5 n6 n7 n8 n9
 refine ⟨by first | exact mO x.basic | exact mO _,by first | exact mO x.others | exact mO _,by first | exact uM x.table | exact uM _,by first | exact fT x.limits | exact fT _,by first | exact fT x.costs | exact fT _,by first | exact kZ x.value | exact kZ _,?_,trivial⟩
 ·rfl
abbrev mP (x:fO):Prop:=gF Try.prog 9 [.agg [.int .i64 x.value.num,.int .i64 x.value.den,.sl 28 2 (x.primal.map aA),.sl 28 2 (x.dual.map aA)],.agg [.int .i64 x.value.num,.int .i64 x.value.den,.sl 28 2 (x.primal.map aA),.sl 28 2 (x.dual.map aA)]] (vB true) []
theorem lA (x:fO):mP x:=by
 refine cT dR bK Try.func9 (by kernel_rfl) (.call (vB true) []<| .call (vB true) []<| .call (vB true) []<| .fin []) (p:=(x.primal.map aA).length≤9223372036854775807→(x.dual.map aA).length≤9223372036854775807→(x.primal.map aA).length≤9223372036854775807→(x.dual.map aA).length≤9223372036854775807→pR x.value∧jQ x.primal∧jQ x.dual∧(true)=true∧True) (by kernel_rfl) ?_
 intro n0 n1 n2 n3
 simp only [List.length_map] at n0 n1 n2 n3
 refine ⟨by first | exact kZ x.value | exact kZ _,by first | exact fT x.primal | exact fT _,by first | exact fT x.dual | exact fT _,?_,trivial⟩
 ·rfl
abbrev nZ (x:List Int) (m:Int):Prop:=gF Try.prog 21 [.one (.sl 3 1 (x.map aG)),.one (.int .i64 m)] (vI (aX (bL x) m)) []
theorem xE (x:List Int) (m:Int) (hf:yS x) (h0:0≤m) (h1:m≤1048576):nZ x m:=by
 refine cT dR bK Try.func21 (by kernel_rfl) (.len x.length<| .br (.fin []) (.fin [])) (p:=(x.map aG).length≤9223372036854775807→Lm aG x∧(dN (m - ((x.length:Nat):Int))∧(((decide ((m - ((x.length:Nat):Int))<(0:Int)))=true→(-1:Int)=(aX (bL x) m)∧True)∧((decide ((m - ((x.length:Nat):Int))<(0:Int)))=false→(m - ((x.length:Nat):Int))=(aX (bL x) m)∧True)))) (by kernel_rfl) ?_
 intro n0
 simp only [List.length_map] at n0
 refine ⟨List.length_map _,⟨by omega,by omega⟩,fun c0=>?_,fun c0=>?_⟩
 ·replace c0:=yq c0
  refine ⟨?_,trivial⟩
  ·unfold bL;first | (rw [eB (by omega)];done) | (rw [bC (by omega)];done)
 ·replace c0:=nq c0
  refine ⟨?_,trivial⟩
  ·unfold bL;first | (rw [eB (by omega)];done) | (rw [bC (by omega)];done)
abbrev aBA (x:List (List Int)) (m:Int):Prop:=gF Try.prog 22 [.one (.sl 22 1 (x.map bD)),.one (.int .i64 m)] (vI (aX (gV x) m)) []
theorem aHq (x:List (List Int)) (m:Int) (hf:aCb x) (h0:0≤m) (h1:m≤1048576):aBA x m:=by
 refine cT dR bK Try.func22 (by kernel_rfl) (.len x.length<| .br (.fin []) (.loop (Nat × Int) (Q2 Nat Int) [1,5,12,13,14,15,16,17,18,19,20,21,22,23,24,25] [] (fun yy0=>[(5,vI (yy0.1:Int)),(1,vI yy0.2)]) (fun yy0=>[]) (fun yy0=>yy0.1≤x.length∧yy0.2=m - x.length - (cZ bL (x.take yy0.1):Nat)∧0≤yy0.2) (fun yy0=>x.length - yy0.1) (fun yy0=> .len x.length<| .br (.elem _ bD x (fun e20=> .call (vI (aX (bL e20) yy0.2)) []<| .br (.fin []) (.back []))) (.fin [])))) (p:=(x.map bD).length≤9223372036854775807→Lm bD x∧(dN (m - ((x.length:Nat):Int))∧(((decide ((m - ((x.length:Nat):Int))<(0:Int)))=true→(-1:Int)=(aX (gV x) m)∧True)∧((decide ((m - ((x.length:Nat):Int))<(0:Int)))=false→(∃(k:Nat) (z:Int),(0:Int)=(k:Int)∧(m - ((x.length:Nat):Int))=z∧k≤x.length∧z=m - x.length - (cZ bL (x.take k):Nat)∧0≤z)∧ ∀(k:Nat) (z:Int),(k≤x.length∧z=m - x.length - (cZ bL (x.take k):Nat)∧0≤z)→Lm bD x∧(((decide ((k:Int)<((x.length:Nat):Int)))=true→0≤(k:Int)∧Em bD x k fun e20=>nZ e20 z∧(((decide ((aX (bL e20) z)<(0:Int)))=true→(-1:Int)=(aX (gV x) m)∧True)∧((decide ((aX (bL e20) z)<(0:Int)))=false→dN ((k:Int)+(1:Int))∧ ∃(k' :Nat) (z' :Int),((k:Int)+(1:Int))=(k' :Int)∧(aX (bL e20) z)=z' ∧(k' ≤x.length∧z' =m - x.length - (cZ bL (x.take k'):Nat)∧0≤z')∧x.length - k' <x.length - k)))∧((decide ((k:Int)<((x.length:Nat):Int)))=false→z=(aX (gV x) m)∧True)))))) (by kernel_rfl) ?_
 intro n0
 simp only [List.length_map] at n0
 have hS:gV x=x.length+cZ bL x:=rfl
 refine ⟨List.length_map _,⟨by omega,by omega⟩,fun c0=>?_,fun c0=>?_⟩
 ·replace c0:=yq c0
  refine ⟨?_,trivial⟩
  ·first | (rw [eB (by omega)];done) | (rw [bC (by omega)];done) | (rw [bC (by omega)];omega)
 ·replace c0:=nq c0
  refine ⟨⟨0,m - ((x.length:Nat):Int),rfl,rfl,Nat.zero_le _,by simp [cZ],by omega⟩,fun k z ⟨hk,hz,hz0⟩=>?_⟩
  refine ⟨List.length_map _,fun c1=>?_,fun c1=>?_⟩
  ·replace c1:=yq c1
   obtain ⟨y,hy⟩:=jV (l:=x) (k:=k) (by omega)
   have hfy:=hf y (List.mem_of_getElem? hy)
   refine ⟨by omega,rfl,by omega,fun e20 h20=>?_⟩
   obtain rfl:=dE hy h20
   refine ⟨xE e20 _ (by first | assumption | exact hf) (by omega) (by omega),fun c2=>?_,fun c2=>?_⟩
   ·replace c2:=yq c2
    have y3:=pN c2
    have y4:=gA bL ‹x[k]? =some _›
    have y5:=kI bL x (k+1)
    refine ⟨?_,trivial⟩
    ·first | (rw [eB (by omega)];done) | (rw [bC (by omega)];done) | (rw [bC (by omega)];omega)
   ·replace c2:=nq c2
    have y2:=bC (pA c2)
    have y3:=pA c2
    have y4:=gA bL ‹x[k]? =some _›
    refine ⟨⟨by omega,by omega⟩,?_⟩
    exact ⟨k+1,aX (bL e20) z,rfl,rfl,⟨by omega,by rw [y2,y4,hz];omega,by rw [y2];omega⟩,by omega⟩
  ·replace c1:=nq c1
   have y6:k=x.length:=by omega
   rw [y6,List.take_length] at hz
   refine ⟨?_,trivial⟩
   ·first | (rw [eB (by omega)];done) | (rw [bC (by omega)];done) | (rw [bC (by omega)];omega)
abbrev lO (x:List aC) (m:Int):Prop:=gF Try.prog 44 [.one (.sl 28 2 (x.map aA)),.one (.int .i64 m)] (vI (aX (aV x) m)) []
theorem rE (x:List aC) (m:Int) (hf:mB x) (h0:0≤m) (h1:m≤1048576):lO x m:=by
 refine cT dR bK Try.func44 (by kernel_rfl) (.len x.length<| .br (.fin []) (.fin [])) (p:=(x.map aA).length≤9223372036854775807→Lm aA x∧(dN (m - ((x.length:Nat):Int))∧(((decide ((m - ((x.length:Nat):Int))<(0:Int)))=true→(-1:Int)=(aX (aV x) m)∧True)∧((decide ((m - ((x.length:Nat):Int))<(0:Int)))=false→(m - ((x.length:Nat):Int))=(aX (aV x) m)∧True)))) (by kernel_rfl) ?_
 intro n0
 simp only [List.length_map] at n0
 refine ⟨List.length_map _,⟨by omega,by omega⟩,fun c0=>?_,fun c0=>?_⟩
 ·replace c0:=yq c0
  refine ⟨?_,trivial⟩
  ·unfold aV;first | (rw [eB (by omega)];done) | (rw [bC (by omega)];done)
 ·replace c0:=nq c0
  refine ⟨?_,trivial⟩
  ·unfold aV;first | (rw [eB (by omega)];done) | (rw [bC (by omega)];done)
abbrev rW (x:List (List aC)) (m:Int):Prop:=gF Try.prog 43 [.one (.sl 29 1 (x.map aD)),.one (.int .i64 m)] (vI (aX (bQ x) m)) []
theorem aB1 (x:List (List aC)) (m:Int) (hf:pB x) (h0:0≤m) (h1:m≤1048576):rW x m:=by
 refine cT dR bK Try.func43 (by kernel_rfl) (.len x.length<| .br (.fin []) (.loop (Nat × Int) (Q2 Nat Int) [1,5,12,13,14,15,16,17,18,19,20,21,22,23,24,25] [] (fun yy0=>[(5,vI (yy0.1:Int)),(1,vI yy0.2)]) (fun yy0=>[]) (fun yy0=>yy0.1≤x.length∧yy0.2=m - x.length - (cZ aV (x.take yy0.1):Nat)∧0≤yy0.2) (fun yy0=>x.length - yy0.1) (fun yy0=> .len x.length<| .br (.elem _ aD x (fun e20=> .call (vI (aX (aV e20) yy0.2)) []<| .br (.fin []) (.back []))) (.fin [])))) (p:=(x.map aD).length≤9223372036854775807→Lm aD x∧(dN (m - ((x.length:Nat):Int))∧(((decide ((m - ((x.length:Nat):Int))<(0:Int)))=true→(-1:Int)=(aX (bQ x) m)∧True)∧((decide ((m - ((x.length:Nat):Int))<(0:Int)))=false→(∃(k:Nat) (z:Int),(0:Int)=(k:Int)∧(m - ((x.length:Nat):Int))=z∧k≤x.length∧z=m - x.length - (cZ aV (x.take k):Nat)∧0≤z)∧ ∀(k:Nat) (z:Int),(k≤x.length∧z=m - x.length - (cZ aV (x.take k):Nat)∧0≤z)→Lm aD x∧(((decide ((k:Int)<((x.length:Nat):Int)))=true→0≤(k:Int)∧Em aD x k fun e20=>lO e20 z∧(((decide ((aX (aV e20) z)<(0:Int)))=true→(-1:Int)=(aX (bQ x) m)∧True)∧((decide ((aX (aV e20) z)<(0:Int)))=false→dN ((k:Int)+(1:Int))∧ ∃(k' :Nat) (z' :Int),((k:Int)+(1:Int))=(k' :Int)∧(aX (aV e20) z)=z' ∧(k' ≤x.length∧z' =m - x.length - (cZ aV (x.take k'):Nat)∧0≤z')∧x.length - k' <x.length - k)))∧((decide ((k:Int)<((x.length:Nat):Int)))=false→z=(aX (bQ x) m)∧True)))))) (by kernel_rfl) ?_
 intro n0
 simp only [List.length_map] at n0
 have hS:bQ x=x.length+cZ aV x:=rfl
 refine ⟨List.length_map _,⟨by omega,by omega⟩,fun c0=>?_,fun c0=>?_⟩
 ·replace c0:=yq c0
  refine ⟨?_,trivial⟩
  ·first | (rw [eB (by omega)];done) | (rw [bC (by omega)];done) | (rw [bC (by omega)];omega)
 ·replace c0:=nq c0
  refine ⟨⟨0,m - ((x.length:Nat):Int),rfl,rfl,Nat.zero_le _,by simp [cZ],by omega⟩,fun k z ⟨hk,hz,hz0⟩=>?_⟩
  refine ⟨List.length_map _,fun c1=>?_,fun c1=>?_⟩
  ·replace c1:=yq c1
   obtain ⟨y,hy⟩:=jV (l:=x) (k:=k) (by omega)
   have hfy:=hf y (List.mem_of_getElem? hy)
   refine ⟨by omega,rfl,by omega,fun e20 h20=>?_⟩
   obtain rfl:=dE hy h20
   refine ⟨rE e20 _ (by first | assumption | exact hf) (by omega) (by omega),fun c2=>?_,fun c2=>?_⟩
   ·replace c2:=yq c2
    have y3:=pN c2
    have y4:=gA aV ‹x[k]? =some _›
    have y5:=kI aV x (k+1)
    refine ⟨?_,trivial⟩
    ·first | (rw [eB (by omega)];done) | (rw [bC (by omega)];done) | (rw [bC (by omega)];omega)
   ·replace c2:=nq c2
    have y2:=bC (pA c2)
    have y3:=pA c2
    have y4:=gA aV ‹x[k]? =some _›
    refine ⟨⟨by omega,by omega⟩,?_⟩
    exact ⟨k+1,aX (aV e20) z,rfl,rfl,⟨by omega,by rw [y2,y4,hz];omega,by rw [y2];omega⟩,by omega⟩
  ·replace c1:=nq c1
   have y6:k=x.length:=by omega
   rw [y6,List.take_length] at hz
   refine ⟨?_,trivial⟩
   ·first | (rw [eB (by omega)];done) | (rw [bC (by omega)];done) | (rw [bC (by omega)];omega)
abbrev xF (x:ProgramD) (m:Int):Prop:=gF Try.prog 5 [.agg [.sl 3 1 (x.objective.map aG),.sl 22 1 (x.rows.map bD),.sl 3 1 (x.limits.map aG)],.one (.int .i64 m)] (vI (aX (fB x) m)) []
theorem aEj (x:ProgramD) (m:Int) (hf:aA3 x) (h0:0≤m) (h1:m≤1048576):xF x m:=by
 refine cT dR bK Try.func5 (by kernel_rfl) (.call (vI (aX (bL x.objective) m)) []<| .br (.fin []) (.call (vI (aX (gV x.rows) (aX (bL x.objective) m))) []<| .br (.fin []) (.call (vI (aX (bL x.limits) (aX (gV x.rows) (aX (bL x.objective) m)))) []<| .br (.fin []) (.fin [])))) (p:=(x.objective.map aG).length≤9223372036854775807→(x.rows.map bD).length≤9223372036854775807→(x.limits.map aG).length≤9223372036854775807→nZ x.objective m∧(((decide ((aX (bL x.objective) m)<(0:Int)))=true→(-1:Int)=(aX (fB x) m)∧True)∧((decide ((aX (bL x.objective) m)<(0:Int)))=false→aBA x.rows (aX (bL x.objective) m)∧(((decide ((aX (gV x.rows) (aX (bL x.objective) m))<(0:Int)))=true→(-1:Int)=(aX (fB x) m)∧True)∧((decide ((aX (gV x.rows) (aX (bL x.objective) m))<(0:Int)))=false→nZ x.limits (aX (gV x.rows) (aX (bL x.objective) m))∧(((decide ((aX (bL x.limits) (aX (gV x.rows) (aX (bL x.objective) m)))<(0:Int)))=true→(-1:Int)=(aX (fB x) m)∧True)∧((decide ((aX (bL x.limits) (aX (gV x.rows) (aX (bL x.objective) m)))<(0:Int)))=false→(aX (bL x.limits) (aX (gV x.rows) (aX (bL x.objective) m)))=(aX (fB x) m)∧True))))))) (by kernel_rfl) ?_
 intro n0 n1 n2
 simp only [List.length_map] at n0 n1 n2
 obtain ⟨f_objective,f_rows,f_limits⟩:=hf
 have hmx:maxLen=9223372036854775807:=rfl
 refine ⟨xE x.objective _ (by first | assumption | exact hf) (by omega) (by omega),fun c0=>?_,fun c0=>?_⟩
 ·replace c0:=yq c0
  have y0:=pN c0
  refine ⟨?_,trivial⟩
  ·unfold fB;first | (rw [eB (by omega)];done) | (rw [bC (by omega)];done) | (rw [bC (by omega)];omega)
 ·replace c0:=nq c0
  have y0:=pA c0
  rw [bC y0] at*
  refine ⟨aHq x.rows _ (by first | assumption | exact hf) (by omega) (by omega),fun c1=>?_,fun c1=>?_⟩
  ·replace c1:=yq c1
   have y1:=pN c1
   refine ⟨?_,trivial⟩
   ·unfold fB;first | (rw [eB (by omega)];done) | (rw [bC (by omega)];done) | (rw [bC (by omega)];omega)
  ·replace c1:=nq c1
   have y1:=pA c1
   rw [bC y1] at*
   refine ⟨xE x.limits _ (by first | assumption | exact hf) (by omega) (by omega),fun c2=>?_,fun c2=>?_⟩
   ·replace c2:=yq c2
    have y2:=pN c2
    refine ⟨?_,trivial⟩
    ·unfold fB;first | (rw [eB (by omega)];done) | (rw [bC (by omega)];done) | (rw [bC (by omega)];omega)
   ·replace c2:=nq c2
    have y2:=pA c2
    rw [bC y2] at*
    refine ⟨?_,trivial⟩
    ·unfold fB;first | (rw [eB (by omega)];done) | (rw [bC (by omega)];done) | (rw [bC (by omega)];omega)
abbrev rX (x:DictionaryD) (m:Int):Prop:=gF Try.prog 14 [.agg [.sl 3 1 (x.basic.map aG),.sl 3 1 (x.others.map aG),.sl 29 1 (x.table.map aD),.sl 28 2 (x.limits.map aA),.sl 28 2 (x.costs.map aA),.int .i64 x.value.num,.int .i64 x.value.den],.one (.int .i64 m)] (vI (aX (bU x) m)) []
theorem aB2 (x:DictionaryD) (m:Int) (hf:sZ x) (h0:0≤m) (h1:m≤1048576):rX x m:=by
 refine cT dR bK Try.func14 (by kernel_rfl) (.call (vI (aX (bL x.basic) m)) []<| .br (.fin []) (.call (vI (aX (bL x.others) (aX (bL x.basic) m))) []<| .br (.fin []) (.call (vI (aX (bQ x.table) (aX (bL x.others) (aX (bL x.basic) m)))) []<| .br (.fin []) (.call (vI (aX (aV x.limits) (aX (bQ x.table) (aX (bL x.others) (aX (bL x.basic) m))))) []<| .br (.fin []) (.call (vI (aX (aV x.costs) (aX (aV x.limits) (aX (bQ x.table) (aX (bL x.others) (aX (bL x.basic) m)))))) []<| .br (.fin []) (.fin [])))))) (p:=(x.basic.map aG).length≤9223372036854775807→(x.others.map aG).length≤9223372036854775807→(x.table.map aD).length≤9223372036854775807→(x.limits.map aA).length≤9223372036854775807→(x.costs.map aA).length≤9223372036854775807→nZ x.basic m∧(((decide ((aX (bL x.basic) m)<(0:Int)))=true→(-1:Int)=(aX (bU x) m)∧True)∧((decide ((aX (bL x.basic) m)<(0:Int)))=false→nZ x.others (aX (bL x.basic) m)∧(((decide ((aX (bL x.others) (aX (bL x.basic) m))<(0:Int)))=true→(-1:Int)=(aX (bU x) m)∧True)∧((decide ((aX (bL x.others) (aX (bL x.basic) m))<(0:Int)))=false→rW x.table (aX (bL x.others) (aX (bL x.basic) m))∧(((decide ((aX (bQ x.table) (aX (bL x.others) (aX (bL x.basic) m)))<(0:Int)))=true→(-1:Int)=(aX (bU x) m)∧True)∧((decide ((aX (bQ x.table) (aX (bL x.others) (aX (bL x.basic) m)))<(0:Int)))=false→lO x.limits (aX (bQ x.table) (aX (bL x.others) (aX (bL x.basic) m)))∧(((decide ((aX (aV x.limits) (aX (bQ x.table) (aX (bL x.others) (aX (bL x.basic) m))))<(0:Int)))=true→(-1:Int)=(aX (bU x) m)∧True)∧((decide ((aX (aV x.limits) (aX (bQ x.table) (aX (bL x.others) (aX (bL x.basic) m))))<(0:Int)))=false→lO x.costs (aX (aV x.limits) (aX (bQ x.table) (aX (bL x.others) (aX (bL x.basic) m))))∧(((decide ((aX (aV x.costs) (aX (aV x.limits) (aX (bQ x.table) (aX (bL x.others) (aX (bL x.basic) m)))))<(0:Int)))=true→(-1:Int)=(aX (bU x) m)∧True)∧((decide ((aX (aV x.costs) (aX (aV x.limits) (aX (bQ x.table) (aX (bL x.others) (aX (bL x.basic) m)))))<(0:Int)))=false→(aX (aV x.costs) (aX (aV x.limits) (aX (bQ x.table) (aX (bL x.others) (aX (bL x.basic) m)))))=(aX (bU x) m)∧True))))))))))) (by kernel_rfl) ?_
 intro n0 n1 n2 n3 n4
 simp only [List.length_map] at n0 n1 n2 n3 n4
 obtain ⟨f_basic,f_others,f_table,f_limits,f_costs,f_value⟩:=hf
 have hmx:maxLen=9223372036854775807:=rfl
 refine ⟨xE x.basic _ (by first | assumption | exact hf) (by omega) (by omega),fun c0=>?_,fun c0=>?_⟩
 ·replace c0:=yq c0
  have y0:=pN c0
  refine ⟨?_,trivial⟩
  ·unfold bU;first | (rw [eB (by omega)];done) | (rw [bC (by omega)];done) | (rw [bC (by omega)];omega)
 ·replace c0:=nq c0
  have y0:=pA c0
  rw [bC y0] at*
  refine ⟨xE x.others _ (by first | assumption | exact hf) (by omega) (by omega),fun c1=>?_,fun c1=>?_⟩
  ·replace c1:=yq c1
   have y1:=pN c1
   refine ⟨?_,trivial⟩
   ·unfold bU;first | (rw [eB (by omega)];done) | (rw [bC (by omega)];done) | (rw [bC (by omega)];omega)
  ·replace c1:=nq c1
   have y1:=pA c1
   rw [bC y1] at*
   refine ⟨aB1 x.table _ (by first | assumption | exact hf) (by omega) (by omega),fun c2=>?_,fun c2=>?_⟩
   ·replace c2:=yq c2
    have y2:=pN c2
    refine ⟨?_,trivial⟩
    ·unfold bU;first | (rw [eB (by omega)];done) | (rw [bC (by omega)];done) | (rw [bC (by omega)];omega)
   ·replace c2:=nq c2
    have y2:=pA c2
    rw [bC y2] at*
    refine ⟨rE x.limits _ (by first | assumption | exact hf) (by omega) (by omega),fun c3=>?_,fun c3=>?_⟩
    ·replace c3:=yq c3
     have y3:=pN c3
     refine ⟨?_,trivial⟩
     ·unfold bU;first | (rw [eB (by omega)];done) | (rw [bC (by omega)];done) | (rw [bC (by omega)];omega)
    ·replace c3:=nq c3
     have y3:=pA c3
     rw [bC y3] at*
     refine ⟨rE x.costs _ (by first | assumption | exact hf) (by omega) (by omega),fun c4=>?_,fun c4=>?_⟩
     ·replace c4:=yq c4
      have y4:=pN c4
      refine ⟨?_,trivial⟩
      ·unfold bU;first | (rw [eB (by omega)];done) | (rw [bC (by omega)];done) | (rw [bC (by omega)];omega)
     ·replace c4:=nq c4
      have y4:=pA c4
      rw [bC y4] at*
      refine ⟨?_,trivial⟩
      ·unfold bU;first | (rw [eB (by omega)];done) | (rw [bC (by omega)];done) | (rw [bC (by omega)];omega)
end Go.Proofs.Ytpoobcnmhnbdlaa
