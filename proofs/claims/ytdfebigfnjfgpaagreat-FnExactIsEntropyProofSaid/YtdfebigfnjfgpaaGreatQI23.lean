/-
  Contracts and plain laws, joined: part 24.
-/
import Derived.Test.YtdfebigfnjfgpaaGreatQI3
namespace Go.Proofs.YtdfebigfnjfgpaaGreat
open Go.ChangeShapes Go.WideShapes Go.ChangeAt Go.RowKit
set_option linter.unusedVariables false
set_option linter.unusedSimpArgs false
set_option maxRecDepth 100000
set_option maxHeartbeats 4000000
abbrev uG (x:List Int):Prop:=cT Tryz.prog 13 [.one (.sl 3 1 (x.map intD)),.one (.sl 3 1 (x.map intD))] (vB true) []
theorem pJ (x:List Int):uG x:=by
 refine aT bE aL Tryz.func13 (by kernel_rfl) (.len x.length<| .len x.length<| .no<| .loop Nat (Q1 Nat) [5,11,12,13,14,15,16,17,18,19,20,21,22,23,24,25] [] (fun k=>[(5,vI (k:Int))]) (fun k=>[]) (fun k=>k≤x.length) (fun k=>x.length - k) (fun k=> .len x.length<| .br (.elem _ intD x (fun e19=> .elem _ intD x (fun e23=> .no<| .back []))) (.fin []))) (p:=(x.map intD).length≤9223372036854775807→(x.map intD).length≤9223372036854775807→Lm intD x∧(Lm intD x∧((!(decide (((x.length:Nat):Int)=((x.length:Nat):Int))))=false∧((∃(k:Nat),(0:Int)=(k:Int)∧k≤x.length)∧ ∀(k:Nat),k≤x.length→Lm intD x∧(((decide ((k:Int)<((x.length:Nat):Int)))=true→0≤(k:Int)∧Em intD x k fun e19=>0≤(k:Int)∧Em intD x k fun e23=>(!(decide (e19=e23)))=false∧cC ((k:Int)+(1:Int))∧ ∃(k' :Nat),((k:Int)+(1:Int))=(k' :Int)∧k' ≤x.length∧x.length - k' <x.length - k)∧((decide ((k:Int)<((x.length:Nat):Int)))=false→(true)=true∧True)))))) (by kernel_rfl) ?_
 intro n0 n1
 simp only [List.length_map] at n0 n1
 refine ⟨List.length_map _,List.length_map _,by simp,⟨0,rfl,Nat.zero_le _⟩,fun k hk=>?_⟩
 refine ⟨List.length_map _,fun c1=>?_,fun c1=>?_⟩
 ·replace c1:=yq c1
  obtain ⟨y,hy⟩:=dG (l:=x) (k:=k) (by omega)
  refine ⟨by omega,rfl,by omega,fun e19 h19=>?_⟩
  try (obtain rfl:=aY hy h19)
  refine ⟨by omega,rfl,by omega,fun e23 h23=>?_⟩
  try (obtain rfl:=aY hy h23)
  refine ⟨by simp,⟨by omega,by omega⟩,?_⟩
  exact ⟨k+1,rfl,by omega,by omega⟩
 ·replace c1:=nq c1
  refine ⟨?_,trivial⟩
  ·rfl
abbrev aBa (x:List (List Int)):Prop:=cT Tryz.prog 160 [.one (.sl 39 1 (x.map aA)),.one (.sl 39 1 (x.map aA))] (vB true) []
theorem aCc (x:List (List Int)):aBa x:=by
 refine aT bE aL Tryz.func160 (by kernel_rfl) (.len x.length<| .len x.length<| .no<| .loop Nat (Q1 Nat) [5,11,12,13,14,15,16,17,18,19,20,21,22,23,24,25,26] [] (fun k=>[(5,vI (k:Int))]) (fun k=>[]) (fun k=>k≤x.length) (fun k=>x.length - k) (fun k=> .len x.length<| .br (.elem _ aA x (fun e19=> .elem _ aA x (fun e23=> .call (vB true) []<| .back []))) (.fin []))) (p:=(x.map aA).length≤9223372036854775807→(x.map aA).length≤9223372036854775807→Lm aA x∧(Lm aA x∧((!(decide (((x.length:Nat):Int)=((x.length:Nat):Int))))=false∧((∃(k:Nat),(0:Int)=(k:Int)∧k≤x.length)∧ ∀(k:Nat),k≤x.length→Lm aA x∧(((decide ((k:Int)<((x.length:Nat):Int)))=true→0≤(k:Int)∧Em aA x k fun e19=>0≤(k:Int)∧Em aA x k fun e23=>cT Tryz.prog 13 [.one (.sl 3 1 (e19.map intD)),.one (.sl 3 1 (e23.map intD))] (vB true) []∧cC ((k:Int)+(1:Int))∧ ∃(k' :Nat),((k:Int)+(1:Int))=(k' :Int)∧k' ≤x.length∧x.length - k' <x.length - k)∧((decide ((k:Int)<((x.length:Nat):Int)))=false→(true)=true∧True)))))) (by kernel_rfl) ?_
 intro n0 n1
 simp only [List.length_map] at n0 n1
 refine ⟨List.length_map _,List.length_map _,by simp,⟨0,rfl,Nat.zero_le _⟩,fun k hk=>?_⟩
 refine ⟨List.length_map _,fun c1=>?_,fun c1=>?_⟩
 ·replace c1:=yq c1
  obtain ⟨y,hy⟩:=dG (l:=x) (k:=k) (by omega)
  refine ⟨by omega,rfl,by omega,fun e19 h19=>?_⟩
  try (obtain rfl:=aY hy h19)
  refine ⟨by omega,rfl,by omega,fun e23 h23=>?_⟩
  try (obtain rfl:=aY hy h23)
  refine ⟨by first | exact pJ e19 | exact pJ _,⟨by omega,by omega⟩,?_⟩
  exact ⟨k+1,rfl,by omega,by omega⟩
 ·replace c1:=nq c1
  refine ⟨?_,trivial⟩
  ·rfl
abbrev aMk (x:aV):Prop:=cT Tryz.prog 122 [.agg [.str x.name,.int .i64 x.arity,.sl 39 1 (x.rows.map aA)],.agg [.str x.name,.int .i64 x.arity,.sl 39 1 (x.rows.map aA)]] (vB true) []
theorem aLc (x:aV):aMk x:=by
 refine aT bE aL Tryz.func122 (by kernel_rfl) (.no<| .no<| .call (vB true) []<| .fin []) (p:=(x.rows.map aA).length≤9223372036854775807→(x.rows.map aA).length≤9223372036854775807→(!(x.name.toList==x.name.toList))=false∧(!(decide (x.arity=x.arity)))=false∧aBa x.rows∧(true)=true∧True) (by kernel_rfl) ?_
 intro n0 n1
 simp only [List.length_map] at n0 n1
 refine ⟨by simp,by simp,by first | exact aCc x.rows | exact aCc _,?_,trivial⟩
 ·rfl
abbrev aE3 (x:List aV):Prop:=cT Tryz.prog 83 [.one (.sl 167 3 (x.map aR)),.one (.sl 167 3 (x.map aR))] (vB true) []
theorem aJE (x:List aV):aE3 x:=by
 refine aT bE aL Tryz.func83 (by kernel_rfl) (.len x.length<| .len x.length<| .no<| .loop Nat (Q1 Nat) [5,11,12,13,14,15,16,17,18,19,20,21,22,23,24,25,26] [] (fun k=>[(5,vI (k:Int))]) (fun k=>[]) (fun k=>k≤x.length) (fun k=>x.length - k) (fun k=> .len x.length<| .br (.elem _ aR x (fun e19=> .elem _ aR x (fun e23=> .call (vB true) []<| .back []))) (.fin []))) (p:=(x.map aR).length≤9223372036854775807→(x.map aR).length≤9223372036854775807→Lm aR x∧(Lm aR x∧((!(decide (((x.length:Nat):Int)=((x.length:Nat):Int))))=false∧((∃(k:Nat),(0:Int)=(k:Int)∧k≤x.length)∧ ∀(k:Nat),k≤x.length→Lm aR x∧(((decide ((k:Int)<((x.length:Nat):Int)))=true→0≤(k:Int)∧Em aR x k fun e19=>0≤(k:Int)∧Em aR x k fun e23=>cT Tryz.prog 122 [.agg [.str e19.name,.int .i64 e19.arity,.sl 39 1 (e19.rows.map aA)],.agg [.str e23.name,.int .i64 e23.arity,.sl 39 1 (e23.rows.map aA)]] (vB true) []∧cC ((k:Int)+(1:Int))∧ ∃(k' :Nat),((k:Int)+(1:Int))=(k' :Int)∧k' ≤x.length∧x.length - k' <x.length - k)∧((decide ((k:Int)<((x.length:Nat):Int)))=false→(true)=true∧True)))))) (by kernel_rfl) ?_
 intro n0 n1
 simp only [List.length_map] at n0 n1
 refine ⟨List.length_map _,List.length_map _,by simp,⟨0,rfl,Nat.zero_le _⟩,fun k hk=>?_⟩
 refine ⟨List.length_map _,fun c1=>?_,fun c1=>?_⟩
 ·replace c1:=yq c1
  obtain ⟨y,hy⟩:=dG (l:=x) (k:=k) (by omega)
  refine ⟨by omega,rfl,by omega,fun e19 h19=>?_⟩
  try (obtain rfl:=aY hy h19)
  refine ⟨by omega,rfl,by omega,fun e23 h23=>?_⟩
  try (obtain rfl:=aY hy h23)
  refine ⟨by first | exact aLc e19 | exact aLc _,⟨by omega,by omega⟩,?_⟩
  exact ⟨k+1,rfl,by omega,by omega⟩
 ·replace c1:=nq c1
  refine ⟨?_,trivial⟩
  ·rfl
abbrev aAb (x:aS):Prop:=cT Tryz.prog 41 [.agg [.sl 167 3 (x.tables.map aR)],.agg [.sl 167 3 (x.tables.map aR)]] (vB true) []
theorem aE4 (x:aS):aAb x:=by
 refine aT bE aL Tryz.func41 (by kernel_rfl) (.call (vB true) []<| .fin []) (p:=(x.tables.map aR).length≤9223372036854775807→(x.tables.map aR).length≤9223372036854775807→aE3 x.tables∧(true)=true∧True) (by kernel_rfl) ?_
 intro n0 n1
 simp only [List.length_map] at n0 n1
 refine ⟨by first | exact aJE x.tables | exact aJE _,?_,trivial⟩
 ·rfl
abbrev aPM (x:dS):Prop:=cT Tryz.prog 87 [.agg [.str x.name,.sl 3 1 (x.vars.map intD)],.agg [.str x.name,.sl 3 1 (x.vars.map intD)]] (vB true) []
theorem aNb (x:dS):aPM x:=by
 refine aT bE aL Tryz.func87 (by kernel_rfl) (.no<| .call (vB true) []<| .fin []) (p:=(x.vars.map intD).length≤9223372036854775807→(x.vars.map intD).length≤9223372036854775807→(!(x.name.toList==x.name.toList))=false∧uG x.vars∧(true)=true∧True) (by kernel_rfl) ?_
 intro n0 n1
 simp only [List.length_map] at n0 n1
 refine ⟨by simp,by first | exact pJ x.vars | exact pJ _,?_,trivial⟩
 ·rfl
abbrev aHQ (x:List dS):Prop:=cT Tryz.prog 45 [.one (.sl 135 2 (x.map bH)),.one (.sl 135 2 (x.map bH))] (vB true) []
theorem aLd (x:List dS):aHQ x:=by
 refine aT bE aL Tryz.func45 (by kernel_rfl) (.len x.length<| .len x.length<| .no<| .loop Nat (Q1 Nat) [5,11,12,13,14,15,16,17,18,19,20,21,22,23,24,25,26] [] (fun k=>[(5,vI (k:Int))]) (fun k=>[]) (fun k=>k≤x.length) (fun k=>x.length - k) (fun k=> .len x.length<| .br (.elem _ bH x (fun e19=> .elem _ bH x (fun e23=> .call (vB true) []<| .back []))) (.fin []))) (p:=(x.map bH).length≤9223372036854775807→(x.map bH).length≤9223372036854775807→Lm bH x∧(Lm bH x∧((!(decide (((x.length:Nat):Int)=((x.length:Nat):Int))))=false∧((∃(k:Nat),(0:Int)=(k:Int)∧k≤x.length)∧ ∀(k:Nat),k≤x.length→Lm bH x∧(((decide ((k:Int)<((x.length:Nat):Int)))=true→0≤(k:Int)∧Em bH x k fun e19=>0≤(k:Int)∧Em bH x k fun e23=>cT Tryz.prog 87 [.agg [.str e19.name,.sl 3 1 (e19.vars.map intD)],.agg [.str e23.name,.sl 3 1 (e23.vars.map intD)]] (vB true) []∧cC ((k:Int)+(1:Int))∧ ∃(k' :Nat),((k:Int)+(1:Int))=(k' :Int)∧k' ≤x.length∧x.length - k' <x.length - k)∧((decide ((k:Int)<((x.length:Nat):Int)))=false→(true)=true∧True)))))) (by kernel_rfl) ?_
 intro n0 n1
 simp only [List.length_map] at n0 n1
 refine ⟨List.length_map _,List.length_map _,by simp,⟨0,rfl,Nat.zero_le _⟩,fun k hk=>?_⟩
 refine ⟨List.length_map _,fun c1=>?_,fun c1=>?_⟩
 ·replace c1:=yq c1
  obtain ⟨y,hy⟩:=dG (l:=x) (k:=k) (by omega)
  refine ⟨by omega,rfl,by omega,fun e19 h19=>?_⟩
  try (obtain rfl:=aY hy h19)
  refine ⟨by omega,rfl,by omega,fun e23 h23=>?_⟩
  try (obtain rfl:=aY hy h23)
  refine ⟨by first | exact aNb e19 | exact aNb _,⟨by omega,by omega⟩,?_⟩
  exact ⟨k+1,rfl,by omega,by omega⟩
 ·replace c1:=nq c1
  refine ⟨?_,trivial⟩
  ·rfl
abbrev aHR (x:QueryD):Prop:=cT Tryz.prog 15 [.agg [.int .i64 x.variableCount,.sl 135 2 (x.atoms.map bH)],.agg [.int .i64 x.variableCount,.sl 135 2 (x.atoms.map bH)]] (vB true) []
theorem aLe (x:QueryD):aHR x:=by
 refine aT bE aL Tryz.func15 (by kernel_rfl) (.no<| .call (vB true) []<| .fin []) (p:=(x.atoms.map bH).length≤9223372036854775807→(x.atoms.map bH).length≤9223372036854775807→(!(decide (x.variableCount=x.variableCount)))=false∧aHQ x.atoms∧(true)=true∧True) (by kernel_rfl) ?_
 intro n0 n1
 simp only [List.length_map] at n0 n1
 refine ⟨by simp,by first | exact aLd x.atoms | exact aLd _,?_,trivial⟩
 ·rfl
abbrev aEk (x:aP):Prop:=cT Tryz.prog 191 [.agg [.sl 3 1 (x.columns.map intD),.sl 39 1 (x.values.map aA),.sl 3 1 (x.counts.map intD)],.agg [.sl 3 1 (x.columns.map intD),.sl 39 1 (x.values.map aA),.sl 3 1 (x.counts.map intD)]] (vB true) []
theorem aAc (x:aP):aEk x:=by
 refine aT bE aL Tryz.func191 (by kernel_rfl) (.call (vB true) []<| .call (vB true) []<| .call (vB true) []<| .fin []) (p:=(x.columns.map intD).length≤9223372036854775807→(x.values.map aA).length≤9223372036854775807→(x.counts.map intD).length≤9223372036854775807→(x.columns.map intD).length≤9223372036854775807→(x.values.map aA).length≤9223372036854775807→(x.counts.map intD).length≤9223372036854775807→uG x.columns∧aBa x.values∧uG x.counts∧(true)=true∧True) (by kernel_rfl) ?_
 intro n0 n1 n2 n3 n4 n5
 simp only [List.length_map] at n0 n1 n2 n3 n4 n5
 refine ⟨by first | exact pJ x.columns | exact pJ _,by first | exact aCc x.values | exact aCc _,by first | exact pJ x.counts | exact pJ _,?_,trivial⟩
 ·rfl
abbrev uH (x:List aP):Prop:=cT Tryz.prog 161 [.one (.sl 203 3 (x.map aB)),.one (.sl 203 3 (x.map aB))] (vB true) []
theorem zJ (x:List aP):uH x:=by
 refine aT bE aL Tryz.func161 (by kernel_rfl) (.len x.length<| .len x.length<| .no<| .loop Nat (Q1 Nat) [5,11,12,13,14,15,16,17,18,19,20,21,22,23,24,25,26] [] (fun k=>[(5,vI (k:Int))]) (fun k=>[]) (fun k=>k≤x.length) (fun k=>x.length - k) (fun k=> .len x.length<| .br (.elem _ aB x (fun e19=> .elem _ aB x (fun e23=> .call (vB true) []<| .back []))) (.fin []))) (p:=(x.map aB).length≤9223372036854775807→(x.map aB).length≤9223372036854775807→Lm aB x∧(Lm aB x∧((!(decide (((x.length:Nat):Int)=((x.length:Nat):Int))))=false∧((∃(k:Nat),(0:Int)=(k:Int)∧k≤x.length)∧ ∀(k:Nat),k≤x.length→Lm aB x∧(((decide ((k:Int)<((x.length:Nat):Int)))=true→0≤(k:Int)∧Em aB x k fun e19=>0≤(k:Int)∧Em aB x k fun e23=>cT Tryz.prog 191 [.agg [.sl 3 1 (e19.columns.map intD),.sl 39 1 (e19.values.map aA),.sl 3 1 (e19.counts.map intD)],.agg [.sl 3 1 (e23.columns.map intD),.sl 39 1 (e23.values.map aA),.sl 3 1 (e23.counts.map intD)]] (vB true) []∧cC ((k:Int)+(1:Int))∧ ∃(k' :Nat),((k:Int)+(1:Int))=(k' :Int)∧k' ≤x.length∧x.length - k' <x.length - k)∧((decide ((k:Int)<((x.length:Nat):Int)))=false→(true)=true∧True)))))) (by kernel_rfl) ?_
 intro n0 n1
 simp only [List.length_map] at n0 n1
 refine ⟨List.length_map _,List.length_map _,by simp,⟨0,rfl,Nat.zero_le _⟩,fun k hk=>?_⟩
 refine ⟨List.length_map _,fun c1=>?_,fun c1=>?_⟩
 ·replace c1:=yq c1
  obtain ⟨y,hy⟩:=dG (l:=x) (k:=k) (by omega)
  refine ⟨by omega,rfl,by omega,fun e19 h19=>?_⟩
  try (obtain rfl:=aY hy h19)
  refine ⟨by omega,rfl,by omega,fun e23 h23=>?_⟩
  try (obtain rfl:=aY hy h23)
  refine ⟨by first | exact aAc e19 | exact aAc _,⟨by omega,by omega⟩,?_⟩
  exact ⟨k+1,rfl,by omega,by omega⟩
 ·replace c1:=nq c1
  refine ⟨?_,trivial⟩
  ·rfl
abbrev aEl (x:aH):Prop:=cT Tryz.prog 123 [.agg [.str x.name,.int .i64 x.arity,.int .i64 x.rowCount,.sl 203 3 (x.groups.map aB)],.agg [.str x.name,.int .i64 x.arity,.int .i64 x.rowCount,.sl 203 3 (x.groups.map aB)]] (vB true) []
theorem aAd (x:aH):aEl x:=by
 refine aT bE aL Tryz.func123 (by kernel_rfl) (.no<| .no<| .no<| .call (vB true) []<| .fin []) (p:=(x.groups.map aB).length≤9223372036854775807→(x.groups.map aB).length≤9223372036854775807→(!(x.name.toList==x.name.toList))=false∧(!(decide (x.arity=x.arity)))=false∧(!(decide (x.rowCount=x.rowCount)))=false∧uH x.groups∧(true)=true∧True) (by kernel_rfl) ?_
 intro n0 n1
 simp only [List.length_map] at n0 n1
 refine ⟨by simp,by simp,by simp,by first | exact zJ x.groups | exact zJ _,?_,trivial⟩
 ·rfl
abbrev uI (x:List aH):Prop:=cT Tryz.prog 84 [.one (.sl 161 4 (x.map aE)),.one (.sl 161 4 (x.map aE))] (vB true) []
theorem zK (x:List aH):uI x:=by
 refine aT bE aL Tryz.func84 (by kernel_rfl) (.len x.length<| .len x.length<| .no<| .loop Nat (Q1 Nat) [5,11,12,13,14,15,16,17,18,19,20,21,22,23,24,25,26] [] (fun k=>[(5,vI (k:Int))]) (fun k=>[]) (fun k=>k≤x.length) (fun k=>x.length - k) (fun k=> .len x.length<| .br (.elem _ aE x (fun e19=> .elem _ aE x (fun e23=> .call (vB true) []<| .back []))) (.fin []))) (p:=(x.map aE).length≤9223372036854775807→(x.map aE).length≤9223372036854775807→Lm aE x∧(Lm aE x∧((!(decide (((x.length:Nat):Int)=((x.length:Nat):Int))))=false∧((∃(k:Nat),(0:Int)=(k:Int)∧k≤x.length)∧ ∀(k:Nat),k≤x.length→Lm aE x∧(((decide ((k:Int)<((x.length:Nat):Int)))=true→0≤(k:Int)∧Em aE x k fun e19=>0≤(k:Int)∧Em aE x k fun e23=>cT Tryz.prog 123 [.agg [.str e19.name,.int .i64 e19.arity,.int .i64 e19.rowCount,.sl 203 3 (e19.groups.map aB)],.agg [.str e23.name,.int .i64 e23.arity,.int .i64 e23.rowCount,.sl 203 3 (e23.groups.map aB)]] (vB true) []∧cC ((k:Int)+(1:Int))∧ ∃(k' :Nat),((k:Int)+(1:Int))=(k' :Int)∧k' ≤x.length∧x.length - k' <x.length - k)∧((decide ((k:Int)<((x.length:Nat):Int)))=false→(true)=true∧True)))))) (by kernel_rfl) ?_
 intro n0 n1
 simp only [List.length_map] at n0 n1
 refine ⟨List.length_map _,List.length_map _,by simp,⟨0,rfl,Nat.zero_le _⟩,fun k hk=>?_⟩
 refine ⟨List.length_map _,fun c1=>?_,fun c1=>?_⟩
 ·replace c1:=yq c1
  obtain ⟨y,hy⟩:=dG (l:=x) (k:=k) (by omega)
  refine ⟨by omega,rfl,by omega,fun e19 h19=>?_⟩
  try (obtain rfl:=aY hy h19)
  refine ⟨by omega,rfl,by omega,fun e23 h23=>?_⟩
  try (obtain rfl:=aY hy h23)
  refine ⟨by first | exact aAd e19 | exact aAd _,⟨by omega,by omega⟩,?_⟩
  exact ⟨k+1,rfl,by omega,by omega⟩
 ·replace c1:=nq c1
  refine ⟨?_,trivial⟩
  ·rfl
abbrev zL (x:cU):Prop:=cT Tryz.prog 42 [.agg [.int .i64 x.version,.sl 161 4 (x.tables.map aE)],.agg [.int .i64 x.version,.sl 161 4 (x.tables.map aE)]] (vB true) []
theorem aCd (x:cU):zL x:=by
 refine aT bE aL Tryz.func42 (by kernel_rfl) (.no<| .call (vB true) []<| .fin []) (p:=(x.tables.map aE).length≤9223372036854775807→(x.tables.map aE).length≤9223372036854775807→(!(decide (x.version=x.version)))=false∧uI x.tables∧(true)=true∧True) (by kernel_rfl) ?_
 intro n0 n1
 simp only [List.length_map] at n0 n1
 refine ⟨by simp,by first | exact zK x.tables | exact zK _,?_,trivial⟩
 ·rfl
abbrev aEm (x:aX):Prop:=cT Tryz.prog 85 [.agg [.str x.name,.sl 3 1 (x.src.map intD),.int .i64 x.dst],.agg [.str x.name,.sl 3 1 (x.src.map intD),.int .i64 x.dst]] (vB true) []
theorem aAe (x:aX):aEm x:=by
 refine aT bE aL Tryz.func85 (by kernel_rfl) (.no<| .call (vB true) []<| .lit<| .no<| .fin []) (p:=(x.src.map intD).length≤9223372036854775807→(x.src.map intD).length≤9223372036854775807→(!(x.name.toList==x.name.toList))=false∧uG x.src∧(!(decide (x.dst=x.dst)))=false∧(true)=true∧True) (by kernel_rfl) ?_
 intro n0 n1
 simp only [List.length_map] at n0 n1
 refine ⟨by simp,by first | exact pJ x.src | exact pJ _,by simp,?_,trivial⟩
 ·rfl
abbrev uJ (x:List aX):Prop:=cT Tryz.prog 43 [.one (.sl 131 3 (x.map aM)),.one (.sl 131 3 (x.map aM))] (vB true) []
theorem zM (x:List aX):uJ x:=by
 refine aT bE aL Tryz.func43 (by kernel_rfl) (.len x.length<| .len x.length<| .no<| .loop Nat (Q1 Nat) [5,11,12,13,14,15,16,17,18,19,20,21,22,23,24,25,26] [] (fun k=>[(5,vI (k:Int))]) (fun k=>[]) (fun k=>k≤x.length) (fun k=>x.length - k) (fun k=> .len x.length<| .br (.elem _ aM x (fun e19=> .elem _ aM x (fun e23=> .call (vB true) []<| .back []))) (.fin []))) (p:=(x.map aM).length≤9223372036854775807→(x.map aM).length≤9223372036854775807→Lm aM x∧(Lm aM x∧((!(decide (((x.length:Nat):Int)=((x.length:Nat):Int))))=false∧((∃(k:Nat),(0:Int)=(k:Int)∧k≤x.length)∧ ∀(k:Nat),k≤x.length→Lm aM x∧(((decide ((k:Int)<((x.length:Nat):Int)))=true→0≤(k:Int)∧Em aM x k fun e19=>0≤(k:Int)∧Em aM x k fun e23=>cT Tryz.prog 85 [.agg [.str e19.name,.sl 3 1 (e19.src.map intD),.int .i64 e19.dst],.agg [.str e23.name,.sl 3 1 (e23.src.map intD),.int .i64 e23.dst]] (vB true) []∧cC ((k:Int)+(1:Int))∧ ∃(k' :Nat),((k:Int)+(1:Int))=(k' :Int)∧k' ≤x.length∧x.length - k' <x.length - k)∧((decide ((k:Int)<((x.length:Nat):Int)))=false→(true)=true∧True)))))) (by kernel_rfl) ?_
 intro n0 n1
 simp only [List.length_map] at n0 n1
 refine ⟨List.length_map _,List.length_map _,by simp,⟨0,rfl,Nat.zero_le _⟩,fun k hk=>?_⟩
 refine ⟨List.length_map _,fun c1=>?_,fun c1=>?_⟩
 ·replace c1:=yq c1
  obtain ⟨y,hy⟩:=dG (l:=x) (k:=k) (by omega)
  refine ⟨by omega,rfl,by omega,fun e19 h19=>?_⟩
  try (obtain rfl:=aY hy h19)
  refine ⟨by omega,rfl,by omega,fun e23 h23=>?_⟩
  try (obtain rfl:=aY hy h23)
  refine ⟨by first | exact aAe e19 | exact aAe _,⟨by omega,by omega⟩,?_⟩
  exact ⟨k+1,rfl,by omega,by omega⟩
 ·replace c1:=nq c1
  refine ⟨?_,trivial⟩
  ·rfl
abbrev aHS (x:aW):Prop:=cT Tryz.prog 86 [.agg [.str x.name,.int .i64 x.column,.str x.into,.int .i64 x.intoColumn],.agg [.str x.name,.int .i64 x.column,.str x.into,.int .i64 x.intoColumn]] (vB true) []
theorem aCe (x:aW):aHS x:=by
 refine aT bE aL Tryz.func86 (by kernel_rfl) (.no<| .no<| .no<| .no<| .fin []) (p:=(!(x.name.toList==x.name.toList))=false∧(!(decide (x.column=x.column)))=false∧(!(x.into.toList==x.into.toList))=false∧(!(decide (x.intoColumn=x.intoColumn)))=false∧(true)=true∧True) (by kernel_rfl) ?_
 refine ⟨by simp,by simp,by simp,by simp,?_,trivial⟩
 ·rfl
abbrev wL (x:List aW):Prop:=cT Tryz.prog 44 [.one (.sl 133 4 (x.map aQ)),.one (.sl 133 4 (x.map aQ))] (vB true) []
theorem aAf (x:List aW):wL x:=by
 refine aT bE aL Tryz.func44 (by kernel_rfl) (.len x.length<| .len x.length<| .no<| .loop Nat (Q1 Nat) [5,11,12,13,14,15,16,17,18,19,20,21,22,23,24,25,26] [] (fun k=>[(5,vI (k:Int))]) (fun k=>[]) (fun k=>k≤x.length) (fun k=>x.length - k) (fun k=> .len x.length<| .br (.elem _ aQ x (fun e19=> .elem _ aQ x (fun e23=> .call (vB true) []<| .back []))) (.fin []))) (p:=(x.map aQ).length≤9223372036854775807→(x.map aQ).length≤9223372036854775807→Lm aQ x∧(Lm aQ x∧((!(decide (((x.length:Nat):Int)=((x.length:Nat):Int))))=false∧((∃(k:Nat),(0:Int)=(k:Int)∧k≤x.length)∧ ∀(k:Nat),k≤x.length→Lm aQ x∧(((decide ((k:Int)<((x.length:Nat):Int)))=true→0≤(k:Int)∧Em aQ x k fun e19=>0≤(k:Int)∧Em aQ x k fun e23=>cT Tryz.prog 86 [.agg [.str e19.name,.int .i64 e19.column,.str e19.into,.int .i64 e19.intoColumn],.agg [.str e23.name,.int .i64 e23.column,.str e23.into,.int .i64 e23.intoColumn]] (vB true) []∧cC ((k:Int)+(1:Int))∧ ∃(k' :Nat),((k:Int)+(1:Int))=(k' :Int)∧k' ≤x.length∧x.length - k' <x.length - k)∧((decide ((k:Int)<((x.length:Nat):Int)))=false→(true)=true∧True)))))) (by kernel_rfl) ?_
 intro n0 n1
 simp only [List.length_map] at n0 n1
 refine ⟨List.length_map _,List.length_map _,by simp,⟨0,rfl,Nat.zero_le _⟩,fun k hk=>?_⟩
 refine ⟨List.length_map _,fun c1=>?_,fun c1=>?_⟩
 ·replace c1:=yq c1
  obtain ⟨y,hy⟩:=dG (l:=x) (k:=k) (by omega)
  refine ⟨by omega,rfl,by omega,fun e19 h19=>?_⟩
  try (obtain rfl:=aY hy h19)
  refine ⟨by omega,rfl,by omega,fun e23 h23=>?_⟩
  try (obtain rfl:=aY hy h23)
  refine ⟨by first | exact aCe e19 | exact aCe _,⟨by omega,by omega⟩,?_⟩
  exact ⟨k+1,rfl,by omega,by omega⟩
 ·replace c1:=nq c1
  refine ⟨?_,trivial⟩
  ·rfl
abbrev aHT (x:StoreD):Prop:=cT Tryz.prog 14 [.agg [.sl 167 3 (x.database.tables.map aR),.int .i64 x.catalogue.version,.sl 161 4 (x.catalogue.tables.map aE),.sl 131 3 (x.dependencies.map aM),.sl 133 4 (x.inclusions.map aQ)],.agg [.sl 167 3 (x.database.tables.map aR),.int .i64 x.catalogue.version,.sl 161 4 (x.catalogue.tables.map aE),.sl 131 3 (x.dependencies.map aM),.sl 133 4 (x.inclusions.map aQ)]] (vB true) []
theorem aLf (x:StoreD):aHT x:=by
 refine aT bE aL Tryz.func14 (by kernel_rfl) (.call (vB true) []<| .call (vB true) []<| .call (vB true) []<| .call (vB true) []<| .fin []) (p:=(x.database.tables.map aR).length≤9223372036854775807→(x.catalogue.tables.map aE).length≤9223372036854775807→(x.dependencies.map aM).length≤9223372036854775807→(x.inclusions.map aQ).length≤9223372036854775807→(x.database.tables.map aR).length≤9223372036854775807→(x.catalogue.tables.map aE).length≤9223372036854775807→(x.dependencies.map aM).length≤9223372036854775807→(x.inclusions.map aQ).length≤9223372036854775807→aAb x.database∧zL x.catalogue∧uJ x.dependencies∧wL x.inclusions∧(true)=true∧True) (by kernel_rfl) ?_
 intro n0 n1 n2 n3 n4 n5 n6 n7
 simp only [List.length_map] at n0 n1 n2 n3 n4 n5 n6 n7
 refine ⟨by first | exact aE4 x.database | exact aE4 _,by first | exact aCd x.catalogue | exact aCd _,by first | exact zM x.dependencies | exact zM _,by first | exact aAf x.inclusions | exact aAf _,?_,trivial⟩
 ·rfl
abbrev aHq (x:RationalD):Prop:=cT Tryz.prog 46 [.agg [.int .i64 x.num,.int .i64 x.den],.agg [.int .i64 x.num,.int .i64 x.den]] (vB true) []
theorem aE5 (x:RationalD):aHq x:=by
 refine aT bE aL Tryz.func46 (by kernel_rfl) (.no<| .no<| .fin []) (p:=(!(decide (x.num=x.num)))=false∧(!(decide (x.den=x.den)))=false∧(true)=true∧True) (by kernel_rfl) ?_
 refine ⟨by simp,by simp,?_,trivial⟩
 ·rfl
abbrev zN (x:List RationalD):Prop:=cT Tryz.prog 16 [.one (.sl 70 2 (x.map aU)),.one (.sl 70 2 (x.map aU))] (vB true) []
theorem aCf (x:List RationalD):zN x:=by
 refine aT bE aL Tryz.func16 (by kernel_rfl) (.len x.length<| .len x.length<| .no<| .loop Nat (Q1 Nat) [5,11,12,13,14,15,16,17,18,19,20,21,22,23,24,25,26] [] (fun k=>[(5,vI (k:Int))]) (fun k=>[]) (fun k=>k≤x.length) (fun k=>x.length - k) (fun k=> .len x.length<| .br (.elem _ aU x (fun e19=> .elem _ aU x (fun e23=> .call (vB true) []<| .back []))) (.fin []))) (p:=(x.map aU).length≤9223372036854775807→(x.map aU).length≤9223372036854775807→Lm aU x∧(Lm aU x∧((!(decide (((x.length:Nat):Int)=((x.length:Nat):Int))))=false∧((∃(k:Nat),(0:Int)=(k:Int)∧k≤x.length)∧ ∀(k:Nat),k≤x.length→Lm aU x∧(((decide ((k:Int)<((x.length:Nat):Int)))=true→0≤(k:Int)∧Em aU x k fun e19=>0≤(k:Int)∧Em aU x k fun e23=>cT Tryz.prog 46 [.agg [.int .i64 e19.num,.int .i64 e19.den],.agg [.int .i64 e23.num,.int .i64 e23.den]] (vB true) []∧cC ((k:Int)+(1:Int))∧ ∃(k' :Nat),((k:Int)+(1:Int))=(k' :Int)∧k' ≤x.length∧x.length - k' <x.length - k)∧((decide ((k:Int)<((x.length:Nat):Int)))=false→(true)=true∧True)))))) (by kernel_rfl) ?_
 intro n0 n1
 simp only [List.length_map] at n0 n1
 refine ⟨List.length_map _,List.length_map _,by simp,⟨0,rfl,Nat.zero_le _⟩,fun k hk=>?_⟩
 refine ⟨List.length_map _,fun c1=>?_,fun c1=>?_⟩
 ·replace c1:=yq c1
  obtain ⟨y,hy⟩:=dG (l:=x) (k:=k) (by omega)
  refine ⟨by omega,rfl,by omega,fun e19 h19=>?_⟩
  try (obtain rfl:=aY hy h19)
  refine ⟨by omega,rfl,by omega,fun e23 h23=>?_⟩
  try (obtain rfl:=aY hy h23)
  refine ⟨by first | exact aE5 e19 | exact aE5 _,⟨by omega,by omega⟩,?_⟩
  exact ⟨k+1,rfl,by omega,by omega⟩
 ·replace c1:=nq c1
  refine ⟨?_,trivial⟩
  ·rfl
end Go.Proofs.YtdfebigfnjfgpaaGreat
