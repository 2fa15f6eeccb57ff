/-
  Contracts and plain laws, joined: part 24.
-/
import Derived.Test.YtdfebigfnjfgpaaGreatQP3
namespace Go.Proofs.YtdfebigfnjfgpaaGreat
open Go.ChangeShapes Go.WideShapes Go.ChangeAt Go.RowKit
set_option linter.unusedVariables false
set_option linter.unusedSimpArgs false
set_option maxRecDepth 100000
set_option maxHeartbeats 4000000
abbrev nP (x:List Int):Prop:=cX Tryz.prog 13 [.one (.sl 3 1 (x.map intD)),.one (.sl 3 1 (x.map intD))] (vB true) []
theorem kK (x:List Int):nP x:=by
 refine aX bG aR Tryz.func13 (by kernel_rfl) (.len x.length<| .len x.length<| .no<| .loop Nat (Q1 Nat) [5,11,12,13,14,15,16,17,18,19,20,21,22,23,24,25] [] (fun k=>[(5,vI (k:Int))]) (fun k=>[]) (fun k=>k≤x.length) (fun k=>x.length - k) (fun k=> .len x.length<| .br (.elem _ intD x (fun e19=> .elem _ intD x (fun e23=> .no<| .back []))) (.fin []))) (p:=(x.map intD).length≤9223372036854775807→(x.map intD).length≤9223372036854775807→Lm intD x∧(Lm intD x∧((!(decide (((x.length:Nat):Int)=((x.length:Nat):Int))))=false∧((∃(k:Nat),(0:Int)=(k:Int)∧k≤x.length)∧ ∀(k:Nat),k≤x.length→Lm intD x∧(((decide ((k:Int)<((x.length:Nat):Int)))=true→0≤(k:Int)∧Em intD x k fun e19=>0≤(k:Int)∧Em intD x k fun e23=>(!(decide (e19=e23)))=false∧cC ((k:Int)+(1:Int))∧ ∃(k' :Nat),((k:Int)+(1:Int))=(k' :Int)∧k' ≤x.length∧x.length - k' <x.length - k)∧((decide ((k:Int)<((x.length:Nat):Int)))=false→(true)=true∧True)))))) (by kernel_rfl) ?_
 intro n0 n1
 simp only [List.length_map] at n0 n1
 refine ⟨List.length_map _,List.length_map _,by simp,⟨0,rfl,Nat.zero_le _⟩,fun k hk=>?_⟩
 refine ⟨List.length_map _,fun c1=>?_,fun c1=>?_⟩
 ·replace c1:=yq c1
  obtain ⟨y,hy⟩:=cK (l:=x) (k:=k) (by omega)
  refine ⟨by omega,rfl,by omega,fun e19 h19=>?_⟩
  try (obtain rfl:=aY hy h19)
  refine ⟨by omega,rfl,by omega,fun e23 h23=>?_⟩
  try (obtain rfl:=aY hy h23)
  refine ⟨by simp,⟨by omega,by omega⟩,?_⟩
  exact ⟨k+1,rfl,by omega,by omega⟩
 ·replace c1:=nq c1
  refine ⟨?_,trivial⟩
  ·rfl
abbrev aCM (x:List (List Int)):Prop:=cX Tryz.prog 160 [.one (.sl 39 1 (x.map aC)),.one (.sl 39 1 (x.map aC))] (vB true) []
theorem aDR (x:List (List Int)):aCM x:=by
 refine aX bG aR Tryz.func160 (by kernel_rfl) (.len x.length<| .len x.length<| .no<| .loop Nat (Q1 Nat) [5,11,12,13,14,15,16,17,18,19,20,21,22,23,24,25,26] [] (fun k=>[(5,vI (k:Int))]) (fun k=>[]) (fun k=>k≤x.length) (fun k=>x.length - k) (fun k=> .len x.length<| .br (.elem _ aC x (fun e19=> .elem _ aC x (fun e23=> .call (vB true) []<| .back []))) (.fin []))) (p:=(x.map aC).length≤9223372036854775807→(x.map aC).length≤9223372036854775807→Lm aC x∧(Lm aC x∧((!(decide (((x.length:Nat):Int)=((x.length:Nat):Int))))=false∧((∃(k:Nat),(0:Int)=(k:Int)∧k≤x.length)∧ ∀(k:Nat),k≤x.length→Lm aC x∧(((decide ((k:Int)<((x.length:Nat):Int)))=true→0≤(k:Int)∧Em aC x k fun e19=>0≤(k:Int)∧Em aC x k fun e23=>cX Tryz.prog 13 [.one (.sl 3 1 (e19.map intD)),.one (.sl 3 1 (e23.map intD))] (vB true) []∧cC ((k:Int)+(1:Int))∧ ∃(k' :Nat),((k:Int)+(1:Int))=(k' :Int)∧k' ≤x.length∧x.length - k' <x.length - k)∧((decide ((k:Int)<((x.length:Nat):Int)))=false→(true)=true∧True)))))) (by kernel_rfl) ?_
 intro n0 n1
 simp only [List.length_map] at n0 n1
 refine ⟨List.length_map _,List.length_map _,by simp,⟨0,rfl,Nat.zero_le _⟩,fun k hk=>?_⟩
 refine ⟨List.length_map _,fun c1=>?_,fun c1=>?_⟩
 ·replace c1:=yq c1
  obtain ⟨y,hy⟩:=cK (l:=x) (k:=k) (by omega)
  refine ⟨by omega,rfl,by omega,fun e19 h19=>?_⟩
  try (obtain rfl:=aY hy h19)
  refine ⟨by omega,rfl,by omega,fun e23 h23=>?_⟩
  try (obtain rfl:=aY hy h23)
  refine ⟨by first | exact kK e19 | exact kK _,⟨by omega,by omega⟩,?_⟩
  exact ⟨k+1,rfl,by omega,by omega⟩
 ·replace c1:=nq c1
  refine ⟨?_,trivial⟩
  ·rfl
abbrev aN8 (x:aS):Prop:=cX Tryz.prog 122 [.agg [.str x.name,.int .i64 x.arity,.sl 39 1 (x.rows.map aC)],.agg [.str x.name,.int .i64 x.arity,.sl 39 1 (x.rows.map aC)]] (vB true) []
theorem aMY (x:aS):aN8 x:=by
 refine aX bG aR Tryz.func122 (by kernel_rfl) (.no<| .no<| .call (vB true) []<| .fin []) (p:=(x.rows.map aC).length≤9223372036854775807→(x.rows.map aC).length≤9223372036854775807→(!(x.name.toList==x.name.toList))=false∧(!(decide (x.arity=x.arity)))=false∧aCM x.rows∧(true)=true∧True) (by kernel_rfl) ?_
 intro n0 n1
 simp only [List.length_map] at n0 n1
 refine ⟨by simp,by simp,by first | exact aDR x.rows | exact aDR _,?_,trivial⟩
 ·rfl
abbrev aFC (x:List aS):Prop:=cX Tryz.prog 83 [.one (.sl 167 3 (x.map aP)),.one (.sl 167 3 (x.map aP))] (vB true) []
theorem aJp (x:List aS):aFC x:=by
 refine aX bG aR Tryz.func83 (by kernel_rfl) (.len x.length<| .len x.length<| .no<| .loop Nat (Q1 Nat) [5,11,12,13,14,15,16,17,18,19,20,21,22,23,24,25,26] [] (fun k=>[(5,vI (k:Int))]) (fun k=>[]) (fun k=>k≤x.length) (fun k=>x.length - k) (fun k=> .len x.length<| .br (.elem _ aP x (fun e19=> .elem _ aP x (fun e23=> .call (vB true) []<| .back []))) (.fin []))) (p:=(x.map aP).length≤9223372036854775807→(x.map aP).length≤9223372036854775807→Lm aP x∧(Lm aP x∧((!(decide (((x.length:Nat):Int)=((x.length:Nat):Int))))=false∧((∃(k:Nat),(0:Int)=(k:Int)∧k≤x.length)∧ ∀(k:Nat),k≤x.length→Lm aP x∧(((decide ((k:Int)<((x.length:Nat):Int)))=true→0≤(k:Int)∧Em aP x k fun e19=>0≤(k:Int)∧Em aP x k fun e23=>cX Tryz.prog 122 [.agg [.str e19.name,.int .i64 e19.arity,.sl 39 1 (e19.rows.map aC)],.agg [.str e23.name,.int .i64 e23.arity,.sl 39 1 (e23.rows.map aC)]] (vB true) []∧cC ((k:Int)+(1:Int))∧ ∃(k' :Nat),((k:Int)+(1:Int))=(k' :Int)∧k' ≤x.length∧x.length - k' <x.length - k)∧((decide ((k:Int)<((x.length:Nat):Int)))=false→(true)=true∧True)))))) (by kernel_rfl) ?_
 intro n0 n1
 simp only [List.length_map] at n0 n1
 refine ⟨List.length_map _,List.length_map _,by simp,⟨0,rfl,Nat.zero_le _⟩,fun k hk=>?_⟩
 refine ⟨List.length_map _,fun c1=>?_,fun c1=>?_⟩
 ·replace c1:=yq c1
  obtain ⟨y,hy⟩:=cK (l:=x) (k:=k) (by omega)
  refine ⟨by omega,rfl,by omega,fun e19 h19=>?_⟩
  try (obtain rfl:=aY hy h19)
  refine ⟨by omega,rfl,by omega,fun e23 h23=>?_⟩
  try (obtain rfl:=aY hy h23)
  refine ⟨by first | exact aMY e19 | exact aMY _,⟨by omega,by omega⟩,?_⟩
  exact ⟨k+1,rfl,by omega,by omega⟩
 ·replace c1:=nq c1
  refine ⟨?_,trivial⟩
  ·rfl
abbrev aBR (x:aV):Prop:=cX Tryz.prog 41 [.agg [.sl 167 3 (x.tables.map aP)],.agg [.sl 167 3 (x.tables.map aP)]] (vB true) []
theorem aFD (x:aV):aBR x:=by
 refine aX bG aR Tryz.func41 (by kernel_rfl) (.call (vB true) []<| .fin []) (p:=(x.tables.map aP).length≤9223372036854775807→(x.tables.map aP).length≤9223372036854775807→aFC x.tables∧(true)=true∧True) (by kernel_rfl) ?_
 intro n0 n1
 simp only [List.length_map] at n0 n1
 refine ⟨by first | exact aJp x.tables | exact aJp _,?_,trivial⟩
 ·rfl
abbrev aPw (x:bZ):Prop:=cX Tryz.prog 87 [.agg [.str x.name,.sl 3 1 (x.vars.map intD)],.agg [.str x.name,.sl 3 1 (x.vars.map intD)]] (vB true) []
theorem aOY (x:bZ):aPw x:=by
 refine aX bG aR Tryz.func87 (by kernel_rfl) (.no<| .call (vB true) []<| .fin []) (p:=(x.vars.map intD).length≤9223372036854775807→(x.vars.map intD).length≤9223372036854775807→(!(x.name.toList==x.name.toList))=false∧nP x.vars∧(true)=true∧True) (by kernel_rfl) ?_
 intro n0 n1
 simp only [List.length_map] at n0 n1
 refine ⟨by simp,by first | exact kK x.vars | exact kK _,?_,trivial⟩
 ·rfl
abbrev aHw (x:List bZ):Prop:=cX Tryz.prog 45 [.one (.sl 135 2 (x.map aZ)),.one (.sl 135 2 (x.map aZ))] (vB true) []
theorem aMZ (x:List bZ):aHw x:=by
 refine aX bG aR Tryz.func45 (by kernel_rfl) (.len x.length<| .len x.length<| .no<| .loop Nat (Q1 Nat) [5,11,12,13,14,15,16,17,18,19,20,21,22,23,24,25,26] [] (fun k=>[(5,vI (k:Int))]) (fun k=>[]) (fun k=>k≤x.length) (fun k=>x.length - k) (fun k=> .len x.length<| .br (.elem _ aZ x (fun e19=> .elem _ aZ x (fun e23=> .call (vB true) []<| .back []))) (.fin []))) (p:=(x.map aZ).length≤9223372036854775807→(x.map aZ).length≤9223372036854775807→Lm aZ x∧(Lm aZ x∧((!(decide (((x.length:Nat):Int)=((x.length:Nat):Int))))=false∧((∃(k:Nat),(0:Int)=(k:Int)∧k≤x.length)∧ ∀(k:Nat),k≤x.length→Lm aZ x∧(((decide ((k:Int)<((x.length:Nat):Int)))=true→0≤(k:Int)∧Em aZ x k fun e19=>0≤(k:Int)∧Em aZ x k fun e23=>cX Tryz.prog 87 [.agg [.str e19.name,.sl 3 1 (e19.vars.map intD)],.agg [.str e23.name,.sl 3 1 (e23.vars.map intD)]] (vB true) []∧cC ((k:Int)+(1:Int))∧ ∃(k' :Nat),((k:Int)+(1:Int))=(k' :Int)∧k' ≤x.length∧x.length - k' <x.length - k)∧((decide ((k:Int)<((x.length:Nat):Int)))=false→(true)=true∧True)))))) (by kernel_rfl) ?_
 intro n0 n1
 simp only [List.length_map] at n0 n1
 refine ⟨List.length_map _,List.length_map _,by simp,⟨0,rfl,Nat.zero_le _⟩,fun k hk=>?_⟩
 refine ⟨List.length_map _,fun c1=>?_,fun c1=>?_⟩
 ·replace c1:=yq c1
  obtain ⟨y,hy⟩:=cK (l:=x) (k:=k) (by omega)
  refine ⟨by omega,rfl,by omega,fun e19 h19=>?_⟩
  try (obtain rfl:=aY hy h19)
  refine ⟨by omega,rfl,by omega,fun e23 h23=>?_⟩
  try (obtain rfl:=aY hy h23)
  refine ⟨by first | exact aOY e19 | exact aOY _,⟨by omega,by omega⟩,?_⟩
  exact ⟨k+1,rfl,by omega,by omega⟩
 ·replace c1:=nq c1
  refine ⟨?_,trivial⟩
  ·rfl
abbrev aHx (x:QueryD):Prop:=cX Tryz.prog 15 [.agg [.int .i64 x.variableCount,.sl 135 2 (x.atoms.map aZ)],.agg [.int .i64 x.variableCount,.sl 135 2 (x.atoms.map aZ)]] (vB true) []
theorem aM0 (x:QueryD):aHx x:=by
 refine aX bG aR Tryz.func15 (by kernel_rfl) (.no<| .call (vB true) []<| .fin []) (p:=(x.atoms.map aZ).length≤9223372036854775807→(x.atoms.map aZ).length≤9223372036854775807→(!(decide (x.variableCount=x.variableCount)))=false∧aHw x.atoms∧(true)=true∧True) (by kernel_rfl) ?_
 intro n0 n1
 simp only [List.length_map] at n0 n1
 refine ⟨by simp,by first | exact aMZ x.atoms | exact aMZ _,?_,trivial⟩
 ·rfl
abbrev aFT (x:aG):Prop:=cX Tryz.prog 191 [.agg [.sl 3 1 (x.columns.map intD),.sl 39 1 (x.values.map aC),.sl 3 1 (x.counts.map intD)],.agg [.sl 3 1 (x.columns.map intD),.sl 39 1 (x.values.map aC),.sl 3 1 (x.counts.map intD)]] (vB true) []
theorem aBS (x:aG):aFT x:=by
 refine aX bG aR Tryz.func191 (by kernel_rfl) (.call (vB true) []<| .call (vB true) []<| .call (vB true) []<| .fin []) (p:=(x.columns.map intD).length≤9223372036854775807→(x.values.map aC).length≤9223372036854775807→(x.counts.map intD).length≤9223372036854775807→(x.columns.map intD).length≤9223372036854775807→(x.values.map aC).length≤9223372036854775807→(x.counts.map intD).length≤9223372036854775807→nP x.columns∧aCM x.values∧nP x.counts∧(true)=true∧True) (by kernel_rfl) ?_
 intro n0 n1 n2 n3 n4 n5
 simp only [List.length_map] at n0 n1 n2 n3 n4 n5
 refine ⟨by first | exact kK x.columns | exact kK _,by first | exact aDR x.values | exact aDR _,by first | exact kK x.counts | exact kK _,?_,trivial⟩
 ·rfl
abbrev vT (x:List aG):Prop:=cX Tryz.prog 161 [.one (.sl 203 3 (x.map aA)),.one (.sl 203 3 (x.map aA))] (vB true) []
theorem aAW (x:List aG):vT x:=by
 refine aX bG aR Tryz.func161 (by kernel_rfl) (.len x.length<| .len x.length<| .no<| .loop Nat (Q1 Nat) [5,11,12,13,14,15,16,17,18,19,20,21,22,23,24,25,26] [] (fun k=>[(5,vI (k:Int))]) (fun k=>[]) (fun k=>k≤x.length) (fun k=>x.length - k) (fun k=> .len x.length<| .br (.elem _ aA x (fun e19=> .elem _ aA x (fun e23=> .call (vB true) []<| .back []))) (.fin []))) (p:=(x.map aA).length≤9223372036854775807→(x.map aA).length≤9223372036854775807→Lm aA x∧(Lm aA x∧((!(decide (((x.length:Nat):Int)=((x.length:Nat):Int))))=false∧((∃(k:Nat),(0:Int)=(k:Int)∧k≤x.length)∧ ∀(k:Nat),k≤x.length→Lm aA x∧(((decide ((k:Int)<((x.length:Nat):Int)))=true→0≤(k:Int)∧Em aA x k fun e19=>0≤(k:Int)∧Em aA x k fun e23=>cX Tryz.prog 191 [.agg [.sl 3 1 (e19.columns.map intD),.sl 39 1 (e19.values.map aC),.sl 3 1 (e19.counts.map intD)],.agg [.sl 3 1 (e23.columns.map intD),.sl 39 1 (e23.values.map aC),.sl 3 1 (e23.counts.map intD)]] (vB true) []∧cC ((k:Int)+(1:Int))∧ ∃(k' :Nat),((k:Int)+(1:Int))=(k' :Int)∧k' ≤x.length∧x.length - k' <x.length - k)∧((decide ((k:Int)<((x.length:Nat):Int)))=false→(true)=true∧True)))))) (by kernel_rfl) ?_
 intro n0 n1
 simp only [List.length_map] at n0 n1
 refine ⟨List.length_map _,List.length_map _,by simp,⟨0,rfl,Nat.zero_le _⟩,fun k hk=>?_⟩
 refine ⟨List.length_map _,fun c1=>?_,fun c1=>?_⟩
 ·replace c1:=yq c1
  obtain ⟨y,hy⟩:=cK (l:=x) (k:=k) (by omega)
  refine ⟨by omega,rfl,by omega,fun e19 h19=>?_⟩
  try (obtain rfl:=aY hy h19)
  refine ⟨by omega,rfl,by omega,fun e23 h23=>?_⟩
  try (obtain rfl:=aY hy h23)
  refine ⟨by first | exact aBS e19 | exact aBS _,⟨by omega,by omega⟩,?_⟩
  exact ⟨k+1,rfl,by omega,by omega⟩
 ·replace c1:=nq c1
  refine ⟨?_,trivial⟩
  ·rfl
abbrev aFU (x:aB):Prop:=cX Tryz.prog 123 [.agg [.str x.name,.int .i64 x.arity,.int .i64 x.rowCount,.sl 203 3 (x.groups.map aA)],.agg [.str x.name,.int .i64 x.arity,.int .i64 x.rowCount,.sl 203 3 (x.groups.map aA)]] (vB true) []
theorem aBT (x:aB):aFU x:=by
 refine aX bG aR Tryz.func123 (by kernel_rfl) (.no<| .no<| .no<| .call (vB true) []<| .fin []) (p:=(x.groups.map aA).length≤9223372036854775807→(x.groups.map aA).length≤9223372036854775807→(!(x.name.toList==x.name.toList))=false∧(!(decide (x.arity=x.arity)))=false∧(!(decide (x.rowCount=x.rowCount)))=false∧vT x.groups∧(true)=true∧True) (by kernel_rfl) ?_
 intro n0 n1
 simp only [List.length_map] at n0 n1
 refine ⟨by simp,by simp,by simp,by first | exact aAW x.groups | exact aAW _,?_,trivial⟩
 ·rfl
abbrev vU (x:List aB):Prop:=cX Tryz.prog 84 [.one (.sl 161 4 (x.map aD)),.one (.sl 161 4 (x.map aD))] (vB true) []
theorem aAX (x:List aB):vU x:=by
 refine aX bG aR Tryz.func84 (by kernel_rfl) (.len x.length<| .len x.length<| .no<| .loop Nat (Q1 Nat) [5,11,12,13,14,15,16,17,18,19,20,21,22,23,24,25,26] [] (fun k=>[(5,vI (k:Int))]) (fun k=>[]) (fun k=>k≤x.length) (fun k=>x.length - k) (fun k=> .len x.length<| .br (.elem _ aD x (fun e19=> .elem _ aD x (fun e23=> .call (vB true) []<| .back []))) (.fin []))) (p:=(x.map aD).length≤9223372036854775807→(x.map aD).length≤9223372036854775807→Lm aD x∧(Lm aD x∧((!(decide (((x.length:Nat):Int)=((x.length:Nat):Int))))=false∧((∃(k:Nat),(0:Int)=(k:Int)∧k≤x.length)∧ ∀(k:Nat),k≤x.length→Lm aD x∧(((decide ((k:Int)<((x.length:Nat):Int)))=true→0≤(k:Int)∧Em aD x k fun e19=>0≤(k:Int)∧Em aD x k fun e23=>cX Tryz.prog 123 [.agg [.str e19.name,.int .i64 e19.arity,.int .i64 e19.rowCount,.sl 203 3 (e19.groups.map aA)],.agg [.str e23.name,.int .i64 e23.arity,.int .i64 e23.rowCount,.sl 203 3 (e23.groups.map aA)]] (vB true) []∧cC ((k:Int)+(1:Int))∧ ∃(k' :Nat),((k:Int)+(1:Int))=(k' :Int)∧k' ≤x.length∧x.length - k' <x.length - k)∧((decide ((k:Int)<((x.length:Nat):Int)))=false→(true)=true∧True)))))) (by kernel_rfl) ?_
 intro n0 n1
 simp only [List.length_map] at n0 n1
 refine ⟨List.length_map _,List.length_map _,by simp,⟨0,rfl,Nat.zero_le _⟩,fun k hk=>?_⟩
 refine ⟨List.length_map _,fun c1=>?_,fun c1=>?_⟩
 ·replace c1:=yq c1
  obtain ⟨y,hy⟩:=cK (l:=x) (k:=k) (by omega)
  refine ⟨by omega,rfl,by omega,fun e19 h19=>?_⟩
  try (obtain rfl:=aY hy h19)
  refine ⟨by omega,rfl,by omega,fun e23 h23=>?_⟩
  try (obtain rfl:=aY hy h23)
  refine ⟨by first | exact aBT e19 | exact aBT _,⟨by omega,by omega⟩,?_⟩
  exact ⟨k+1,rfl,by omega,by omega⟩
 ·replace c1:=nq c1
  refine ⟨?_,trivial⟩
  ·rfl
abbrev aAY (x:cD):Prop:=cX Tryz.prog 42 [.agg [.int .i64 x.version,.sl 161 4 (x.tables.map aD)],.agg [.int .i64 x.version,.sl 161 4 (x.tables.map aD)]] (vB true) []
theorem aDS (x:cD):aAY x:=by
 refine aX bG aR Tryz.func42 (by kernel_rfl) (.no<| .call (vB true) []<| .fin []) (p:=(x.tables.map aD).length≤9223372036854775807→(x.tables.map aD).length≤9223372036854775807→(!(decide (x.version=x.version)))=false∧vU x.tables∧(true)=true∧True) (by kernel_rfl) ?_
 intro n0 n1
 simp only [List.length_map] at n0 n1
 refine ⟨by simp,by first | exact aAX x.tables | exact aAX _,?_,trivial⟩
 ·rfl
abbrev aFV (x:aN):Prop:=cX Tryz.prog 85 [.agg [.str x.name,.sl 3 1 (x.src.map intD),.int .i64 x.dst],.agg [.str x.name,.sl 3 1 (x.src.map intD),.int .i64 x.dst]] (vB true) []
theorem aBU (x:aN):aFV x:=by
 refine aX bG aR Tryz.func85 (by kernel_rfl) (.no<| .call (vB true) []<| .lit<| .no<| .fin []) (p:=(x.src.map intD).length≤9223372036854775807→(x.src.map intD).length≤9223372036854775807→(!(x.name.toList==x.name.toList))=false∧nP x.src∧(!(decide (x.dst=x.dst)))=false∧(true)=true∧True) (by kernel_rfl) ?_
 intro n0 n1
 simp only [List.length_map] at n0 n1
 refine ⟨by simp,by first | exact kK x.src | exact kK _,by simp,?_,trivial⟩
 ·rfl
abbrev vV (x:List aN):Prop:=cX Tryz.prog 43 [.one (.sl 131 3 (x.map aJ)),.one (.sl 131 3 (x.map aJ))] (vB true) []
theorem aAZ (x:List aN):vV x:=by
 refine aX bG aR Tryz.func43 (by kernel_rfl) (.len x.length<| .len x.length<| .no<| .loop Nat (Q1 Nat) [5,11,12,13,14,15,16,17,18,19,20,21,22,23,24,25,26] [] (fun k=>[(5,vI (k:Int))]) (fun k=>[]) (fun k=>k≤x.length) (fun k=>x.length - k) (fun k=> .len x.length<| .br (.elem _ aJ x (fun e19=> .elem _ aJ x (fun e23=> .call (vB true) []<| .back []))) (.fin []))) (p:=(x.map aJ).length≤9223372036854775807→(x.map aJ).length≤9223372036854775807→Lm aJ x∧(Lm aJ x∧((!(decide (((x.length:Nat):Int)=((x.length:Nat):Int))))=false∧((∃(k:Nat),(0:Int)=(k:Int)∧k≤x.length)∧ ∀(k:Nat),k≤x.length→Lm aJ x∧(((decide ((k:Int)<((x.length:Nat):Int)))=true→0≤(k:Int)∧Em aJ x k fun e19=>0≤(k:Int)∧Em aJ x k fun e23=>cX Tryz.prog 85 [.agg [.str e19.name,.sl 3 1 (e19.src.map intD),.int .i64 e19.dst],.agg [.str e23.name,.sl 3 1 (e23.src.map intD),.int .i64 e23.dst]] (vB true) []∧cC ((k:Int)+(1:Int))∧ ∃(k' :Nat),((k:Int)+(1:Int))=(k' :Int)∧k' ≤x.length∧x.length - k' <x.length - k)∧((decide ((k:Int)<((x.length:Nat):Int)))=false→(true)=true∧True)))))) (by kernel_rfl) ?_
 intro n0 n1
 simp only [List.length_map] at n0 n1
 refine ⟨List.length_map _,List.length_map _,by simp,⟨0,rfl,Nat.zero_le _⟩,fun k hk=>?_⟩
 refine ⟨List.length_map _,fun c1=>?_,fun c1=>?_⟩
 ·replace c1:=yq c1
  obtain ⟨y,hy⟩:=cK (l:=x) (k:=k) (by omega)
  refine ⟨by omega,rfl,by omega,fun e19 h19=>?_⟩
  try (obtain rfl:=aY hy h19)
  refine ⟨by omega,rfl,by omega,fun e23 h23=>?_⟩
  try (obtain rfl:=aY hy h23)
  refine ⟨by first | exact aBU e19 | exact aBU _,⟨by omega,by omega⟩,?_⟩
  exact ⟨k+1,rfl,by omega,by omega⟩
 ·replace c1:=nq c1
  refine ⟨?_,trivial⟩
  ·rfl
abbrev aHy (x:aL):Prop:=cX Tryz.prog 86 [.agg [.str x.name,.int .i64 x.column,.str x.into,.int .i64 x.intoColumn],.agg [.str x.name,.int .i64 x.column,.str x.into,.int .i64 x.intoColumn]] (vB true) []
theorem aDT (x:aL):aHy x:=by
 refine aX bG aR Tryz.func86 (by kernel_rfl) (.no<| .no<| .no<| .no<| .fin []) (p:=(!(x.name.toList==x.name.toList))=false∧(!(decide (x.column=x.column)))=false∧(!(x.into.toList==x.into.toList))=false∧(!(decide (x.intoColumn=x.intoColumn)))=false∧(true)=true∧True) (by kernel_rfl) ?_
 refine ⟨by simp,by simp,by simp,by simp,?_,trivial⟩
 ·rfl
abbrev xW (x:List aL):Prop:=cX Tryz.prog 44 [.one (.sl 133 4 (x.map aM)),.one (.sl 133 4 (x.map aM))] (vB true) []
theorem aBV (x:List aL):xW x:=by
 refine aX bG aR Tryz.func44 (by kernel_rfl) (.len x.length<| .len x.length<| .no<| .loop Nat (Q1 Nat) [5,11,12,13,14,15,16,17,18,19,20,21,22,23,24,25,26] [] (fun k=>[(5,vI (k:Int))]) (fun k=>[]) (fun k=>k≤x.length) (fun k=>x.length - k) (fun k=> .len x.length<| .br (.elem _ aM x (fun e19=> .elem _ aM x (fun e23=> .call (vB true) []<| .back []))) (.fin []))) (p:=(x.map aM).length≤9223372036854775807→(x.map aM).length≤9223372036854775807→Lm aM x∧(Lm aM x∧((!(decide (((x.length:Nat):Int)=((x.length:Nat):Int))))=false∧((∃(k:Nat),(0:Int)=(k:Int)∧k≤x.length)∧ ∀(k:Nat),k≤x.length→Lm aM x∧(((decide ((k:Int)<((x.length:Nat):Int)))=true→0≤(k:Int)∧Em aM x k fun e19=>0≤(k:Int)∧Em aM x k fun e23=>cX Tryz.prog 86 [.agg [.str e19.name,.int .i64 e19.column,.str e19.into,.int .i64 e19.intoColumn],.agg [.str e23.name,.int .i64 e23.column,.str e23.into,.int .i64 e23.intoColumn]] (vB true) []∧cC ((k:Int)+(1:Int))∧ ∃(k' :Nat),((k:Int)+(1:Int))=(k' :Int)∧k' ≤x.length∧x.length - k' <x.length - k)∧((decide ((k:Int)<((x.length:Nat):Int)))=false→(true)=true∧True)))))) (by kernel_rfl) ?_
 intro n0 n1
 simp only [List.length_map] at n0 n1
 refine ⟨List.length_map _,List.length_map _,by simp,⟨0,rfl,Nat.zero_le _⟩,fun k hk=>?_⟩
 refine ⟨List.length_map _,fun c1=>?_,fun c1=>?_⟩
 ·replace c1:=yq c1
  obtain ⟨y,hy⟩:=cK (l:=x) (k:=k) (by omega)
  refine ⟨by omega,rfl,by omega,fun e19 h19=>?_⟩
  try (obtain rfl:=aY hy h19)
  refine ⟨by omega,rfl,by omega,fun e23 h23=>?_⟩
  try (obtain rfl:=aY hy h23)
  refine ⟨by first | exact aDT e19 | exact aDT _,⟨by omega,by omega⟩,?_⟩
  exact ⟨k+1,rfl,by omega,by omega⟩
 ·replace c1:=nq c1
  refine ⟨?_,trivial⟩
  ·rfl
abbrev aHz (x:StoreD):Prop:=cX Tryz.prog 14 [.agg [.sl 167 3 (x.database.tables.map aP),.int .i64 x.catalogue.version,.sl 161 4 (x.catalogue.tables.map aD),.sl 131 3 (x.dependencies.map aJ),.sl 133 4 (x.inclusions.map aM)],.agg [.sl 167 3 (x.database.tables.map aP),.int .i64 x.catalogue.version,.sl 161 4 (x.catalogue.tables.map aD),.sl 131 3 (x.dependencies.map aJ),.sl 133 4 (x.inclusions.map aM)]] (vB true) []
theorem aM1 (x:StoreD):aHz x:=by
 refine aX bG aR Tryz.func14 (by kernel_rfl) (.call (vB true) []<| .call (vB true) []<| .call (vB true) []<| .call (vB true) []<| .fin []) (p:=(x.database.tables.map aP).length≤9223372036854775807→(x.catalogue.tables.map aD).length≤9223372036854775807→(x.dependencies.map aJ).length≤9223372036854775807→(x.inclusions.map aM).length≤9223372036854775807→(x.database.tables.map aP).length≤9223372036854775807→(x.catalogue.tables.map aD).length≤9223372036854775807→(x.dependencies.map aJ).length≤9223372036854775807→(x.inclusions.map aM).length≤9223372036854775807→aBR x.database∧aAY x.catalogue∧vV x.dependencies∧xW x.inclusions∧(true)=true∧True) (by kernel_rfl) ?_
 intro n0 n1 n2 n3 n4 n5 n6 n7
 simp only [List.length_map] at n0 n1 n2 n3 n4 n5 n6 n7
 refine ⟨by first | exact aFD x.database | exact aFD _,by first | exact aDS x.catalogue | exact aDS _,by first | exact aAZ x.dependencies | exact aAZ _,by first | exact aBV x.inclusions | exact aBV _,?_,trivial⟩
 ·rfl
abbrev aI7 (x:RationalD):Prop:=cX Tryz.prog 46 [.agg [.int .i64 x.num,.int .i64 x.den],.agg [.int .i64 x.num,.int .i64 x.den]] (vB true) []
theorem aFE (x:RationalD):aI7 x:=by
 refine aX bG aR Tryz.func46 (by kernel_rfl) (.no<| .no<| .fin []) (p:=(!(decide (x.num=x.num)))=false∧(!(decide (x.den=x.den)))=false∧(true)=true∧True) (by kernel_rfl) ?_
 refine ⟨by simp,by simp,?_,trivial⟩
 ·rfl
abbrev aA0 (x:List RationalD):Prop:=cX Tryz.prog 16 [.one (.sl 70 2 (x.map aW)),.one (.sl 70 2 (x.map aW))] (vB true) []
theorem aDU (x:List RationalD):aA0 x:=by
 refine aX bG aR Tryz.func16 (by kernel_rfl) (.len x.length<| .len x.length<| .no<| .loop Nat (Q1 Nat) [5,11,12,13,14,15,16,17,18,19,20,21,22,23,24,25,26] [] (fun k=>[(5,vI (k:Int))]) (fun k=>[]) (fun k=>k≤x.length) (fun k=>x.length - k) (fun k=> .len x.length<| .br (.elem _ aW x (fun e19=> .elem _ aW x (fun e23=> .call (vB true) []<| .back []))) (.fin []))) (p:=(x.map aW).length≤9223372036854775807→(x.map aW).length≤9223372036854775807→Lm aW x∧(Lm aW x∧((!(decide (((x.length:Nat):Int)=((x.length:Nat):Int))))=false∧((∃(k:Nat),(0:Int)=(k:Int)∧k≤x.length)∧ ∀(k:Nat),k≤x.length→Lm aW x∧(((decide ((k:Int)<((x.length:Nat):Int)))=true→0≤(k:Int)∧Em aW x k fun e19=>0≤(k:Int)∧Em aW x k fun e23=>cX Tryz.prog 46 [.agg [.int .i64 e19.num,.int .i64 e19.den],.agg [.int .i64 e23.num,.int .i64 e23.den]] (vB true) []∧cC ((k:Int)+(1:Int))∧ ∃(k' :Nat),((k:Int)+(1:Int))=(k' :Int)∧k' ≤x.length∧x.length - k' <x.length - k)∧((decide ((k:Int)<((x.length:Nat):Int)))=false→(true)=true∧True)))))) (by kernel_rfl) ?_
 intro n0 n1
 simp only [List.length_map] at n0 n1
 refine ⟨List.length_map _,List.length_map _,by simp,⟨0,rfl,Nat.zero_le _⟩,fun k hk=>?_⟩
 refine ⟨List.length_map _,fun c1=>?_,fun c1=>?_⟩
 ·replace c1:=yq c1
  obtain ⟨y,hy⟩:=cK (l:=x) (k:=k) (by omega)
  refine ⟨by omega,rfl,by omega,fun e19 h19=>?_⟩
  try (obtain rfl:=aY hy h19)
  refine ⟨by omega,rfl,by omega,fun e23 h23=>?_⟩
  try (obtain rfl:=aY hy h23)
  refine ⟨by first | exact aFE e19 | exact aFE _,⟨by omega,by omega⟩,?_⟩
  exact ⟨k+1,rfl,by omega,by omega⟩
 ·replace c1:=nq c1
  refine ⟨?_,trivial⟩
  ·rfl
end Go.Proofs.YtdfebigfnjfgpaaGreat
