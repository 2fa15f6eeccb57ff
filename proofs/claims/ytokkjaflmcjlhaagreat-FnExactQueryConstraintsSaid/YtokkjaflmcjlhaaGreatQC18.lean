/-
  Contracts and plain laws, joined: part 19.
-/
import Derived.Test.YtokkjaflmcjlhaaGreatQC3
namespace Go.Proofs.YtokkjaflmcjlhaaGreat
open Go.ChangeShapes Go.WideShapes Go.ChangeAt Go.RowKit
set_option linter.unusedVariables false
set_option linter.unusedSimpArgs false
set_option maxRecDepth 100000
set_option maxHeartbeats 4000000
abbrev tH (x:List Int):Prop:=dG Tryz.prog 38 [.one (.sl 3 1 (x.map intD)),.one (.sl 3 1 (x.map intD))] (vB true) []
theorem nU (x:List Int):tH x:=by
 refine aY bK aU Tryz.func38 (by kernel_rfl) (.len x.length<| .len x.length<| .no<| .loop Nat (Q1 Nat) [5,11,12,13,14,15,16,17,18,19,20,21,22,23,24,25] [] (fun k=>[(5,vI (k:Int))]) (fun k=>[]) (fun k=>k≤x.length) (fun k=>x.length - k) (fun k=> .len x.length<| .br (.elem _ intD x (fun e19=> .elem _ intD x (fun e23=> .no<| .back []))) (.fin []))) (p:=(x.map intD).length≤9223372036854775807→(x.map intD).length≤9223372036854775807→Lm intD x∧(Lm intD x∧((!(decide (((x.length:Nat):Int)=((x.length:Nat):Int))))=false∧((∃(k:Nat),(0:Int)=(k:Int)∧k≤x.length)∧ ∀(k:Nat),k≤x.length→Lm intD x∧(((decide ((k:Int)<((x.length:Nat):Int)))=true→0≤(k:Int)∧Em intD x k fun e19=>0≤(k:Int)∧Em intD x k fun e23=>(!(decide (e19=e23)))=false∧dB ((k:Int)+(1:Int))∧ ∃(k' :Nat),((k:Int)+(1:Int))=(k' :Int)∧k' ≤x.length∧x.length - k' <x.length - k)∧((decide ((k:Int)<((x.length:Nat):Int)))=false→(true)=true∧True)))))) (by kernel_rfl) ?_
 intro n0 n1
 simp only [List.length_map] at n0 n1
 refine ⟨List.length_map _,List.length_map _,by simp,⟨0,rfl,Nat.zero_le _⟩,fun k hk=>?_⟩
 refine ⟨List.length_map _,fun c1=>?_,fun c1=>?_⟩
 ·replace c1:=yq c1
  obtain ⟨y,hy⟩:=cC (l:=x) (k:=k) (by omega)
  refine ⟨by omega,rfl,by omega,fun e19 h19=>?_⟩
  try (obtain rfl:=bA hy h19)
  refine ⟨by omega,rfl,by omega,fun e23 h23=>?_⟩
  try (obtain rfl:=bA hy h23)
  refine ⟨by simp,⟨by omega,by omega⟩,?_⟩
  exact ⟨k+1,rfl,by omega,by omega⟩
 ·replace c1:=nq c1
  refine ⟨?_,trivial⟩
  ·rfl
abbrev aAc (x:List (List Int)):Prop:=dG Tryz.prog 274 [.one (.sl 32 1 (x.map aE)),.one (.sl 32 1 (x.map aE))] (vB true) []
theorem aBc (x:List (List Int)):aAc x:=by
 refine aY bK aU Tryz.func274 (by kernel_rfl) (.len x.length<| .len x.length<| .no<| .loop Nat (Q1 Nat) [5,11,12,13,14,15,16,17,18,19,20,21,22,23,24,25,26] [] (fun k=>[(5,vI (k:Int))]) (fun k=>[]) (fun k=>k≤x.length) (fun k=>x.length - k) (fun k=> .len x.length<| .br (.elem _ aE x (fun e19=> .elem _ aE x (fun e23=> .call (vB true) []<| .back []))) (.fin []))) (p:=(x.map aE).length≤9223372036854775807→(x.map aE).length≤9223372036854775807→Lm aE x∧(Lm aE x∧((!(decide (((x.length:Nat):Int)=((x.length:Nat):Int))))=false∧((∃(k:Nat),(0:Int)=(k:Int)∧k≤x.length)∧ ∀(k:Nat),k≤x.length→Lm aE x∧(((decide ((k:Int)<((x.length:Nat):Int)))=true→0≤(k:Int)∧Em aE x k fun e19=>0≤(k:Int)∧Em aE x k fun e23=>dG Tryz.prog 38 [.one (.sl 3 1 (e19.map intD)),.one (.sl 3 1 (e23.map intD))] (vB true) []∧dB ((k:Int)+(1:Int))∧ ∃(k' :Nat),((k:Int)+(1:Int))=(k' :Int)∧k' ≤x.length∧x.length - k' <x.length - k)∧((decide ((k:Int)<((x.length:Nat):Int)))=false→(true)=true∧True)))))) (by kernel_rfl) ?_
 intro n0 n1
 simp only [List.length_map] at n0 n1
 refine ⟨List.length_map _,List.length_map _,by simp,⟨0,rfl,Nat.zero_le _⟩,fun k hk=>?_⟩
 refine ⟨List.length_map _,fun c1=>?_,fun c1=>?_⟩
 ·replace c1:=yq c1
  obtain ⟨y,hy⟩:=cC (l:=x) (k:=k) (by omega)
  refine ⟨by omega,rfl,by omega,fun e19 h19=>?_⟩
  try (obtain rfl:=bA hy h19)
  refine ⟨by omega,rfl,by omega,fun e23 h23=>?_⟩
  try (obtain rfl:=bA hy h23)
  refine ⟨by first | exact nU e19 | exact nU _,⟨by omega,by omega⟩,?_⟩
  exact ⟨k+1,rfl,by omega,by omega⟩
 ·replace c1:=nq c1
  refine ⟨?_,trivial⟩
  ·rfl
abbrev aK4 (x:aR):Prop:=dG Tryz.prog 237 [.agg [.str x.name,.int .i64 x.arity,.sl 32 1 (x.rows.map aE)],.agg [.str x.name,.int .i64 x.arity,.sl 32 1 (x.rows.map aE)]] (vB true) []
theorem aJ6 (x:aR):aK4 x:=by
 refine aY bK aU Tryz.func237 (by kernel_rfl) (.no<| .no<| .call (vB true) []<| .fin []) (p:=(x.rows.map aE).length≤9223372036854775807→(x.rows.map aE).length≤9223372036854775807→(!(x.name.toList==x.name.toList))=false∧(!(decide (x.arity=x.arity)))=false∧aAc x.rows∧(true)=true∧True) (by kernel_rfl) ?_
 intro n0 n1
 simp only [List.length_map] at n0 n1
 refine ⟨by simp,by simp,by first | exact aBc x.rows | exact aBc _,?_,trivial⟩
 ·rfl
abbrev aDE (x:List aR):Prop:=dG Tryz.prog 156 [.one (.sl 162 3 (x.map aP)),.one (.sl 162 3 (x.map aP))] (vB true) []
theorem aHM (x:List aR):aDE x:=by
 refine aY bK aU Tryz.func156 (by kernel_rfl) (.len x.length<| .len x.length<| .no<| .loop Nat (Q1 Nat) [5,11,12,13,14,15,16,17,18,19,20,21,22,23,24,25,26] [] (fun k=>[(5,vI (k:Int))]) (fun k=>[]) (fun k=>k≤x.length) (fun k=>x.length - k) (fun k=> .len x.length<| .br (.elem _ aP x (fun e19=> .elem _ aP x (fun e23=> .call (vB true) []<| .back []))) (.fin []))) (p:=(x.map aP).length≤9223372036854775807→(x.map aP).length≤9223372036854775807→Lm aP x∧(Lm aP x∧((!(decide (((x.length:Nat):Int)=((x.length:Nat):Int))))=false∧((∃(k:Nat),(0:Int)=(k:Int)∧k≤x.length)∧ ∀(k:Nat),k≤x.length→Lm aP x∧(((decide ((k:Int)<((x.length:Nat):Int)))=true→0≤(k:Int)∧Em aP x k fun e19=>0≤(k:Int)∧Em aP x k fun e23=>dG Tryz.prog 237 [.agg [.str e19.name,.int .i64 e19.arity,.sl 32 1 (e19.rows.map aE)],.agg [.str e23.name,.int .i64 e23.arity,.sl 32 1 (e23.rows.map aE)]] (vB true) []∧dB ((k:Int)+(1:Int))∧ ∃(k' :Nat),((k:Int)+(1:Int))=(k' :Int)∧k' ≤x.length∧x.length - k' <x.length - k)∧((decide ((k:Int)<((x.length:Nat):Int)))=false→(true)=true∧True)))))) (by kernel_rfl) ?_
 intro n0 n1
 simp only [List.length_map] at n0 n1
 refine ⟨List.length_map _,List.length_map _,by simp,⟨0,rfl,Nat.zero_le _⟩,fun k hk=>?_⟩
 refine ⟨List.length_map _,fun c1=>?_,fun c1=>?_⟩
 ·replace c1:=yq c1
  obtain ⟨y,hy⟩:=cC (l:=x) (k:=k) (by omega)
  refine ⟨by omega,rfl,by omega,fun e19 h19=>?_⟩
  try (obtain rfl:=bA hy h19)
  refine ⟨by omega,rfl,by omega,fun e23 h23=>?_⟩
  try (obtain rfl:=bA hy h23)
  refine ⟨by first | exact aJ6 e19 | exact aJ6 _,⟨by omega,by omega⟩,?_⟩
  exact ⟨k+1,rfl,by omega,by omega⟩
 ·replace c1:=nq c1
  refine ⟨?_,trivial⟩
  ·rfl
abbrev zN (x:aV):Prop:=dG Tryz.prog 77 [.agg [.sl 162 3 (x.tables.map aP)],.agg [.sl 162 3 (x.tables.map aP)]] (vB true) []
theorem aDF (x:aV):zN x:=by
 refine aY bK aU Tryz.func77 (by kernel_rfl) (.call (vB true) []<| .fin []) (p:=(x.tables.map aP).length≤9223372036854775807→(x.tables.map aP).length≤9223372036854775807→aDE x.tables∧(true)=true∧True) (by kernel_rfl) ?_
 intro n0 n1
 simp only [List.length_map] at n0 n1
 refine ⟨by first | exact aHM x.tables | exact aHM _,?_,trivial⟩
 ·rfl
abbrev aDR (x:aG):Prop:=dG Tryz.prog 286 [.agg [.sl 3 1 (x.columns.map intD),.sl 32 1 (x.values.map aE),.sl 3 1 (x.counts.map intD)],.agg [.sl 3 1 (x.columns.map intD),.sl 32 1 (x.values.map aE),.sl 3 1 (x.counts.map intD)]] (vB true) []
theorem zO (x:aG):aDR x:=by
 refine aY bK aU Tryz.func286 (by kernel_rfl) (.call (vB true) []<| .call (vB true) []<| .call (vB true) []<| .fin []) (p:=(x.columns.map intD).length≤9223372036854775807→(x.values.map aE).length≤9223372036854775807→(x.counts.map intD).length≤9223372036854775807→(x.columns.map intD).length≤9223372036854775807→(x.values.map aE).length≤9223372036854775807→(x.counts.map intD).length≤9223372036854775807→tH x.columns∧aAc x.values∧tH x.counts∧(true)=true∧True) (by kernel_rfl) ?_
 intro n0 n1 n2 n3 n4 n5
 simp only [List.length_map] at n0 n1 n2 n3 n4 n5
 refine ⟨by first | exact nU x.columns | exact nU _,by first | exact aBc x.values | exact aBc _,by first | exact nU x.counts | exact nU _,?_,trivial⟩
 ·rfl
abbrev tI (x:List aG):Prop:=dG Tryz.prog 275 [.one (.sl 218 3 (x.map aA)),.one (.sl 218 3 (x.map aA))] (vB true) []
theorem xV (x:List aG):tI x:=by
 refine aY bK aU Tryz.func275 (by kernel_rfl) (.len x.length<| .len x.length<| .no<| .loop Nat (Q1 Nat) [5,11,12,13,14,15,16,17,18,19,20,21,22,23,24,25,26] [] (fun k=>[(5,vI (k:Int))]) (fun k=>[]) (fun k=>k≤x.length) (fun k=>x.length - k) (fun k=> .len x.length<| .br (.elem _ aA x (fun e19=> .elem _ aA x (fun e23=> .call (vB true) []<| .back []))) (.fin []))) (p:=(x.map aA).length≤9223372036854775807→(x.map aA).length≤9223372036854775807→Lm aA x∧(Lm aA x∧((!(decide (((x.length:Nat):Int)=((x.length:Nat):Int))))=false∧((∃(k:Nat),(0:Int)=(k:Int)∧k≤x.length)∧ ∀(k:Nat),k≤x.length→Lm aA x∧(((decide ((k:Int)<((x.length:Nat):Int)))=true→0≤(k:Int)∧Em aA x k fun e19=>0≤(k:Int)∧Em aA x k fun e23=>dG Tryz.prog 286 [.agg [.sl 3 1 (e19.columns.map intD),.sl 32 1 (e19.values.map aE),.sl 3 1 (e19.counts.map intD)],.agg [.sl 3 1 (e23.columns.map intD),.sl 32 1 (e23.values.map aE),.sl 3 1 (e23.counts.map intD)]] (vB true) []∧dB ((k:Int)+(1:Int))∧ ∃(k' :Nat),((k:Int)+(1:Int))=(k' :Int)∧k' ≤x.length∧x.length - k' <x.length - k)∧((decide ((k:Int)<((x.length:Nat):Int)))=false→(true)=true∧True)))))) (by kernel_rfl) ?_
 intro n0 n1
 simp only [List.length_map] at n0 n1
 refine ⟨List.length_map _,List.length_map _,by simp,⟨0,rfl,Nat.zero_le _⟩,fun k hk=>?_⟩
 refine ⟨List.length_map _,fun c1=>?_,fun c1=>?_⟩
 ·replace c1:=yq c1
  obtain ⟨y,hy⟩:=cC (l:=x) (k:=k) (by omega)
  refine ⟨by omega,rfl,by omega,fun e19 h19=>?_⟩
  try (obtain rfl:=bA hy h19)
  refine ⟨by omega,rfl,by omega,fun e23 h23=>?_⟩
  try (obtain rfl:=bA hy h23)
  refine ⟨by first | exact zO e19 | exact zO _,⟨by omega,by omega⟩,?_⟩
  exact ⟨k+1,rfl,by omega,by omega⟩
 ·replace c1:=nq c1
  refine ⟨?_,trivial⟩
  ·rfl
abbrev aDS (x:aB):Prop:=dG Tryz.prog 238 [.agg [.str x.name,.int .i64 x.arity,.int .i64 x.rowCount,.sl 218 3 (x.groups.map aA)],.agg [.str x.name,.int .i64 x.arity,.int .i64 x.rowCount,.sl 218 3 (x.groups.map aA)]] (vB true) []
theorem zP (x:aB):aDS x:=by
 refine aY bK aU Tryz.func238 (by kernel_rfl) (.no<| .no<| .no<| .call (vB true) []<| .fin []) (p:=(x.groups.map aA).length≤9223372036854775807→(x.groups.map aA).length≤9223372036854775807→(!(x.name.toList==x.name.toList))=false∧(!(decide (x.arity=x.arity)))=false∧(!(decide (x.rowCount=x.rowCount)))=false∧tI x.groups∧(true)=true∧True) (by kernel_rfl) ?_
 intro n0 n1
 simp only [List.length_map] at n0 n1
 refine ⟨by simp,by simp,by simp,by first | exact xV x.groups | exact xV _,?_,trivial⟩
 ·rfl
abbrev tJ (x:List aB):Prop:=dG Tryz.prog 157 [.one (.sl 121 4 (x.map aC)),.one (.sl 121 4 (x.map aC))] (vB true) []
theorem xW (x:List aB):tJ x:=by
 refine aY bK aU Tryz.func157 (by kernel_rfl) (.len x.length<| .len x.length<| .no<| .loop Nat (Q1 Nat) [5,11,12,13,14,15,16,17,18,19,20,21,22,23,24,25,26] [] (fun k=>[(5,vI (k:Int))]) (fun k=>[]) (fun k=>k≤x.length) (fun k=>x.length - k) (fun k=> .len x.length<| .br (.elem _ aC x (fun e19=> .elem _ aC x (fun e23=> .call (vB true) []<| .back []))) (.fin []))) (p:=(x.map aC).length≤9223372036854775807→(x.map aC).length≤9223372036854775807→Lm aC x∧(Lm aC x∧((!(decide (((x.length:Nat):Int)=((x.length:Nat):Int))))=false∧((∃(k:Nat),(0:Int)=(k:Int)∧k≤x.length)∧ ∀(k:Nat),k≤x.length→Lm aC x∧(((decide ((k:Int)<((x.length:Nat):Int)))=true→0≤(k:Int)∧Em aC x k fun e19=>0≤(k:Int)∧Em aC x k fun e23=>dG Tryz.prog 238 [.agg [.str e19.name,.int .i64 e19.arity,.int .i64 e19.rowCount,.sl 218 3 (e19.groups.map aA)],.agg [.str e23.name,.int .i64 e23.arity,.int .i64 e23.rowCount,.sl 218 3 (e23.groups.map aA)]] (vB true) []∧dB ((k:Int)+(1:Int))∧ ∃(k' :Nat),((k:Int)+(1:Int))=(k' :Int)∧k' ≤x.length∧x.length - k' <x.length - k)∧((decide ((k:Int)<((x.length:Nat):Int)))=false→(true)=true∧True)))))) (by kernel_rfl) ?_
 intro n0 n1
 simp only [List.length_map] at n0 n1
 refine ⟨List.length_map _,List.length_map _,by simp,⟨0,rfl,Nat.zero_le _⟩,fun k hk=>?_⟩
 refine ⟨List.length_map _,fun c1=>?_,fun c1=>?_⟩
 ·replace c1:=yq c1
  obtain ⟨y,hy⟩:=cC (l:=x) (k:=k) (by omega)
  refine ⟨by omega,rfl,by omega,fun e19 h19=>?_⟩
  try (obtain rfl:=bA hy h19)
  refine ⟨by omega,rfl,by omega,fun e23 h23=>?_⟩
  try (obtain rfl:=bA hy h23)
  refine ⟨by first | exact zP e19 | exact zP _,⟨by omega,by omega⟩,?_⟩
  exact ⟨k+1,rfl,by omega,by omega⟩
 ·replace c1:=nq c1
  refine ⟨?_,trivial⟩
  ·rfl
abbrev xX (x:bS):Prop:=dG Tryz.prog 78 [.agg [.int .i64 x.version,.sl 121 4 (x.tables.map aC)],.agg [.int .i64 x.version,.sl 121 4 (x.tables.map aC)]] (vB true) []
theorem aBd (x:bS):xX x:=by
 refine aY bK aU Tryz.func78 (by kernel_rfl) (.no<| .call (vB true) []<| .fin []) (p:=(x.tables.map aC).length≤9223372036854775807→(x.tables.map aC).length≤9223372036854775807→(!(decide (x.version=x.version)))=false∧tJ x.tables∧(true)=true∧True) (by kernel_rfl) ?_
 intro n0 n1
 simp only [List.length_map] at n0 n1
 refine ⟨by simp,by first | exact xW x.tables | exact xW _,?_,trivial⟩
 ·rfl
abbrev aDT (x:aN):Prop:=dG Tryz.prog 158 [.agg [.str x.name,.sl 3 1 (x.src.map intD),.int .i64 x.dst],.agg [.str x.name,.sl 3 1 (x.src.map intD),.int .i64 x.dst]] (vB true) []
theorem zQ (x:aN):aDT x:=by
 refine aY bK aU Tryz.func158 (by kernel_rfl) (.no<| .call (vB true) []<| .lit<| .no<| .fin []) (p:=(x.src.map intD).length≤9223372036854775807→(x.src.map intD).length≤9223372036854775807→(!(x.name.toList==x.name.toList))=false∧tH x.src∧(!(decide (x.dst=x.dst)))=false∧(true)=true∧True) (by kernel_rfl) ?_
 intro n0 n1
 simp only [List.length_map] at n0 n1
 refine ⟨by simp,by first | exact nU x.src | exact nU _,by simp,?_,trivial⟩
 ·rfl
abbrev tK (x:List aN):Prop:=dG Tryz.prog 79 [.one (.sl 168 3 (x.map aJ)),.one (.sl 168 3 (x.map aJ))] (vB true) []
theorem xY (x:List aN):tK x:=by
 refine aY bK aU Tryz.func79 (by kernel_rfl) (.len x.length<| .len x.length<| .no<| .loop Nat (Q1 Nat) [5,11,12,13,14,15,16,17,18,19,20,21,22,23,24,25,26] [] (fun k=>[(5,vI (k:Int))]) (fun k=>[]) (fun k=>k≤x.length) (fun k=>x.length - k) (fun k=> .len x.length<| .br (.elem _ aJ x (fun e19=> .elem _ aJ x (fun e23=> .call (vB true) []<| .back []))) (.fin []))) (p:=(x.map aJ).length≤9223372036854775807→(x.map aJ).length≤9223372036854775807→Lm aJ x∧(Lm aJ x∧((!(decide (((x.length:Nat):Int)=((x.length:Nat):Int))))=false∧((∃(k:Nat),(0:Int)=(k:Int)∧k≤x.length)∧ ∀(k:Nat),k≤x.length→Lm aJ x∧(((decide ((k:Int)<((x.length:Nat):Int)))=true→0≤(k:Int)∧Em aJ x k fun e19=>0≤(k:Int)∧Em aJ x k fun e23=>dG Tryz.prog 158 [.agg [.str e19.name,.sl 3 1 (e19.src.map intD),.int .i64 e19.dst],.agg [.str e23.name,.sl 3 1 (e23.src.map intD),.int .i64 e23.dst]] (vB true) []∧dB ((k:Int)+(1:Int))∧ ∃(k' :Nat),((k:Int)+(1:Int))=(k' :Int)∧k' ≤x.length∧x.length - k' <x.length - k)∧((decide ((k:Int)<((x.length:Nat):Int)))=false→(true)=true∧True)))))) (by kernel_rfl) ?_
 intro n0 n1
 simp only [List.length_map] at n0 n1
 refine ⟨List.length_map _,List.length_map _,by simp,⟨0,rfl,Nat.zero_le _⟩,fun k hk=>?_⟩
 refine ⟨List.length_map _,fun c1=>?_,fun c1=>?_⟩
 ·replace c1:=yq c1
  obtain ⟨y,hy⟩:=cC (l:=x) (k:=k) (by omega)
  refine ⟨by omega,rfl,by omega,fun e19 h19=>?_⟩
  try (obtain rfl:=bA hy h19)
  refine ⟨by omega,rfl,by omega,fun e23 h23=>?_⟩
  try (obtain rfl:=bA hy h23)
  refine ⟨by first | exact zQ e19 | exact zQ _,⟨by omega,by omega⟩,?_⟩
  exact ⟨k+1,rfl,by omega,by omega⟩
 ·replace c1:=nq c1
  refine ⟨?_,trivial⟩
  ·rfl
abbrev aF7 (x:aL):Prop:=dG Tryz.prog 159 [.agg [.str x.name,.int .i64 x.column,.str x.into,.int .i64 x.intoColumn],.agg [.str x.name,.int .i64 x.column,.str x.into,.int .i64 x.intoColumn]] (vB true) []
theorem aBe (x:aL):aF7 x:=by
 refine aY bK aU Tryz.func159 (by kernel_rfl) (.no<| .no<| .no<| .no<| .fin []) (p:=(!(x.name.toList==x.name.toList))=false∧(!(decide (x.column=x.column)))=false∧(!(x.into.toList==x.into.toList))=false∧(!(decide (x.intoColumn=x.intoColumn)))=false∧(true)=true∧True) (by kernel_rfl) ?_
 refine ⟨by simp,by simp,by simp,by simp,?_,trivial⟩
 ·rfl
abbrev vE (x:List aL):Prop:=dG Tryz.prog 80 [.one (.sl 170 4 (x.map aM)),.one (.sl 170 4 (x.map aM))] (vB true) []
theorem zR (x:List aL):vE x:=by
 refine aY bK aU Tryz.func80 (by kernel_rfl) (.len x.length<| .len x.length<| .no<| .loop Nat (Q1 Nat) [5,11,12,13,14,15,16,17,18,19,20,21,22,23,24,25,26] [] (fun k=>[(5,vI (k:Int))]) (fun k=>[]) (fun k=>k≤x.length) (fun k=>x.length - k) (fun k=> .len x.length<| .br (.elem _ aM x (fun e19=> .elem _ aM x (fun e23=> .call (vB true) []<| .back []))) (.fin []))) (p:=(x.map aM).length≤9223372036854775807→(x.map aM).length≤9223372036854775807→Lm aM x∧(Lm aM x∧((!(decide (((x.length:Nat):Int)=((x.length:Nat):Int))))=false∧((∃(k:Nat),(0:Int)=(k:Int)∧k≤x.length)∧ ∀(k:Nat),k≤x.length→Lm aM x∧(((decide ((k:Int)<((x.length:Nat):Int)))=true→0≤(k:Int)∧Em aM x k fun e19=>0≤(k:Int)∧Em aM x k fun e23=>dG Tryz.prog 159 [.agg [.str e19.name,.int .i64 e19.column,.str e19.into,.int .i64 e19.intoColumn],.agg [.str e23.name,.int .i64 e23.column,.str e23.into,.int .i64 e23.intoColumn]] (vB true) []∧dB ((k:Int)+(1:Int))∧ ∃(k' :Nat),((k:Int)+(1:Int))=(k' :Int)∧k' ≤x.length∧x.length - k' <x.length - k)∧((decide ((k:Int)<((x.length:Nat):Int)))=false→(true)=true∧True)))))) (by kernel_rfl) ?_
 intro n0 n1
 simp only [List.length_map] at n0 n1
 refine ⟨List.length_map _,List.length_map _,by simp,⟨0,rfl,Nat.zero_le _⟩,fun k hk=>?_⟩
 refine ⟨List.length_map _,fun c1=>?_,fun c1=>?_⟩
 ·replace c1:=yq c1
  obtain ⟨y,hy⟩:=cC (l:=x) (k:=k) (by omega)
  refine ⟨by omega,rfl,by omega,fun e19 h19=>?_⟩
  try (obtain rfl:=bA hy h19)
  refine ⟨by omega,rfl,by omega,fun e23 h23=>?_⟩
  try (obtain rfl:=bA hy h23)
  refine ⟨by first | exact aBe e19 | exact aBe _,⟨by omega,by omega⟩,?_⟩
  exact ⟨k+1,rfl,by omega,by omega⟩
 ·replace c1:=nq c1
  refine ⟨?_,trivial⟩
  ·rfl
abbrev aF8 (x:StoreD):Prop:=dG Tryz.prog 19 [.agg [.sl 162 3 (x.database.tables.map aP),.int .i64 x.catalogue.version,.sl 121 4 (x.catalogue.tables.map aC),.sl 168 3 (x.dependencies.map aJ),.sl 170 4 (x.inclusions.map aM)],.agg [.sl 162 3 (x.database.tables.map aP),.int .i64 x.catalogue.version,.sl 121 4 (x.catalogue.tables.map aC),.sl 168 3 (x.dependencies.map aJ),.sl 170 4 (x.inclusions.map aM)]] (vB true) []
theorem aJ7 (x:StoreD):aF8 x:=by
 refine aY bK aU Tryz.func19 (by kernel_rfl) (.call (vB true) []<| .call (vB true) []<| .call (vB true) []<| .call (vB true) []<| .fin []) (p:=(x.database.tables.map aP).length≤9223372036854775807→(x.catalogue.tables.map aC).length≤9223372036854775807→(x.dependencies.map aJ).length≤9223372036854775807→(x.inclusions.map aM).length≤9223372036854775807→(x.database.tables.map aP).length≤9223372036854775807→(x.catalogue.tables.map aC).length≤9223372036854775807→(x.dependencies.map aJ).length≤9223372036854775807→(x.inclusions.map aM).length≤9223372036854775807→zN x.database∧xX x.catalogue∧tK x.dependencies∧vE x.inclusions∧(true)=true∧True) (by kernel_rfl) ?_
 intro n0 n1 n2 n3 n4 n5 n6 n7
 simp only [List.length_map] at n0 n1 n2 n3 n4 n5 n6 n7
 refine ⟨by first | exact aDF x.database | exact aDF _,by first | exact aBd x.catalogue | exact aBd _,by first | exact xY x.dependencies | exact xY _,by first | exact zR x.inclusions | exact zR _,?_,trivial⟩
 ·rfl
abbrev aMe (x:bR):Prop:=dG Tryz.prog 168 [.agg [.str x.name,.sl 3 1 (x.vars.map intD)],.agg [.str x.name,.sl 3 1 (x.vars.map intD)]] (vB true) []
theorem aLQ (x:bR):aMe x:=by
 refine aY bK aU Tryz.func168 (by kernel_rfl) (.no<| .call (vB true) []<| .fin []) (p:=(x.vars.map intD).length≤9223372036854775807→(x.vars.map intD).length≤9223372036854775807→(!(x.name.toList==x.name.toList))=false∧tH x.vars∧(true)=true∧True) (by kernel_rfl) ?_
 intro n0 n1
 simp only [List.length_map] at n0 n1
 refine ⟨by simp,by first | exact nU x.vars | exact nU _,?_,trivial⟩
 ·rfl
abbrev aF9 (x:List bR):Prop:=dG Tryz.prog 97 [.one (.sl 131 2 (x.map bC)),.one (.sl 131 2 (x.map bC))] (vB true) []
theorem aJ8 (x:List bR):aF9 x:=by
 refine aY bK aU Tryz.func97 (by kernel_rfl) (.len x.length<| .len x.length<| .no<| .loop Nat (Q1 Nat) [5,11,12,13,14,15,16,17,18,19,20,21,22,23,24,25,26] [] (fun k=>[(5,vI (k:Int))]) (fun k=>[]) (fun k=>k≤x.length) (fun k=>x.length - k) (fun k=> .len x.length<| .br (.elem _ bC x (fun e19=> .elem _ bC x (fun e23=> .call (vB true) []<| .back []))) (.fin []))) (p:=(x.map bC).length≤9223372036854775807→(x.map bC).length≤9223372036854775807→Lm bC x∧(Lm bC x∧((!(decide (((x.length:Nat):Int)=((x.length:Nat):Int))))=false∧((∃(k:Nat),(0:Int)=(k:Int)∧k≤x.length)∧ ∀(k:Nat),k≤x.length→Lm bC x∧(((decide ((k:Int)<((x.length:Nat):Int)))=true→0≤(k:Int)∧Em bC x k fun e19=>0≤(k:Int)∧Em bC x k fun e23=>dG Tryz.prog 168 [.agg [.str e19.name,.sl 3 1 (e19.vars.map intD)],.agg [.str e23.name,.sl 3 1 (e23.vars.map intD)]] (vB true) []∧dB ((k:Int)+(1:Int))∧ ∃(k' :Nat),((k:Int)+(1:Int))=(k' :Int)∧k' ≤x.length∧x.length - k' <x.length - k)∧((decide ((k:Int)<((x.length:Nat):Int)))=false→(true)=true∧True)))))) (by kernel_rfl) ?_
 intro n0 n1
 simp only [List.length_map] at n0 n1
 refine ⟨List.length_map _,List.length_map _,by simp,⟨0,rfl,Nat.zero_le _⟩,fun k hk=>?_⟩
 refine ⟨List.length_map _,fun c1=>?_,fun c1=>?_⟩
 ·replace c1:=yq c1
  obtain ⟨y,hy⟩:=cC (l:=x) (k:=k) (by omega)
  refine ⟨by omega,rfl,by omega,fun e19 h19=>?_⟩
  try (obtain rfl:=bA hy h19)
  refine ⟨by omega,rfl,by omega,fun e23 h23=>?_⟩
  try (obtain rfl:=bA hy h23)
  refine ⟨by first | exact aLQ e19 | exact aLQ _,⟨by omega,by omega⟩,?_⟩
  exact ⟨k+1,rfl,by omega,by omega⟩
 ·replace c1:=nq c1
  refine ⟨?_,trivial⟩
  ·rfl
abbrev aFa (x:QueryD):Prop:=dG Tryz.prog 34 [.agg [.int .i64 x.variableCount,.sl 131 2 (x.atoms.map bC)],.agg [.int .i64 x.variableCount,.sl 131 2 (x.atoms.map bC)]] (vB true) []
theorem aJ9 (x:QueryD):aFa x:=by
 refine aY bK aU Tryz.func34 (by kernel_rfl) (.no<| .call (vB true) []<| .fin []) (p:=(x.atoms.map bC).length≤9223372036854775807→(x.atoms.map bC).length≤9223372036854775807→(!(decide (x.variableCount=x.variableCount)))=false∧aF9 x.atoms∧(true)=true∧True) (by kernel_rfl) ?_
 intro n0 n1
 simp only [List.length_map] at n0 n1
 refine ⟨by simp,by first | exact aJ8 x.atoms | exact aJ8 _,?_,trivial⟩
 ·rfl
abbrev zB (x:aF):Prop:=dG Tryz.prog 124 [.agg [.int .i64 x.src,.int .i64 x.dst,.int .i64 x.bits],.agg [.int .i64 x.src,.int .i64 x.dst,.int .i64 x.bits]] (vB true) []
theorem rX (x:aF):zB x:=by
 refine aY bK aU Tryz.func124 (by kernel_rfl) (.no<| .no<| .no<| .fin []) (p:=(!(decide (x.src=x.src)))=false∧(!(decide (x.dst=x.dst)))=false∧(!(decide (x.bits=x.bits)))=false∧(true)=true∧True) (by kernel_rfl) ?_
 refine ⟨by simp,by simp,by simp,?_,trivial⟩
 ·rfl
abbrev iO (x:List aF):Prop:=dG Tryz.prog 54 [.one (.sl 149 3 (x.map aD)),.one (.sl 149 3 (x.map aD))] (vB true) []
theorem fW (x:List aF):iO x:=by
 refine aY bK aU Tryz.func54 (by kernel_rfl) (.len x.length<| .len x.length<| .no<| .loop Nat (Q1 Nat) [5,11,12,13,14,15,16,17,18,19,20,21,22,23,24,25,26] [] (fun k=>[(5,vI (k:Int))]) (fun k=>[]) (fun k=>k≤x.length) (fun k=>x.length - k) (fun k=> .len x.length<| .br (.elem _ aD x (fun e19=> .elem _ aD x (fun e23=> .call (vB true) []<| .back []))) (.fin []))) (p:=(x.map aD).length≤9223372036854775807→(x.map aD).length≤9223372036854775807→Lm aD x∧(Lm aD x∧((!(decide (((x.length:Nat):Int)=((x.length:Nat):Int))))=false∧((∃(k:Nat),(0:Int)=(k:Int)∧k≤x.length)∧ ∀(k:Nat),k≤x.length→Lm aD x∧(((decide ((k:Int)<((x.length:Nat):Int)))=true→0≤(k:Int)∧Em aD x k fun e19=>0≤(k:Int)∧Em aD x k fun e23=>dG Tryz.prog 124 [.agg [.int .i64 e19.src,.int .i64 e19.dst,.int .i64 e19.bits],.agg [.int .i64 e23.src,.int .i64 e23.dst,.int .i64 e23.bits]] (vB true) []∧dB ((k:Int)+(1:Int))∧ ∃(k' :Nat),((k:Int)+(1:Int))=(k' :Int)∧k' ≤x.length∧x.length - k' <x.length - k)∧((decide ((k:Int)<((x.length:Nat):Int)))=false→(true)=true∧True)))))) (by kernel_rfl) ?_
 intro n0 n1
 simp only [List.length_map] at n0 n1
 refine ⟨List.length_map _,List.length_map _,by simp,⟨0,rfl,Nat.zero_le _⟩,fun k hk=>?_⟩
 refine ⟨List.length_map _,fun c1=>?_,fun c1=>?_⟩
 ·replace c1:=yq c1
  obtain ⟨y,hy⟩:=cC (l:=x) (k:=k) (by omega)
  refine ⟨by omega,rfl,by omega,fun e19 h19=>?_⟩
  try (obtain rfl:=bA hy h19)
  refine ⟨by omega,rfl,by omega,fun e23 h23=>?_⟩
  try (obtain rfl:=bA hy h23)
  refine ⟨by first | exact rX e19 | exact rX _,⟨by omega,by omega⟩,?_⟩
  exact ⟨k+1,rfl,by omega,by omega⟩
 ·replace c1:=nq c1
  refine ⟨?_,trivial⟩
  ·rfl
end Go.Proofs.YtokkjaflmcjlhaaGreat
