/-
  Contracts and plain laws, joined: part 19.
-/
import Derived.Test.YtokkjaflmcjlhaaGreatQU3
namespace Go.Proofs.YtokkjaflmcjlhaaGreat
open Go.ChangeShapes Go.WideShapes Go.ChangeAt Go.RowKit
set_option linter.unusedVariables false
set_option linter.unusedSimpArgs false
set_option maxRecDepth 100000
set_option maxHeartbeats 4000000
abbrev sV (x:List Int):Prop:=dJ Tryz.prog 38 [.one (.sl 3 1 (x.map intD)),.one (.sl 3 1 (x.map intD))] (vB true) []
theorem nS (x:List Int):sV x:=by
 refine aZ bR aT Tryz.func38 (by kernel_rfl) (.len x.length<| .len x.length<| .no<| .loop Nat (Q1 Nat) [5,11,12,13,14,15,16,17,18,19,20,21,22,23,24,25] [] (fun k=>[(5,vI (k:Int))]) (fun k=>[]) (fun k=>k≤x.length) (fun k=>x.length - k) (fun k=> .len x.length<| .br (.elem _ intD x (fun e19=> .elem _ intD x (fun e23=> .no<| .back []))) (.fin []))) (p:=(x.map intD).length≤9223372036854775807→(x.map intD).length≤9223372036854775807→Lm intD x∧(Lm intD x∧((!(decide (((x.length:Nat):Int)=((x.length:Nat):Int))))=false∧((∃(k:Nat),(0:Int)=(k:Int)∧k≤x.length)∧ ∀(k:Nat),k≤x.length→Lm intD x∧(((decide ((k:Int)<((x.length:Nat):Int)))=true→0≤(k:Int)∧Em intD x k fun e19=>0≤(k:Int)∧Em intD x k fun e23=>(!(decide (e19=e23)))=false∧dO ((k:Int)+(1:Int))∧ ∃(k' :Nat),((k:Int)+(1:Int))=(k' :Int)∧k' ≤x.length∧x.length - k' <x.length - k)∧((decide ((k:Int)<((x.length:Nat):Int)))=false→(true)=true∧True)))))) (by kernel_rfl) ?_
 intro n0 n1
 simp only [List.length_map] at n0 n1
 refine ⟨List.length_map _,List.length_map _,by simp,⟨0,rfl,Nat.zero_le _⟩,fun k hk=>?_⟩
 refine ⟨List.length_map _,fun c1=>?_,fun c1=>?_⟩
 ·replace c1:=yq c1
  obtain ⟨y,hy⟩:=cE (l:=x) (k:=k) (by omega)
  refine ⟨by omega,rfl,by omega,fun e19 h19=>?_⟩
  try (obtain rfl:=aV hy h19)
  refine ⟨by omega,rfl,by omega,fun e23 h23=>?_⟩
  try (obtain rfl:=aV hy h23)
  refine ⟨by simp,⟨by omega,by omega⟩,?_⟩
  exact ⟨k+1,rfl,by omega,by omega⟩
 ·replace c1:=nq c1
  refine ⟨?_,trivial⟩
  ·rfl
abbrev aAQ (x:List (List Int)):Prop:=dJ Tryz.prog 274 [.one (.sl 32 1 (x.map aF)),.one (.sl 32 1 (x.map aF))] (vB true) []
theorem aBK (x:List (List Int)):aAQ x:=by
 refine aZ bR aT Tryz.func274 (by kernel_rfl) (.len x.length<| .len x.length<| .no<| .loop Nat (Q1 Nat) [5,11,12,13,14,15,16,17,18,19,20,21,22,23,24,25,26] [] (fun k=>[(5,vI (k:Int))]) (fun k=>[]) (fun k=>k≤x.length) (fun k=>x.length - k) (fun k=> .len x.length<| .br (.elem _ aF x (fun e19=> .elem _ aF x (fun e23=> .call (vB true) []<| .back []))) (.fin []))) (p:=(x.map aF).length≤9223372036854775807→(x.map aF).length≤9223372036854775807→Lm aF x∧(Lm aF x∧((!(decide (((x.length:Nat):Int)=((x.length:Nat):Int))))=false∧((∃(k:Nat),(0:Int)=(k:Int)∧k≤x.length)∧ ∀(k:Nat),k≤x.length→Lm aF x∧(((decide ((k:Int)<((x.length:Nat):Int)))=true→0≤(k:Int)∧Em aF x k fun e19=>0≤(k:Int)∧Em aF x k fun e23=>dJ Tryz.prog 38 [.one (.sl 3 1 (e19.map intD)),.one (.sl 3 1 (e23.map intD))] (vB true) []∧dO ((k:Int)+(1:Int))∧ ∃(k' :Nat),((k:Int)+(1:Int))=(k' :Int)∧k' ≤x.length∧x.length - k' <x.length - k)∧((decide ((k:Int)<((x.length:Nat):Int)))=false→(true)=true∧True)))))) (by kernel_rfl) ?_
 intro n0 n1
 simp only [List.length_map] at n0 n1
 refine ⟨List.length_map _,List.length_map _,by simp,⟨0,rfl,Nat.zero_le _⟩,fun k hk=>?_⟩
 refine ⟨List.length_map _,fun c1=>?_,fun c1=>?_⟩
 ·replace c1:=yq c1
  obtain ⟨y,hy⟩:=cE (l:=x) (k:=k) (by omega)
  refine ⟨by omega,rfl,by omega,fun e19 h19=>?_⟩
  try (obtain rfl:=aV hy h19)
  refine ⟨by omega,rfl,by omega,fun e23 h23=>?_⟩
  try (obtain rfl:=aV hy h23)
  refine ⟨by first | exact nS e19 | exact nS _,⟨by omega,by omega⟩,?_⟩
  exact ⟨k+1,rfl,by omega,by omega⟩
 ·replace c1:=nq c1
  refine ⟨?_,trivial⟩
  ·rfl
abbrev aJX (x:aN):Prop:=dJ Tryz.prog 237 [.agg [.str x.name,.int .i64 x.arity,.sl 32 1 (x.rows.map aF)],.agg [.str x.name,.int .i64 x.arity,.sl 32 1 (x.rows.map aF)]] (vB true) []
theorem aI3 (x:aN):aJX x:=by
 refine aZ bR aT Tryz.func237 (by kernel_rfl) (.no<| .no<| .call (vB true) []<| .fin []) (p:=(x.rows.map aF).length≤9223372036854775807→(x.rows.map aF).length≤9223372036854775807→(!(x.name.toList==x.name.toList))=false∧(!(decide (x.arity=x.arity)))=false∧aAQ x.rows∧(true)=true∧True) (by kernel_rfl) ?_
 intro n0 n1
 simp only [List.length_map] at n0 n1
 refine ⟨by simp,by simp,by first | exact aBK x.rows | exact aBK _,?_,trivial⟩
 ·rfl
abbrev aC4 (x:List aN):Prop:=dJ Tryz.prog 156 [.one (.sl 162 3 (x.map aD)),.one (.sl 162 3 (x.map aD))] (vB true) []
theorem aGJ (x:List aN):aC4 x:=by
 refine aZ bR aT Tryz.func156 (by kernel_rfl) (.len x.length<| .len x.length<| .no<| .loop Nat (Q1 Nat) [5,11,12,13,14,15,16,17,18,19,20,21,22,23,24,25,26] [] (fun k=>[(5,vI (k:Int))]) (fun k=>[]) (fun k=>k≤x.length) (fun k=>x.length - k) (fun k=> .len x.length<| .br (.elem _ aD x (fun e19=> .elem _ aD x (fun e23=> .call (vB true) []<| .back []))) (.fin []))) (p:=(x.map aD).length≤9223372036854775807→(x.map aD).length≤9223372036854775807→Lm aD x∧(Lm aD x∧((!(decide (((x.length:Nat):Int)=((x.length:Nat):Int))))=false∧((∃(k:Nat),(0:Int)=(k:Int)∧k≤x.length)∧ ∀(k:Nat),k≤x.length→Lm aD x∧(((decide ((k:Int)<((x.length:Nat):Int)))=true→0≤(k:Int)∧Em aD x k fun e19=>0≤(k:Int)∧Em aD x k fun e23=>dJ Tryz.prog 237 [.agg [.str e19.name,.int .i64 e19.arity,.sl 32 1 (e19.rows.map aF)],.agg [.str e23.name,.int .i64 e23.arity,.sl 32 1 (e23.rows.map aF)]] (vB true) []∧dO ((k:Int)+(1:Int))∧ ∃(k' :Nat),((k:Int)+(1:Int))=(k' :Int)∧k' ≤x.length∧x.length - k' <x.length - k)∧((decide ((k:Int)<((x.length:Nat):Int)))=false→(true)=true∧True)))))) (by kernel_rfl) ?_
 intro n0 n1
 simp only [List.length_map] at n0 n1
 refine ⟨List.length_map _,List.length_map _,by simp,⟨0,rfl,Nat.zero_le _⟩,fun k hk=>?_⟩
 refine ⟨List.length_map _,fun c1=>?_,fun c1=>?_⟩
 ·replace c1:=yq c1
  obtain ⟨y,hy⟩:=cE (l:=x) (k:=k) (by omega)
  refine ⟨by omega,rfl,by omega,fun e19 h19=>?_⟩
  try (obtain rfl:=aV hy h19)
  refine ⟨by omega,rfl,by omega,fun e23 h23=>?_⟩
  try (obtain rfl:=aV hy h23)
  refine ⟨by first | exact aI3 e19 | exact aI3 _,⟨by omega,by omega⟩,?_⟩
  exact ⟨k+1,rfl,by omega,by omega⟩
 ·replace c1:=nq c1
  refine ⟨?_,trivial⟩
  ·rfl
abbrev yP (x:aP):Prop:=dJ Tryz.prog 77 [.agg [.sl 162 3 (x.tables.map aD)],.agg [.sl 162 3 (x.tables.map aD)]] (vB true) []
theorem aC5 (x:aP):yP x:=by
 refine aZ bR aT Tryz.func77 (by kernel_rfl) (.call (vB true) []<| .fin []) (p:=(x.tables.map aD).length≤9223372036854775807→(x.tables.map aD).length≤9223372036854775807→aC4 x.tables∧(true)=true∧True) (by kernel_rfl) ?_
 intro n0 n1
 simp only [List.length_map] at n0 n1
 refine ⟨by first | exact aGJ x.tables | exact aGJ _,?_,trivial⟩
 ·rfl
abbrev aI4 (x:UpdateD):Prop:=dJ Tryz.prog 20 [.agg [.str x.name,.bool x.ins,.sl 3 1 (x.row.map intD)],.agg [.str x.name,.bool x.ins,.sl 3 1 (x.row.map intD)]] (vB true) []
theorem aGK (x:UpdateD):aI4 x:=by
 refine aZ bR aT Tryz.func20 (by kernel_rfl) (.no<| .no<| .call (vB true) []<| .fin []) (p:=(x.row.map intD).length≤9223372036854775807→(x.row.map intD).length≤9223372036854775807→(!(x.name.toList==x.name.toList))=false∧(!(x.ins==x.ins))=false∧sV x.row∧(true)=true∧True) (by kernel_rfl) ?_
 intro n0 n1
 simp only [List.length_map] at n0 n1
 refine ⟨by simp,by simp,by first | exact nS x.row | exact nS _,?_,trivial⟩
 ·rfl
abbrev aBL (x:List UpdateD):Prop:=dJ Tryz.prog 28 [.one (.sl 50 3 (x.map aX)),.one (.sl 50 3 (x.map aX))] (vB true) []
theorem aE7 (x:List UpdateD):aBL x:=by
 refine aZ bR aT Tryz.func28 (by kernel_rfl) (.len x.length<| .len x.length<| .no<| .loop Nat (Q1 Nat) [5,11,12,13,14,15,16,17,18,19,20,21,22,23,24,25,26] [] (fun k=>[(5,vI (k:Int))]) (fun k=>[]) (fun k=>k≤x.length) (fun k=>x.length - k) (fun k=> .len x.length<| .br (.elem _ aX x (fun e19=> .elem _ aX x (fun e23=> .call (vB true) []<| .back []))) (.fin []))) (p:=(x.map aX).length≤9223372036854775807→(x.map aX).length≤9223372036854775807→Lm aX x∧(Lm aX x∧((!(decide (((x.length:Nat):Int)=((x.length:Nat):Int))))=false∧((∃(k:Nat),(0:Int)=(k:Int)∧k≤x.length)∧ ∀(k:Nat),k≤x.length→Lm aX x∧(((decide ((k:Int)<((x.length:Nat):Int)))=true→0≤(k:Int)∧Em aX x k fun e19=>0≤(k:Int)∧Em aX x k fun e23=>dJ Tryz.prog 20 [.agg [.str e19.name,.bool e19.ins,.sl 3 1 (e19.row.map intD)],.agg [.str e23.name,.bool e23.ins,.sl 3 1 (e23.row.map intD)]] (vB true) []∧dO ((k:Int)+(1:Int))∧ ∃(k' :Nat),((k:Int)+(1:Int))=(k' :Int)∧k' ≤x.length∧x.length - k' <x.length - k)∧((decide ((k:Int)<((x.length:Nat):Int)))=false→(true)=true∧True)))))) (by kernel_rfl) ?_
 intro n0 n1
 simp only [List.length_map] at n0 n1
 refine ⟨List.length_map _,List.length_map _,by simp,⟨0,rfl,Nat.zero_le _⟩,fun k hk=>?_⟩
 refine ⟨List.length_map _,fun c1=>?_,fun c1=>?_⟩
 ·replace c1:=yq c1
  obtain ⟨y,hy⟩:=cE (l:=x) (k:=k) (by omega)
  refine ⟨by omega,rfl,by omega,fun e19 h19=>?_⟩
  try (obtain rfl:=aV hy h19)
  refine ⟨by omega,rfl,by omega,fun e23 h23=>?_⟩
  try (obtain rfl:=aV hy h23)
  refine ⟨by first | exact aGK e19 | exact aGK _,⟨by omega,by omega⟩,?_⟩
  exact ⟨k+1,rfl,by omega,by omega⟩
 ·replace c1:=nq c1
  refine ⟨?_,trivial⟩
  ·rfl
abbrev aCg (x:aH):Prop:=dJ Tryz.prog 286 [.agg [.sl 3 1 (x.columns.map intD),.sl 32 1 (x.values.map aF),.sl 3 1 (x.counts.map intD)],.agg [.sl 3 1 (x.columns.map intD),.sl 32 1 (x.values.map aF),.sl 3 1 (x.counts.map intD)]] (vB true) []
theorem yQ (x:aH):aCg x:=by
 refine aZ bR aT Tryz.func286 (by kernel_rfl) (.call (vB true) []<| .call (vB true) []<| .call (vB true) []<| .fin []) (p:=(x.columns.map intD).length≤9223372036854775807→(x.values.map aF).length≤9223372036854775807→(x.counts.map intD).length≤9223372036854775807→(x.columns.map intD).length≤9223372036854775807→(x.values.map aF).length≤9223372036854775807→(x.counts.map intD).length≤9223372036854775807→sV x.columns∧aAQ x.values∧sV x.counts∧(true)=true∧True) (by kernel_rfl) ?_
 intro n0 n1 n2 n3 n4 n5
 simp only [List.length_map] at n0 n1 n2 n3 n4 n5
 refine ⟨by first | exact nS x.columns | exact nS _,by first | exact aBK x.values | exact aBK _,by first | exact nS x.counts | exact nS _,?_,trivial⟩
 ·rfl
abbrev sW (x:List aH):Prop:=dJ Tryz.prog 275 [.one (.sl 218 3 (x.map aC)),.one (.sl 218 3 (x.map aC))] (vB true) []
theorem xF (x:List aH):sW x:=by
 refine aZ bR aT Tryz.func275 (by kernel_rfl) (.len x.length<| .len x.length<| .no<| .loop Nat (Q1 Nat) [5,11,12,13,14,15,16,17,18,19,20,21,22,23,24,25,26] [] (fun k=>[(5,vI (k:Int))]) (fun k=>[]) (fun k=>k≤x.length) (fun k=>x.length - k) (fun k=> .len x.length<| .br (.elem _ aC x (fun e19=> .elem _ aC x (fun e23=> .call (vB true) []<| .back []))) (.fin []))) (p:=(x.map aC).length≤9223372036854775807→(x.map aC).length≤9223372036854775807→Lm aC x∧(Lm aC x∧((!(decide (((x.length:Nat):Int)=((x.length:Nat):Int))))=false∧((∃(k:Nat),(0:Int)=(k:Int)∧k≤x.length)∧ ∀(k:Nat),k≤x.length→Lm aC x∧(((decide ((k:Int)<((x.length:Nat):Int)))=true→0≤(k:Int)∧Em aC x k fun e19=>0≤(k:Int)∧Em aC x k fun e23=>dJ Tryz.prog 286 [.agg [.sl 3 1 (e19.columns.map intD),.sl 32 1 (e19.values.map aF),.sl 3 1 (e19.counts.map intD)],.agg [.sl 3 1 (e23.columns.map intD),.sl 32 1 (e23.values.map aF),.sl 3 1 (e23.counts.map intD)]] (vB true) []∧dO ((k:Int)+(1:Int))∧ ∃(k' :Nat),((k:Int)+(1:Int))=(k' :Int)∧k' ≤x.length∧x.length - k' <x.length - k)∧((decide ((k:Int)<((x.length:Nat):Int)))=false→(true)=true∧True)))))) (by kernel_rfl) ?_
 intro n0 n1
 simp only [List.length_map] at n0 n1
 refine ⟨List.length_map _,List.length_map _,by simp,⟨0,rfl,Nat.zero_le _⟩,fun k hk=>?_⟩
 refine ⟨List.length_map _,fun c1=>?_,fun c1=>?_⟩
 ·replace c1:=yq c1
  obtain ⟨y,hy⟩:=cE (l:=x) (k:=k) (by omega)
  refine ⟨by omega,rfl,by omega,fun e19 h19=>?_⟩
  try (obtain rfl:=aV hy h19)
  refine ⟨by omega,rfl,by omega,fun e23 h23=>?_⟩
  try (obtain rfl:=aV hy h23)
  refine ⟨by first | exact yQ e19 | exact yQ _,⟨by omega,by omega⟩,?_⟩
  exact ⟨k+1,rfl,by omega,by omega⟩
 ·replace c1:=nq c1
  refine ⟨?_,trivial⟩
  ·rfl
abbrev aCh (x:aG):Prop:=dJ Tryz.prog 238 [.agg [.str x.name,.int .i64 x.arity,.int .i64 x.rowCount,.sl 218 3 (x.groups.map aC)],.agg [.str x.name,.int .i64 x.arity,.int .i64 x.rowCount,.sl 218 3 (x.groups.map aC)]] (vB true) []
theorem yR (x:aG):aCh x:=by
 refine aZ bR aT Tryz.func238 (by kernel_rfl) (.no<| .no<| .no<| .call (vB true) []<| .fin []) (p:=(x.groups.map aC).length≤9223372036854775807→(x.groups.map aC).length≤9223372036854775807→(!(x.name.toList==x.name.toList))=false∧(!(decide (x.arity=x.arity)))=false∧(!(decide (x.rowCount=x.rowCount)))=false∧sW x.groups∧(true)=true∧True) (by kernel_rfl) ?_
 intro n0 n1
 simp only [List.length_map] at n0 n1
 refine ⟨by simp,by simp,by simp,by first | exact xF x.groups | exact xF _,?_,trivial⟩
 ·rfl
abbrev sX (x:List aG):Prop:=dJ Tryz.prog 157 [.one (.sl 121 4 (x.map aA)),.one (.sl 121 4 (x.map aA))] (vB true) []
theorem xG (x:List aG):sX x:=by
 refine aZ bR aT Tryz.func157 (by kernel_rfl) (.len x.length<| .len x.length<| .no<| .loop Nat (Q1 Nat) [5,11,12,13,14,15,16,17,18,19,20,21,22,23,24,25,26] [] (fun k=>[(5,vI (k:Int))]) (fun k=>[]) (fun k=>k≤x.length) (fun k=>x.length - k) (fun k=> .len x.length<| .br (.elem _ aA x (fun e19=> .elem _ aA x (fun e23=> .call (vB true) []<| .back []))) (.fin []))) (p:=(x.map aA).length≤9223372036854775807→(x.map aA).length≤9223372036854775807→Lm aA x∧(Lm aA x∧((!(decide (((x.length:Nat):Int)=((x.length:Nat):Int))))=false∧((∃(k:Nat),(0:Int)=(k:Int)∧k≤x.length)∧ ∀(k:Nat),k≤x.length→Lm aA x∧(((decide ((k:Int)<((x.length:Nat):Int)))=true→0≤(k:Int)∧Em aA x k fun e19=>0≤(k:Int)∧Em aA x k fun e23=>dJ Tryz.prog 238 [.agg [.str e19.name,.int .i64 e19.arity,.int .i64 e19.rowCount,.sl 218 3 (e19.groups.map aC)],.agg [.str e23.name,.int .i64 e23.arity,.int .i64 e23.rowCount,.sl 218 3 (e23.groups.map aC)]] (vB true) []∧dO ((k:Int)+(1:Int))∧ ∃(k' :Nat),((k:Int)+(1:Int))=(k' :Int)∧k' ≤x.length∧x.length - k' <x.length - k)∧((decide ((k:Int)<((x.length:Nat):Int)))=false→(true)=true∧True)))))) (by kernel_rfl) ?_
 intro n0 n1
 simp only [List.length_map] at n0 n1
 refine ⟨List.length_map _,List.length_map _,by simp,⟨0,rfl,Nat.zero_le _⟩,fun k hk=>?_⟩
 refine ⟨List.length_map _,fun c1=>?_,fun c1=>?_⟩
 ·replace c1:=yq c1
  obtain ⟨y,hy⟩:=cE (l:=x) (k:=k) (by omega)
  refine ⟨by omega,rfl,by omega,fun e19 h19=>?_⟩
  try (obtain rfl:=aV hy h19)
  refine ⟨by omega,rfl,by omega,fun e23 h23=>?_⟩
  try (obtain rfl:=aV hy h23)
  refine ⟨by first | exact yR e19 | exact yR _,⟨by omega,by omega⟩,?_⟩
  exact ⟨k+1,rfl,by omega,by omega⟩
 ·replace c1:=nq c1
  refine ⟨?_,trivial⟩
  ·rfl
abbrev xH (x:cA):Prop:=dJ Tryz.prog 78 [.agg [.int .i64 x.version,.sl 121 4 (x.tables.map aA)],.agg [.int .i64 x.version,.sl 121 4 (x.tables.map aA)]] (vB true) []
theorem aBM (x:cA):xH x:=by
 refine aZ bR aT Tryz.func78 (by kernel_rfl) (.no<| .call (vB true) []<| .fin []) (p:=(x.tables.map aA).length≤9223372036854775807→(x.tables.map aA).length≤9223372036854775807→(!(decide (x.version=x.version)))=false∧sX x.tables∧(true)=true∧True) (by kernel_rfl) ?_
 intro n0 n1
 simp only [List.length_map] at n0 n1
 refine ⟨by simp,by first | exact xG x.tables | exact xG _,?_,trivial⟩
 ·rfl
abbrev aCi (x:aJ):Prop:=dJ Tryz.prog 158 [.agg [.str x.name,.sl 3 1 (x.src.map intD),.int .i64 x.dst],.agg [.str x.name,.sl 3 1 (x.src.map intD),.int .i64 x.dst]] (vB true) []
theorem yS (x:aJ):aCi x:=by
 refine aZ bR aT Tryz.func158 (by kernel_rfl) (.no<| .call (vB true) []<| .lit<| .no<| .fin []) (p:=(x.src.map intD).length≤9223372036854775807→(x.src.map intD).length≤9223372036854775807→(!(x.name.toList==x.name.toList))=false∧sV x.src∧(!(decide (x.dst=x.dst)))=false∧(true)=true∧True) (by kernel_rfl) ?_
 intro n0 n1
 simp only [List.length_map] at n0 n1
 refine ⟨by simp,by first | exact nS x.src | exact nS _,by simp,?_,trivial⟩
 ·rfl
abbrev sY (x:List aJ):Prop:=dJ Tryz.prog 79 [.one (.sl 168 3 (x.map aB)),.one (.sl 168 3 (x.map aB))] (vB true) []
theorem xI (x:List aJ):sY x:=by
 refine aZ bR aT Tryz.func79 (by kernel_rfl) (.len x.length<| .len x.length<| .no<| .loop Nat (Q1 Nat) [5,11,12,13,14,15,16,17,18,19,20,21,22,23,24,25,26] [] (fun k=>[(5,vI (k:Int))]) (fun k=>[]) (fun k=>k≤x.length) (fun k=>x.length - k) (fun k=> .len x.length<| .br (.elem _ aB x (fun e19=> .elem _ aB x (fun e23=> .call (vB true) []<| .back []))) (.fin []))) (p:=(x.map aB).length≤9223372036854775807→(x.map aB).length≤9223372036854775807→Lm aB x∧(Lm aB x∧((!(decide (((x.length:Nat):Int)=((x.length:Nat):Int))))=false∧((∃(k:Nat),(0:Int)=(k:Int)∧k≤x.length)∧ ∀(k:Nat),k≤x.length→Lm aB x∧(((decide ((k:Int)<((x.length:Nat):Int)))=true→0≤(k:Int)∧Em aB x k fun e19=>0≤(k:Int)∧Em aB x k fun e23=>dJ Tryz.prog 158 [.agg [.str e19.name,.sl 3 1 (e19.src.map intD),.int .i64 e19.dst],.agg [.str e23.name,.sl 3 1 (e23.src.map intD),.int .i64 e23.dst]] (vB true) []∧dO ((k:Int)+(1:Int))∧ ∃(k' :Nat),((k:Int)+(1:Int))=(k' :Int)∧k' ≤x.length∧x.length - k' <x.length - k)∧((decide ((k:Int)<((x.length:Nat):Int)))=false→(true)=true∧True)))))) (by kernel_rfl) ?_
 intro n0 n1
 simp only [List.length_map] at n0 n1
 refine ⟨List.length_map _,List.length_map _,by simp,⟨0,rfl,Nat.zero_le _⟩,fun k hk=>?_⟩
 refine ⟨List.length_map _,fun c1=>?_,fun c1=>?_⟩
 ·replace c1:=yq c1
  obtain ⟨y,hy⟩:=cE (l:=x) (k:=k) (by omega)
  refine ⟨by omega,rfl,by omega,fun e19 h19=>?_⟩
  try (obtain rfl:=aV hy h19)
  refine ⟨by omega,rfl,by omega,fun e23 h23=>?_⟩
  try (obtain rfl:=aV hy h23)
  refine ⟨by first | exact yS e19 | exact yS _,⟨by omega,by omega⟩,?_⟩
  exact ⟨k+1,rfl,by omega,by omega⟩
 ·replace c1:=nq c1
  refine ⟨?_,trivial⟩
  ·rfl
abbrev aE8 (x:aL):Prop:=dJ Tryz.prog 159 [.agg [.str x.name,.int .i64 x.column,.str x.into,.int .i64 x.intoColumn],.agg [.str x.name,.int .i64 x.column,.str x.into,.int .i64 x.intoColumn]] (vB true) []
theorem aBN (x:aL):aE8 x:=by
 refine aZ bR aT Tryz.func159 (by kernel_rfl) (.no<| .no<| .no<| .no<| .fin []) (p:=(!(x.name.toList==x.name.toList))=false∧(!(decide (x.column=x.column)))=false∧(!(x.into.toList==x.into.toList))=false∧(!(decide (x.intoColumn=x.intoColumn)))=false∧(true)=true∧True) (by kernel_rfl) ?_
 refine ⟨by simp,by simp,by simp,by simp,?_,trivial⟩
 ·rfl
abbrev uL (x:List aL):Prop:=dJ Tryz.prog 80 [.one (.sl 170 4 (x.map aE)),.one (.sl 170 4 (x.map aE))] (vB true) []
theorem yT (x:List aL):uL x:=by
 refine aZ bR aT Tryz.func80 (by kernel_rfl) (.len x.length<| .len x.length<| .no<| .loop Nat (Q1 Nat) [5,11,12,13,14,15,16,17,18,19,20,21,22,23,24,25,26] [] (fun k=>[(5,vI (k:Int))]) (fun k=>[]) (fun k=>k≤x.length) (fun k=>x.length - k) (fun k=> .len x.length<| .br (.elem _ aE x (fun e19=> .elem _ aE x (fun e23=> .call (vB true) []<| .back []))) (.fin []))) (p:=(x.map aE).length≤9223372036854775807→(x.map aE).length≤9223372036854775807→Lm aE x∧(Lm aE x∧((!(decide (((x.length:Nat):Int)=((x.length:Nat):Int))))=false∧((∃(k:Nat),(0:Int)=(k:Int)∧k≤x.length)∧ ∀(k:Nat),k≤x.length→Lm aE x∧(((decide ((k:Int)<((x.length:Nat):Int)))=true→0≤(k:Int)∧Em aE x k fun e19=>0≤(k:Int)∧Em aE x k fun e23=>dJ Tryz.prog 159 [.agg [.str e19.name,.int .i64 e19.column,.str e19.into,.int .i64 e19.intoColumn],.agg [.str e23.name,.int .i64 e23.column,.str e23.into,.int .i64 e23.intoColumn]] (vB true) []∧dO ((k:Int)+(1:Int))∧ ∃(k' :Nat),((k:Int)+(1:Int))=(k' :Int)∧k' ≤x.length∧x.length - k' <x.length - k)∧((decide ((k:Int)<((x.length:Nat):Int)))=false→(true)=true∧True)))))) (by kernel_rfl) ?_
 intro n0 n1
 simp only [List.length_map] at n0 n1
 refine ⟨List.length_map _,List.length_map _,by simp,⟨0,rfl,Nat.zero_le _⟩,fun k hk=>?_⟩
 refine ⟨List.length_map _,fun c1=>?_,fun c1=>?_⟩
 ·replace c1:=yq c1
  obtain ⟨y,hy⟩:=cE (l:=x) (k:=k) (by omega)
  refine ⟨by omega,rfl,by omega,fun e19 h19=>?_⟩
  try (obtain rfl:=aV hy h19)
  refine ⟨by omega,rfl,by omega,fun e23 h23=>?_⟩
  try (obtain rfl:=aV hy h23)
  refine ⟨by first | exact aBN e19 | exact aBN _,⟨by omega,by omega⟩,?_⟩
  exact ⟨k+1,rfl,by omega,by omega⟩
 ·replace c1:=nq c1
  refine ⟨?_,trivial⟩
  ·rfl
abbrev qR (x:StoreD):Prop:=dJ Tryz.prog 19 [.agg [.sl 162 3 (x.database.tables.map aD),.int .i64 x.catalogue.version,.sl 121 4 (x.catalogue.tables.map aA),.sl 168 3 (x.dependencies.map aB),.sl 170 4 (x.inclusions.map aE)],.agg [.sl 162 3 (x.database.tables.map aD),.int .i64 x.catalogue.version,.sl 121 4 (x.catalogue.tables.map aA),.sl 168 3 (x.dependencies.map aB),.sl 170 4 (x.inclusions.map aE)]] (vB true) []
theorem oM (x:StoreD):qR x:=by
 refine aZ bR aT Tryz.func19 (by kernel_rfl) (.call (vB true) []<| .call (vB true) []<| .call (vB true) []<| .call (vB true) []<| .fin []) (p:=(x.database.tables.map aD).length≤9223372036854775807→(x.catalogue.tables.map aA).length≤9223372036854775807→(x.dependencies.map aB).length≤9223372036854775807→(x.inclusions.map aE).length≤9223372036854775807→(x.database.tables.map aD).length≤9223372036854775807→(x.catalogue.tables.map aA).length≤9223372036854775807→(x.dependencies.map aB).length≤9223372036854775807→(x.inclusions.map aE).length≤9223372036854775807→yP x.database∧xH x.catalogue∧sY x.dependencies∧uL x.inclusions∧(true)=true∧True) (by kernel_rfl) ?_
 intro n0 n1 n2 n3 n4 n5 n6 n7
 simp only [List.length_map] at n0 n1 n2 n3 n4 n5 n6 n7
 refine ⟨by first | exact aC5 x.database | exact aC5 _,by first | exact aBM x.catalogue | exact aBM _,by first | exact xI x.dependencies | exact xI _,by first | exact yT x.inclusions | exact yT _,?_,trivial⟩
 ·rfl
end Go.Proofs.YtokkjaflmcjlhaaGreat
