/-
  Contracts and plain laws, joined: part 19.
-/
import Derived.Test.YtokkjaflmcjlhaaGreatQD3
namespace Go.Proofs.YtokkjaflmcjlhaaGreat
open Go.ChangeShapes Go.WideShapes Go.ChangeAt Go.RowKit
set_option linter.unusedVariables false
set_option linter.unusedSimpArgs false
set_option maxRecDepth 100000
set_option maxHeartbeats 4000000
abbrev jQ (x:List Int):Prop:=cU Tryz.prog 38 [.one (.sl 3 1 (x.map intD)),.one (.sl 3 1 (x.map intD))] (vB true) []
theorem fW (x:List Int):jQ x:=by
 refine aV bF aS Tryz.func38 (by kernel_rfl) (.len x.length<| .len x.length<| .no<| .loop Nat (Q1 Nat) [5,11,12,13,14,15,16,17,18,19,20,21,22,23,24,25] [] (fun k=>[(5,vI (k:Int))]) (fun k=>[]) (fun k=>k≤x.length) (fun k=>x.length - k) (fun k=> .len x.length<| .br (.elem _ intD x (fun e19=> .elem _ intD x (fun e23=> .no<| .back []))) (.fin []))) (p:=(x.map intD).length≤9223372036854775807→(x.map intD).length≤9223372036854775807→Lm intD x∧(Lm intD x∧((!(decide (((x.length:Nat):Int)=((x.length:Nat):Int))))=false∧((∃(k:Nat),(0:Int)=(k:Int)∧k≤x.length)∧ ∀(k:Nat),k≤x.length→Lm intD x∧(((decide ((k:Int)<((x.length:Nat):Int)))=true→0≤(k:Int)∧Em intD x k fun e19=>0≤(k:Int)∧Em intD x k fun e23=>(!(decide (e19=e23)))=false∧cG ((k:Int)+(1:Int))∧ ∃(k' :Nat),((k:Int)+(1:Int))=(k' :Int)∧k' ≤x.length∧x.length - k' <x.length - k)∧((decide ((k:Int)<((x.length:Nat):Int)))=false→(true)=true∧True)))))) (by kernel_rfl) ?_
 intro n0 n1
 simp only [List.length_map] at n0 n1
 refine ⟨List.length_map _,List.length_map _,by simp,⟨0,rfl,Nat.zero_le _⟩,fun k hk=>?_⟩
 refine ⟨List.length_map _,fun c1=>?_,fun c1=>?_⟩
 ·replace c1:=yq c1
  obtain ⟨y,hy⟩:=bY (l:=x) (k:=k) (by omega)
  refine ⟨by omega,rfl,by omega,fun e19 h19=>?_⟩
  try (obtain rfl:=aX hy h19)
  refine ⟨by omega,rfl,by omega,fun e23 h23=>?_⟩
  try (obtain rfl:=aX hy h23)
  refine ⟨by simp,⟨by omega,by omega⟩,?_⟩
  exact ⟨k+1,rfl,by omega,by omega⟩
 ·replace c1:=nq c1
  refine ⟨?_,trivial⟩
  ·rfl
abbrev aBQ (x:List (List Int)):Prop:=cU Tryz.prog 274 [.one (.sl 32 1 (x.map aF)),.one (.sl 32 1 (x.map aF))] (vB true) []
theorem aC3 (x:List (List Int)):aBQ x:=by
 refine aV bF aS Tryz.func274 (by kernel_rfl) (.len x.length<| .len x.length<| .no<| .loop Nat (Q1 Nat) [5,11,12,13,14,15,16,17,18,19,20,21,22,23,24,25,26] [] (fun k=>[(5,vI (k:Int))]) (fun k=>[]) (fun k=>k≤x.length) (fun k=>x.length - k) (fun k=> .len x.length<| .br (.elem _ aF x (fun e19=> .elem _ aF x (fun e23=> .call (vB true) []<| .back []))) (.fin []))) (p:=(x.map aF).length≤9223372036854775807→(x.map aF).length≤9223372036854775807→Lm aF x∧(Lm aF x∧((!(decide (((x.length:Nat):Int)=((x.length:Nat):Int))))=false∧((∃(k:Nat),(0:Int)=(k:Int)∧k≤x.length)∧ ∀(k:Nat),k≤x.length→Lm aF x∧(((decide ((k:Int)<((x.length:Nat):Int)))=true→0≤(k:Int)∧Em aF x k fun e19=>0≤(k:Int)∧Em aF x k fun e23=>cU Tryz.prog 38 [.one (.sl 3 1 (e19.map intD)),.one (.sl 3 1 (e23.map intD))] (vB true) []∧cG ((k:Int)+(1:Int))∧ ∃(k' :Nat),((k:Int)+(1:Int))=(k' :Int)∧k' ≤x.length∧x.length - k' <x.length - k)∧((decide ((k:Int)<((x.length:Nat):Int)))=false→(true)=true∧True)))))) (by kernel_rfl) ?_
 intro n0 n1
 simp only [List.length_map] at n0 n1
 refine ⟨List.length_map _,List.length_map _,by simp,⟨0,rfl,Nat.zero_le _⟩,fun k hk=>?_⟩
 refine ⟨List.length_map _,fun c1=>?_,fun c1=>?_⟩
 ·replace c1:=yq c1
  obtain ⟨y,hy⟩:=bY (l:=x) (k:=k) (by omega)
  refine ⟨by omega,rfl,by omega,fun e19 h19=>?_⟩
  try (obtain rfl:=aX hy h19)
  refine ⟨by omega,rfl,by omega,fun e23 h23=>?_⟩
  try (obtain rfl:=aX hy h23)
  refine ⟨by first | exact fW e19 | exact fW _,⟨by omega,by omega⟩,?_⟩
  exact ⟨k+1,rfl,by omega,by omega⟩
 ·replace c1:=nq c1
  refine ⟨?_,trivial⟩
  ·rfl
abbrev aLr (x:aR):Prop:=cU Tryz.prog 237 [.agg [.str x.name,.int .i64 x.arity,.sl 32 1 (x.rows.map aF)],.agg [.str x.name,.int .i64 x.arity,.sl 32 1 (x.rows.map aF)]] (vB true) []
theorem aKi (x:aR):aLr x:=by
 refine aV bF aS Tryz.func237 (by kernel_rfl) (.no<| .no<| .call (vB true) []<| .fin []) (p:=(x.rows.map aF).length≤9223372036854775807→(x.rows.map aF).length≤9223372036854775807→(!(x.name.toList==x.name.toList))=false∧(!(decide (x.arity=x.arity)))=false∧aBQ x.rows∧(true)=true∧True) (by kernel_rfl) ?_
 intro n0 n1
 simp only [List.length_map] at n0 n1
 refine ⟨by simp,by simp,by first | exact aC3 x.rows | exact aC3 _,?_,trivial⟩
 ·rfl
abbrev aDx (x:List aR):Prop:=cU Tryz.prog 156 [.one (.sl 162 3 (x.map aL)),.one (.sl 162 3 (x.map aL))] (vB true) []
theorem aIR (x:List aR):aDx x:=by
 refine aV bF aS Tryz.func156 (by kernel_rfl) (.len x.length<| .len x.length<| .no<| .loop Nat (Q1 Nat) [5,11,12,13,14,15,16,17,18,19,20,21,22,23,24,25,26] [] (fun k=>[(5,vI (k:Int))]) (fun k=>[]) (fun k=>k≤x.length) (fun k=>x.length - k) (fun k=> .len x.length<| .br (.elem _ aL x (fun e19=> .elem _ aL x (fun e23=> .call (vB true) []<| .back []))) (.fin []))) (p:=(x.map aL).length≤9223372036854775807→(x.map aL).length≤9223372036854775807→Lm aL x∧(Lm aL x∧((!(decide (((x.length:Nat):Int)=((x.length:Nat):Int))))=false∧((∃(k:Nat),(0:Int)=(k:Int)∧k≤x.length)∧ ∀(k:Nat),k≤x.length→Lm aL x∧(((decide ((k:Int)<((x.length:Nat):Int)))=true→0≤(k:Int)∧Em aL x k fun e19=>0≤(k:Int)∧Em aL x k fun e23=>cU Tryz.prog 237 [.agg [.str e19.name,.int .i64 e19.arity,.sl 32 1 (e19.rows.map aF)],.agg [.str e23.name,.int .i64 e23.arity,.sl 32 1 (e23.rows.map aF)]] (vB true) []∧cG ((k:Int)+(1:Int))∧ ∃(k' :Nat),((k:Int)+(1:Int))=(k' :Int)∧k' ≤x.length∧x.length - k' <x.length - k)∧((decide ((k:Int)<((x.length:Nat):Int)))=false→(true)=true∧True)))))) (by kernel_rfl) ?_
 intro n0 n1
 simp only [List.length_map] at n0 n1
 refine ⟨List.length_map _,List.length_map _,by simp,⟨0,rfl,Nat.zero_le _⟩,fun k hk=>?_⟩
 refine ⟨List.length_map _,fun c1=>?_,fun c1=>?_⟩
 ·replace c1:=yq c1
  obtain ⟨y,hy⟩:=bY (l:=x) (k:=k) (by omega)
  refine ⟨by omega,rfl,by omega,fun e19 h19=>?_⟩
  try (obtain rfl:=aX hy h19)
  refine ⟨by omega,rfl,by omega,fun e23 h23=>?_⟩
  try (obtain rfl:=aX hy h23)
  refine ⟨by first | exact aKi e19 | exact aKi _,⟨by omega,by omega⟩,?_⟩
  exact ⟨k+1,rfl,by omega,by omega⟩
 ·replace c1:=nq c1
  refine ⟨?_,trivial⟩
  ·rfl
abbrev aA8 (x:aT):Prop:=cU Tryz.prog 77 [.agg [.sl 162 3 (x.tables.map aL)],.agg [.sl 162 3 (x.tables.map aL)]] (vB true) []
theorem aDy (x:aT):aA8 x:=by
 refine aV bF aS Tryz.func77 (by kernel_rfl) (.call (vB true) []<| .fin []) (p:=(x.tables.map aL).length≤9223372036854775807→(x.tables.map aL).length≤9223372036854775807→aDx x.tables∧(true)=true∧True) (by kernel_rfl) ?_
 intro n0 n1
 simp only [List.length_map] at n0 n1
 refine ⟨by first | exact aIR x.tables | exact aIR _,?_,trivial⟩
 ·rfl
abbrev aEL (x:aH):Prop:=cU Tryz.prog 286 [.agg [.sl 3 1 (x.columns.map intD),.sl 32 1 (x.values.map aF),.sl 3 1 (x.counts.map intD)],.agg [.sl 3 1 (x.columns.map intD),.sl 32 1 (x.values.map aF),.sl 3 1 (x.counts.map intD)]] (vB true) []
theorem aA9 (x:aH):aEL x:=by
 refine aV bF aS Tryz.func286 (by kernel_rfl) (.call (vB true) []<| .call (vB true) []<| .call (vB true) []<| .fin []) (p:=(x.columns.map intD).length≤9223372036854775807→(x.values.map aF).length≤9223372036854775807→(x.counts.map intD).length≤9223372036854775807→(x.columns.map intD).length≤9223372036854775807→(x.values.map aF).length≤9223372036854775807→(x.counts.map intD).length≤9223372036854775807→jQ x.columns∧aBQ x.values∧jQ x.counts∧(true)=true∧True) (by kernel_rfl) ?_
 intro n0 n1 n2 n3 n4 n5
 simp only [List.length_map] at n0 n1 n2 n3 n4 n5
 refine ⟨by first | exact fW x.columns | exact fW _,by first | exact aC3 x.values | exact aC3 _,by first | exact fW x.counts | exact fW _,?_,trivial⟩
 ·rfl
abbrev uC (x:List aH):Prop:=cU Tryz.prog 275 [.one (.sl 218 3 (x.map aB)),.one (.sl 218 3 (x.map aB))] (vB true) []
theorem zM (x:List aH):uC x:=by
 refine aV bF aS Tryz.func275 (by kernel_rfl) (.len x.length<| .len x.length<| .no<| .loop Nat (Q1 Nat) [5,11,12,13,14,15,16,17,18,19,20,21,22,23,24,25,26] [] (fun k=>[(5,vI (k:Int))]) (fun k=>[]) (fun k=>k≤x.length) (fun k=>x.length - k) (fun k=> .len x.length<| .br (.elem _ aB x (fun e19=> .elem _ aB x (fun e23=> .call (vB true) []<| .back []))) (.fin []))) (p:=(x.map aB).length≤9223372036854775807→(x.map aB).length≤9223372036854775807→Lm aB x∧(Lm aB x∧((!(decide (((x.length:Nat):Int)=((x.length:Nat):Int))))=false∧((∃(k:Nat),(0:Int)=(k:Int)∧k≤x.length)∧ ∀(k:Nat),k≤x.length→Lm aB x∧(((decide ((k:Int)<((x.length:Nat):Int)))=true→0≤(k:Int)∧Em aB x k fun e19=>0≤(k:Int)∧Em aB x k fun e23=>cU Tryz.prog 286 [.agg [.sl 3 1 (e19.columns.map intD),.sl 32 1 (e19.values.map aF),.sl 3 1 (e19.counts.map intD)],.agg [.sl 3 1 (e23.columns.map intD),.sl 32 1 (e23.values.map aF),.sl 3 1 (e23.counts.map intD)]] (vB true) []∧cG ((k:Int)+(1:Int))∧ ∃(k' :Nat),((k:Int)+(1:Int))=(k' :Int)∧k' ≤x.length∧x.length - k' <x.length - k)∧((decide ((k:Int)<((x.length:Nat):Int)))=false→(true)=true∧True)))))) (by kernel_rfl) ?_
 intro n0 n1
 simp only [List.length_map] at n0 n1
 refine ⟨List.length_map _,List.length_map _,by simp,⟨0,rfl,Nat.zero_le _⟩,fun k hk=>?_⟩
 refine ⟨List.length_map _,fun c1=>?_,fun c1=>?_⟩
 ·replace c1:=yq c1
  obtain ⟨y,hy⟩:=bY (l:=x) (k:=k) (by omega)
  refine ⟨by omega,rfl,by omega,fun e19 h19=>?_⟩
  try (obtain rfl:=aX hy h19)
  refine ⟨by omega,rfl,by omega,fun e23 h23=>?_⟩
  try (obtain rfl:=aX hy h23)
  refine ⟨by first | exact aA9 e19 | exact aA9 _,⟨by omega,by omega⟩,?_⟩
  exact ⟨k+1,rfl,by omega,by omega⟩
 ·replace c1:=nq c1
  refine ⟨?_,trivial⟩
  ·rfl
abbrev aEM (x:aC):Prop:=cU Tryz.prog 238 [.agg [.str x.name,.int .i64 x.arity,.int .i64 x.rowCount,.sl 218 3 (x.groups.map aB)],.agg [.str x.name,.int .i64 x.arity,.int .i64 x.rowCount,.sl 218 3 (x.groups.map aB)]] (vB true) []
theorem aAa (x:aC):aEM x:=by
 refine aV bF aS Tryz.func238 (by kernel_rfl) (.no<| .no<| .no<| .call (vB true) []<| .fin []) (p:=(x.groups.map aB).length≤9223372036854775807→(x.groups.map aB).length≤9223372036854775807→(!(x.name.toList==x.name.toList))=false∧(!(decide (x.arity=x.arity)))=false∧(!(decide (x.rowCount=x.rowCount)))=false∧uC x.groups∧(true)=true∧True) (by kernel_rfl) ?_
 intro n0 n1
 simp only [List.length_map] at n0 n1
 refine ⟨by simp,by simp,by simp,by first | exact zM x.groups | exact zM _,?_,trivial⟩
 ·rfl
abbrev uD (x:List aC):Prop:=cU Tryz.prog 157 [.one (.sl 121 4 (x.map aA)),.one (.sl 121 4 (x.map aA))] (vB true) []
theorem zN (x:List aC):uD x:=by
 refine aV bF aS Tryz.func157 (by kernel_rfl) (.len x.length<| .len x.length<| .no<| .loop Nat (Q1 Nat) [5,11,12,13,14,15,16,17,18,19,20,21,22,23,24,25,26] [] (fun k=>[(5,vI (k:Int))]) (fun k=>[]) (fun k=>k≤x.length) (fun k=>x.length - k) (fun k=> .len x.length<| .br (.elem _ aA x (fun e19=> .elem _ aA x (fun e23=> .call (vB true) []<| .back []))) (.fin []))) (p:=(x.map aA).length≤9223372036854775807→(x.map aA).length≤9223372036854775807→Lm aA x∧(Lm aA x∧((!(decide (((x.length:Nat):Int)=((x.length:Nat):Int))))=false∧((∃(k:Nat),(0:Int)=(k:Int)∧k≤x.length)∧ ∀(k:Nat),k≤x.length→Lm aA x∧(((decide ((k:Int)<((x.length:Nat):Int)))=true→0≤(k:Int)∧Em aA x k fun e19=>0≤(k:Int)∧Em aA x k fun e23=>cU Tryz.prog 238 [.agg [.str e19.name,.int .i64 e19.arity,.int .i64 e19.rowCount,.sl 218 3 (e19.groups.map aB)],.agg [.str e23.name,.int .i64 e23.arity,.int .i64 e23.rowCount,.sl 218 3 (e23.groups.map aB)]] (vB true) []∧cG ((k:Int)+(1:Int))∧ ∃(k' :Nat),((k:Int)+(1:Int))=(k' :Int)∧k' ≤x.length∧x.length - k' <x.length - k)∧((decide ((k:Int)<((x.length:Nat):Int)))=false→(true)=true∧True)))))) (by kernel_rfl) ?_
 intro n0 n1
 simp only [List.length_map] at n0 n1
 refine ⟨List.length_map _,List.length_map _,by simp,⟨0,rfl,Nat.zero_le _⟩,fun k hk=>?_⟩
 refine ⟨List.length_map _,fun c1=>?_,fun c1=>?_⟩
 ·replace c1:=yq c1
  obtain ⟨y,hy⟩:=bY (l:=x) (k:=k) (by omega)
  refine ⟨by omega,rfl,by omega,fun e19 h19=>?_⟩
  try (obtain rfl:=aX hy h19)
  refine ⟨by omega,rfl,by omega,fun e23 h23=>?_⟩
  try (obtain rfl:=aX hy h23)
  refine ⟨by first | exact aAa e19 | exact aAa _,⟨by omega,by omega⟩,?_⟩
  exact ⟨k+1,rfl,by omega,by omega⟩
 ·replace c1:=nq c1
  refine ⟨?_,trivial⟩
  ·rfl
abbrev zO (x:bS):Prop:=cU Tryz.prog 78 [.agg [.int .i64 x.version,.sl 121 4 (x.tables.map aA)],.agg [.int .i64 x.version,.sl 121 4 (x.tables.map aA)]] (vB true) []
theorem aC4 (x:bS):zO x:=by
 refine aV bF aS Tryz.func78 (by kernel_rfl) (.no<| .call (vB true) []<| .fin []) (p:=(x.tables.map aA).length≤9223372036854775807→(x.tables.map aA).length≤9223372036854775807→(!(decide (x.version=x.version)))=false∧uD x.tables∧(true)=true∧True) (by kernel_rfl) ?_
 intro n0 n1
 simp only [List.length_map] at n0 n1
 refine ⟨by simp,by first | exact zN x.tables | exact zN _,?_,trivial⟩
 ·rfl
abbrev aEN (x:aM):Prop:=cU Tryz.prog 158 [.agg [.str x.name,.sl 3 1 (x.src.map intD),.int .i64 x.dst],.agg [.str x.name,.sl 3 1 (x.src.map intD),.int .i64 x.dst]] (vB true) []
theorem aAb (x:aM):aEN x:=by
 refine aV bF aS Tryz.func158 (by kernel_rfl) (.no<| .call (vB true) []<| .lit<| .no<| .fin []) (p:=(x.src.map intD).length≤9223372036854775807→(x.src.map intD).length≤9223372036854775807→(!(x.name.toList==x.name.toList))=false∧jQ x.src∧(!(decide (x.dst=x.dst)))=false∧(true)=true∧True) (by kernel_rfl) ?_
 intro n0 n1
 simp only [List.length_map] at n0 n1
 refine ⟨by simp,by first | exact fW x.src | exact fW _,by simp,?_,trivial⟩
 ·rfl
abbrev uE (x:List aM):Prop:=cU Tryz.prog 79 [.one (.sl 168 3 (x.map aD)),.one (.sl 168 3 (x.map aD))] (vB true) []
theorem zP (x:List aM):uE x:=by
 refine aV bF aS Tryz.func79 (by kernel_rfl) (.len x.length<| .len x.length<| .no<| .loop Nat (Q1 Nat) [5,11,12,13,14,15,16,17,18,19,20,21,22,23,24,25,26] [] (fun k=>[(5,vI (k:Int))]) (fun k=>[]) (fun k=>k≤x.length) (fun k=>x.length - k) (fun k=> .len x.length<| .br (.elem _ aD x (fun e19=> .elem _ aD x (fun e23=> .call (vB true) []<| .back []))) (.fin []))) (p:=(x.map aD).length≤9223372036854775807→(x.map aD).length≤9223372036854775807→Lm aD x∧(Lm aD x∧((!(decide (((x.length:Nat):Int)=((x.length:Nat):Int))))=false∧((∃(k:Nat),(0:Int)=(k:Int)∧k≤x.length)∧ ∀(k:Nat),k≤x.length→Lm aD x∧(((decide ((k:Int)<((x.length:Nat):Int)))=true→0≤(k:Int)∧Em aD x k fun e19=>0≤(k:Int)∧Em aD x k fun e23=>cU Tryz.prog 158 [.agg [.str e19.name,.sl 3 1 (e19.src.map intD),.int .i64 e19.dst],.agg [.str e23.name,.sl 3 1 (e23.src.map intD),.int .i64 e23.dst]] (vB true) []∧cG ((k:Int)+(1:Int))∧ ∃(k' :Nat),((k:Int)+(1:Int))=(k' :Int)∧k' ≤x.length∧x.length - k' <x.length - k)∧((decide ((k:Int)<((x.length:Nat):Int)))=false→(true)=true∧True)))))) (by kernel_rfl) ?_
 intro n0 n1
 simp only [List.length_map] at n0 n1
 refine ⟨List.length_map _,List.length_map _,by simp,⟨0,rfl,Nat.zero_le _⟩,fun k hk=>?_⟩
 refine ⟨List.length_map _,fun c1=>?_,fun c1=>?_⟩
 ·replace c1:=yq c1
  obtain ⟨y,hy⟩:=bY (l:=x) (k:=k) (by omega)
  refine ⟨by omega,rfl,by omega,fun e19 h19=>?_⟩
  try (obtain rfl:=aX hy h19)
  refine ⟨by omega,rfl,by omega,fun e23 h23=>?_⟩
  try (obtain rfl:=aX hy h23)
  refine ⟨by first | exact aAb e19 | exact aAb _,⟨by omega,by omega⟩,?_⟩
  exact ⟨k+1,rfl,by omega,by omega⟩
 ·replace c1:=nq c1
  refine ⟨?_,trivial⟩
  ·rfl
abbrev aGY (x:aG):Prop:=cU Tryz.prog 159 [.agg [.str x.name,.int .i64 x.column,.str x.into,.int .i64 x.intoColumn],.agg [.str x.name,.int .i64 x.column,.str x.into,.int .i64 x.intoColumn]] (vB true) []
theorem aC5 (x:aG):aGY x:=by
 refine aV bF aS Tryz.func159 (by kernel_rfl) (.no<| .no<| .no<| .no<| .fin []) (p:=(!(x.name.toList==x.name.toList))=false∧(!(decide (x.column=x.column)))=false∧(!(x.into.toList==x.into.toList))=false∧(!(decide (x.intoColumn=x.intoColumn)))=false∧(true)=true∧True) (by kernel_rfl) ?_
 refine ⟨by simp,by simp,by simp,by simp,?_,trivial⟩
 ·rfl
abbrev wS (x:List aG):Prop:=cU Tryz.prog 80 [.one (.sl 170 4 (x.map aE)),.one (.sl 170 4 (x.map aE))] (vB true) []
theorem aAc (x:List aG):wS x:=by
 refine aV bF aS Tryz.func80 (by kernel_rfl) (.len x.length<| .len x.length<| .no<| .loop Nat (Q1 Nat) [5,11,12,13,14,15,16,17,18,19,20,21,22,23,24,25,26] [] (fun k=>[(5,vI (k:Int))]) (fun k=>[]) (fun k=>k≤x.length) (fun k=>x.length - k) (fun k=> .len x.length<| .br (.elem _ aE x (fun e19=> .elem _ aE x (fun e23=> .call (vB true) []<| .back []))) (.fin []))) (p:=(x.map aE).length≤9223372036854775807→(x.map aE).length≤9223372036854775807→Lm aE x∧(Lm aE x∧((!(decide (((x.length:Nat):Int)=((x.length:Nat):Int))))=false∧((∃(k:Nat),(0:Int)=(k:Int)∧k≤x.length)∧ ∀(k:Nat),k≤x.length→Lm aE x∧(((decide ((k:Int)<((x.length:Nat):Int)))=true→0≤(k:Int)∧Em aE x k fun e19=>0≤(k:Int)∧Em aE x k fun e23=>cU Tryz.prog 159 [.agg [.str e19.name,.int .i64 e19.column,.str e19.into,.int .i64 e19.intoColumn],.agg [.str e23.name,.int .i64 e23.column,.str e23.into,.int .i64 e23.intoColumn]] (vB true) []∧cG ((k:Int)+(1:Int))∧ ∃(k' :Nat),((k:Int)+(1:Int))=(k' :Int)∧k' ≤x.length∧x.length - k' <x.length - k)∧((decide ((k:Int)<((x.length:Nat):Int)))=false→(true)=true∧True)))))) (by kernel_rfl) ?_
 intro n0 n1
 simp only [List.length_map] at n0 n1
 refine ⟨List.length_map _,List.length_map _,by simp,⟨0,rfl,Nat.zero_le _⟩,fun k hk=>?_⟩
 refine ⟨List.length_map _,fun c1=>?_,fun c1=>?_⟩
 ·replace c1:=yq c1
  obtain ⟨y,hy⟩:=bY (l:=x) (k:=k) (by omega)
  refine ⟨by omega,rfl,by omega,fun e19 h19=>?_⟩
  try (obtain rfl:=aX hy h19)
  refine ⟨by omega,rfl,by omega,fun e23 h23=>?_⟩
  try (obtain rfl:=aX hy h23)
  refine ⟨by first | exact aC5 e19 | exact aC5 _,⟨by omega,by omega⟩,?_⟩
  exact ⟨k+1,rfl,by omega,by omega⟩
 ·replace c1:=nq c1
  refine ⟨?_,trivial⟩
  ·rfl
abbrev vU (x:StoreD):Prop:=cU Tryz.prog 19 [.agg [.sl 162 3 (x.database.tables.map aL),.int .i64 x.catalogue.version,.sl 121 4 (x.catalogue.tables.map aA),.sl 168 3 (x.dependencies.map aD),.sl 170 4 (x.inclusions.map aE)],.agg [.sl 162 3 (x.database.tables.map aL),.int .i64 x.catalogue.version,.sl 121 4 (x.catalogue.tables.map aA),.sl 168 3 (x.dependencies.map aD),.sl 170 4 (x.inclusions.map aE)]] (vB true) []
theorem uF (x:StoreD):vU x:=by
 refine aV bF aS Tryz.func19 (by kernel_rfl) (.call (vB true) []<| .call (vB true) []<| .call (vB true) []<| .call (vB true) []<| .fin []) (p:=(x.database.tables.map aL).length≤9223372036854775807→(x.catalogue.tables.map aA).length≤9223372036854775807→(x.dependencies.map aD).length≤9223372036854775807→(x.inclusions.map aE).length≤9223372036854775807→(x.database.tables.map aL).length≤9223372036854775807→(x.catalogue.tables.map aA).length≤9223372036854775807→(x.dependencies.map aD).length≤9223372036854775807→(x.inclusions.map aE).length≤9223372036854775807→aA8 x.database∧zO x.catalogue∧uE x.dependencies∧wS x.inclusions∧(true)=true∧True) (by kernel_rfl) ?_
 intro n0 n1 n2 n3 n4 n5 n6 n7
 simp only [List.length_map] at n0 n1 n2 n3 n4 n5 n6 n7
 refine ⟨by first | exact aDy x.database | exact aDy _,by first | exact aC4 x.catalogue | exact aC4 _,by first | exact zP x.dependencies | exact zP _,by first | exact aAc x.inclusions | exact aAc _,?_,trivial⟩
 ·rfl
abbrev aOM (x:bK):Prop:=cU Tryz.prog 168 [.agg [.str x.name,.sl 3 1 (x.vars.map intD)],.agg [.str x.name,.sl 3 1 (x.vars.map intD)]] (vB true) []
theorem aMm (x:bK):aOM x:=by
 refine aV bF aS Tryz.func168 (by kernel_rfl) (.no<| .call (vB true) []<| .fin []) (p:=(x.vars.map intD).length≤9223372036854775807→(x.vars.map intD).length≤9223372036854775807→(!(x.name.toList==x.name.toList))=false∧jQ x.vars∧(true)=true∧True) (by kernel_rfl) ?_
 intro n0 n1
 simp only [List.length_map] at n0 n1
 refine ⟨by simp,by first | exact fW x.vars | exact fW _,?_,trivial⟩
 ·rfl
abbrev aGZ (x:List bK):Prop:=cU Tryz.prog 97 [.one (.sl 131 2 (x.map aU)),.one (.sl 131 2 (x.map aU))] (vB true) []
theorem aKj (x:List bK):aGZ x:=by
 refine aV bF aS Tryz.func97 (by kernel_rfl) (.len x.length<| .len x.length<| .no<| .loop Nat (Q1 Nat) [5,11,12,13,14,15,16,17,18,19,20,21,22,23,24,25,26] [] (fun k=>[(5,vI (k:Int))]) (fun k=>[]) (fun k=>k≤x.length) (fun k=>x.length - k) (fun k=> .len x.length<| .br (.elem _ aU x (fun e19=> .elem _ aU x (fun e23=> .call (vB true) []<| .back []))) (.fin []))) (p:=(x.map aU).length≤9223372036854775807→(x.map aU).length≤9223372036854775807→Lm aU x∧(Lm aU x∧((!(decide (((x.length:Nat):Int)=((x.length:Nat):Int))))=false∧((∃(k:Nat),(0:Int)=(k:Int)∧k≤x.length)∧ ∀(k:Nat),k≤x.length→Lm aU x∧(((decide ((k:Int)<((x.length:Nat):Int)))=true→0≤(k:Int)∧Em aU x k fun e19=>0≤(k:Int)∧Em aU x k fun e23=>cU Tryz.prog 168 [.agg [.str e19.name,.sl 3 1 (e19.vars.map intD)],.agg [.str e23.name,.sl 3 1 (e23.vars.map intD)]] (vB true) []∧cG ((k:Int)+(1:Int))∧ ∃(k' :Nat),((k:Int)+(1:Int))=(k' :Int)∧k' ≤x.length∧x.length - k' <x.length - k)∧((decide ((k:Int)<((x.length:Nat):Int)))=false→(true)=true∧True)))))) (by kernel_rfl) ?_
 intro n0 n1
 simp only [List.length_map] at n0 n1
 refine ⟨List.length_map _,List.length_map _,by simp,⟨0,rfl,Nat.zero_le _⟩,fun k hk=>?_⟩
 refine ⟨List.length_map _,fun c1=>?_,fun c1=>?_⟩
 ·replace c1:=yq c1
  obtain ⟨y,hy⟩:=bY (l:=x) (k:=k) (by omega)
  refine ⟨by omega,rfl,by omega,fun e19 h19=>?_⟩
  try (obtain rfl:=aX hy h19)
  refine ⟨by omega,rfl,by omega,fun e23 h23=>?_⟩
  try (obtain rfl:=aX hy h23)
  refine ⟨by first | exact aMm e19 | exact aMm _,⟨by omega,by omega⟩,?_⟩
  exact ⟨k+1,rfl,by omega,by omega⟩
 ·replace c1:=nq c1
  refine ⟨?_,trivial⟩
  ·rfl
abbrev vV (x:QueryD):Prop:=cU Tryz.prog 34 [.agg [.int .i64 x.variableCount,.sl 131 2 (x.atoms.map aU)],.agg [.int .i64 x.variableCount,.sl 131 2 (x.atoms.map aU)]] (vB true) []
theorem uG (x:QueryD):vV x:=by
 refine aV bF aS Tryz.func34 (by kernel_rfl) (.no<| .call (vB true) []<| .fin []) (p:=(x.atoms.map aU).length≤9223372036854775807→(x.atoms.map aU).length≤9223372036854775807→(!(decide (x.variableCount=x.variableCount)))=false∧aGZ x.atoms∧(true)=true∧True) (by kernel_rfl) ?_
 intro n0 n1
 simp only [List.length_map] at n0 n1
 refine ⟨by simp,by first | exact aKj x.atoms | exact aKj _,?_,trivial⟩
 ·rfl
end Go.Proofs.YtokkjaflmcjlhaaGreat
