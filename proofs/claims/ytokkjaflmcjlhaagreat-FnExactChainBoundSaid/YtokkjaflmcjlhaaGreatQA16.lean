/-
  Contracts and plain laws, joined: part 17.
-/
import Derived.Test.YtokkjaflmcjlhaaGreatQA3
namespace Go.Proofs.YtokkjaflmcjlhaaGreat
open Go.ChangeShapes Go.WideShapes Go.ChangeAt Go.RowKit
set_option linter.unusedVariables false
set_option linter.unusedSimpArgs false
set_option maxRecDepth 100000
set_option maxHeartbeats 4000000
abbrev rV (x:List Int):Prop:=cO Tryz.prog 38 [.one (.sl 3 1 (x.map intD)),.one (.sl 3 1 (x.map intD))] (vB true) []
theorem mS (x:List Int):rV x:=by
 refine aT bF aQ Tryz.func38 (by kernel_rfl) (.len x.length<| .len x.length<| .no<| .loop Nat (Q1 Nat) [5,11,12,13,14,15,16,17,18,19,20,21,22,23,24,25] [] (fun k=>[(5,vI (k:Int))]) (fun k=>[]) (fun k=>k≤x.length) (fun k=>x.length - k) (fun k=> .len x.length<| .br (.elem _ intD x (fun e19=> .elem _ intD x (fun e23=> .no<| .back []))) (.fin []))) (p:=(x.map intD).length≤9223372036854775807→(x.map intD).length≤9223372036854775807→Lm intD x∧(Lm intD x∧((!(decide (((x.length:Nat):Int)=((x.length:Nat):Int))))=false∧((∃(k:Nat),(0:Int)=(k:Int)∧k≤x.length)∧ ∀(k:Nat),k≤x.length→Lm intD x∧(((decide ((k:Int)<((x.length:Nat):Int)))=true→0≤(k:Int)∧Em intD x k fun e19=>0≤(k:Int)∧Em intD x k fun e23=>(!(decide (e19=e23)))=false∧cL ((k:Int)+(1:Int))∧ ∃(k' :Nat),((k:Int)+(1:Int))=(k' :Int)∧k' ≤x.length∧x.length - k' <x.length - k)∧((decide ((k:Int)<((x.length:Nat):Int)))=false→(true)=true∧True)))))) (by kernel_rfl) ?_
 intro n0 n1
 simp only [List.length_map] at n0 n1
 refine ⟨List.length_map _,List.length_map _,by simp,⟨0,rfl,Nat.zero_le _⟩,fun k hk=>?_⟩
 refine ⟨List.length_map _,fun c1=>?_,fun c1=>?_⟩
 ·replace c1:=yq c1
  obtain ⟨y,hy⟩:=cJ (l:=x) (k:=k) (by omega)
  refine ⟨by omega,rfl,by omega,fun e19 h19=>?_⟩
  try (obtain rfl:=bA hy h19)
  refine ⟨by omega,rfl,by omega,fun e23 h23=>?_⟩
  try (obtain rfl:=bA hy h23)
  refine ⟨by simp,⟨by omega,by omega⟩,?_⟩
  exact ⟨k+1,rfl,by omega,by omega⟩
 ·replace c1:=nq c1
  refine ⟨?_,trivial⟩
  ·rfl
abbrev aAE (x:List (List Int)):Prop:=cO Tryz.prog 274 [.one (.sl 32 1 (x.map aC)),.one (.sl 32 1 (x.map aC))] (vB true) []
theorem aBE (x:List (List Int)):aAE x:=by
 refine aT bF aQ Tryz.func274 (by kernel_rfl) (.len x.length<| .len x.length<| .no<| .loop Nat (Q1 Nat) [5,11,12,13,14,15,16,17,18,19,20,21,22,23,24,25,26] [] (fun k=>[(5,vI (k:Int))]) (fun k=>[]) (fun k=>k≤x.length) (fun k=>x.length - k) (fun k=> .len x.length<| .br (.elem _ aC x (fun e19=> .elem _ aC x (fun e23=> .call (vB true) []<| .back []))) (.fin []))) (p:=(x.map aC).length≤9223372036854775807→(x.map aC).length≤9223372036854775807→Lm aC x∧(Lm aC x∧((!(decide (((x.length:Nat):Int)=((x.length:Nat):Int))))=false∧((∃(k:Nat),(0:Int)=(k:Int)∧k≤x.length)∧ ∀(k:Nat),k≤x.length→Lm aC x∧(((decide ((k:Int)<((x.length:Nat):Int)))=true→0≤(k:Int)∧Em aC x k fun e19=>0≤(k:Int)∧Em aC x k fun e23=>cO Tryz.prog 38 [.one (.sl 3 1 (e19.map intD)),.one (.sl 3 1 (e23.map intD))] (vB true) []∧cL ((k:Int)+(1:Int))∧ ∃(k' :Nat),((k:Int)+(1:Int))=(k' :Int)∧k' ≤x.length∧x.length - k' <x.length - k)∧((decide ((k:Int)<((x.length:Nat):Int)))=false→(true)=true∧True)))))) (by kernel_rfl) ?_
 intro n0 n1
 simp only [List.length_map] at n0 n1
 refine ⟨List.length_map _,List.length_map _,by simp,⟨0,rfl,Nat.zero_le _⟩,fun k hk=>?_⟩
 refine ⟨List.length_map _,fun c1=>?_,fun c1=>?_⟩
 ·replace c1:=yq c1
  obtain ⟨y,hy⟩:=cJ (l:=x) (k:=k) (by omega)
  refine ⟨by omega,rfl,by omega,fun e19 h19=>?_⟩
  try (obtain rfl:=bA hy h19)
  refine ⟨by omega,rfl,by omega,fun e23 h23=>?_⟩
  try (obtain rfl:=bA hy h23)
  refine ⟨by first | exact mS e19 | exact mS _,⟨by omega,by omega⟩,?_⟩
  exact ⟨k+1,rfl,by omega,by omega⟩
 ·replace c1:=nq c1
  refine ⟨?_,trivial⟩
  ·rfl
abbrev aJv (x:aS):Prop:=cO Tryz.prog 237 [.agg [.str x.name,.int .i64 x.arity,.sl 32 1 (x.rows.map aC)],.agg [.str x.name,.int .i64 x.arity,.sl 32 1 (x.rows.map aC)]] (vB true) []
theorem aIw (x:aS):aJv x:=by
 refine aT bF aQ Tryz.func237 (by kernel_rfl) (.no<| .no<| .call (vB true) []<| .fin []) (p:=(x.rows.map aC).length≤9223372036854775807→(x.rows.map aC).length≤9223372036854775807→(!(x.name.toList==x.name.toList))=false∧(!(decide (x.arity=x.arity)))=false∧aAE x.rows∧(true)=true∧True) (by kernel_rfl) ?_
 intro n0 n1
 simp only [List.length_map] at n0 n1
 refine ⟨by simp,by simp,by first | exact aBE x.rows | exact aBE _,?_,trivial⟩
 ·rfl
abbrev aC7 (x:List aS):Prop:=cO Tryz.prog 156 [.one (.sl 162 3 (x.map aO)),.one (.sl 162 3 (x.map aO))] (vB true) []
theorem aGa (x:List aS):aC7 x:=by
 refine aT bF aQ Tryz.func156 (by kernel_rfl) (.len x.length<| .len x.length<| .no<| .loop Nat (Q1 Nat) [5,11,12,13,14,15,16,17,18,19,20,21,22,23,24,25,26] [] (fun k=>[(5,vI (k:Int))]) (fun k=>[]) (fun k=>k≤x.length) (fun k=>x.length - k) (fun k=> .len x.length<| .br (.elem _ aO x (fun e19=> .elem _ aO x (fun e23=> .call (vB true) []<| .back []))) (.fin []))) (p:=(x.map aO).length≤9223372036854775807→(x.map aO).length≤9223372036854775807→Lm aO x∧(Lm aO x∧((!(decide (((x.length:Nat):Int)=((x.length:Nat):Int))))=false∧((∃(k:Nat),(0:Int)=(k:Int)∧k≤x.length)∧ ∀(k:Nat),k≤x.length→Lm aO x∧(((decide ((k:Int)<((x.length:Nat):Int)))=true→0≤(k:Int)∧Em aO x k fun e19=>0≤(k:Int)∧Em aO x k fun e23=>cO Tryz.prog 237 [.agg [.str e19.name,.int .i64 e19.arity,.sl 32 1 (e19.rows.map aC)],.agg [.str e23.name,.int .i64 e23.arity,.sl 32 1 (e23.rows.map aC)]] (vB true) []∧cL ((k:Int)+(1:Int))∧ ∃(k' :Nat),((k:Int)+(1:Int))=(k' :Int)∧k' ≤x.length∧x.length - k' <x.length - k)∧((decide ((k:Int)<((x.length:Nat):Int)))=false→(true)=true∧True)))))) (by kernel_rfl) ?_
 intro n0 n1
 simp only [List.length_map] at n0 n1
 refine ⟨List.length_map _,List.length_map _,by simp,⟨0,rfl,Nat.zero_le _⟩,fun k hk=>?_⟩
 refine ⟨List.length_map _,fun c1=>?_,fun c1=>?_⟩
 ·replace c1:=yq c1
  obtain ⟨y,hy⟩:=cJ (l:=x) (k:=k) (by omega)
  refine ⟨by omega,rfl,by omega,fun e19 h19=>?_⟩
  try (obtain rfl:=bA hy h19)
  refine ⟨by omega,rfl,by omega,fun e23 h23=>?_⟩
  try (obtain rfl:=bA hy h23)
  refine ⟨by first | exact aIw e19 | exact aIw _,⟨by omega,by omega⟩,?_⟩
  exact ⟨k+1,rfl,by omega,by omega⟩
 ·replace c1:=nq c1
  refine ⟨?_,trivial⟩
  ·rfl
abbrev yL (x:aR):Prop:=cO Tryz.prog 77 [.agg [.sl 162 3 (x.tables.map aO)],.agg [.sl 162 3 (x.tables.map aO)]] (vB true) []
theorem aC8 (x:aR):yL x:=by
 refine aT bF aQ Tryz.func77 (by kernel_rfl) (.call (vB true) []<| .fin []) (p:=(x.tables.map aO).length≤9223372036854775807→(x.tables.map aO).length≤9223372036854775807→aC7 x.tables∧(true)=true∧True) (by kernel_rfl) ?_
 intro n0 n1
 simp only [List.length_map] at n0 n1
 refine ⟨by first | exact aGa x.tables | exact aGa _,?_,trivial⟩
 ·rfl
abbrev aCm (x:aN):Prop:=cO Tryz.prog 286 [.agg [.sl 3 1 (x.columns.map intD),.sl 32 1 (x.values.map aC),.sl 3 1 (x.counts.map intD)],.agg [.sl 3 1 (x.columns.map intD),.sl 32 1 (x.values.map aC),.sl 3 1 (x.counts.map intD)]] (vB true) []
theorem yM (x:aN):aCm x:=by
 refine aT bF aQ Tryz.func286 (by kernel_rfl) (.call (vB true) []<| .call (vB true) []<| .call (vB true) []<| .fin []) (p:=(x.columns.map intD).length≤9223372036854775807→(x.values.map aC).length≤9223372036854775807→(x.counts.map intD).length≤9223372036854775807→(x.columns.map intD).length≤9223372036854775807→(x.values.map aC).length≤9223372036854775807→(x.counts.map intD).length≤9223372036854775807→rV x.columns∧aAE x.values∧rV x.counts∧(true)=true∧True) (by kernel_rfl) ?_
 intro n0 n1 n2 n3 n4 n5
 simp only [List.length_map] at n0 n1 n2 n3 n4 n5
 refine ⟨by first | exact mS x.columns | exact mS _,by first | exact aBE x.values | exact aBE _,by first | exact mS x.counts | exact mS _,?_,trivial⟩
 ·rfl
abbrev rW (x:List aN):Prop:=cO Tryz.prog 275 [.one (.sl 218 3 (x.map aA)),.one (.sl 218 3 (x.map aA))] (vB true) []
theorem wT (x:List aN):rW x:=by
 refine aT bF aQ Tryz.func275 (by kernel_rfl) (.len x.length<| .len x.length<| .no<| .loop Nat (Q1 Nat) [5,11,12,13,14,15,16,17,18,19,20,21,22,23,24,25,26] [] (fun k=>[(5,vI (k:Int))]) (fun k=>[]) (fun k=>k≤x.length) (fun k=>x.length - k) (fun k=> .len x.length<| .br (.elem _ aA x (fun e19=> .elem _ aA x (fun e23=> .call (vB true) []<| .back []))) (.fin []))) (p:=(x.map aA).length≤9223372036854775807→(x.map aA).length≤9223372036854775807→Lm aA x∧(Lm aA x∧((!(decide (((x.length:Nat):Int)=((x.length:Nat):Int))))=false∧((∃(k:Nat),(0:Int)=(k:Int)∧k≤x.length)∧ ∀(k:Nat),k≤x.length→Lm aA x∧(((decide ((k:Int)<((x.length:Nat):Int)))=true→0≤(k:Int)∧Em aA x k fun e19=>0≤(k:Int)∧Em aA x k fun e23=>cO Tryz.prog 286 [.agg [.sl 3 1 (e19.columns.map intD),.sl 32 1 (e19.values.map aC),.sl 3 1 (e19.counts.map intD)],.agg [.sl 3 1 (e23.columns.map intD),.sl 32 1 (e23.values.map aC),.sl 3 1 (e23.counts.map intD)]] (vB true) []∧cL ((k:Int)+(1:Int))∧ ∃(k' :Nat),((k:Int)+(1:Int))=(k' :Int)∧k' ≤x.length∧x.length - k' <x.length - k)∧((decide ((k:Int)<((x.length:Nat):Int)))=false→(true)=true∧True)))))) (by kernel_rfl) ?_
 intro n0 n1
 simp only [List.length_map] at n0 n1
 refine ⟨List.length_map _,List.length_map _,by simp,⟨0,rfl,Nat.zero_le _⟩,fun k hk=>?_⟩
 refine ⟨List.length_map _,fun c1=>?_,fun c1=>?_⟩
 ·replace c1:=yq c1
  obtain ⟨y,hy⟩:=cJ (l:=x) (k:=k) (by omega)
  refine ⟨by omega,rfl,by omega,fun e19 h19=>?_⟩
  try (obtain rfl:=bA hy h19)
  refine ⟨by omega,rfl,by omega,fun e23 h23=>?_⟩
  try (obtain rfl:=bA hy h23)
  refine ⟨by first | exact yM e19 | exact yM _,⟨by omega,by omega⟩,?_⟩
  exact ⟨k+1,rfl,by omega,by omega⟩
 ·replace c1:=nq c1
  refine ⟨?_,trivial⟩
  ·rfl
abbrev aCn (x:aF):Prop:=cO Tryz.prog 238 [.agg [.str x.name,.int .i64 x.arity,.int .i64 x.rowCount,.sl 218 3 (x.groups.map aA)],.agg [.str x.name,.int .i64 x.arity,.int .i64 x.rowCount,.sl 218 3 (x.groups.map aA)]] (vB true) []
theorem yN (x:aF):aCn x:=by
 refine aT bF aQ Tryz.func238 (by kernel_rfl) (.no<| .no<| .no<| .call (vB true) []<| .fin []) (p:=(x.groups.map aA).length≤9223372036854775807→(x.groups.map aA).length≤9223372036854775807→(!(x.name.toList==x.name.toList))=false∧(!(decide (x.arity=x.arity)))=false∧(!(decide (x.rowCount=x.rowCount)))=false∧rW x.groups∧(true)=true∧True) (by kernel_rfl) ?_
 intro n0 n1
 simp only [List.length_map] at n0 n1
 refine ⟨by simp,by simp,by simp,by first | exact wT x.groups | exact wT _,?_,trivial⟩
 ·rfl
abbrev rX (x:List aF):Prop:=cO Tryz.prog 157 [.one (.sl 121 4 (x.map aB)),.one (.sl 121 4 (x.map aB))] (vB true) []
theorem wU (x:List aF):rX x:=by
 refine aT bF aQ Tryz.func157 (by kernel_rfl) (.len x.length<| .len x.length<| .no<| .loop Nat (Q1 Nat) [5,11,12,13,14,15,16,17,18,19,20,21,22,23,24,25,26] [] (fun k=>[(5,vI (k:Int))]) (fun k=>[]) (fun k=>k≤x.length) (fun k=>x.length - k) (fun k=> .len x.length<| .br (.elem _ aB x (fun e19=> .elem _ aB x (fun e23=> .call (vB true) []<| .back []))) (.fin []))) (p:=(x.map aB).length≤9223372036854775807→(x.map aB).length≤9223372036854775807→Lm aB x∧(Lm aB x∧((!(decide (((x.length:Nat):Int)=((x.length:Nat):Int))))=false∧((∃(k:Nat),(0:Int)=(k:Int)∧k≤x.length)∧ ∀(k:Nat),k≤x.length→Lm aB x∧(((decide ((k:Int)<((x.length:Nat):Int)))=true→0≤(k:Int)∧Em aB x k fun e19=>0≤(k:Int)∧Em aB x k fun e23=>cO Tryz.prog 238 [.agg [.str e19.name,.int .i64 e19.arity,.int .i64 e19.rowCount,.sl 218 3 (e19.groups.map aA)],.agg [.str e23.name,.int .i64 e23.arity,.int .i64 e23.rowCount,.sl 218 3 (e23.groups.map aA)]] (vB true) []∧cL ((k:Int)+(1:Int))∧ ∃(k' :Nat),((k:Int)+(1:Int))=(k' :Int)∧k' ≤x.length∧x.length - k' <x.length - k)∧((decide ((k:Int)<((x.length:Nat):Int)))=false→(true)=true∧True)))))) (by kernel_rfl) ?_
 intro n0 n1
 simp only [List.length_map] at n0 n1
 refine ⟨List.length_map _,List.length_map _,by simp,⟨0,rfl,Nat.zero_le _⟩,fun k hk=>?_⟩
 refine ⟨List.length_map _,fun c1=>?_,fun c1=>?_⟩
 ·replace c1:=yq c1
  obtain ⟨y,hy⟩:=cJ (l:=x) (k:=k) (by omega)
  refine ⟨by omega,rfl,by omega,fun e19 h19=>?_⟩
  try (obtain rfl:=bA hy h19)
  refine ⟨by omega,rfl,by omega,fun e23 h23=>?_⟩
  try (obtain rfl:=bA hy h23)
  refine ⟨by first | exact yN e19 | exact yN _,⟨by omega,by omega⟩,?_⟩
  exact ⟨k+1,rfl,by omega,by omega⟩
 ·replace c1:=nq c1
  refine ⟨?_,trivial⟩
  ·rfl
abbrev wV (x:cA):Prop:=cO Tryz.prog 78 [.agg [.int .i64 x.version,.sl 121 4 (x.tables.map aB)],.agg [.int .i64 x.version,.sl 121 4 (x.tables.map aB)]] (vB true) []
theorem aBF (x:cA):wV x:=by
 refine aT bF aQ Tryz.func78 (by kernel_rfl) (.no<| .call (vB true) []<| .fin []) (p:=(x.tables.map aB).length≤9223372036854775807→(x.tables.map aB).length≤9223372036854775807→(!(decide (x.version=x.version)))=false∧rX x.tables∧(true)=true∧True) (by kernel_rfl) ?_
 intro n0 n1
 simp only [List.length_map] at n0 n1
 refine ⟨by simp,by first | exact wU x.tables | exact wU _,?_,trivial⟩
 ·rfl
abbrev aCo (x:aW):Prop:=cO Tryz.prog 158 [.agg [.str x.name,.sl 3 1 (x.src.map intD),.int .i64 x.dst],.agg [.str x.name,.sl 3 1 (x.src.map intD),.int .i64 x.dst]] (vB true) []
theorem yO (x:aW):aCo x:=by
 refine aT bF aQ Tryz.func158 (by kernel_rfl) (.no<| .call (vB true) []<| .lit<| .no<| .fin []) (p:=(x.src.map intD).length≤9223372036854775807→(x.src.map intD).length≤9223372036854775807→(!(x.name.toList==x.name.toList))=false∧rV x.src∧(!(decide (x.dst=x.dst)))=false∧(true)=true∧True) (by kernel_rfl) ?_
 intro n0 n1
 simp only [List.length_map] at n0 n1
 refine ⟨by simp,by first | exact mS x.src | exact mS _,by simp,?_,trivial⟩
 ·rfl
abbrev rY (x:List aW):Prop:=cO Tryz.prog 79 [.one (.sl 168 3 (x.map aH)),.one (.sl 168 3 (x.map aH))] (vB true) []
theorem wW (x:List aW):rY x:=by
 refine aT bF aQ Tryz.func79 (by kernel_rfl) (.len x.length<| .len x.length<| .no<| .loop Nat (Q1 Nat) [5,11,12,13,14,15,16,17,18,19,20,21,22,23,24,25,26] [] (fun k=>[(5,vI (k:Int))]) (fun k=>[]) (fun k=>k≤x.length) (fun k=>x.length - k) (fun k=> .len x.length<| .br (.elem _ aH x (fun e19=> .elem _ aH x (fun e23=> .call (vB true) []<| .back []))) (.fin []))) (p:=(x.map aH).length≤9223372036854775807→(x.map aH).length≤9223372036854775807→Lm aH x∧(Lm aH x∧((!(decide (((x.length:Nat):Int)=((x.length:Nat):Int))))=false∧((∃(k:Nat),(0:Int)=(k:Int)∧k≤x.length)∧ ∀(k:Nat),k≤x.length→Lm aH x∧(((decide ((k:Int)<((x.length:Nat):Int)))=true→0≤(k:Int)∧Em aH x k fun e19=>0≤(k:Int)∧Em aH x k fun e23=>cO Tryz.prog 158 [.agg [.str e19.name,.sl 3 1 (e19.src.map intD),.int .i64 e19.dst],.agg [.str e23.name,.sl 3 1 (e23.src.map intD),.int .i64 e23.dst]] (vB true) []∧cL ((k:Int)+(1:Int))∧ ∃(k' :Nat),((k:Int)+(1:Int))=(k' :Int)∧k' ≤x.length∧x.length - k' <x.length - k)∧((decide ((k:Int)<((x.length:Nat):Int)))=false→(true)=true∧True)))))) (by kernel_rfl) ?_
 intro n0 n1
 simp only [List.length_map] at n0 n1
 refine ⟨List.length_map _,List.length_map _,by simp,⟨0,rfl,Nat.zero_le _⟩,fun k hk=>?_⟩
 refine ⟨List.length_map _,fun c1=>?_,fun c1=>?_⟩
 ·replace c1:=yq c1
  obtain ⟨y,hy⟩:=cJ (l:=x) (k:=k) (by omega)
  refine ⟨by omega,rfl,by omega,fun e19 h19=>?_⟩
  try (obtain rfl:=bA hy h19)
  refine ⟨by omega,rfl,by omega,fun e23 h23=>?_⟩
  try (obtain rfl:=bA hy h23)
  refine ⟨by first | exact yO e19 | exact yO _,⟨by omega,by omega⟩,?_⟩
  exact ⟨k+1,rfl,by omega,by omega⟩
 ·replace c1:=nq c1
  refine ⟨?_,trivial⟩
  ·rfl
abbrev aEv (x:aU):Prop:=cO Tryz.prog 159 [.agg [.str x.name,.int .i64 x.column,.str x.into,.int .i64 x.intoColumn],.agg [.str x.name,.int .i64 x.column,.str x.into,.int .i64 x.intoColumn]] (vB true) []
theorem aBG (x:aU):aEv x:=by
 refine aT bF aQ Tryz.func159 (by kernel_rfl) (.no<| .no<| .no<| .no<| .fin []) (p:=(!(x.name.toList==x.name.toList))=false∧(!(decide (x.column=x.column)))=false∧(!(x.into.toList==x.into.toList))=false∧(!(decide (x.intoColumn=x.intoColumn)))=false∧(true)=true∧True) (by kernel_rfl) ?_
 refine ⟨by simp,by simp,by simp,by simp,?_,trivial⟩
 ·rfl
abbrev uD (x:List aU):Prop:=cO Tryz.prog 80 [.one (.sl 170 4 (x.map aJ)),.one (.sl 170 4 (x.map aJ))] (vB true) []
theorem yP (x:List aU):uD x:=by
 refine aT bF aQ Tryz.func80 (by kernel_rfl) (.len x.length<| .len x.length<| .no<| .loop Nat (Q1 Nat) [5,11,12,13,14,15,16,17,18,19,20,21,22,23,24,25,26] [] (fun k=>[(5,vI (k:Int))]) (fun k=>[]) (fun k=>k≤x.length) (fun k=>x.length - k) (fun k=> .len x.length<| .br (.elem _ aJ x (fun e19=> .elem _ aJ x (fun e23=> .call (vB true) []<| .back []))) (.fin []))) (p:=(x.map aJ).length≤9223372036854775807→(x.map aJ).length≤9223372036854775807→Lm aJ x∧(Lm aJ x∧((!(decide (((x.length:Nat):Int)=((x.length:Nat):Int))))=false∧((∃(k:Nat),(0:Int)=(k:Int)∧k≤x.length)∧ ∀(k:Nat),k≤x.length→Lm aJ x∧(((decide ((k:Int)<((x.length:Nat):Int)))=true→0≤(k:Int)∧Em aJ x k fun e19=>0≤(k:Int)∧Em aJ x k fun e23=>cO Tryz.prog 159 [.agg [.str e19.name,.int .i64 e19.column,.str e19.into,.int .i64 e19.intoColumn],.agg [.str e23.name,.int .i64 e23.column,.str e23.into,.int .i64 e23.intoColumn]] (vB true) []∧cL ((k:Int)+(1:Int))∧ ∃(k' :Nat),((k:Int)+(1:Int))=(k' :Int)∧k' ≤x.length∧x.length - k' <x.length - k)∧((decide ((k:Int)<((x.length:Nat):Int)))=false→(true)=true∧True)))))) (by kernel_rfl) ?_
 intro n0 n1
 simp only [List.length_map] at n0 n1
 refine ⟨List.length_map _,List.length_map _,by simp,⟨0,rfl,Nat.zero_le _⟩,fun k hk=>?_⟩
 refine ⟨List.length_map _,fun c1=>?_,fun c1=>?_⟩
 ·replace c1:=yq c1
  obtain ⟨y,hy⟩:=cJ (l:=x) (k:=k) (by omega)
  refine ⟨by omega,rfl,by omega,fun e19 h19=>?_⟩
  try (obtain rfl:=bA hy h19)
  refine ⟨by omega,rfl,by omega,fun e23 h23=>?_⟩
  try (obtain rfl:=bA hy h23)
  refine ⟨by first | exact aBG e19 | exact aBG _,⟨by omega,by omega⟩,?_⟩
  exact ⟨k+1,rfl,by omega,by omega⟩
 ·replace c1:=nq c1
  refine ⟨?_,trivial⟩
  ·rfl
abbrev tM (x:StoreD):Prop:=cO Tryz.prog 19 [.agg [.sl 162 3 (x.database.tables.map aO),.int .i64 x.catalogue.version,.sl 121 4 (x.catalogue.tables.map aB),.sl 168 3 (x.dependencies.map aH),.sl 170 4 (x.inclusions.map aJ)],.agg [.sl 162 3 (x.database.tables.map aO),.int .i64 x.catalogue.version,.sl 121 4 (x.catalogue.tables.map aB),.sl 168 3 (x.dependencies.map aH),.sl 170 4 (x.inclusions.map aJ)]] (vB true) []
theorem rZ (x:StoreD):tM x:=by
 refine aT bF aQ Tryz.func19 (by kernel_rfl) (.call (vB true) []<| .call (vB true) []<| .call (vB true) []<| .call (vB true) []<| .fin []) (p:=(x.database.tables.map aO).length≤9223372036854775807→(x.catalogue.tables.map aB).length≤9223372036854775807→(x.dependencies.map aH).length≤9223372036854775807→(x.inclusions.map aJ).length≤9223372036854775807→(x.database.tables.map aO).length≤9223372036854775807→(x.catalogue.tables.map aB).length≤9223372036854775807→(x.dependencies.map aH).length≤9223372036854775807→(x.inclusions.map aJ).length≤9223372036854775807→yL x.database∧wV x.catalogue∧rY x.dependencies∧uD x.inclusions∧(true)=true∧True) (by kernel_rfl) ?_
 intro n0 n1 n2 n3 n4 n5 n6 n7
 simp only [List.length_map] at n0 n1 n2 n3 n4 n5 n6 n7
 refine ⟨by first | exact aC8 x.database | exact aC8 _,by first | exact aBF x.catalogue | exact aBF _,by first | exact wW x.dependencies | exact wW _,by first | exact yP x.inclusions | exact yP _,?_,trivial⟩
 ·rfl
abbrev aMK (x:dF):Prop:=cO Tryz.prog 168 [.agg [.str x.name,.sl 3 1 (x.vars.map intD)],.agg [.str x.name,.sl 3 1 (x.vars.map intD)]] (vB true) []
theorem aKl (x:dF):aMK x:=by
 refine aT bF aQ Tryz.func168 (by kernel_rfl) (.no<| .call (vB true) []<| .fin []) (p:=(x.vars.map intD).length≤9223372036854775807→(x.vars.map intD).length≤9223372036854775807→(!(x.name.toList==x.name.toList))=false∧rV x.vars∧(true)=true∧True) (by kernel_rfl) ?_
 intro n0 n1
 simp only [List.length_map] at n0 n1
 refine ⟨by simp,by first | exact mS x.vars | exact mS _,?_,trivial⟩
 ·rfl
abbrev aEw (x:List dF):Prop:=cO Tryz.prog 97 [.one (.sl 131 2 (x.map aV)),.one (.sl 131 2 (x.map aV))] (vB true) []
theorem aIx (x:List dF):aEw x:=by
 refine aT bF aQ Tryz.func97 (by kernel_rfl) (.len x.length<| .len x.length<| .no<| .loop Nat (Q1 Nat) [5,11,12,13,14,15,16,17,18,19,20,21,22,23,24,25,26] [] (fun k=>[(5,vI (k:Int))]) (fun k=>[]) (fun k=>k≤x.length) (fun k=>x.length - k) (fun k=> .len x.length<| .br (.elem _ aV x (fun e19=> .elem _ aV x (fun e23=> .call (vB true) []<| .back []))) (.fin []))) (p:=(x.map aV).length≤9223372036854775807→(x.map aV).length≤9223372036854775807→Lm aV x∧(Lm aV x∧((!(decide (((x.length:Nat):Int)=((x.length:Nat):Int))))=false∧((∃(k:Nat),(0:Int)=(k:Int)∧k≤x.length)∧ ∀(k:Nat),k≤x.length→Lm aV x∧(((decide ((k:Int)<((x.length:Nat):Int)))=true→0≤(k:Int)∧Em aV x k fun e19=>0≤(k:Int)∧Em aV x k fun e23=>cO Tryz.prog 168 [.agg [.str e19.name,.sl 3 1 (e19.vars.map intD)],.agg [.str e23.name,.sl 3 1 (e23.vars.map intD)]] (vB true) []∧cL ((k:Int)+(1:Int))∧ ∃(k' :Nat),((k:Int)+(1:Int))=(k' :Int)∧k' ≤x.length∧x.length - k' <x.length - k)∧((decide ((k:Int)<((x.length:Nat):Int)))=false→(true)=true∧True)))))) (by kernel_rfl) ?_
 intro n0 n1
 simp only [List.length_map] at n0 n1
 refine ⟨List.length_map _,List.length_map _,by simp,⟨0,rfl,Nat.zero_le _⟩,fun k hk=>?_⟩
 refine ⟨List.length_map _,fun c1=>?_,fun c1=>?_⟩
 ·replace c1:=yq c1
  obtain ⟨y,hy⟩:=cJ (l:=x) (k:=k) (by omega)
  refine ⟨by omega,rfl,by omega,fun e19 h19=>?_⟩
  try (obtain rfl:=bA hy h19)
  refine ⟨by omega,rfl,by omega,fun e23 h23=>?_⟩
  try (obtain rfl:=bA hy h23)
  refine ⟨by first | exact aKl e19 | exact aKl _,⟨by omega,by omega⟩,?_⟩
  exact ⟨k+1,rfl,by omega,by omega⟩
 ·replace c1:=nq c1
  refine ⟨?_,trivial⟩
  ·rfl
abbrev tN (x:QueryD):Prop:=cO Tryz.prog 34 [.agg [.int .i64 x.variableCount,.sl 131 2 (x.atoms.map aV)],.agg [.int .i64 x.variableCount,.sl 131 2 (x.atoms.map aV)]] (vB true) []
theorem sA (x:QueryD):tN x:=by
 refine aT bF aQ Tryz.func34 (by kernel_rfl) (.no<| .call (vB true) []<| .fin []) (p:=(x.atoms.map aV).length≤9223372036854775807→(x.atoms.map aV).length≤9223372036854775807→(!(decide (x.variableCount=x.variableCount)))=false∧aEw x.atoms∧(true)=true∧True) (by kernel_rfl) ?_
 intro n0 n1
 simp only [List.length_map] at n0 n1
 refine ⟨by simp,by first | exact aIx x.atoms | exact aIx _,?_,trivial⟩
 ·rfl
end Go.Proofs.YtokkjaflmcjlhaaGreat
