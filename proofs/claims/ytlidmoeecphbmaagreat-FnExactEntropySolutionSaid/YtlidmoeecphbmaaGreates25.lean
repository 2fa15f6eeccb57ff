/-
  Contracts and plain laws, joined: part 26.
-/
import Derived.Test.YtlidmoeecphbmaaGreates3
namespace Go.Proofs.YtlidmoeecphbmaaGreat
open Go.ChangeShapes Go.WideShapes Go.ChangeAt Go.RowKit
set_option linter.unusedVariables false
set_option linter.unusedSimpArgs false
set_option maxRecDepth 100000
set_option maxHeartbeats 4000000
abbrev xL (x:List Int):Prop:=Cn 121 [.one (.sl 3 1 (x.map intD)),.one (.sl 3 1 (x.map intD))] (vB true) []
theorem aEj (x:List Int):xL x:=by
 refine cq Tryz.func121 (.len x.length<| .len x.length<| .no<| .loop Nat (Q1 Nat) ([5]++rg 11 15) [] (fun k=>[(5,vI (k:Int))]) (fun k=>[]) (fun k=>k<=x.length) (fun k=>x.length - k) (fun k=> .len x.length<| .br (.elem _ intD x (fun e19=> .elem _ intD x (fun e23=> .no<| .back []))) (.fin []))) (p:=Lx (x.map intD)<| Lx (x.map intD)<| Lm intD x/\(Lm intD x/\((!(decide ((x.length:Int)=(x.length:Int))))=false/\((∃(k:Nat),0=(k:Int)/\k<=x.length)/\ ∀(k:Nat),k<=x.length->Lm intD x/\Br ((k:Int)<(x.length:Int)) (0<=(k:Int)/\Em intD x k fun e19=>0<=(k:Int)/\Em intD x k fun e23=>(!(decide (e19=e23)))=false/\bK ((k:Int)+1)/\ ∃(k' :Nat),((k:Int)+1)=(k' :Int)/\k' <=x.length/\x.length - k' <x.length - k) ((true)=true/\True))))) (by kernel_rfl) ?_;refine lx fun n0=>lx fun n1=>?_;refine⟨aAH _,aAH _,by simp,⟨0,rfl,aDB _⟩,fun k hk=>?_⟩;refine⟨aAH _,dd (fun c1=>?_) fun c1=>?_⟩
 ·obtain⟨y,hy⟩:=cK (l:=x) (k:=k) (by omega);refine⟨by omega,rfl,by omega,fun e19 h19=>?_⟩
  try (obtain rfl:=aY hy h19)
  refine⟨by omega,rfl,by omega,fun e23 h23=>?_⟩
  try (obtain rfl:=aY hy h23)
  refine⟨by simp,⟨by omega,by omega⟩,?_⟩;exact⟨k+1,rfl,by omega,by omega⟩
 ·apply et1
  ·rfl
abbrev aDa (x:List (List Int)):Prop:=Cn 175 [.one (.sl 91 1 (x.map aE)),.one (.sl 91 1 (x.map aE))] (vB true) []
theorem aPx (x:List (List Int)):aDa x:=by
 refine cq Tryz.func175 (.len x.length<| .len x.length<| .no<| .loop Nat (Q1 Nat) ([5]++rg 11 16) [] (fun k=>[(5,vI (k:Int))]) (fun k=>[]) (fun k=>k<=x.length) (fun k=>x.length - k) (fun k=> .len x.length<| .br (.elem _ aE x (fun e19=> .elem _ aE x (fun e23=> .call (vB true) []<| .back []))) (.fin []))) (p:=Lx (x.map aE)<| Lx (x.map aE)<| Lm aE x/\(Lm aE x/\((!(decide ((x.length:Int)=(x.length:Int))))=false/\((∃(k:Nat),0=(k:Int)/\k<=x.length)/\ ∀(k:Nat),k<=x.length->Lm aE x/\Br ((k:Int)<(x.length:Int)) (0<=(k:Int)/\Em aE x k fun e19=>0<=(k:Int)/\Em aE x k fun e23=>rM Tryz.prog 121 [.one (.sl 3 1 (e19.map intD)),.one (.sl 3 1 (e23.map intD))] (vB true) []/\bK ((k:Int)+1)/\ ∃(k' :Nat),((k:Int)+1)=(k' :Int)/\k' <=x.length/\x.length - k' <x.length - k) ((true)=true/\True))))) (by kernel_rfl) ?_;refine lx fun n0=>lx fun n1=>?_;refine⟨aAH _,aAH _,by simp,⟨0,rfl,aDB _⟩,fun k hk=>?_⟩;refine⟨aAH _,dd (fun c1=>?_) fun c1=>?_⟩
 ·obtain⟨y,hy⟩:=cK (l:=x) (k:=k) (by omega);refine⟨by omega,rfl,by omega,fun e19 h19=>?_⟩
  try (obtain rfl:=aY hy h19)
  refine⟨by omega,rfl,by omega,fun e23 h23=>?_⟩
  try (obtain rfl:=aY hy h23)
  refine⟨by exact aEj _,⟨by omega,by omega⟩,?_⟩;exact⟨k+1,rfl,by omega,by omega⟩
 ·apply et1
  ·rfl
abbrev aRW (x:aV):Prop:=Cn 119 [.agg [.str x.name,.int .i64 x.arity,.sl 91 1 (x.rows.map aE)],.agg [.str x.name,.int .i64 x.arity,.sl 91 1 (x.rows.map aE)]] (vB true) []
theorem aXV (x:aV):aRW x:=by
 refine cq Tryz.func119 (.no<| .no<| .call (vB true) []<| .fin []) (p:=Lx (x.rows.map aE)<| Lx (x.rows.map aE)<| (!(x.name.toList==x.name.toList))=false/\(!(decide (x.arity=x.arity)))=false/\aDa x.rows/\(true)=true/\True) (by kernel_rfl) ?_;refine lx fun n0=>lx fun n1=>?_;refine⟨by simp,by simp,by exact aPx x.rows,?_,trivial⟩
 ·rfl
abbrev aGa (x:List aV):Prop:=Cn 67 [.one (.sl 142 3 (x.map aS)),.one (.sl 142 3 (x.map aS))] (vB true) []
theorem aUR (x:List aV):aGa x:=by
 refine cq Tryz.func67 (.len x.length<| .len x.length<| .no<| .loop Nat (Q1 Nat) ([5]++rg 11 16) [] (fun k=>[(5,vI (k:Int))]) (fun k=>[]) (fun k=>k<=x.length) (fun k=>x.length - k) (fun k=> .len x.length<| .br (.elem _ aS x (fun e19=> .elem _ aS x (fun e23=> .call (vB true) []<| .back []))) (.fin []))) (p:=Lx (x.map aS)<| Lx (x.map aS)<| Lm aS x/\(Lm aS x/\((!(decide ((x.length:Int)=(x.length:Int))))=false/\((∃(k:Nat),0=(k:Int)/\k<=x.length)/\ ∀(k:Nat),k<=x.length->Lm aS x/\Br ((k:Int)<(x.length:Int)) (0<=(k:Int)/\Em aS x k fun e19=>0<=(k:Int)/\Em aS x k fun e23=>rM Tryz.prog 119 [.agg [.str e19.name,.int .i64 e19.arity,.sl 91 1 (e19.rows.map aE)],.agg [.str e23.name,.int .i64 e23.arity,.sl 91 1 (e23.rows.map aE)]] (vB true) []/\bK ((k:Int)+1)/\ ∃(k' :Nat),((k:Int)+1)=(k' :Int)/\k' <=x.length/\x.length - k' <x.length - k) ((true)=true/\True))))) (by kernel_rfl) ?_;refine lx fun n0=>lx fun n1=>?_;refine⟨aAH _,aAH _,by simp,⟨0,rfl,aDB _⟩,fun k hk=>?_⟩;refine⟨aAH _,dd (fun c1=>?_) fun c1=>?_⟩
 ·obtain⟨y,hy⟩:=cK (l:=x) (k:=k) (by omega);refine⟨by omega,rfl,by omega,fun e19 h19=>?_⟩
  try (obtain rfl:=aY hy h19)
  refine⟨by omega,rfl,by omega,fun e23 h23=>?_⟩
  try (obtain rfl:=aY hy h23)
  refine⟨by exact aXV _,⟨by omega,by omega⟩,?_⟩;exact⟨k+1,rfl,by omega,by omega⟩
 ·apply et1
  ·rfl
abbrev aC0 (x:aX):Prop:=Cn 34 [.agg [.sl 142 3 (x.tables.map aS)],.agg [.sl 142 3 (x.tables.map aS)]] (vB true) []
theorem aPy (x:aX):aC0 x:=by
 refine cq Tryz.func34 (.call (vB true) []<| .fin []) (p:=Lx (x.tables.map aS)<| Lx (x.tables.map aS)<| aGa x.tables/\(true)=true/\True) (by kernel_rfl) ?_;refine lx fun n0=>lx fun n1=>?_;refine⟨by exact aUR x.tables,?_,trivial⟩
 ·rfl
abbrev aUS (x:bX):Prop:=Cn 71 [.agg [.str x.name,.sl 3 1 (x.vars.map intD)],.agg [.str x.name,.sl 3 1 (x.vars.map intD)]] (vB true) []
theorem aYy (x:bX):aUS x:=by
 refine cq Tryz.func71 (.no<| .call (vB true) []<| .fin []) (p:=Lx (x.vars.map intD)<| Lx (x.vars.map intD)<| (!(x.name.toList==x.name.toList))=false/\xL x.vars/\(true)=true/\True) (by kernel_rfl) ?_;refine lx fun n0=>lx fun n1=>?_;refine⟨by simp,by exact aEj x.vars,?_,trivial⟩
 ·rfl
abbrev aKA (x:List bX):Prop:=Cn 38 [.one (.sl 125 2 (x.map bB)),.one (.sl 125 2 (x.map bB))] (vB true) []
theorem aXW (x:List bX):aKA x:=by
 refine cq Tryz.func38 (.len x.length<| .len x.length<| .no<| .loop Nat (Q1 Nat) ([5]++rg 11 16) [] (fun k=>[(5,vI (k:Int))]) (fun k=>[]) (fun k=>k<=x.length) (fun k=>x.length - k) (fun k=> .len x.length<| .br (.elem _ bB x (fun e19=> .elem _ bB x (fun e23=> .call (vB true) []<| .back []))) (.fin []))) (p:=Lx (x.map bB)<| Lx (x.map bB)<| Lm bB x/\(Lm bB x/\((!(decide ((x.length:Int)=(x.length:Int))))=false/\((∃(k:Nat),0=(k:Int)/\k<=x.length)/\ ∀(k:Nat),k<=x.length->Lm bB x/\Br ((k:Int)<(x.length:Int)) (0<=(k:Int)/\Em bB x k fun e19=>0<=(k:Int)/\Em bB x k fun e23=>rM Tryz.prog 71 [.agg [.str e19.name,.sl 3 1 (e19.vars.map intD)],.agg [.str e23.name,.sl 3 1 (e23.vars.map intD)]] (vB true) []/\bK ((k:Int)+1)/\ ∃(k' :Nat),((k:Int)+1)=(k' :Int)/\k' <=x.length/\x.length - k' <x.length - k) ((true)=true/\True))))) (by kernel_rfl) ?_;refine lx fun n0=>lx fun n1=>?_;refine⟨aAH _,aAH _,by simp,⟨0,rfl,aDB _⟩,fun k hk=>?_⟩;refine⟨aAH _,dd (fun c1=>?_) fun c1=>?_⟩
 ·obtain⟨y,hy⟩:=cK (l:=x) (k:=k) (by omega);refine⟨by omega,rfl,by omega,fun e19 h19=>?_⟩
  try (obtain rfl:=aY hy h19)
  refine⟨by omega,rfl,by omega,fun e23 h23=>?_⟩
  try (obtain rfl:=aY hy h23)
  refine⟨by exact aYy _,⟨by omega,by omega⟩,?_⟩;exact⟨k+1,rfl,by omega,by omega⟩
 ·apply et1
  ·rfl
abbrev aKB (x:QueryD):Prop:=Cn 14 [.agg [.int .i64 x.variableCount,.sl 125 2 (x.atoms.map bB)],.agg [.int .i64 x.variableCount,.sl 125 2 (x.atoms.map bB)]] (vB true) []
theorem aXX (x:QueryD):aKB x:=by
 refine cq Tryz.func14 (.no<| .call (vB true) []<| .fin []) (p:=Lx (x.atoms.map bB)<| Lx (x.atoms.map bB)<| (!(decide (x.variableCount=x.variableCount)))=false/\aKA x.atoms/\(true)=true/\True) (by kernel_rfl) ?_;refine lx fun n0=>lx fun n1=>?_;refine⟨by simp,by exact aXW x.atoms,?_,trivial⟩
 ·rfl
abbrev aGo (x:aI):Prop:=Cn 217 [.agg [.sl 3 1 (x.columns.map intD),.sl 91 1 (x.values.map aE),.sl 3 1 (x.counts.map intD)],.agg [.sl 3 1 (x.columns.map intD),.sl 91 1 (x.values.map aE),.sl 3 1 (x.counts.map intD)]] (vB true) []
theorem aKn (x:aI):aGo x:=by
 refine cq Tryz.func217 (.call (vB true) []<| .call (vB true) []<| .call (vB true) []<| .fin []) (p:=Lx (x.columns.map intD)<| Lx (x.values.map aE)<| Lx (x.counts.map intD)<| Lx (x.columns.map intD)<| Lx (x.values.map aE)<| Lx (x.counts.map intD)<| xL x.columns/\aDa x.values/\xL x.counts/\(true)=true/\True) (by kernel_rfl) ?_;refine lx fun n0=>lx fun n1=>lx fun n2=>lx fun n3=>lx fun n4=>lx fun n5=>?_;refine⟨by exact aEj x.columns,by exact aPx x.values,by exact aEj x.counts,?_,trivial⟩
 ·rfl
abbrev xM (x:List aI):Prop:=Cn 176 [.one (.sl 220 3 (x.map aC)),.one (.sl 220 3 (x.map aC))] (vB true) []
theorem aKC (x:List aI):xM x:=by
 refine cq Tryz.func176 (.len x.length<| .len x.length<| .no<| .loop Nat (Q1 Nat) ([5]++rg 11 16) [] (fun k=>[(5,vI (k:Int))]) (fun k=>[]) (fun k=>k<=x.length) (fun k=>x.length - k) (fun k=> .len x.length<| .br (.elem _ aC x (fun e19=> .elem _ aC x (fun e23=> .call (vB true) []<| .back []))) (.fin []))) (p:=Lx (x.map aC)<| Lx (x.map aC)<| Lm aC x/\(Lm aC x/\((!(decide ((x.length:Int)=(x.length:Int))))=false/\((∃(k:Nat),0=(k:Int)/\k<=x.length)/\ ∀(k:Nat),k<=x.length->Lm aC x/\Br ((k:Int)<(x.length:Int)) (0<=(k:Int)/\Em aC x k fun e19=>0<=(k:Int)/\Em aC x k fun e23=>rM Tryz.prog 217 [.agg [.sl 3 1 (e19.columns.map intD),.sl 91 1 (e19.values.map aE),.sl 3 1 (e19.counts.map intD)],.agg [.sl 3 1 (e23.columns.map intD),.sl 91 1 (e23.values.map aE),.sl 3 1 (e23.counts.map intD)]] (vB true) []/\bK ((k:Int)+1)/\ ∃(k' :Nat),((k:Int)+1)=(k' :Int)/\k' <=x.length/\x.length - k' <x.length - k) ((true)=true/\True))))) (by kernel_rfl) ?_;refine lx fun n0=>lx fun n1=>?_;refine⟨aAH _,aAH _,by simp,⟨0,rfl,aDB _⟩,fun k hk=>?_⟩;refine⟨aAH _,dd (fun c1=>?_) fun c1=>?_⟩
 ·obtain⟨y,hy⟩:=cK (l:=x) (k:=k) (by omega);refine⟨by omega,rfl,by omega,fun e19 h19=>?_⟩
  try (obtain rfl:=aY hy h19)
  refine⟨by omega,rfl,by omega,fun e23 h23=>?_⟩
  try (obtain rfl:=aY hy h23)
  refine⟨by exact aKn _,⟨by omega,by omega⟩,?_⟩;exact⟨k+1,rfl,by omega,by omega⟩
 ·apply et1
  ·rfl
abbrev aGp (x:aD):Prop:=Cn 120 [.agg [.str x.name,.int .i64 x.arity,.int .i64 x.rowCount,.sl 220 3 (x.groups.map aC)],.agg [.str x.name,.int .i64 x.arity,.int .i64 x.rowCount,.sl 220 3 (x.groups.map aC)]] (vB true) []
theorem aKo (x:aD):aGp x:=by
 refine cq Tryz.func120 (.no<| .no<| .no<| .call (vB true) []<| .fin []) (p:=Lx (x.groups.map aC)<| Lx (x.groups.map aC)<| (!(x.name.toList==x.name.toList))=false/\(!(decide (x.arity=x.arity)))=false/\(!(decide (x.rowCount=x.rowCount)))=false/\xM x.groups/\(true)=true/\True) (by kernel_rfl) ?_;refine lx fun n0=>lx fun n1=>?_;refine⟨by simp,by simp,by simp,by exact aKC x.groups,?_,trivial⟩
 ·rfl
abbrev xN (x:List aD):Prop:=Cn 68 [.one (.sl 88 4 (x.map aF)),.one (.sl 88 4 (x.map aF))] (vB true) []
theorem aKD (x:List aD):xN x:=by
 refine cq Tryz.func68 (.len x.length<| .len x.length<| .no<| .loop Nat (Q1 Nat) ([5]++rg 11 16) [] (fun k=>[(5,vI (k:Int))]) (fun k=>[]) (fun k=>k<=x.length) (fun k=>x.length - k) (fun k=> .len x.length<| .br (.elem _ aF x (fun e19=> .elem _ aF x (fun e23=> .call (vB true) []<| .back []))) (.fin []))) (p:=Lx (x.map aF)<| Lx (x.map aF)<| Lm aF x/\(Lm aF x/\((!(decide ((x.length:Int)=(x.length:Int))))=false/\((∃(k:Nat),0=(k:Int)/\k<=x.length)/\ ∀(k:Nat),k<=x.length->Lm aF x/\Br ((k:Int)<(x.length:Int)) (0<=(k:Int)/\Em aF x k fun e19=>0<=(k:Int)/\Em aF x k fun e23=>rM Tryz.prog 120 [.agg [.str e19.name,.int .i64 e19.arity,.int .i64 e19.rowCount,.sl 220 3 (e19.groups.map aC)],.agg [.str e23.name,.int .i64 e23.arity,.int .i64 e23.rowCount,.sl 220 3 (e23.groups.map aC)]] (vB true) []/\bK ((k:Int)+1)/\ ∃(k' :Nat),((k:Int)+1)=(k' :Int)/\k' <=x.length/\x.length - k' <x.length - k) ((true)=true/\True))))) (by kernel_rfl) ?_;refine lx fun n0=>lx fun n1=>?_;refine⟨aAH _,aAH _,by simp,⟨0,rfl,aDB _⟩,fun k hk=>?_⟩;refine⟨aAH _,dd (fun c1=>?_) fun c1=>?_⟩
 ·obtain⟨y,hy⟩:=cK (l:=x) (k:=k) (by omega);refine⟨by omega,rfl,by omega,fun e19 h19=>?_⟩
  try (obtain rfl:=aY hy h19)
  refine⟨by omega,rfl,by omega,fun e23 h23=>?_⟩
  try (obtain rfl:=aY hy h23)
  refine⟨by exact aKo _,⟨by omega,by omega⟩,?_⟩;exact⟨k+1,rfl,by omega,by omega⟩
 ·apply et1
  ·rfl
abbrev aB9 (x:cA):Prop:=Cn 35 [.agg [.int .i64 x.version,.sl 88 4 (x.tables.map aF)],.agg [.int .i64 x.version,.sl 88 4 (x.tables.map aF)]] (vB true) []
theorem aNf (x:cA):aB9 x:=by
 refine cq Tryz.func35 (.no<| .call (vB true) []<| .fin []) (p:=Lx (x.tables.map aF)<| Lx (x.tables.map aF)<| (!(decide (x.version=x.version)))=false/\xN x.tables/\(true)=true/\True) (by kernel_rfl) ?_;refine lx fun n0=>lx fun n1=>?_;refine⟨by simp,by exact aKD x.tables,?_,trivial⟩
 ·rfl
abbrev aGq (x:aR):Prop:=Cn 69 [.agg [.str x.name,.sl 3 1 (x.src.map intD),.int .i64 x.dst],.agg [.str x.name,.sl 3 1 (x.src.map intD),.int .i64 x.dst]] (vB true) []
theorem aKp (x:aR):aGq x:=by
 refine cq Tryz.func69 (.no<| .call (vB true) []<| .lit<| .no<| .fin []) (p:=Lx (x.src.map intD)<| Lx (x.src.map intD)<| (!(x.name.toList==x.name.toList))=false/\xL x.src/\(!(decide (x.dst=x.dst)))=false/\(true)=true/\True) (by kernel_rfl) ?_;refine lx fun n0=>lx fun n1=>?_;refine⟨by simp,by exact aEj x.src,by simp,?_,trivial⟩
 ·rfl
abbrev xO (x:List aR):Prop:=Cn 36 [.one (.sl 121 3 (x.map aN)),.one (.sl 121 3 (x.map aN))] (vB true) []
theorem aKE (x:List aR):xO x:=by
 refine cq Tryz.func36 (.len x.length<| .len x.length<| .no<| .loop Nat (Q1 Nat) ([5]++rg 11 16) [] (fun k=>[(5,vI (k:Int))]) (fun k=>[]) (fun k=>k<=x.length) (fun k=>x.length - k) (fun k=> .len x.length<| .br (.elem _ aN x (fun e19=> .elem _ aN x (fun e23=> .call (vB true) []<| .back []))) (.fin []))) (p:=Lx (x.map aN)<| Lx (x.map aN)<| Lm aN x/\(Lm aN x/\((!(decide ((x.length:Int)=(x.length:Int))))=false/\((∃(k:Nat),0=(k:Int)/\k<=x.length)/\ ∀(k:Nat),k<=x.length->Lm aN x/\Br ((k:Int)<(x.length:Int)) (0<=(k:Int)/\Em aN x k fun e19=>0<=(k:Int)/\Em aN x k fun e23=>rM Tryz.prog 69 [.agg [.str e19.name,.sl 3 1 (e19.src.map intD),.int .i64 e19.dst],.agg [.str e23.name,.sl 3 1 (e23.src.map intD),.int .i64 e23.dst]] (vB true) []/\bK ((k:Int)+1)/\ ∃(k' :Nat),((k:Int)+1)=(k' :Int)/\k' <=x.length/\x.length - k' <x.length - k) ((true)=true/\True))))) (by kernel_rfl) ?_;refine lx fun n0=>lx fun n1=>?_;refine⟨aAH _,aAH _,by simp,⟨0,rfl,aDB _⟩,fun k hk=>?_⟩;refine⟨aAH _,dd (fun c1=>?_) fun c1=>?_⟩
 ·obtain⟨y,hy⟩:=cK (l:=x) (k:=k) (by omega);refine⟨by omega,rfl,by omega,fun e19 h19=>?_⟩
  try (obtain rfl:=aY hy h19)
  refine⟨by omega,rfl,by omega,fun e23 h23=>?_⟩
  try (obtain rfl:=aY hy h23)
  refine⟨by exact aKp _,⟨by omega,by omega⟩,?_⟩;exact⟨k+1,rfl,by omega,by omega⟩
 ·apply et1
  ·rfl
abbrev aKF (x:aP):Prop:=Cn 70 [.agg [.str x.name,.int .i64 x.column,.str x.into,.int .i64 x.intoColumn],.agg [.str x.name,.int .i64 x.column,.str x.into,.int .i64 x.intoColumn]] (vB true) []
theorem aNg (x:aP):aKF x:=by
 refine cq Tryz.func70 (.no<| .no<| .no<| .no<| .fin []) (p:=(!(x.name.toList==x.name.toList))=false/\(!(decide (x.column=x.column)))=false/\(!(x.into.toList==x.into.toList))=false/\(!(decide (x.intoColumn=x.intoColumn)))=false/\(true)=true/\True) (by kernel_rfl) ?_;refine⟨by simp,by simp,by simp,by simp,?_,trivial⟩
 ·rfl
abbrev aAB (x:List aP):Prop:=Cn 37 [.one (.sl 123 4 (x.map aQ)),.one (.sl 123 4 (x.map aQ))] (vB true) []
theorem aKq (x:List aP):aAB x:=by
 refine cq Tryz.func37 (.len x.length<| .len x.length<| .no<| .loop Nat (Q1 Nat) ([5]++rg 11 16) [] (fun k=>[(5,vI (k:Int))]) (fun k=>[]) (fun k=>k<=x.length) (fun k=>x.length - k) (fun k=> .len x.length<| .br (.elem _ aQ x (fun e19=> .elem _ aQ x (fun e23=> .call (vB true) []<| .back []))) (.fin []))) (p:=Lx (x.map aQ)<| Lx (x.map aQ)<| Lm aQ x/\(Lm aQ x/\((!(decide ((x.length:Int)=(x.length:Int))))=false/\((∃(k:Nat),0=(k:Int)/\k<=x.length)/\ ∀(k:Nat),k<=x.length->Lm aQ x/\Br ((k:Int)<(x.length:Int)) (0<=(k:Int)/\Em aQ x k fun e19=>0<=(k:Int)/\Em aQ x k fun e23=>rM Tryz.prog 70 [.agg [.str e19.name,.int .i64 e19.column,.str e19.into,.int .i64 e19.intoColumn],.agg [.str e23.name,.int .i64 e23.column,.str e23.into,.int .i64 e23.intoColumn]] (vB true) []/\bK ((k:Int)+1)/\ ∃(k' :Nat),((k:Int)+1)=(k' :Int)/\k' <=x.length/\x.length - k' <x.length - k) ((true)=true/\True))))) (by kernel_rfl) ?_;refine lx fun n0=>lx fun n1=>?_;refine⟨aAH _,aAH _,by simp,⟨0,rfl,aDB _⟩,fun k hk=>?_⟩;refine⟨aAH _,dd (fun c1=>?_) fun c1=>?_⟩
 ·obtain⟨y,hy⟩:=cK (l:=x) (k:=k) (by omega);refine⟨by omega,rfl,by omega,fun e19 h19=>?_⟩
  try (obtain rfl:=aY hy h19)
  refine⟨by omega,rfl,by omega,fun e23 h23=>?_⟩
  try (obtain rfl:=aY hy h23)
  refine⟨by exact aNg _,⟨by omega,by omega⟩,?_⟩;exact⟨k+1,rfl,by omega,by omega⟩
 ·apply et1
  ·rfl
abbrev aKG (x:StoreD):Prop:=Cn 13 [.agg [.sl 142 3 (x.database.tables.map aS),.int .i64 x.catalogue.version,.sl 88 4 (x.catalogue.tables.map aF),.sl 121 3 (x.dependencies.map aN),.sl 123 4 (x.inclusions.map aQ)],.agg [.sl 142 3 (x.database.tables.map aS),.int .i64 x.catalogue.version,.sl 88 4 (x.catalogue.tables.map aF),.sl 121 3 (x.dependencies.map aN),.sl 123 4 (x.inclusions.map aQ)]] (vB true) []
theorem aXY (x:StoreD):aKG x:=by
 refine cq Tryz.func13 (.call (vB true) []<| .call (vB true) []<| .call (vB true) []<| .call (vB true) []<| .fin []) (p:=Lx (x.database.tables.map aS)<| Lx (x.catalogue.tables.map aF)<| Lx (x.dependencies.map aN)<| Lx (x.inclusions.map aQ)<| Lx (x.database.tables.map aS)<| Lx (x.catalogue.tables.map aF)<| Lx (x.dependencies.map aN)<| Lx (x.inclusions.map aQ)<| aC0 x.database/\aB9 x.catalogue/\xO x.dependencies/\aAB x.inclusions/\(true)=true/\True) (by kernel_rfl) ?_;refine lx fun n0=>lx fun n1=>lx fun n2=>lx fun n3=>lx fun n4=>lx fun n5=>lx fun n6=>lx fun n7=>?_;refine⟨by exact aPy x.database,by exact aNf x.catalogue,by exact aKE x.dependencies,by exact aKq x.inclusions,?_,trivial⟩
 ·rfl
abbrev aC1 (x:aB):Prop:=Cn 12 [.agg [.int .i64 x.num,.int .i64 x.den],.agg [.int .i64 x.num,.int .i64 x.den]] (vB true) []
theorem aGb (x:aB):aC1 x:=by
 refine cq Tryz.func12 (.no<| .no<| .fin []) (p:=(!(decide (x.num=x.num)))=false/\(!(decide (x.den=x.den)))=false/\(true)=true/\True) (by kernel_rfl) ?_;refine⟨by simp,by simp,?_,trivial⟩
 ·rfl
abbrev uP (x:List aB):Prop:=Cn 49 [.one (.sl 38 2 (x.map aA)),.one (.sl 38 2 (x.map aA))] (vB true) []
theorem aEk (x:List aB):uP x:=by
 refine cq Tryz.func49 (.len x.length<| .len x.length<| .no<| .loop Nat (Q1 Nat) ([5]++rg 11 16) [] (fun k=>[(5,vI (k:Int))]) (fun k=>[]) (fun k=>k<=x.length) (fun k=>x.length - k) (fun k=> .len x.length<| .br (.elem _ aA x (fun e19=> .elem _ aA x (fun e23=> .call (vB true) []<| .back []))) (.fin []))) (p:=Lx (x.map aA)<| Lx (x.map aA)<| Lm aA x/\(Lm aA x/\((!(decide ((x.length:Int)=(x.length:Int))))=false/\((∃(k:Nat),0=(k:Int)/\k<=x.length)/\ ∀(k:Nat),k<=x.length->Lm aA x/\Br ((k:Int)<(x.length:Int)) (0<=(k:Int)/\Em aA x k fun e19=>0<=(k:Int)/\Em aA x k fun e23=>rM Tryz.prog 12 [.agg [.int .i64 e19.num,.int .i64 e19.den],.agg [.int .i64 e23.num,.int .i64 e23.den]] (vB true) []/\bK ((k:Int)+1)/\ ∃(k' :Nat),((k:Int)+1)=(k' :Int)/\k' <=x.length/\x.length - k' <x.length - k) ((true)=true/\True))))) (by kernel_rfl) ?_;refine lx fun n0=>lx fun n1=>?_;refine⟨aAH _,aAH _,by simp,⟨0,rfl,aDB _⟩,fun k hk=>?_⟩;refine⟨aAH _,dd (fun c1=>?_) fun c1=>?_⟩
 ·obtain⟨y,hy⟩:=cK (l:=x) (k:=k) (by omega);refine⟨by omega,rfl,by omega,fun e19 h19=>?_⟩
  try (obtain rfl:=aY hy h19)
  refine⟨by omega,rfl,by omega,fun e23 h23=>?_⟩
  try (obtain rfl:=aY hy h23)
  refine⟨by exact aGb _,⟨by omega,by omega⟩,?_⟩;exact⟨k+1,rfl,by omega,by omega⟩
 ·apply et1
  ·rfl
abbrev rF (x:gQ):Prop:=Cn 19 [.agg [.int .i64 x.value.num,.int .i64 x.value.den,.sl 38 2 (x.primal.map aA),.sl 38 2 (x.dual.map aA)],.agg [.int .i64 x.value.num,.int .i64 x.value.den,.sl 38 2 (x.primal.map aA),.sl 38 2 (x.dual.map aA)]] (vB true) []
theorem aBa (x:gQ):rF x:=by
 refine cq Tryz.func19 (.call (vB true) []<| .call (vB true) []<| .call (vB true) []<| .fin []) (p:=Lx (x.primal.map aA)<| Lx (x.dual.map aA)<| Lx (x.primal.map aA)<| Lx (x.dual.map aA)<| aC1 x.value/\uP x.primal/\uP x.dual/\(true)=true/\True) (by kernel_rfl) ?_;refine lx fun n0=>lx fun n1=>lx fun n2=>lx fun n3=>?_;refine⟨by exact aGb x.value,by exact aEk x.primal,by exact aEk x.dual,?_,trivial⟩
 ·rfl
end Go.Proofs.YtlidmoeecphbmaaGreat
