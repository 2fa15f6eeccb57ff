/-
  Contracts and plain laws, joined: part 25.
-/
import Derived.Test.YtlidmoeecphbmaaGreateb3
namespace Go.Proofs.YtlidmoeecphbmaaGreat
open Go.ChangeShapes Go.WideShapes Go.ChangeAt Go.RowKit
set_option linter.unusedVariables false
set_option linter.unusedSimpArgs false
set_option maxRecDepth 100000
set_option maxHeartbeats 4000000
abbrev uE (x:List Int):Prop:=Cn 121 [.one (.sl 3 1 (x.map intD)),.one (.sl 3 1 (x.map intD))] (vB true) []
theorem aDC (x:List Int):uE x:=by
 refine cq Tryz.func121 (.len x.length<| .len x.length<| .no<| .loop Nat (Q1 Nat) ([5]++rg 11 15) [] (fun k=>[(5,vI (k:Int))]) (fun k=>[]) (fun k=>k<=x.length) (fun k=>x.length - k) (fun k=> .len x.length<| .br (.elem _ intD x (fun e19=> .elem _ intD x (fun e23=> .no<| .back []))) (.fin []))) (p:=Lx (x.map intD)<| Lx (x.map intD)<| Lm intD x/\(Lm intD x/\((!(decide ((x.length:Int)=(x.length:Int))))=false/\((∃(k:Nat),0=(k:Int)/\k<=x.length)/\ ∀(k:Nat),k<=x.length->Lm intD x/\Br ((k:Int)<(x.length:Int)) (0<=(k:Int)/\Em intD x k fun e19=>0<=(k:Int)/\Em intD x k fun e23=>(!(decide (e19=e23)))=false/\bK ((k:Int)+1)/\ ∃(k' :Nat),((k:Int)+1)=(k' :Int)/\k' <=x.length/\x.length - k' <x.length - k) ((true)=true/\True))))) (by kernel_rfl) ?_;refine lx fun n0=>lx fun n1=>?_;refine⟨aA8 _,aA8 _,by simp,⟨0,rfl,aCC _⟩,fun k hk=>?_⟩;refine⟨aA8 _,dd (fun c1=>?_) fun c1=>?_⟩
 ·obtain⟨y,hy⟩:=dA (l:=x) (k:=k) (by omega);refine⟨by omega,rfl,by omega,fun e19 h19=>?_⟩
  try (obtain rfl:=aW hy h19)
  refine⟨by omega,rfl,by omega,fun e23 h23=>?_⟩
  try (obtain rfl:=aW hy h23)
  refine⟨by simp,⟨by omega,by omega⟩,?_⟩;exact⟨k+1,rfl,by omega,by omega⟩
 ·apply et1
  ·rfl
abbrev aBz (x:List (List Int)):Prop:=Cn 175 [.one (.sl 91 1 (x.map aC)),.one (.sl 91 1 (x.map aC))] (vB true) []
theorem aNq (x:List (List Int)):aBz x:=by
 refine cq Tryz.func175 (.len x.length<| .len x.length<| .no<| .loop Nat (Q1 Nat) ([5]++rg 11 16) [] (fun k=>[(5,vI (k:Int))]) (fun k=>[]) (fun k=>k<=x.length) (fun k=>x.length - k) (fun k=> .len x.length<| .br (.elem _ aC x (fun e19=> .elem _ aC x (fun e23=> .call (vB true) []<| .back []))) (.fin []))) (p:=Lx (x.map aC)<| Lx (x.map aC)<| Lm aC x/\(Lm aC x/\((!(decide ((x.length:Int)=(x.length:Int))))=false/\((∃(k:Nat),0=(k:Int)/\k<=x.length)/\ ∀(k:Nat),k<=x.length->Lm aC x/\Br ((k:Int)<(x.length:Int)) (0<=(k:Int)/\Em aC x k fun e19=>0<=(k:Int)/\Em aC x k fun e23=>qI Tryz.prog 121 [.one (.sl 3 1 (e19.map intD)),.one (.sl 3 1 (e23.map intD))] (vB true) []/\bK ((k:Int)+1)/\ ∃(k' :Nat),((k:Int)+1)=(k' :Int)/\k' <=x.length/\x.length - k' <x.length - k) ((true)=true/\True))))) (by kernel_rfl) ?_;refine lx fun n0=>lx fun n1=>?_;refine⟨aA8 _,aA8 _,by simp,⟨0,rfl,aCC _⟩,fun k hk=>?_⟩;refine⟨aA8 _,dd (fun c1=>?_) fun c1=>?_⟩
 ·obtain⟨y,hy⟩:=dA (l:=x) (k:=k) (by omega);refine⟨by omega,rfl,by omega,fun e19 h19=>?_⟩
  try (obtain rfl:=aW hy h19)
  refine⟨by omega,rfl,by omega,fun e23 h23=>?_⟩
  try (obtain rfl:=aW hy h23)
  refine⟨by exact aDC _,⟨by omega,by omega⟩,?_⟩;exact⟨k+1,rfl,by omega,by omega⟩
 ·apply et1
  ·rfl
abbrev aPM (x:aY):Prop:=Cn 119 [.agg [.str x.name,.int .i64 x.arity,.sl 91 1 (x.rows.map aC)],.agg [.str x.name,.int .i64 x.arity,.sl 91 1 (x.rows.map aC)]] (vB true) []
theorem aVF (x:aY):aPM x:=by
 refine cq Tryz.func119 (.no<| .no<| .call (vB true) []<| .fin []) (p:=Lx (x.rows.map aC)<| Lx (x.rows.map aC)<| (!(x.name.toList==x.name.toList))=false/\(!(decide (x.arity=x.arity)))=false/\aBz x.rows/\(true)=true/\True) (by kernel_rfl) ?_;refine lx fun n0=>lx fun n1=>?_;refine⟨by simp,by simp,by exact aNq x.rows,?_,trivial⟩
 ·rfl
abbrev aEs (x:List aY):Prop:=Cn 67 [.one (.sl 142 3 (x.map aS)),.one (.sl 142 3 (x.map aS))] (vB true) []
theorem aSG (x:List aY):aEs x:=by
 refine cq Tryz.func67 (.len x.length<| .len x.length<| .no<| .loop Nat (Q1 Nat) ([5]++rg 11 16) [] (fun k=>[(5,vI (k:Int))]) (fun k=>[]) (fun k=>k<=x.length) (fun k=>x.length - k) (fun k=> .len x.length<| .br (.elem _ aS x (fun e19=> .elem _ aS x (fun e23=> .call (vB true) []<| .back []))) (.fin []))) (p:=Lx (x.map aS)<| Lx (x.map aS)<| Lm aS x/\(Lm aS x/\((!(decide ((x.length:Int)=(x.length:Int))))=false/\((∃(k:Nat),0=(k:Int)/\k<=x.length)/\ ∀(k:Nat),k<=x.length->Lm aS x/\Br ((k:Int)<(x.length:Int)) (0<=(k:Int)/\Em aS x k fun e19=>0<=(k:Int)/\Em aS x k fun e23=>qI Tryz.prog 119 [.agg [.str e19.name,.int .i64 e19.arity,.sl 91 1 (e19.rows.map aC)],.agg [.str e23.name,.int .i64 e23.arity,.sl 91 1 (e23.rows.map aC)]] (vB true) []/\bK ((k:Int)+1)/\ ∃(k' :Nat),((k:Int)+1)=(k' :Int)/\k' <=x.length/\x.length - k' <x.length - k) ((true)=true/\True))))) (by kernel_rfl) ?_;refine lx fun n0=>lx fun n1=>?_;refine⟨aA8 _,aA8 _,by simp,⟨0,rfl,aCC _⟩,fun k hk=>?_⟩;refine⟨aA8 _,dd (fun c1=>?_) fun c1=>?_⟩
 ·obtain⟨y,hy⟩:=dA (l:=x) (k:=k) (by omega);refine⟨by omega,rfl,by omega,fun e19 h19=>?_⟩
  try (obtain rfl:=aW hy h19)
  refine⟨by omega,rfl,by omega,fun e23 h23=>?_⟩
  try (obtain rfl:=aW hy h23)
  refine⟨by exact aVF _,⟨by omega,by omega⟩,?_⟩;exact⟨k+1,rfl,by omega,by omega⟩
 ·apply et1
  ·rfl
abbrev aAt (x:aU):Prop:=Cn 34 [.agg [.sl 142 3 (x.tables.map aS)],.agg [.sl 142 3 (x.tables.map aS)]] (vB true) []
theorem aNr (x:aU):aAt x:=by
 refine cq Tryz.func34 (.call (vB true) []<| .fin []) (p:=Lx (x.tables.map aS)<| Lx (x.tables.map aS)<| aEs x.tables/\(true)=true/\True) (by kernel_rfl) ?_;refine lx fun n0=>lx fun n1=>?_;refine⟨by exact aSG x.tables,?_,trivial⟩
 ·rfl
abbrev aSH (x:dC):Prop:=Cn 71 [.agg [.str x.name,.sl 3 1 (x.vars.map intD)],.agg [.str x.name,.sl 3 1 (x.vars.map intD)]] (vB true) []
theorem aWi (x:dC):aSH x:=by
 refine cq Tryz.func71 (.no<| .call (vB true) []<| .fin []) (p:=Lx (x.vars.map intD)<| Lx (x.vars.map intD)<| (!(x.name.toList==x.name.toList))=false/\uE x.vars/\(true)=true/\True) (by kernel_rfl) ?_;refine lx fun n0=>lx fun n1=>?_;refine⟨by simp,by exact aDC x.vars,?_,trivial⟩
 ·rfl
abbrev aIH (x:List dC):Prop:=Cn 38 [.one (.sl 125 2 (x.map bI)),.one (.sl 125 2 (x.map bI))] (vB true) []
theorem aVG (x:List dC):aIH x:=by
 refine cq Tryz.func38 (.len x.length<| .len x.length<| .no<| .loop Nat (Q1 Nat) ([5]++rg 11 16) [] (fun k=>[(5,vI (k:Int))]) (fun k=>[]) (fun k=>k<=x.length) (fun k=>x.length - k) (fun k=> .len x.length<| .br (.elem _ bI x (fun e19=> .elem _ bI x (fun e23=> .call (vB true) []<| .back []))) (.fin []))) (p:=Lx (x.map bI)<| Lx (x.map bI)<| Lm bI x/\(Lm bI x/\((!(decide ((x.length:Int)=(x.length:Int))))=false/\((∃(k:Nat),0=(k:Int)/\k<=x.length)/\ ∀(k:Nat),k<=x.length->Lm bI x/\Br ((k:Int)<(x.length:Int)) (0<=(k:Int)/\Em bI x k fun e19=>0<=(k:Int)/\Em bI x k fun e23=>qI Tryz.prog 71 [.agg [.str e19.name,.sl 3 1 (e19.vars.map intD)],.agg [.str e23.name,.sl 3 1 (e23.vars.map intD)]] (vB true) []/\bK ((k:Int)+1)/\ ∃(k' :Nat),((k:Int)+1)=(k' :Int)/\k' <=x.length/\x.length - k' <x.length - k) ((true)=true/\True))))) (by kernel_rfl) ?_;refine lx fun n0=>lx fun n1=>?_;refine⟨aA8 _,aA8 _,by simp,⟨0,rfl,aCC _⟩,fun k hk=>?_⟩;refine⟨aA8 _,dd (fun c1=>?_) fun c1=>?_⟩
 ·obtain⟨y,hy⟩:=dA (l:=x) (k:=k) (by omega);refine⟨by omega,rfl,by omega,fun e19 h19=>?_⟩
  try (obtain rfl:=aW hy h19)
  refine⟨by omega,rfl,by omega,fun e23 h23=>?_⟩
  try (obtain rfl:=aW hy h23)
  refine⟨by exact aWi _,⟨by omega,by omega⟩,?_⟩;exact⟨k+1,rfl,by omega,by omega⟩
 ·apply et1
  ·rfl
abbrev aII (x:QueryD):Prop:=Cn 14 [.agg [.int .i64 x.variableCount,.sl 125 2 (x.atoms.map bI)],.agg [.int .i64 x.variableCount,.sl 125 2 (x.atoms.map bI)]] (vB true) []
theorem aVH (x:QueryD):aII x:=by
 refine cq Tryz.func14 (.no<| .call (vB true) []<| .fin []) (p:=Lx (x.atoms.map bI)<| Lx (x.atoms.map bI)<| (!(decide (x.variableCount=x.variableCount)))=false/\aIH x.atoms/\(true)=true/\True) (by kernel_rfl) ?_;refine lx fun n0=>lx fun n1=>?_;refine⟨by simp,by exact aVG x.atoms,?_,trivial⟩
 ·rfl
abbrev aFF (x:aQ):Prop:=Cn 217 [.agg [.sl 3 1 (x.columns.map intD),.sl 91 1 (x.values.map aC),.sl 3 1 (x.counts.map intD)],.agg [.sl 3 1 (x.columns.map intD),.sl 91 1 (x.values.map aC),.sl 3 1 (x.counts.map intD)]] (vB true) []
theorem aIr (x:aQ):aFF x:=by
 refine cq Tryz.func217 (.call (vB true) []<| .call (vB true) []<| .call (vB true) []<| .fin []) (p:=Lx (x.columns.map intD)<| Lx (x.values.map aC)<| Lx (x.counts.map intD)<| Lx (x.columns.map intD)<| Lx (x.values.map aC)<| Lx (x.counts.map intD)<| uE x.columns/\aBz x.values/\uE x.counts/\(true)=true/\True) (by kernel_rfl) ?_;refine lx fun n0=>lx fun n1=>lx fun n2=>lx fun n3=>lx fun n4=>lx fun n5=>?_;refine⟨by exact aDC x.columns,by exact aNq x.values,by exact aDC x.counts,?_,trivial⟩
 ·rfl
abbrev uF (x:List aQ):Prop:=Cn 176 [.one (.sl 220 3 (x.map aD)),.one (.sl 220 3 (x.map aD))] (vB true) []
theorem aIJ (x:List aQ):uF x:=by
 refine cq Tryz.func176 (.len x.length<| .len x.length<| .no<| .loop Nat (Q1 Nat) ([5]++rg 11 16) [] (fun k=>[(5,vI (k:Int))]) (fun k=>[]) (fun k=>k<=x.length) (fun k=>x.length - k) (fun k=> .len x.length<| .br (.elem _ aD x (fun e19=> .elem _ aD x (fun e23=> .call (vB true) []<| .back []))) (.fin []))) (p:=Lx (x.map aD)<| Lx (x.map aD)<| Lm aD x/\(Lm aD x/\((!(decide ((x.length:Int)=(x.length:Int))))=false/\((∃(k:Nat),0=(k:Int)/\k<=x.length)/\ ∀(k:Nat),k<=x.length->Lm aD x/\Br ((k:Int)<(x.length:Int)) (0<=(k:Int)/\Em aD x k fun e19=>0<=(k:Int)/\Em aD x k fun e23=>qI Tryz.prog 217 [.agg [.sl 3 1 (e19.columns.map intD),.sl 91 1 (e19.values.map aC),.sl 3 1 (e19.counts.map intD)],.agg [.sl 3 1 (e23.columns.map intD),.sl 91 1 (e23.values.map aC),.sl 3 1 (e23.counts.map intD)]] (vB true) []/\bK ((k:Int)+1)/\ ∃(k' :Nat),((k:Int)+1)=(k' :Int)/\k' <=x.length/\x.length - k' <x.length - k) ((true)=true/\True))))) (by kernel_rfl) ?_;refine lx fun n0=>lx fun n1=>?_;refine⟨aA8 _,aA8 _,by simp,⟨0,rfl,aCC _⟩,fun k hk=>?_⟩;refine⟨aA8 _,dd (fun c1=>?_) fun c1=>?_⟩
 ·obtain⟨y,hy⟩:=dA (l:=x) (k:=k) (by omega);refine⟨by omega,rfl,by omega,fun e19 h19=>?_⟩
  try (obtain rfl:=aW hy h19)
  refine⟨by omega,rfl,by omega,fun e23 h23=>?_⟩
  try (obtain rfl:=aW hy h23)
  refine⟨by exact aIr _,⟨by omega,by omega⟩,?_⟩;exact⟨k+1,rfl,by omega,by omega⟩
 ·apply et1
  ·rfl
abbrev aFG (x:aM):Prop:=Cn 120 [.agg [.str x.name,.int .i64 x.arity,.int .i64 x.rowCount,.sl 220 3 (x.groups.map aD)],.agg [.str x.name,.int .i64 x.arity,.int .i64 x.rowCount,.sl 220 3 (x.groups.map aD)]] (vB true) []
theorem aIs (x:aM):aFG x:=by
 refine cq Tryz.func120 (.no<| .no<| .no<| .call (vB true) []<| .fin []) (p:=Lx (x.groups.map aD)<| Lx (x.groups.map aD)<| (!(x.name.toList==x.name.toList))=false/\(!(decide (x.arity=x.arity)))=false/\(!(decide (x.rowCount=x.rowCount)))=false/\uF x.groups/\(true)=true/\True) (by kernel_rfl) ?_;refine lx fun n0=>lx fun n1=>?_;refine⟨by simp,by simp,by simp,by exact aIJ x.groups,?_,trivial⟩
 ·rfl
abbrev uG (x:List aM):Prop:=Cn 68 [.one (.sl 88 4 (x.map aG)),.one (.sl 88 4 (x.map aG))] (vB true) []
theorem aIK (x:List aM):uG x:=by
 refine cq Tryz.func68 (.len x.length<| .len x.length<| .no<| .loop Nat (Q1 Nat) ([5]++rg 11 16) [] (fun k=>[(5,vI (k:Int))]) (fun k=>[]) (fun k=>k<=x.length) (fun k=>x.length - k) (fun k=> .len x.length<| .br (.elem _ aG x (fun e19=> .elem _ aG x (fun e23=> .call (vB true) []<| .back []))) (.fin []))) (p:=Lx (x.map aG)<| Lx (x.map aG)<| Lm aG x/\(Lm aG x/\((!(decide ((x.length:Int)=(x.length:Int))))=false/\((∃(k:Nat),0=(k:Int)/\k<=x.length)/\ ∀(k:Nat),k<=x.length->Lm aG x/\Br ((k:Int)<(x.length:Int)) (0<=(k:Int)/\Em aG x k fun e19=>0<=(k:Int)/\Em aG x k fun e23=>qI Tryz.prog 120 [.agg [.str e19.name,.int .i64 e19.arity,.int .i64 e19.rowCount,.sl 220 3 (e19.groups.map aD)],.agg [.str e23.name,.int .i64 e23.arity,.int .i64 e23.rowCount,.sl 220 3 (e23.groups.map aD)]] (vB true) []/\bK ((k:Int)+1)/\ ∃(k' :Nat),((k:Int)+1)=(k' :Int)/\k' <=x.length/\x.length - k' <x.length - k) ((true)=true/\True))))) (by kernel_rfl) ?_;refine lx fun n0=>lx fun n1=>?_;refine⟨aA8 _,aA8 _,by simp,⟨0,rfl,aCC _⟩,fun k hk=>?_⟩;refine⟨aA8 _,dd (fun c1=>?_) fun c1=>?_⟩
 ·obtain⟨y,hy⟩:=dA (l:=x) (k:=k) (by omega);refine⟨by omega,rfl,by omega,fun e19 h19=>?_⟩
  try (obtain rfl:=aW hy h19)
  refine⟨by omega,rfl,by omega,fun e23 h23=>?_⟩
  try (obtain rfl:=aW hy h23)
  refine⟨by exact aIs _,⟨by omega,by omega⟩,?_⟩;exact⟨k+1,rfl,by omega,by omega⟩
 ·apply et1
  ·rfl
abbrev aAH (x:cE):Prop:=Cn 35 [.agg [.int .i64 x.version,.sl 88 4 (x.tables.map aG)],.agg [.int .i64 x.version,.sl 88 4 (x.tables.map aG)]] (vB true) []
theorem aLb (x:cE):aAH x:=by
 refine cq Tryz.func35 (.no<| .call (vB true) []<| .fin []) (p:=Lx (x.tables.map aG)<| Lx (x.tables.map aG)<| (!(decide (x.version=x.version)))=false/\uG x.tables/\(true)=true/\True) (by kernel_rfl) ?_;refine lx fun n0=>lx fun n1=>?_;refine⟨by simp,by exact aIK x.tables,?_,trivial⟩
 ·rfl
abbrev aFH (x:bB):Prop:=Cn 69 [.agg [.str x.name,.sl 3 1 (x.src.map intD),.int .i64 x.dst],.agg [.str x.name,.sl 3 1 (x.src.map intD),.int .i64 x.dst]] (vB true) []
theorem aIt (x:bB):aFH x:=by
 refine cq Tryz.func69 (.no<| .call (vB true) []<| .lit<| .no<| .fin []) (p:=Lx (x.src.map intD)<| Lx (x.src.map intD)<| (!(x.name.toList==x.name.toList))=false/\uE x.src/\(!(decide (x.dst=x.dst)))=false/\(true)=true/\True) (by kernel_rfl) ?_;refine lx fun n0=>lx fun n1=>?_;refine⟨by simp,by exact aDC x.src,by simp,?_,trivial⟩
 ·rfl
abbrev uH (x:List bB):Prop:=Cn 36 [.one (.sl 121 3 (x.map aN)),.one (.sl 121 3 (x.map aN))] (vB true) []
theorem aIL (x:List bB):uH x:=by
 refine cq Tryz.func36 (.len x.length<| .len x.length<| .no<| .loop Nat (Q1 Nat) ([5]++rg 11 16) [] (fun k=>[(5,vI (k:Int))]) (fun k=>[]) (fun k=>k<=x.length) (fun k=>x.length - k) (fun k=> .len x.length<| .br (.elem _ aN x (fun e19=> .elem _ aN x (fun e23=> .call (vB true) []<| .back []))) (.fin []))) (p:=Lx (x.map aN)<| Lx (x.map aN)<| Lm aN x/\(Lm aN x/\((!(decide ((x.length:Int)=(x.length:Int))))=false/\((∃(k:Nat),0=(k:Int)/\k<=x.length)/\ ∀(k:Nat),k<=x.length->Lm aN x/\Br ((k:Int)<(x.length:Int)) (0<=(k:Int)/\Em aN x k fun e19=>0<=(k:Int)/\Em aN x k fun e23=>qI Tryz.prog 69 [.agg [.str e19.name,.sl 3 1 (e19.src.map intD),.int .i64 e19.dst],.agg [.str e23.name,.sl 3 1 (e23.src.map intD),.int .i64 e23.dst]] (vB true) []/\bK ((k:Int)+1)/\ ∃(k' :Nat),((k:Int)+1)=(k' :Int)/\k' <=x.length/\x.length - k' <x.length - k) ((true)=true/\True))))) (by kernel_rfl) ?_;refine lx fun n0=>lx fun n1=>?_;refine⟨aA8 _,aA8 _,by simp,⟨0,rfl,aCC _⟩,fun k hk=>?_⟩;refine⟨aA8 _,dd (fun c1=>?_) fun c1=>?_⟩
 ·obtain⟨y,hy⟩:=dA (l:=x) (k:=k) (by omega);refine⟨by omega,rfl,by omega,fun e19 h19=>?_⟩
  try (obtain rfl:=aW hy h19)
  refine⟨by omega,rfl,by omega,fun e23 h23=>?_⟩
  try (obtain rfl:=aW hy h23)
  refine⟨by exact aIt _,⟨by omega,by omega⟩,?_⟩;exact⟨k+1,rfl,by omega,by omega⟩
 ·apply et1
  ·rfl
abbrev aIM (x:aZ):Prop:=Cn 70 [.agg [.str x.name,.int .i64 x.column,.str x.into,.int .i64 x.intoColumn],.agg [.str x.name,.int .i64 x.column,.str x.into,.int .i64 x.intoColumn]] (vB true) []
theorem aLc (x:aZ):aIM x:=by
 refine cq Tryz.func70 (.no<| .no<| .no<| .no<| .fin []) (p:=(!(x.name.toList==x.name.toList))=false/\(!(decide (x.column=x.column)))=false/\(!(x.into.toList==x.into.toList))=false/\(!(decide (x.intoColumn=x.intoColumn)))=false/\(true)=true/\True) (by kernel_rfl) ?_;refine⟨by simp,by simp,by simp,by simp,?_,trivial⟩
 ·rfl
abbrev wR (x:List aZ):Prop:=Cn 37 [.one (.sl 123 4 (x.map aR)),.one (.sl 123 4 (x.map aR))] (vB true) []
theorem aIu (x:List aZ):wR x:=by
 refine cq Tryz.func37 (.len x.length<| .len x.length<| .no<| .loop Nat (Q1 Nat) ([5]++rg 11 16) [] (fun k=>[(5,vI (k:Int))]) (fun k=>[]) (fun k=>k<=x.length) (fun k=>x.length - k) (fun k=> .len x.length<| .br (.elem _ aR x (fun e19=> .elem _ aR x (fun e23=> .call (vB true) []<| .back []))) (.fin []))) (p:=Lx (x.map aR)<| Lx (x.map aR)<| Lm aR x/\(Lm aR x/\((!(decide ((x.length:Int)=(x.length:Int))))=false/\((∃(k:Nat),0=(k:Int)/\k<=x.length)/\ ∀(k:Nat),k<=x.length->Lm aR x/\Br ((k:Int)<(x.length:Int)) (0<=(k:Int)/\Em aR x k fun e19=>0<=(k:Int)/\Em aR x k fun e23=>qI Tryz.prog 70 [.agg [.str e19.name,.int .i64 e19.column,.str e19.into,.int .i64 e19.intoColumn],.agg [.str e23.name,.int .i64 e23.column,.str e23.into,.int .i64 e23.intoColumn]] (vB true) []/\bK ((k:Int)+1)/\ ∃(k' :Nat),((k:Int)+1)=(k' :Int)/\k' <=x.length/\x.length - k' <x.length - k) ((true)=true/\True))))) (by kernel_rfl) ?_;refine lx fun n0=>lx fun n1=>?_;refine⟨aA8 _,aA8 _,by simp,⟨0,rfl,aCC _⟩,fun k hk=>?_⟩;refine⟨aA8 _,dd (fun c1=>?_) fun c1=>?_⟩
 ·obtain⟨y,hy⟩:=dA (l:=x) (k:=k) (by omega);refine⟨by omega,rfl,by omega,fun e19 h19=>?_⟩
  try (obtain rfl:=aW hy h19)
  refine⟨by omega,rfl,by omega,fun e23 h23=>?_⟩
  try (obtain rfl:=aW hy h23)
  refine⟨by exact aLc _,⟨by omega,by omega⟩,?_⟩;exact⟨k+1,rfl,by omega,by omega⟩
 ·apply et1
  ·rfl
abbrev aIN (x:StoreD):Prop:=Cn 13 [.agg [.sl 142 3 (x.database.tables.map aS),.int .i64 x.catalogue.version,.sl 88 4 (x.catalogue.tables.map aG),.sl 121 3 (x.dependencies.map aN),.sl 123 4 (x.inclusions.map aR)],.agg [.sl 142 3 (x.database.tables.map aS),.int .i64 x.catalogue.version,.sl 88 4 (x.catalogue.tables.map aG),.sl 121 3 (x.dependencies.map aN),.sl 123 4 (x.inclusions.map aR)]] (vB true) []
theorem aVI (x:StoreD):aIN x:=by
 refine cq Tryz.func13 (.call (vB true) []<| .call (vB true) []<| .call (vB true) []<| .call (vB true) []<| .fin []) (p:=Lx (x.database.tables.map aS)<| Lx (x.catalogue.tables.map aG)<| Lx (x.dependencies.map aN)<| Lx (x.inclusions.map aR)<| Lx (x.database.tables.map aS)<| Lx (x.catalogue.tables.map aG)<| Lx (x.dependencies.map aN)<| Lx (x.inclusions.map aR)<| aAt x.database/\aAH x.catalogue/\uH x.dependencies/\wR x.inclusions/\(true)=true/\True) (by kernel_rfl) ?_;refine lx fun n0=>lx fun n1=>lx fun n2=>lx fun n3=>lx fun n4=>lx fun n5=>lx fun n6=>lx fun n7=>?_;refine⟨by exact aNr x.database,by exact aLb x.catalogue,by exact aIL x.dependencies,by exact aIu x.inclusions,?_,trivial⟩
 ·rfl
abbrev aAu (x:aB):Prop:=Cn 12 [.agg [.int .i64 x.num,.int .i64 x.den],.agg [.int .i64 x.num,.int .i64 x.den]] (vB true) []
theorem aNs (x:aB):aAu x:=by
 refine cq Tryz.func12 (.no<| .no<| .fin []) (p:=(!(decide (x.num=x.num)))=false/\(!(decide (x.den=x.den)))=false/\(true)=true/\True) (by kernel_rfl) ?_;refine⟨by simp,by simp,?_,trivial⟩
 ·rfl
end Go.Proofs.YtlidmoeecphbmaaGreat
