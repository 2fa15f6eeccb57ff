/-
  Contracts and plain laws, joined: part 25.
-/
import Derived.Test.YtlidmoeecphbmaaGreatez3
namespace Go.Proofs.YtlidmoeecphbmaaGreat
open Go.ChangeShapes Go.WideShapes Go.ChangeAt Go.RowKit
set_option linter.unusedVariables false
set_option linter.unusedSimpArgs false
set_option maxRecDepth 100000
set_option maxHeartbeats 4000000
abbrev uQ (x:List Int):Prop:=Cn 121 [.one (.sl 3 1 (x.map intD)),.one (.sl 3 1 (x.map intD))] (vB true) []
theorem aDZ (x:List Int):uQ x:=by
 refine cq Tryz.func121 (.len x.length<| .len x.length<| .no<| .loop Nat (Q1 Nat) ([5]++rg 11 15) [] (fun k=>[(5,vI (k:Int))]) (fun k=>[]) (fun k=>k<=x.length) (fun k=>x.length - k) (fun k=> .len x.length<| .br (.elem _ intD x (fun e19=> .elem _ intD x (fun e23=> .no<| .back []))) (.fin []))) (p:=Lx (x.map intD)<| Lx (x.map intD)<| Lm intD x/\(Lm intD x/\((!(decide ((x.length:Int)=(x.length:Int))))=false/\((∃(k:Nat),0=(k:Int)/\k<=x.length)/\ ∀(k:Nat),k<=x.length->Lm intD x/\Br ((k:Int)<(x.length:Int)) (0<=(k:Int)/\Em intD x k fun e19=>0<=(k:Int)/\Em intD x k fun e23=>(!(decide (e19=e23)))=false/\bJ ((k:Int)+1)/\ ∃(k' :Nat),((k:Int)+1)=(k' :Int)/\k' <=x.length/\x.length - k' <x.length - k) ((true)=true/\True))))) (by kernel_rfl) ?_;refine lx fun n0=>lx fun n1=>?_;refine⟨aAq _,aAq _,by simp,⟨0,rfl,aBn _⟩,fun k hk=>?_⟩;refine⟨aAq _,dd (fun c1=>?_) fun c1=>?_⟩
 ·obtain⟨y,hy⟩:=dB (l:=x) (k:=k) (by omega);refine⟨by omega,rfl,by omega,fun e19 h19=>?_⟩
  try (obtain rfl:=aX hy h19)
  refine⟨by omega,rfl,by omega,fun e23 h23=>?_⟩
  try (obtain rfl:=aX hy h23)
  refine⟨by simp,⟨by omega,by omega⟩,?_⟩;exact⟨k+1,rfl,by omega,by omega⟩
 ·apply et1
  ·rfl
abbrev aCU (x:List (List Int)):Prop:=Cn 175 [.one (.sl 91 1 (x.map aC)),.one (.sl 91 1 (x.map aC))] (vB true) []
theorem aO5 (x:List (List Int)):aCU x:=by
 refine cq Tryz.func175 (.len x.length<| .len x.length<| .no<| .loop Nat (Q1 Nat) ([5]++rg 11 16) [] (fun k=>[(5,vI (k:Int))]) (fun k=>[]) (fun k=>k<=x.length) (fun k=>x.length - k) (fun k=> .len x.length<| .br (.elem _ aC x (fun e19=> .elem _ aC x (fun e23=> .call (vB true) []<| .back []))) (.fin []))) (p:=Lx (x.map aC)<| Lx (x.map aC)<| Lm aC x/\(Lm aC x/\((!(decide ((x.length:Int)=(x.length:Int))))=false/\((∃(k:Nat),0=(k:Int)/\k<=x.length)/\ ∀(k:Nat),k<=x.length->Lm aC x/\Br ((k:Int)<(x.length:Int)) (0<=(k:Int)/\Em aC x k fun e19=>0<=(k:Int)/\Em aC x k fun e23=>qJ Tryz.prog 121 [.one (.sl 3 1 (e19.map intD)),.one (.sl 3 1 (e23.map intD))] (vB true) []/\bJ ((k:Int)+1)/\ ∃(k' :Nat),((k:Int)+1)=(k' :Int)/\k' <=x.length/\x.length - k' <x.length - k) ((true)=true/\True))))) (by kernel_rfl) ?_;refine lx fun n0=>lx fun n1=>?_;refine⟨aAq _,aAq _,by simp,⟨0,rfl,aBn _⟩,fun k hk=>?_⟩;refine⟨aAq _,dd (fun c1=>?_) fun c1=>?_⟩
 ·obtain⟨y,hy⟩:=dB (l:=x) (k:=k) (by omega);refine⟨by omega,rfl,by omega,fun e19 h19=>?_⟩
  try (obtain rfl:=aX hy h19)
  refine⟨by omega,rfl,by omega,fun e23 h23=>?_⟩
  try (obtain rfl:=aX hy h23)
  refine⟨by exact aDZ _,⟨by omega,by omega⟩,?_⟩;exact⟨k+1,rfl,by omega,by omega⟩
 ·apply et1
  ·rfl
abbrev aPs (x:aY):Prop:=Cn 119 [.agg [.str x.name,.int .i64 x.arity,.sl 91 1 (x.rows.map aC)],.agg [.str x.name,.int .i64 x.arity,.sl 91 1 (x.rows.map aC)]] (vB true) []
theorem aVp (x:aY):aPs x:=by
 refine cq Tryz.func119 (.no<| .no<| .call (vB true) []<| .fin []) (p:=Lx (x.rows.map aC)<| Lx (x.rows.map aC)<| (!(x.name.toList==x.name.toList))=false/\(!(decide (x.arity=x.arity)))=false/\aCU x.rows/\(true)=true/\True) (by kernel_rfl) ?_;refine lx fun n0=>lx fun n1=>?_;refine⟨by simp,by simp,by exact aO5 x.rows,?_,trivial⟩
 ·rfl
abbrev aFO (x:List aY):Prop:=Cn 67 [.one (.sl 142 3 (x.map aS)),.one (.sl 142 3 (x.map aS))] (vB true) []
theorem aSn (x:List aY):aFO x:=by
 refine cq Tryz.func67 (.len x.length<| .len x.length<| .no<| .loop Nat (Q1 Nat) ([5]++rg 11 16) [] (fun k=>[(5,vI (k:Int))]) (fun k=>[]) (fun k=>k<=x.length) (fun k=>x.length - k) (fun k=> .len x.length<| .br (.elem _ aS x (fun e19=> .elem _ aS x (fun e23=> .call (vB true) []<| .back []))) (.fin []))) (p:=Lx (x.map aS)<| Lx (x.map aS)<| Lm aS x/\(Lm aS x/\((!(decide ((x.length:Int)=(x.length:Int))))=false/\((∃(k:Nat),0=(k:Int)/\k<=x.length)/\ ∀(k:Nat),k<=x.length->Lm aS x/\Br ((k:Int)<(x.length:Int)) (0<=(k:Int)/\Em aS x k fun e19=>0<=(k:Int)/\Em aS x k fun e23=>qJ Tryz.prog 119 [.agg [.str e19.name,.int .i64 e19.arity,.sl 91 1 (e19.rows.map aC)],.agg [.str e23.name,.int .i64 e23.arity,.sl 91 1 (e23.rows.map aC)]] (vB true) []/\bJ ((k:Int)+1)/\ ∃(k' :Nat),((k:Int)+1)=(k' :Int)/\k' <=x.length/\x.length - k' <x.length - k) ((true)=true/\True))))) (by kernel_rfl) ?_;refine lx fun n0=>lx fun n1=>?_;refine⟨aAq _,aAq _,by simp,⟨0,rfl,aBn _⟩,fun k hk=>?_⟩;refine⟨aAq _,dd (fun c1=>?_) fun c1=>?_⟩
 ·obtain⟨y,hy⟩:=dB (l:=x) (k:=k) (by omega);refine⟨by omega,rfl,by omega,fun e19 h19=>?_⟩
  try (obtain rfl:=aX hy h19)
  refine⟨by omega,rfl,by omega,fun e23 h23=>?_⟩
  try (obtain rfl:=aX hy h23)
  refine⟨by exact aVp _,⟨by omega,by omega⟩,?_⟩;exact⟨k+1,rfl,by omega,by omega⟩
 ·apply et1
  ·rfl
abbrev aBM (x:aU):Prop:=Cn 34 [.agg [.sl 142 3 (x.tables.map aS)],.agg [.sl 142 3 (x.tables.map aS)]] (vB true) []
theorem aO6 (x:aU):aBM x:=by
 refine cq Tryz.func34 (.call (vB true) []<| .fin []) (p:=Lx (x.tables.map aS)<| Lx (x.tables.map aS)<| aFO x.tables/\(true)=true/\True) (by kernel_rfl) ?_;refine lx fun n0=>lx fun n1=>?_;refine⟨by exact aSn x.tables,?_,trivial⟩
 ·rfl
abbrev aSo (x:dC):Prop:=Cn 71 [.agg [.str x.name,.sl 3 1 (x.vars.map intD)],.agg [.str x.name,.sl 3 1 (x.vars.map intD)]] (vB true) []
theorem aX5 (x:dC):aSo x:=by
 refine cq Tryz.func71 (.no<| .call (vB true) []<| .fin []) (p:=Lx (x.vars.map intD)<| Lx (x.vars.map intD)<| (!(x.name.toList==x.name.toList))=false/\uQ x.vars/\(true)=true/\True) (by kernel_rfl) ?_;refine lx fun n0=>lx fun n1=>?_;refine⟨by simp,by exact aDZ x.vars,?_,trivial⟩
 ·rfl
abbrev aIa (x:List dC):Prop:=Cn 38 [.one (.sl 125 2 (x.map bF)),.one (.sl 125 2 (x.map bF))] (vB true) []
theorem aVq (x:List dC):aIa x:=by
 refine cq Tryz.func38 (.len x.length<| .len x.length<| .no<| .loop Nat (Q1 Nat) ([5]++rg 11 16) [] (fun k=>[(5,vI (k:Int))]) (fun k=>[]) (fun k=>k<=x.length) (fun k=>x.length - k) (fun k=> .len x.length<| .br (.elem _ bF x (fun e19=> .elem _ bF x (fun e23=> .call (vB true) []<| .back []))) (.fin []))) (p:=Lx (x.map bF)<| Lx (x.map bF)<| Lm bF x/\(Lm bF x/\((!(decide ((x.length:Int)=(x.length:Int))))=false/\((∃(k:Nat),0=(k:Int)/\k<=x.length)/\ ∀(k:Nat),k<=x.length->Lm bF x/\Br ((k:Int)<(x.length:Int)) (0<=(k:Int)/\Em bF x k fun e19=>0<=(k:Int)/\Em bF x k fun e23=>qJ Tryz.prog 71 [.agg [.str e19.name,.sl 3 1 (e19.vars.map intD)],.agg [.str e23.name,.sl 3 1 (e23.vars.map intD)]] (vB true) []/\bJ ((k:Int)+1)/\ ∃(k' :Nat),((k:Int)+1)=(k' :Int)/\k' <=x.length/\x.length - k' <x.length - k) ((true)=true/\True))))) (by kernel_rfl) ?_;refine lx fun n0=>lx fun n1=>?_;refine⟨aAq _,aAq _,by simp,⟨0,rfl,aBn _⟩,fun k hk=>?_⟩;refine⟨aAq _,dd (fun c1=>?_) fun c1=>?_⟩
 ·obtain⟨y,hy⟩:=dB (l:=x) (k:=k) (by omega);refine⟨by omega,rfl,by omega,fun e19 h19=>?_⟩
  try (obtain rfl:=aX hy h19)
  refine⟨by omega,rfl,by omega,fun e23 h23=>?_⟩
  try (obtain rfl:=aX hy h23)
  refine⟨by exact aX5 _,⟨by omega,by omega⟩,?_⟩;exact⟨k+1,rfl,by omega,by omega⟩
 ·apply et1
  ·rfl
abbrev aIb (x:QueryD):Prop:=Cn 14 [.agg [.int .i64 x.variableCount,.sl 125 2 (x.atoms.map bF)],.agg [.int .i64 x.variableCount,.sl 125 2 (x.atoms.map bF)]] (vB true) []
theorem aVr (x:QueryD):aIb x:=by
 refine cq Tryz.func14 (.no<| .call (vB true) []<| .fin []) (p:=Lx (x.atoms.map bF)<| Lx (x.atoms.map bF)<| (!(decide (x.variableCount=x.variableCount)))=false/\aIa x.atoms/\(true)=true/\True) (by kernel_rfl) ?_;refine lx fun n0=>lx fun n1=>?_;refine⟨by simp,by exact aVq x.atoms,?_,trivial⟩
 ·rfl
abbrev aF1 (x:aR):Prop:=Cn 217 [.agg [.sl 3 1 (x.columns.map intD),.sl 91 1 (x.values.map aC),.sl 3 1 (x.counts.map intD)],.agg [.sl 3 1 (x.columns.map intD),.sl 91 1 (x.values.map aC),.sl 3 1 (x.counts.map intD)]] (vB true) []
theorem aJU (x:aR):aF1 x:=by
 refine cq Tryz.func217 (.call (vB true) []<| .call (vB true) []<| .call (vB true) []<| .fin []) (p:=Lx (x.columns.map intD)<| Lx (x.values.map aC)<| Lx (x.counts.map intD)<| Lx (x.columns.map intD)<| Lx (x.values.map aC)<| Lx (x.counts.map intD)<| uQ x.columns/\aCU x.values/\uQ x.counts/\(true)=true/\True) (by kernel_rfl) ?_;refine lx fun n0=>lx fun n1=>lx fun n2=>lx fun n3=>lx fun n4=>lx fun n5=>?_;refine⟨by exact aDZ x.columns,by exact aO5 x.values,by exact aDZ x.counts,?_,trivial⟩
 ·rfl
abbrev uR (x:List aR):Prop:=Cn 176 [.one (.sl 220 3 (x.map aD)),.one (.sl 220 3 (x.map aD))] (vB true) []
theorem aIc (x:List aR):uR x:=by
 refine cq Tryz.func176 (.len x.length<| .len x.length<| .no<| .loop Nat (Q1 Nat) ([5]++rg 11 16) [] (fun k=>[(5,vI (k:Int))]) (fun k=>[]) (fun k=>k<=x.length) (fun k=>x.length - k) (fun k=> .len x.length<| .br (.elem _ aD x (fun e19=> .elem _ aD x (fun e23=> .call (vB true) []<| .back []))) (.fin []))) (p:=Lx (x.map aD)<| Lx (x.map aD)<| Lm aD x/\(Lm aD x/\((!(decide ((x.length:Int)=(x.length:Int))))=false/\((∃(k:Nat),0=(k:Int)/\k<=x.length)/\ ∀(k:Nat),k<=x.length->Lm aD x/\Br ((k:Int)<(x.length:Int)) (0<=(k:Int)/\Em aD x k fun e19=>0<=(k:Int)/\Em aD x k fun e23=>qJ Tryz.prog 217 [.agg [.sl 3 1 (e19.columns.map intD),.sl 91 1 (e19.values.map aC),.sl 3 1 (e19.counts.map intD)],.agg [.sl 3 1 (e23.columns.map intD),.sl 91 1 (e23.values.map aC),.sl 3 1 (e23.counts.map intD)]] (vB true) []/\bJ ((k:Int)+1)/\ ∃(k' :Nat),((k:Int)+1)=(k' :Int)/\k' <=x.length/\x.length - k' <x.length - k) ((true)=true/\True))))) (by kernel_rfl) ?_;refine lx fun n0=>lx fun n1=>?_;refine⟨aAq _,aAq _,by simp,⟨0,rfl,aBn _⟩,fun k hk=>?_⟩;refine⟨aAq _,dd (fun c1=>?_) fun c1=>?_⟩
 ·obtain⟨y,hy⟩:=dB (l:=x) (k:=k) (by omega);refine⟨by omega,rfl,by omega,fun e19 h19=>?_⟩
  try (obtain rfl:=aX hy h19)
  refine⟨by omega,rfl,by omega,fun e23 h23=>?_⟩
  try (obtain rfl:=aX hy h23)
  refine⟨by exact aJU _,⟨by omega,by omega⟩,?_⟩;exact⟨k+1,rfl,by omega,by omega⟩
 ·apply et1
  ·rfl
abbrev aF2 (x:aM):Prop:=Cn 120 [.agg [.str x.name,.int .i64 x.arity,.int .i64 x.rowCount,.sl 220 3 (x.groups.map aD)],.agg [.str x.name,.int .i64 x.arity,.int .i64 x.rowCount,.sl 220 3 (x.groups.map aD)]] (vB true) []
theorem aJV (x:aM):aF2 x:=by
 refine cq Tryz.func120 (.no<| .no<| .no<| .call (vB true) []<| .fin []) (p:=Lx (x.groups.map aD)<| Lx (x.groups.map aD)<| (!(x.name.toList==x.name.toList))=false/\(!(decide (x.arity=x.arity)))=false/\(!(decide (x.rowCount=x.rowCount)))=false/\uR x.groups/\(true)=true/\True) (by kernel_rfl) ?_;refine lx fun n0=>lx fun n1=>?_;refine⟨by simp,by simp,by simp,by exact aIc x.groups,?_,trivial⟩
 ·rfl
abbrev uS (x:List aM):Prop:=Cn 68 [.one (.sl 88 4 (x.map aF)),.one (.sl 88 4 (x.map aF))] (vB true) []
theorem aId (x:List aM):uS x:=by
 refine cq Tryz.func68 (.len x.length<| .len x.length<| .no<| .loop Nat (Q1 Nat) ([5]++rg 11 16) [] (fun k=>[(5,vI (k:Int))]) (fun k=>[]) (fun k=>k<=x.length) (fun k=>x.length - k) (fun k=> .len x.length<| .br (.elem _ aF x (fun e19=> .elem _ aF x (fun e23=> .call (vB true) []<| .back []))) (.fin []))) (p:=Lx (x.map aF)<| Lx (x.map aF)<| Lm aF x/\(Lm aF x/\((!(decide ((x.length:Int)=(x.length:Int))))=false/\((∃(k:Nat),0=(k:Int)/\k<=x.length)/\ ∀(k:Nat),k<=x.length->Lm aF x/\Br ((k:Int)<(x.length:Int)) (0<=(k:Int)/\Em aF x k fun e19=>0<=(k:Int)/\Em aF x k fun e23=>qJ Tryz.prog 120 [.agg [.str e19.name,.int .i64 e19.arity,.int .i64 e19.rowCount,.sl 220 3 (e19.groups.map aD)],.agg [.str e23.name,.int .i64 e23.arity,.int .i64 e23.rowCount,.sl 220 3 (e23.groups.map aD)]] (vB true) []/\bJ ((k:Int)+1)/\ ∃(k' :Nat),((k:Int)+1)=(k' :Int)/\k' <=x.length/\x.length - k' <x.length - k) ((true)=true/\True))))) (by kernel_rfl) ?_;refine lx fun n0=>lx fun n1=>?_;refine⟨aAq _,aAq _,by simp,⟨0,rfl,aBn _⟩,fun k hk=>?_⟩;refine⟨aAq _,dd (fun c1=>?_) fun c1=>?_⟩
 ·obtain⟨y,hy⟩:=dB (l:=x) (k:=k) (by omega);refine⟨by omega,rfl,by omega,fun e19 h19=>?_⟩
  try (obtain rfl:=aX hy h19)
  refine⟨by omega,rfl,by omega,fun e23 h23=>?_⟩
  try (obtain rfl:=aX hy h23)
  refine⟨by exact aJV _,⟨by omega,by omega⟩,?_⟩;exact⟨k+1,rfl,by omega,by omega⟩
 ·apply et1
  ·rfl
abbrev aAY (x:cI):Prop:=Cn 35 [.agg [.int .i64 x.version,.sl 88 4 (x.tables.map aF)],.agg [.int .i64 x.version,.sl 88 4 (x.tables.map aF)]] (vB true) []
theorem aMJ (x:cI):aAY x:=by
 refine cq Tryz.func35 (.no<| .call (vB true) []<| .fin []) (p:=Lx (x.tables.map aF)<| Lx (x.tables.map aF)<| (!(decide (x.version=x.version)))=false/\uS x.tables/\(true)=true/\True) (by kernel_rfl) ?_;refine lx fun n0=>lx fun n1=>?_;refine⟨by simp,by exact aId x.tables,?_,trivial⟩
 ·rfl
abbrev aF3 (x:bB):Prop:=Cn 69 [.agg [.str x.name,.sl 3 1 (x.src.map intD),.int .i64 x.dst],.agg [.str x.name,.sl 3 1 (x.src.map intD),.int .i64 x.dst]] (vB true) []
theorem aJW (x:bB):aF3 x:=by
 refine cq Tryz.func69 (.no<| .call (vB true) []<| .lit<| .no<| .fin []) (p:=Lx (x.src.map intD)<| Lx (x.src.map intD)<| (!(x.name.toList==x.name.toList))=false/\uQ x.src/\(!(decide (x.dst=x.dst)))=false/\(true)=true/\True) (by kernel_rfl) ?_;refine lx fun n0=>lx fun n1=>?_;refine⟨by simp,by exact aDZ x.src,by simp,?_,trivial⟩
 ·rfl
abbrev uT (x:List bB):Prop:=Cn 36 [.one (.sl 121 3 (x.map aN)),.one (.sl 121 3 (x.map aN))] (vB true) []
theorem aIe (x:List bB):uT x:=by
 refine cq Tryz.func36 (.len x.length<| .len x.length<| .no<| .loop Nat (Q1 Nat) ([5]++rg 11 16) [] (fun k=>[(5,vI (k:Int))]) (fun k=>[]) (fun k=>k<=x.length) (fun k=>x.length - k) (fun k=> .len x.length<| .br (.elem _ aN x (fun e19=> .elem _ aN x (fun e23=> .call (vB true) []<| .back []))) (.fin []))) (p:=Lx (x.map aN)<| Lx (x.map aN)<| Lm aN x/\(Lm aN x/\((!(decide ((x.length:Int)=(x.length:Int))))=false/\((∃(k:Nat),0=(k:Int)/\k<=x.length)/\ ∀(k:Nat),k<=x.length->Lm aN x/\Br ((k:Int)<(x.length:Int)) (0<=(k:Int)/\Em aN x k fun e19=>0<=(k:Int)/\Em aN x k fun e23=>qJ Tryz.prog 69 [.agg [.str e19.name,.sl 3 1 (e19.src.map intD),.int .i64 e19.dst],.agg [.str e23.name,.sl 3 1 (e23.src.map intD),.int .i64 e23.dst]] (vB true) []/\bJ ((k:Int)+1)/\ ∃(k' :Nat),((k:Int)+1)=(k' :Int)/\k' <=x.length/\x.length - k' <x.length - k) ((true)=true/\True))))) (by kernel_rfl) ?_;refine lx fun n0=>lx fun n1=>?_;refine⟨aAq _,aAq _,by simp,⟨0,rfl,aBn _⟩,fun k hk=>?_⟩;refine⟨aAq _,dd (fun c1=>?_) fun c1=>?_⟩
 ·obtain⟨y,hy⟩:=dB (l:=x) (k:=k) (by omega);refine⟨by omega,rfl,by omega,fun e19 h19=>?_⟩
  try (obtain rfl:=aX hy h19)
  refine⟨by omega,rfl,by omega,fun e23 h23=>?_⟩
  try (obtain rfl:=aX hy h23)
  refine⟨by exact aJW _,⟨by omega,by omega⟩,?_⟩;exact⟨k+1,rfl,by omega,by omega⟩
 ·apply et1
  ·rfl
abbrev aIf (x:bA):Prop:=Cn 70 [.agg [.str x.name,.int .i64 x.column,.str x.into,.int .i64 x.intoColumn],.agg [.str x.name,.int .i64 x.column,.str x.into,.int .i64 x.intoColumn]] (vB true) []
theorem aMK (x:bA):aIf x:=by
 refine cq Tryz.func70 (.no<| .no<| .no<| .no<| .fin []) (p:=(!(x.name.toList==x.name.toList))=false/\(!(decide (x.column=x.column)))=false/\(!(x.into.toList==x.into.toList))=false/\(!(decide (x.intoColumn=x.intoColumn)))=false/\(true)=true/\True) (by kernel_rfl) ?_;refine⟨by simp,by simp,by simp,by simp,?_,trivial⟩
 ·rfl
abbrev xF (x:List bA):Prop:=Cn 37 [.one (.sl 123 4 (x.map aQ)),.one (.sl 123 4 (x.map aQ))] (vB true) []
theorem aJX (x:List bA):xF x:=by
 refine cq Tryz.func37 (.len x.length<| .len x.length<| .no<| .loop Nat (Q1 Nat) ([5]++rg 11 16) [] (fun k=>[(5,vI (k:Int))]) (fun k=>[]) (fun k=>k<=x.length) (fun k=>x.length - k) (fun k=> .len x.length<| .br (.elem _ aQ x (fun e19=> .elem _ aQ x (fun e23=> .call (vB true) []<| .back []))) (.fin []))) (p:=Lx (x.map aQ)<| Lx (x.map aQ)<| Lm aQ x/\(Lm aQ x/\((!(decide ((x.length:Int)=(x.length:Int))))=false/\((∃(k:Nat),0=(k:Int)/\k<=x.length)/\ ∀(k:Nat),k<=x.length->Lm aQ x/\Br ((k:Int)<(x.length:Int)) (0<=(k:Int)/\Em aQ x k fun e19=>0<=(k:Int)/\Em aQ x k fun e23=>qJ Tryz.prog 70 [.agg [.str e19.name,.int .i64 e19.column,.str e19.into,.int .i64 e19.intoColumn],.agg [.str e23.name,.int .i64 e23.column,.str e23.into,.int .i64 e23.intoColumn]] (vB true) []/\bJ ((k:Int)+1)/\ ∃(k' :Nat),((k:Int)+1)=(k' :Int)/\k' <=x.length/\x.length - k' <x.length - k) ((true)=true/\True))))) (by kernel_rfl) ?_;refine lx fun n0=>lx fun n1=>?_;refine⟨aAq _,aAq _,by simp,⟨0,rfl,aBn _⟩,fun k hk=>?_⟩;refine⟨aAq _,dd (fun c1=>?_) fun c1=>?_⟩
 ·obtain⟨y,hy⟩:=dB (l:=x) (k:=k) (by omega);refine⟨by omega,rfl,by omega,fun e19 h19=>?_⟩
  try (obtain rfl:=aX hy h19)
  refine⟨by omega,rfl,by omega,fun e23 h23=>?_⟩
  try (obtain rfl:=aX hy h23)
  refine⟨by exact aMK _,⟨by omega,by omega⟩,?_⟩;exact⟨k+1,rfl,by omega,by omega⟩
 ·apply et1
  ·rfl
abbrev aIg (x:StoreD):Prop:=Cn 13 [.agg [.sl 142 3 (x.database.tables.map aS),.int .i64 x.catalogue.version,.sl 88 4 (x.catalogue.tables.map aF),.sl 121 3 (x.dependencies.map aN),.sl 123 4 (x.inclusions.map aQ)],.agg [.sl 142 3 (x.database.tables.map aS),.int .i64 x.catalogue.version,.sl 88 4 (x.catalogue.tables.map aF),.sl 121 3 (x.dependencies.map aN),.sl 123 4 (x.inclusions.map aQ)]] (vB true) []
theorem aVs (x:StoreD):aIg x:=by
 refine cq Tryz.func13 (.call (vB true) []<| .call (vB true) []<| .call (vB true) []<| .call (vB true) []<| .fin []) (p:=Lx (x.database.tables.map aS)<| Lx (x.catalogue.tables.map aF)<| Lx (x.dependencies.map aN)<| Lx (x.inclusions.map aQ)<| Lx (x.database.tables.map aS)<| Lx (x.catalogue.tables.map aF)<| Lx (x.dependencies.map aN)<| Lx (x.inclusions.map aQ)<| aBM x.database/\aAY x.catalogue/\uT x.dependencies/\xF x.inclusions/\(true)=true/\True) (by kernel_rfl) ?_;refine lx fun n0=>lx fun n1=>lx fun n2=>lx fun n3=>lx fun n4=>lx fun n5=>lx fun n6=>lx fun n7=>?_;refine⟨by exact aO6 x.database,by exact aMJ x.catalogue,by exact aIe x.dependencies,by exact aJX x.inclusions,?_,trivial⟩
 ·rfl
end Go.Proofs.YtlidmoeecphbmaaGreat
