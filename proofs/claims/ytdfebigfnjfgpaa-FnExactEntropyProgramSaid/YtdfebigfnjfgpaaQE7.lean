/-
  Contracts and plain laws, joined: part 8.
-/
import Derived.Test.YtdfebigfnjfgpaaQE3
import Derived.Test.YtdfebigfnjfgpaaQE6
import Derived.Test.YtdfebigfnjfgpaaQE5
import Derived.Test.YtdfebigfnjfgpaaQE0
namespace Go.Proofs.Ytdfebigfnjfgpaa
open Go.ChangeShapes Go.WideShapes Go.ChangeAt Go.RowKit
set_option linter.unusedVariables false
set_option linter.unusedSimpArgs false
set_option maxRecDepth 100000
set_option maxHeartbeats 4000000
abbrev pC (x:List Int):Prop:=jP Try.prog 21 [.one (.sl 3 1 (x.map aD)),.one (.sl 3 1 (x.map aD))] (vB true) []
theorem mA (x:List Int):pC x:=by
 refine eM gL cO Try.func21 (by kernel_rfl) (.len x.length<| .len x.length<| .no<| .loop Nat (Q1 Nat) [5,11,12,13,14,15,16,17,18,19,20,21,22,23,24,25] [] (fun k=>[(5,vI (k:Int))]) (fun k=>[]) (fun k=>k≤x.length) (fun k=>x.length - k) (fun k=> .len x.length<| .br (.elem _ aD x (fun e19=> .elem _ aD x (fun e23=> .no<| .back []))) (.fin []))) (p:=(x.map aD).length≤9223372036854775807→(x.map aD).length≤9223372036854775807→Lm aD x∧(Lm aD x∧((!(decide (((x.length:Nat):Int)=((x.length:Nat):Int))))=false∧((∃(k:Nat),(0:Int)=(k:Int)∧k≤x.length)∧ ∀(k:Nat),k≤x.length→Lm aD x∧(((decide ((k:Int)<((x.length:Nat):Int)))=true→0≤(k:Int)∧Em aD x k fun e19=>0≤(k:Int)∧Em aD x k fun e23=>(!(decide (e19=e23)))=false∧dV ((k:Int)+(1:Int))∧ ∃(k' :Nat),((k:Int)+(1:Int))=(k' :Int)∧k' ≤x.length∧x.length - k' <x.length - k)∧((decide ((k:Int)<((x.length:Nat):Int)))=false→(true)=true∧True)))))) (by kernel_rfl) ?_
 intro n0 n1
 simp only [List.length_map] at n0 n1
 refine ⟨List.length_map _,List.length_map _,by simp,⟨0,rfl,Nat.zero_le _⟩,fun k hk=>?_⟩
 refine ⟨List.length_map _,fun c1=>?_,fun c1=>?_⟩
 ·replace c1:=yq c1
  obtain ⟨y,hy⟩:=iT (l:=x) (k:=k) (by omega)
  refine ⟨by omega,rfl,by omega,fun e19 h19=>?_⟩
  try (obtain rfl:=cF hy h19)
  refine ⟨by omega,rfl,by omega,fun e23 h23=>?_⟩
  try (obtain rfl:=cF hy h23)
  refine ⟨by simp,⟨by omega,by omega⟩,?_⟩
  exact ⟨k+1,rfl,by omega,by omega⟩
 ·replace c1:=nq c1
  refine ⟨?_,trivial⟩
  ·rfl
abbrev sC (x:List (List Int)):Prop:=jP Try.prog 22 [.one (.sl 24 1 (x.map aE)),.one (.sl 24 1 (x.map aE))] (vB true) []
theorem xG (x:List (List Int)):sC x:=by
 refine eM gL cO Try.func22 (by kernel_rfl) (.len x.length<| .len x.length<| .no<| .loop Nat (Q1 Nat) [5,11,12,13,14,15,16,17,18,19,20,21,22,23,24,25,26] [] (fun k=>[(5,vI (k:Int))]) (fun k=>[]) (fun k=>k≤x.length) (fun k=>x.length - k) (fun k=> .len x.length<| .br (.elem _ aE x (fun e19=> .elem _ aE x (fun e23=> .call (vB true) []<| .back []))) (.fin []))) (p:=(x.map aE).length≤9223372036854775807→(x.map aE).length≤9223372036854775807→Lm aE x∧(Lm aE x∧((!(decide (((x.length:Nat):Int)=((x.length:Nat):Int))))=false∧((∃(k:Nat),(0:Int)=(k:Int)∧k≤x.length)∧ ∀(k:Nat),k≤x.length→Lm aE x∧(((decide ((k:Int)<((x.length:Nat):Int)))=true→0≤(k:Int)∧Em aE x k fun e19=>0≤(k:Int)∧Em aE x k fun e23=>jP Try.prog 21 [.one (.sl 3 1 (e19.map aD)),.one (.sl 3 1 (e23.map aD))] (vB true) []∧dV ((k:Int)+(1:Int))∧ ∃(k' :Nat),((k:Int)+(1:Int))=(k' :Int)∧k' ≤x.length∧x.length - k' <x.length - k)∧((decide ((k:Int)<((x.length:Nat):Int)))=false→(true)=true∧True)))))) (by kernel_rfl) ?_
 intro n0 n1
 simp only [List.length_map] at n0 n1
 refine ⟨List.length_map _,List.length_map _,by simp,⟨0,rfl,Nat.zero_le _⟩,fun k hk=>?_⟩
 refine ⟨List.length_map _,fun c1=>?_,fun c1=>?_⟩
 ·replace c1:=yq c1
  obtain ⟨y,hy⟩:=iT (l:=x) (k:=k) (by omega)
  refine ⟨by omega,rfl,by omega,fun e19 h19=>?_⟩
  try (obtain rfl:=cF hy h19)
  refine ⟨by omega,rfl,by omega,fun e23 h23=>?_⟩
  try (obtain rfl:=cF hy h23)
  refine ⟨by first | exact mA e19 | exact mA _,⟨by omega,by omega⟩,?_⟩
  exact ⟨k+1,rfl,by omega,by omega⟩
 ·replace c1:=nq c1
  refine ⟨?_,trivial⟩
  ·rfl
abbrev mC (x:SizeConstraintD):Prop:=jP Try.prog 23 [.agg [.int .i64 x.src,.int .i64 x.dst,.int .i64 x.bits],.agg [.int .i64 x.src,.int .i64 x.dst,.int .i64 x.bits]] (vB true) []
theorem iV (x:SizeConstraintD):mC x:=by
 refine eM gL cO Try.func23 (by kernel_rfl) (.no<| .no<| .no<| .fin []) (p:=(!(decide (x.src=x.src)))=false∧(!(decide (x.dst=x.dst)))=false∧(!(decide (x.bits=x.bits)))=false∧(true)=true∧True) (by kernel_rfl) ?_
 refine ⟨by simp,by simp,by simp,?_,trivial⟩
 ·rfl
abbrev gP (x:List SizeConstraintD):Prop:=jP Try.prog 9 [.one (.sl 41 3 (x.map aA)),.one (.sl 41 3 (x.map aA))] (vB true) []
theorem iK (x:List SizeConstraintD):gP x:=by
 refine eM gL cO Try.func9 (by kernel_rfl) (.len x.length<| .len x.length<| .no<| .loop Nat (Q1 Nat) [5,11,12,13,14,15,16,17,18,19,20,21,22,23,24,25,26] [] (fun k=>[(5,vI (k:Int))]) (fun k=>[]) (fun k=>k≤x.length) (fun k=>x.length - k) (fun k=> .len x.length<| .br (.elem _ aA x (fun e19=> .elem _ aA x (fun e23=> .call (vB true) []<| .back []))) (.fin []))) (p:=(x.map aA).length≤9223372036854775807→(x.map aA).length≤9223372036854775807→Lm aA x∧(Lm aA x∧((!(decide (((x.length:Nat):Int)=((x.length:Nat):Int))))=false∧((∃(k:Nat),(0:Int)=(k:Int)∧k≤x.length)∧ ∀(k:Nat),k≤x.length→Lm aA x∧(((decide ((k:Int)<((x.length:Nat):Int)))=true→0≤(k:Int)∧Em aA x k fun e19=>0≤(k:Int)∧Em aA x k fun e23=>jP Try.prog 23 [.agg [.int .i64 e19.src,.int .i64 e19.dst,.int .i64 e19.bits],.agg [.int .i64 e23.src,.int .i64 e23.dst,.int .i64 e23.bits]] (vB true) []∧dV ((k:Int)+(1:Int))∧ ∃(k' :Nat),((k:Int)+(1:Int))=(k' :Int)∧k' ≤x.length∧x.length - k' <x.length - k)∧((decide ((k:Int)<((x.length:Nat):Int)))=false→(true)=true∧True)))))) (by kernel_rfl) ?_
 intro n0 n1
 simp only [List.length_map] at n0 n1
 refine ⟨List.length_map _,List.length_map _,by simp,⟨0,rfl,Nat.zero_le _⟩,fun k hk=>?_⟩
 refine ⟨List.length_map _,fun c1=>?_,fun c1=>?_⟩
 ·replace c1:=yq c1
  obtain ⟨y,hy⟩:=iT (l:=x) (k:=k) (by omega)
  refine ⟨by omega,rfl,by omega,fun e19 h19=>?_⟩
  try (obtain rfl:=cF hy h19)
  refine ⟨by omega,rfl,by omega,fun e23 h23=>?_⟩
  try (obtain rfl:=cF hy h23)
  refine ⟨by first | exact iV e19 | exact iV _,⟨by omega,by omega⟩,?_⟩
  exact ⟨k+1,rfl,by omega,by omega⟩
 ·replace c1:=nq c1
  refine ⟨?_,trivial⟩
  ·rfl
abbrev gY (x:aQ):Prop:=jP Try.prog 8 [.agg [.sl 3 1 (x.objective.map aD),.sl 24 1 (x.rows.map aE),.sl 3 1 (x.limits.map aD)],.agg [.sl 3 1 (x.objective.map aD),.sl 24 1 (x.rows.map aE),.sl 3 1 (x.limits.map aD)]] (vB true) []
theorem fW (x:aQ):gY x:=by
 refine eM gL cO Try.func8 (by kernel_rfl) (.call (vB true) []<| .call (vB true) []<| .call (vB true) []<| .fin []) (p:=(x.objective.map aD).length≤9223372036854775807→(x.rows.map aE).length≤9223372036854775807→(x.limits.map aD).length≤9223372036854775807→(x.objective.map aD).length≤9223372036854775807→(x.rows.map aE).length≤9223372036854775807→(x.limits.map aD).length≤9223372036854775807→pC x.objective∧sC x.rows∧pC x.limits∧(true)=true∧True) (by kernel_rfl) ?_
 intro n0 n1 n2 n3 n4 n5
 simp only [List.length_map] at n0 n1 n2 n3 n4 n5
 refine ⟨by first | exact mA x.objective | exact mA _,by first | exact xG x.rows | exact xG _,by first | exact mA x.limits | exact mA _,?_,trivial⟩
 ·rfl
abbrev gQ (x:List SizeConstraintD) (m:Int):Prop:=jP Try.prog 4 [.one (.sl 41 3 (x.map aA)),.one (.int .i64 m)] (vI (iX (aY x) m)) []
theorem mX (x:List SizeConstraintD) (m:Int) (hf:cY x) (h0:0≤m) (h1:m≤1048576):gQ x m:=by
 refine eM gL cO Try.func4 (by kernel_rfl) (.len x.length<| .br (.fin []) (.fin [])) (p:=(x.map aA).length≤9223372036854775807→Lm aA x∧(dV (m - ((x.length:Nat):Int))∧(((decide ((m - ((x.length:Nat):Int))<(0:Int)))=true→(-1:Int)=(iX (aY x) m)∧True)∧((decide ((m - ((x.length:Nat):Int))<(0:Int)))=false→(m - ((x.length:Nat):Int))=(iX (aY x) m)∧True)))) (by kernel_rfl) ?_
 intro n0
 simp only [List.length_map] at n0
 refine ⟨List.length_map _,⟨by omega,by omega⟩,fun c0=>?_,fun c0=>?_⟩
 ·replace c0:=yq c0
  refine ⟨?_,trivial⟩
  ·unfold aY;first | (rw [sS (by omega)];done) | (rw [mH (by omega)];done)
 ·replace c0:=nq c0
  refine ⟨?_,trivial⟩
  ·unfold aY;first | (rw [sS (by omega)];done) | (rw [mH (by omega)];done)
theorem lawEntropyProgram (a0:List SizeConstraintD) (a1:Int) (h0:cY a0) (h1:Fits a1):jP Try.prog 3 [.one (.sl 41 3 (a0.map aA)),.one (.int .i64 a1)] (vB true) []:=by
 refine eM gL cO Try.func3 (by kernel_rfl) (.call (vI (iX (aY a0) (1048576:Int))) []<| .br (.fin []) (kF (cD a0)<| kF (mW a0 a1)<| kF (cD a0)<| kF (kA a0 a1)<| .call (vB true) []<| .lit<| .lit<| .lit<| .lit<| .no<| kF (cD a0)<| .call (vB true) []<| lL (cQ a0 (1:Int)) [(0,2900)]<| .no<| .call (vB true) []<| .lit<| .lit<| .lit<| .lit<| .lit<| .lit<| .no<| lL (fB ((aV a0 a1).1) (1:Int)) [(0,3300),(1,3301),(2,3302)]<| .call (vI ((1:Int)+((bY ((aV a0 a1).1):Nat):Int))) []<| .no<| .no<| kF (cD a0)<| kF (kA a0 a1)<| .call (vB true) []<| .lit<| .lit<| .lit<| .lit<| .no<| .call (vI ((1:Int)+((bY ((aV a0 a1).1):Nat):Int))) []<| .no<| .no<| .fin [])) (p:=(a0.map aA).length≤9223372036854775807→gQ a0 (1048576:Int)∧(((decide ((iX (aY a0) (1048576:Int))<(0:Int)))=true→(true)=true∧True)∧((decide ((iX (aY a0) (1048576:Int))<(0:Int)))=false→cR a0∧sB a0 a1∧cR a0∧mV a0 a1∧gY ((aV a0 a1).1)∧(!(((aV a0 a1).2)==((aV a0 a1).2)))=false∧cR a0∧gP a0∧gO a0 (1:Int)∧(1:Int)=(1:Int)∧a0.map aA=a0.map aA∧(decide (((1:Int)+((dN a0:Nat):Int))<(0:Int)))=false∧gY ((aV a0 a1).1)∧(!(((aV a0 a1).2)==((aV a0 a1).2)))=false∧oE ((aV a0 a1).1) (1:Int)∧(1:Int)=(1:Int)∧(((aV a0 a1).1).objective).map aD=(((aV a0 a1).1).objective).map aD∧(((aV a0 a1).1).rows).map aE=(((aV a0 a1).1).rows).map aE∧(((aV a0 a1).1).limits).map aD=(((aV a0 a1).1).limits).map aD∧jP Try.prog 12 [.agg [.sl 3 1 (((bN (1:Int) ((aV a0 a1).1)).objective).map aD),.sl 24 1 (((bN (1:Int) ((aV a0 a1).1)).rows).map aE),.sl 3 1 (((bN (1:Int) ((aV a0 a1).1)).limits).map aD)],.one (.int .i64 (1:Int))] (vI ((1:Int)+((bY ((aV a0 a1).1):Nat):Int))) []∧(decide (((1:Int)+((bY ((aV a0 a1).1):Nat):Int))<(0:Int)))=false∧(!(decide (((1:Int)+((bY ((aV a0 a1).1):Nat):Int))=((1:Int)+((bY ((aV a0 a1).1):Nat):Int)))))=false∧cR a0∧mV a0 a1∧gY ((aV a0 a1).1)∧(!(((aV a0 a1).2)==((aV a0 a1).2)))=false∧jP Try.prog 12 [.agg [.sl 3 1 (((bN (1:Int) ((aV a0 a1).1)).objective).map aD),.sl 24 1 (((bN (1:Int) ((aV a0 a1).1)).rows).map aE),.sl 3 1 (((bN (1:Int) ((aV a0 a1).1)).limits).map aD)],.one (.int .i64 (1:Int))] (vI ((1:Int)+((bY ((aV a0 a1).1):Nat):Int))) []∧(decide (((1:Int)+((bY ((aV a0 a1).1):Nat):Int))<(0:Int)))=false∧(!(decide (((1:Int)+((bY ((aV a0 a1).1):Nat):Int))=((1:Int)+((bY ((aV a0 a1).1):Nat):Int)))))=false∧(true)=true∧True))) (by kernel_rfl) ?_
 intro n0
 simp only [List.length_map] at n0
 have z0:aY a0=a0.length:=rfl
 refine ⟨mX a0 _ (by first | assumption | exact hf) (by omega) (by omega),fun c0=>?_,fun c0=>?_⟩
 ·replace c0:=yq c0
  refine ⟨?_,trivial⟩
  ·rfl
 ·replace c0:=nq c0
  try (have y0:=aEK c0;try rw [mH y0] at*)
  have f1:aY a0=a0.length:=rfl
  have f2:=yQ a0 a1
  have f4:=eF a0
  have f6:=vA (aV a0 a1).1
  have sa0:=eF a0
  refine ⟨dR a0 (by first | omega | (have:=cSizeConstraintSS_el ‹x[k]? =some _›;omega)),aBy a0 a1 (by omega) (by assumption),dR a0 (by first | omega | (have:=cSizeConstraintSS_el ‹x[k]? =some _›;omega)),xF a0 a1 (by omega) (by assumption),by first | exact fW ((aV a0 a1).1) | exact fW _,by first | (simp;done) | (simp;omega) | (simp [*];done),dR a0 (by first | omega | (have:=cSizeConstraintSS_el ‹x[k]? =some _›;omega)),by first | exact iK a0 | exact iK _,mT _ _ (by omega) (by first | omega | (dsimp only;omega)),rfl,rfl,by first | (simp;done) | (simp;omega) | (simp [*];done),by first | exact fW ((aV a0 a1).1) | exact fW _,by first | (simp;done) | (simp;omega) | (simp [*];done),yM _ _ (by omega) (by first | omega | (dsimp only;omega)),rfl,rfl,rfl,rfl,rW _ _ (by omega) (by first | omega | (dsimp only;omega)),by first | (simp;done) | (simp;omega) | (simp [*];done),by first | (simp;done) | (simp;omega) | (simp [*];done),dR a0 (by first | omega | (have:=cSizeConstraintSS_el ‹x[k]? =some _›;omega)),xF a0 a1 (by omega) (by assumption),by first | exact fW ((aV a0 a1).1) | exact fW _,by first | (simp;done) | (simp;omega) | (simp [*];done),rW _ _ (by omega) (by first | omega | (dsimp only;omega)),by first | (simp;done) | (simp;omega) | (simp [*];done),by first | (simp;done) | (simp;omega) | (simp [*];done),?_,trivial⟩
  ·rfl
end Go.Proofs.Ytdfebigfnjfgpaa
namespace Go.Proofs.Ytdfebigfnjfgpaa
open Go.ChangeShapes Go.WideShapes Go.ChangeAt Go.RowKit
set_option linter.unusedVariables false
set_option linter.unusedSimpArgs false
set_option maxRecDepth 100000
set_option maxHeartbeats 4000000
def gT:Rd SizeConstraintD:=fun w cs x=>fE (Lv w) w (aA x) cs∧kG x
set_option maxRecDepth 100000 in
theorem mY {H:Type} {enc:TypeId × Value→H} {w:World} {base:Nat} {spare:Nat→Bool} {held:Bool} {fuel:Nat} {cs:List Value} {x:DataW H × List MemPlace} (h:DataW.trod enc Try.prog w base spare held fuel 44 cs=some x): ∃b,gT w cs b:=by
 obtain ⟨xs,n,_,_,hl,hxl,hf⟩:=DataW.trod_struct Try.underlying44 h
 have hl2:cs.length=3:=hl.trans (by kernel_rfl)
 match cs,hl2 with
 | [c0,c1,c2],_=>
   match xs,hxl with
   | [y0,y1,y2],_=>
     obtain ⟨l0,r0⟩:=trod_int Try.underlying3 (hf 0 _ rfl)
     obtain ⟨l1,r1⟩:=trod_int Try.underlying3 (hf 1 _ rfl)
     obtain ⟨l2,r2⟩:=trod_int Try.underlying3 (hf 2 _ rfl)
     exact ⟨⟨l0,l1,l2⟩,(nQ (rdI r0) (nQ (rdI r1) (nQ (rdI r2) yZ))),r0.2,r1.2,r2.2⟩
def RSizeConstraintS:Rd (List SizeConstraintD):=fun w cs l=>fE (Lv w) w (pA l) cs∧cY l
theorem openSizeConstraintS {H:Type} {enc:TypeId × Value→H} {w:World} {base:Nat} {spare:Nat→Bool} {held:Bool} {fuel:Nat} {cs:List Value} {x:DataW H × List MemPlace} (h:DataW.trod enc Try.prog w base spare held fuel 22 cs=some x): ∃l,RSizeConstraintS w cs l:=by
 obtain ⟨l,hl⟩:=xI (k:=3) (R:=gT) Try.underlying22 (by kernel_rfl) (by omega) (fun _ _ _ h=>mY h) h
 have hf:cY l:=hl.all_ (fun _ _ _ h=>h.2)
 obtain ⟨A,c,rfl,_⟩:=id hl
 exact ⟨l,nQ (aBG (R:=gT) (enc:=aA) (fun cs x h=>h.1) hl) yZ,hf⟩
end Go.Proofs.Ytdfebigfnjfgpaa
namespace Go.Proofs.Ytdfebigfnjfgpaa
open Go.ChangeShapes Go.WideShapes Go.ChangeAt Go.RowKit
set_option linter.unusedVariables false
set_option linter.unusedSimpArgs false
set_option maxRecDepth 100000
set_option maxHeartbeats 4000000
theorem fr_own:ownKnob Try.prog.godebug=none:=by kernel_rfl
theorem fr_laid:laidOutB Try.prog=true:=by kernel_rfl
theorem fr_maps:mapsRowed Try.prog=true:=by kernel_rfl
theorem fr_stops:(Try.prog.stops== [])=true:=by kernel_rfl
theorem fr_sk:(Try.prog.stopKnobs== [])=true:=by kernel_rfl
theorem fr_heard:Try.prog.stopsHeard=true:=by kernel_rfl
theorem fr_enter:Try.prog.mayEnter=true:=by kernel_rfl
theorem fr_keys:(Rows.fnExactEntropyProgramRow.plainKeys==Try.prog.plainKeys)=true:=by kernel_rfl
theorem fr_lifts:(Rows.fnExactEntropyProgramRow.lifted==Try.prog.liftsFinal)=true:=by kernel_rfl
theorem fr_make:(Try.prog.make==some Rows.fnExactEntropyProgramRow.make)=true:=by kernel_rfl
end Go.Proofs.Ytdfebigfnjfgpaa
