/-
  Contracts and plain laws, joined: part 14.
-/
import Derived.Test.YtokkjaflmcjlhaaGreatQU9
import Derived.Test.YtokkjaflmcjlhaaGreatQU7
import Derived.Test.YtokkjaflmcjlhaaGreatQU12
import Derived.Test.YtokkjaflmcjlhaaGreatQU11
namespace Go.Proofs.YtokkjaflmcjlhaaGreat
open Go.ChangeShapes Go.WideShapes Go.ChangeAt Go.RowKit
set_option linter.unusedVariables false
set_option linter.unusedSimpArgs false
set_option maxRecDepth 100000
set_option maxHeartbeats 4000000
abbrev aAD (t:aN) (row:List Int):AV × List (Nat × Rs):=(.tup [.agg [.p none (.str (((eV t row).1).name)),vI (((eV t row).1).arity),.own 0],vB ((eV t row).2)],[(0,.arr 32 1 true ((((eV t row).1).rows).map aF))])
abbrev aEO (t:aN) (row:List Int):Prop:=dJ Tryz.prog 149 [.agg [.str t.name,.int .i64 t.arity,.sl 32 1 (t.rows.map aF)],.one (.sl 3 1 (row.map intD))] (aAD t row).1 (aAD t row).2
theorem aNE (t:aN) (row:List Int) (hc:dF t≤1048576) (hr:row.length≤1048576):aEO t row:=by
 refine aZ bR aT Tryz.func149 (by kernel_rfl) (bG (gX t)<| .call (vB (aS t)) []<| .br (.fin [(0,800)]) (.call (vB (fE t.arity row)) []<| .lit<| .lit<| .br (.fin [(0,800)]) (.call (vI (fD (lJ row) t.rows)) []<| .lit<| .lit<| .br (.fin [(0,800)]) (.len t.rows.length<| .lit<| .lit<| .br (.fin [(0,800)]) (.shal 4 800<| .appr (List Int) aF t.rows ([row]:List (List Int))<| bG (nP (t.rows++[row]))<| .fin [(0,3700)]))))) (p:=(t.rows.map aF).length≤9223372036854775807→(row.map intD).length≤9223372036854775807→iP t∧(lN t∧(((!(aS t))=true→t.name=(((eV t row).1).name)∧t.arity=(((eV t row).1).arity)∧(false)=((eV t row).2)∧t.rows.map aF=(((eV t row).1).rows).map aF∧True)∧((!(aS t))=false→zI row t.arity∧(((!(fE t.arity row))=true→t.name=(((eV t row).1).name)∧t.arity=(((eV t row).1).arity)∧(false)=((eV t row).2)∧t.rows.map aF=(((eV t row).1).rows).map aF∧True)∧((!(fE t.arity row))=false→aAv t row∧(((decide ((0:Int)≤(fD (lJ row) t.rows)))=true→t.name=(((eV t row).1).name)∧t.arity=(((eV t row).1).arity)∧(false)=((eV t row).2)∧t.rows.map aF=(((eV t row).1).rows).map aF∧True)∧((decide ((0:Int)≤(fD (lJ row) t.rows)))=false→Lm aF t.rows∧(((decide ((8:Int)≤((t.rows.length:Nat):Int)))=true→t.name=(((eV t row).1).name)∧t.arity=(((eV t row).1).arity)∧(false)=((eV t row).2)∧t.rows.map aF=(((eV t row).1).rows).map aF∧True)∧((decide ((8:Int)≤((t.rows.length:Nat):Int)))=false→t.rows.map aF=t.rows.map aF∧[[.sl 3 1 (row.map intD)]]=([row]:List (List Int)).map aF∧(t.rows.length+([row]:List (List Int)).length)*24≤140737488355328∧rU (t.rows++[row])∧t.name=(((eV t row).1).name)∧t.arity=(((eV t row).1).arity)∧(true)=((eV t row).2)∧(fK (dH (t.rows++[row]))).map aF=(((eV t row).1).rows).map aF∧True)))))))))) (by kernel_rfl) ?_
 intro n0 n1
 simp only [List.length_map] at n0 n1
 have q1:dF t=t.name.size+cP t.rows:=rfl
 have q2:=fO t.rows
 refine ⟨mJ _ (by omega),sH t,fun g12=>?_,fun g12=>?_⟩
 ·replace g12:=nt g12
  have hbad:fW t row=false:=by first | (simp [fW, *];done) | (simp [fW, *];omega)
  refine ⟨?_,?_,?_,?_,trivial⟩
  ·first | (rw [dL hbad]<;>rfl) | (rw [bM hok]<;>rfl) | (rw [bM hok,hE])
  ·first | (rw [dL hbad]<;>rfl) | (rw [bM hok]<;>rfl) | (rw [bM hok,hE])
  ·first | (rw [dL hbad]<;>rfl) | (rw [bM hok]<;>rfl) | (rw [bM hok,hE])
  ·first | (rw [dL hbad]<;>rfl) | (rw [bM hok]<;>rfl) | (rw [bM hok,hE])
 ·replace g12:=nf g12
  refine ⟨aHj _ _,fun g19=>?_,fun g19=>?_⟩
  ·replace g19:=nt g19
   have hbad:fW t row=false:=by first | (simp [fW, *];done) | (simp [fW, *];omega)
   refine ⟨?_,?_,?_,?_,trivial⟩
   ·first | (rw [dL hbad]<;>rfl) | (rw [bM hok]<;>rfl) | (rw [bM hok,hE])
   ·first | (rw [dL hbad]<;>rfl) | (rw [bM hok]<;>rfl) | (rw [bM hok,hE])
   ·first | (rw [dL hbad]<;>rfl) | (rw [bM hok]<;>rfl) | (rw [bM hok,hE])
   ·first | (rw [dL hbad]<;>rfl) | (rw [bM hok]<;>rfl) | (rw [bM hok,hE])
  ·replace g19:=nf g19
   refine ⟨aJG _ _,fun g25=>?_,fun g25=>?_⟩
   ·replace g25:=yq g25
    have hbad:fW t row=false:=by first | (simp [fW, *];done) | (simp [fW, *];omega)
    refine ⟨?_,?_,?_,?_,trivial⟩
    ·first | (rw [dL hbad]<;>rfl) | (rw [bM hok]<;>rfl) | (rw [bM hok,hE])
    ·first | (rw [dL hbad]<;>rfl) | (rw [bM hok]<;>rfl) | (rw [bM hok,hE])
    ·first | (rw [dL hbad]<;>rfl) | (rw [bM hok]<;>rfl) | (rw [bM hok,hE])
    ·first | (rw [dL hbad]<;>rfl) | (rw [bM hok]<;>rfl) | (rw [bM hok,hE])
   ·replace g25:=nq g25
    refine ⟨List.length_map _,fun c0=>?_,fun c0=>?_⟩
    ·replace c0:=yq c0
     have hbad:fW t row=false:=by first | (simp [fW, *];done) | (simp [fW, *];omega)
     refine ⟨?_,?_,?_,?_,trivial⟩
     ·first | (rw [dL hbad]<;>rfl) | (rw [bM hok]<;>rfl) | (rw [bM hok,hE])
     ·first | (rw [dL hbad]<;>rfl) | (rw [bM hok]<;>rfl) | (rw [bM hok,hE])
     ·first | (rw [dL hbad]<;>rfl) | (rw [bM hok]<;>rfl) | (rw [bM hok,hE])
     ·first | (rw [dL hbad]<;>rfl) | (rw [bM hok]<;>rfl) | (rw [bM hok,hE])
    ·replace c0:=nq c0
     have hok:fW t row=true:=by first | (simp [fW, *];done) | (simp [fW, *];omega)
     have hsm:=aKy hok
     have hE:=aMv (row:=row) (aCN hok).1
     refine ⟨rfl,rfl,by first | omega | (simp;omega),aCH (t.rows++[row]) (by omega),?_,?_,?_,?_,trivial⟩
     ·first | (rw [dL hbad]<;>rfl) | (rw [bM hok]<;>rfl) | (rw [bM hok,hE])
     ·first | (rw [dL hbad]<;>rfl) | (rw [bM hok]<;>rfl) | (rw [bM hok,hE])
     ·first | (rw [dL hbad]<;>rfl) | (rw [bM hok]<;>rfl) | (rw [bM hok,hE])
     ·first | (rw [dL hbad]<;>rfl) | (rw [bM hok]<;>rfl) | (rw [bM hok,hE])
abbrev aAE (t:aN) (row:List Int):AV × List (Nat × Rs):=(.tup [.agg [.p none (.str (((eV t row).1).name)),vI (((eV t row).1).arity),.own 0],vB ((eV t row).2)],[(0,.arr 32 1 true ((((eV t row).1).rows).map aF))])
abbrev aEP (t:aN) (row:List Int):Prop:=dJ Tryz.prog 133 [.agg [.str t.name,.int .i64 t.arity,.sl 32 1 (t.rows.map aF)],.one (.sl 3 1 (row.map intD))] (aAE t row).1 (aAE t row).2
theorem aNF (t:aN) (row:List Int) (hc:dF t≤1048576) (hr:row.length≤1048576):aEP t row:=by
 refine aZ bR aT Tryz.func133 (by kernel_rfl) (bG (gY t)<| .call (vB (aS t)) []<| .br (.fin [(0,800)]) (.call (vB (fE t.arity row)) []<| .lit<| .lit<| .br (.fin [(0,800)]) (.call (vB (gI t row)) []<| .lit<| .br (.fin [(0,800)]) (.len t.rows.length<| .lit<| .lit<| .br (.fin [(0,800)]) (bG (tK t.rows row)<| .fin [(0,3400)]))))) (p:=(t.rows.map aF).length≤9223372036854775807→(row.map intD).length≤9223372036854775807→iQ t∧(lO t∧(((!(aS t))=true→t.name=(((eV t row).1).name)∧t.arity=(((eV t row).1).arity)∧(false)=((eV t row).2)∧t.rows.map aF=(((eV t row).1).rows).map aF∧True)∧((!(aS t))=false→zJ row t.arity∧(((!(fE t.arity row))=true→t.name=(((eV t row).1).name)∧t.arity=(((eV t row).1).arity)∧(false)=((eV t row).2)∧t.rows.map aF=(((eV t row).1).rows).map aF∧True)∧((!(fE t.arity row))=false→zW t row∧(((gI t row)=true→t.name=(((eV t row).1).name)∧t.arity=(((eV t row).1).arity)∧(false)=((eV t row).2)∧t.rows.map aF=(((eV t row).1).rows).map aF∧True)∧((gI t row)=false→Lm aF t.rows∧(((decide (((t.rows.length:Nat):Int)=(8:Int)))=true→t.name=(((eV t row).1).name)∧t.arity=(((eV t row).1).arity)∧(false)=((eV t row).2)∧t.rows.map aF=(((eV t row).1).rows).map aF∧True)∧((decide (((t.rows.length:Nat):Int)=(8:Int)))=false→zO t.rows row∧t.name=(((eV t row).1).name)∧t.arity=(((eV t row).1).arity)∧(true)=((eV t row).2)∧(kP row t.rows).map aF=(((eV t row).1).rows).map aF∧True)))))))))) (by kernel_rfl) ?_
 intro n0 n1
 simp only [List.length_map] at n0 n1
 have q1:dF t=t.name.size+cP t.rows:=rfl
 have q2:=fO t.rows
 refine ⟨mK _ (by omega),sI t,fun g12=>?_,fun g12=>?_⟩
 ·replace g12:=nt g12
  have hbad:fW t row=false:=by first | (simp [fW,gI, *];done) | (simp [fW,gI, *] at*;omega)
  refine ⟨?_,?_,?_,?_,trivial⟩
  ·first | (rw [dL hbad]<;>rfl) | (rw [bM hok]<;>rfl)
  ·first | (rw [dL hbad]<;>rfl) | (rw [bM hok]<;>rfl)
  ·first | (rw [dL hbad]<;>rfl) | (rw [bM hok]<;>rfl)
  ·first | (rw [dL hbad]<;>rfl) | (rw [bM hok]<;>rfl)
 ·replace g12:=nf g12
  refine ⟨aHk _ _,fun g19=>?_,fun g19=>?_⟩
  ·replace g19:=nt g19
   have hbad:fW t row=false:=by first | (simp [fW,gI, *];done) | (simp [fW,gI, *] at*;omega)
   refine ⟨?_,?_,?_,?_,trivial⟩
   ·first | (rw [dL hbad]<;>rfl) | (rw [bM hok]<;>rfl)
   ·first | (rw [dL hbad]<;>rfl) | (rw [bM hok]<;>rfl)
   ·first | (rw [dL hbad]<;>rfl) | (rw [bM hok]<;>rfl)
   ·first | (rw [dL hbad]<;>rfl) | (rw [bM hok]<;>rfl)
  ·replace g19:=nf g19
   refine ⟨aIK _ _,fun g24=>?_,fun g24=>?_⟩
   ·have hbad:fW t row=false:=by first | (simp [fW,gI, *];done) | (simp [fW,gI, *] at*;omega)
    refine ⟨?_,?_,?_,?_,trivial⟩
    ·first | (rw [dL hbad]<;>rfl) | (rw [bM hok]<;>rfl)
    ·first | (rw [dL hbad]<;>rfl) | (rw [bM hok]<;>rfl)
    ·first | (rw [dL hbad]<;>rfl) | (rw [bM hok]<;>rfl)
    ·first | (rw [dL hbad]<;>rfl) | (rw [bM hok]<;>rfl)
   ·refine ⟨List.length_map _,fun c0=>?_,fun c0=>?_⟩
    ·replace c0:=yq c0
     have hbad:fW t row=false:=by first | (simp [fW,gI, *];done) | (simp [fW,gI, *] at*;omega)
     refine ⟨?_,?_,?_,?_,trivial⟩
     ·first | (rw [dL hbad]<;>rfl) | (rw [bM hok]<;>rfl)
     ·first | (rw [dL hbad]<;>rfl) | (rw [bM hok]<;>rfl)
     ·first | (rw [dL hbad]<;>rfl) | (rw [bM hok]<;>rfl)
     ·first | (rw [dL hbad]<;>rfl) | (rw [bM hok]<;>rfl)
    ·replace c0:=nq c0
     have hT:aS t=true:=by simpa using g12
     have hT8:=cD hT
     have hok:fW t row=true:=by first | (simp [fW,gI, *] at*;done) | (simp [fW,gI, *] at*;omega)
     refine ⟨aHz t.rows row (by omega) (by omega) (by omega),?_,?_,?_,?_,trivial⟩
     ·first | (rw [dL hbad]<;>rfl) | (rw [bM hok]<;>rfl)
     ·first | (rw [dL hbad]<;>rfl) | (rw [bM hok]<;>rfl)
     ·first | (rw [dL hbad]<;>rfl) | (rw [bM hok]<;>rfl)
     ·first | (rw [dL hbad]<;>rfl) | (rw [bM hok]<;>rfl)
abbrev aAF (t:aN) (row:List Int):AV × List (Nat × Rs):=(.tup [.agg [.p none (.str (((hZ t row).1).name)),vI (((hZ t row).1).arity),.own 0],vB ((hZ t row).2)],[(0,.arr 32 1 true ((((hZ t row).1).rows).map aF))])
abbrev aEQ (t:aN) (row:List Int):Prop:=dJ Tryz.prog 150 [.agg [.str t.name,.int .i64 t.arity,.sl 32 1 (t.rows.map aF)],.one (.sl 3 1 (row.map intD))] (aAF t row).1 (aAF t row).2
theorem aNG (t:aN) (row:List Int) (hc:dF t≤1048576) (hr:row.length≤1048576):aEQ t row:=by
 refine aZ bR aT Tryz.func150 (by kernel_rfl) (bG (gX t)<| .call (vB (gI t row)) []<| .br (.fin [(0,900)]) (.call (vI (fD (lJ row) t.rows)) []<| .callx [.own 0,vI (fD (lJ row) t.rows),vI ((fD (lJ row) t.rows)+(1:Int))] [(0,.arr 32 1 true (t.rows.map aF))] [(0,900)] (.own 1) [(1,.arr 32 1 true ((t.rows.eraseIdx (fD (lJ row) t.rows).toNat).map aF))]<| .fin [(0,2301)])) (p:=(t.rows.map aF).length≤9223372036854775807→(row.map intD).length≤9223372036854775807→iP t∧(aDy t row∧(((!(gI t row))=true→t.name=(((hZ t row).1).name)∧t.arity=(((hZ t row).1).arity)∧(false)=((hZ t row).2)∧t.rows.map aF=(((hZ t row).1).rows).map aF∧True)∧((!(gI t row))=false→aAv t row∧dO ((fD (lJ row) t.rows)+(1:Int))∧mW Tryz.prog 230 [.own 0,vI (fD (lJ row) t.rows),vI ((fD (lJ row) t.rows)+(1:Int))] [(0,.arr 32 1 true (t.rows.map aF))] (.own 1) [(1,.arr 32 1 true ((t.rows.eraseIdx (fD (lJ row) t.rows).toNat).map aF))]∧(fD (lJ row) t.rows)=(fD (lJ row) t.rows)∧((fD (lJ row) t.rows)+(1:Int))=((fD (lJ row) t.rows)+(1:Int))∧t.rows.map aF=t.rows.map aF∧t.name=(((hZ t row).1).name)∧t.arity=(((hZ t row).1).arity)∧(true)=((hZ t row).2)∧(t.rows.eraseIdx (fD (lJ row) t.rows).toNat).map aF=(((hZ t row).1).rows).map aF∧True)))) (by kernel_rfl) ?_
 intro n0 n1
 simp only [List.length_map] at n0 n1
 have q1:dF t=t.name.size+cP t.rows:=rfl
 have q2:=fO t.rows
 refine ⟨mJ _ (by omega),aMx _ _,fun c0=>?_,fun c0=>?_⟩
 ·replace c0:=nt c0
  have hbad:gI t row=false:=by simpa using c0
  refine ⟨?_,?_,?_,?_,trivial⟩
  ·first | (rw [iU hbad]<;>rfl) | (rw [eL hok]<;>rfl)
  ·first | (rw [iU hbad]<;>rfl) | (rw [eL hok]<;>rfl)
  ·first | (rw [iU hbad]<;>rfl) | (rw [eL hok]<;>rfl)
  ·first | (rw [iU hbad]<;>rfl) | (rw [eL hok]<;>rfl)
 ·replace c0:=nf c0
  have hok:gI t row=true:=by simpa using c0
  have hi0:=(zV hok).2
  have hi1:=aKF (lJ row) t.rows
  have hT8:=cD (zV hok).1
  refine ⟨aJG _ _,⟨by omega,by omega⟩,aJO t.rows _ _ (fD (lJ row) t.rows).toNat (by omega) (by omega) (by omega) (by omega),rfl,rfl,rfl,?_,?_,?_,?_,trivial⟩
  ·first | (rw [iU hbad]<;>rfl) | (rw [eL hok]<;>rfl)
  ·first | (rw [iU hbad]<;>rfl) | (rw [eL hok]<;>rfl)
  ·first | (rw [iU hbad]<;>rfl) | (rw [eL hok]<;>rfl)
  ·first | (rw [iU hbad]<;>rfl) | (rw [eL hok]<;>rfl)
abbrev aAG (t:aN) (row:List Int):AV × List (Nat × Rs):=(.tup [.agg [.p none (.str (((hZ t row).1).name)),vI (((hZ t row).1).arity),.own 0],vB ((hZ t row).2)],[(0,.arr 32 1 true ((((hZ t row).1).rows).map aF))])
abbrev aER (t:aN) (row:List Int):Prop:=dJ Tryz.prog 134 [.agg [.str t.name,.int .i64 t.arity,.sl 32 1 (t.rows.map aF)],.one (.sl 3 1 (row.map intD))] (aAG t row).1 (aAG t row).2
theorem aNH (t:aN) (row:List Int) (hc:dF t≤1048576) (hr:row.length≤1048576):aER t row:=by
 refine aZ bR aT Tryz.func134 (by kernel_rfl) (bG (gY t)<| .call (vB (gI t row)) []<| .br (.fin [(0,900)]) (.loop (Nat × (List (List Int))) (Q2 Nat (List (List Int))) [7,15,17,18,19,20,21,22,23,24,25,26,27,28,29,30,31,32,33,34,35,36,37,38,39,40,41,42,43] [600,1500,3400,4000,4100,4200] (fun yy0=>[(7,vI (yy0.1:Int))]) (fun yy0=>[(600,some (.box 162 [.p none (.str t.name),vI t.arity,.own 1500])),(1500,some (.arr 32 1 true (yy0.2.map aF)))]) (fun yy0=>yy0.1≤t.rows.length∧yy0.2=(t.rows.take yy0.1).filter (fun x=> !lJ row x)) (fun yy0=>t.rows.length - yy0.1) (fun yy0=> .len t.rows.length<| .br (.elem _ aF t.rows (fun e27=> .call (vI (cC e27 row)) []<| .br (.elem _ aF t.rows (fun e38=> .app Int intD ([]:List Int) e38<| .appx (List Int) aF yy0.2 (([]:List Int)++e38)<| .back [(600,600),(1500,4200)])) (.back [(600,600),(1500,1500)]))) (.fin [(0,1500)])))) (p:=(t.rows.map aF).length≤9223372036854775807→(row.map intD).length≤9223372036854775807→iQ t∧(zW t row∧(((!(gI t row))=true→t.name=(((hZ t row).1).name)∧t.arity=(((hZ t row).1).arity)∧(false)=((hZ t row).2)∧t.rows.map aF=(((hZ t row).1).rows).map aF∧True)∧((!(gI t row))=false→(∃(k:Nat) (out:List (List Int)),(0:Int)=(k:Int)∧t.name=t.name∧t.arity=t.arity∧[]=out.map aF∧k≤t.rows.length∧out=(t.rows.take k).filter (fun x=> !lJ row x))∧ ∀(k:Nat) (out:List (List Int)),(k≤t.rows.length∧out=(t.rows.take k).filter (fun x=> !lJ row x))→Lm aF t.rows∧(((decide ((k:Int)<((t.rows.length:Nat):Int)))=true→0≤(k:Int)∧Em aF t.rows k fun e27=>fA e27 row∧(((!(decide ((cC e27 row)=(0:Int))))=true→0≤(k:Int)∧Em aF t.rows k fun e38=>[]=([]:List Int).map intD∧e38.map intD=e38.map intD∧(∀x,fG (intD x)=true)∧(([]:List Int).length+e38.length)*8≤140737488355328∧out.map aF=out.map aF∧(([]:List Int)++e38).map intD=(([]:List Int)++e38).map intD∧(out.length+1)*24≤140737488355328∧dO ((k:Int)+(1:Int))∧ ∃(k' :Nat) (out' :List (List Int)),((k:Int)+(1:Int))=(k' :Int)∧t.name=t.name∧t.arity=t.arity∧(out++[([]:List Int)++e38]).map aF=out'.map aF∧(k' ≤t.rows.length∧out' =(t.rows.take k').filter (fun x=> !lJ row x))∧t.rows.length - k' <t.rows.length - k)∧((!(decide ((cC e27 row)=(0:Int))))=false→dO ((k:Int)+(1:Int))∧ ∃(k' :Nat) (out' :List (List Int)),((k:Int)+(1:Int))=(k' :Int)∧t.name=t.name∧t.arity=t.arity∧out.map aF=out'.map aF∧(k' ≤t.rows.length∧out' =(t.rows.take k').filter (fun x=> !lJ row x))∧t.rows.length - k' <t.rows.length - k)))∧((decide ((k:Int)<((t.rows.length:Nat):Int)))=false→t.name=(((hZ t row).1).name)∧t.arity=(((hZ t row).1).arity)∧(true)=((hZ t row).2)∧out.map aF=(((hZ t row).1).rows).map aF∧True)))))) (by kernel_rfl) ?_
 intro n0 n1
 simp only [List.length_map] at n0 n1
 have q1:dF t=t.name.size+cP t.rows:=rfl
 have q2:=fO t.rows
 refine ⟨mK _ (by omega),aIK _ _,fun c0=>?_,fun c0=>?_⟩
 ·replace c0:=nt c0
  have hbad:gI t row=false:=by simpa using c0
  refine ⟨?_,?_,?_,?_,trivial⟩
  ·first | (rw [iU hbad]<;>rfl) | (rw [eL hok]<;>rfl) | (rw [eL hok,ho,List.take_of_length_le (by omega),hE])
  ·first | (rw [iU hbad]<;>rfl) | (rw [eL hok]<;>rfl) | (rw [eL hok,ho,List.take_of_length_le (by omega),hE])
  ·first | (rw [iU hbad]<;>rfl) | (rw [eL hok]<;>rfl) | (rw [eL hok,ho,List.take_of_length_le (by omega),hE])
  ·first | (rw [iU hbad]<;>rfl) | (rw [eL hok]<;>rfl) | (rw [eL hok,ho,List.take_of_length_le (by omega),hE])
 ·replace c0:=nf c0
  have hok:gI t row=true:=by simpa using c0
  have hE:=aMw hok
  refine ⟨⟨0,([]:List (List Int)),rfl,rfl,rfl,rfl,Nat.zero_le _,rfl⟩,fun k out ⟨hk,ho⟩=>?_⟩
  have hol:out.length≤k:=by rw [ho];exact Nat.le_trans (List.length_filter_le _ _) (by simp;omega)
  refine ⟨List.length_map _,fun c1=>?_,fun c1=>?_⟩
  ·replace c1:=yq c1
   refine ⟨by omega,rfl,by omega,fun e27 h27=>?_⟩
   try (obtain rfl:=(aV h27 h27).symm)
   have hp3:=yB h27
   refine ⟨gH _ _,fun c2=>?_,fun c2=>?_⟩
   ·replace c2:=nq (nt c2)
    refine ⟨by omega,rfl,by omega,fun e38 h38=>?_⟩
    try (obtain rfl:=(aV h27 h38).symm)
    refine ⟨rfl,rfl,fun _=>rfl,by first | omega | (simp;omega) | (simp [ho];have:=List.length_filter_le (fun x=> !lJ row x) (t.rows.take k);simp at this;omega),?_⟩
    refine ⟨rfl,rfl,by first | omega | (simp;omega) | (simp [ho];have:=List.length_filter_le (fun x=> !lJ row x) (t.rows.take k);simp at this;omega),?_⟩
    refine ⟨⟨by omega,by omega⟩,?_⟩
    exact ⟨k+1,_,rfl,rfl,rfl,rfl,⟨by omega,by rw [ho,cU h27,List.filter_append,List.filter_cons_of_pos (by simpa [lJ] using fun q=>c2 (eD.2 q))];rfl⟩,by omega⟩
   ·replace c2:=yq (nf c2)
    refine ⟨⟨by omega,by omega⟩,?_⟩
    exact ⟨k+1,_,rfl,rfl,rfl,rfl,⟨by omega,by rw [ho,cU h27,List.filter_append,List.filter_cons_of_neg (by simpa [lJ] using eD.1 c2)];simp⟩,by omega⟩
  ·replace c1:=nq c1
   refine ⟨?_,?_,?_,?_,trivial⟩
   ·first | (rw [iU hbad]<;>rfl) | (rw [eL hok]<;>rfl) | (rw [eL hok,ho,List.take_of_length_le (by omega),hE])
   ·first | (rw [iU hbad]<;>rfl) | (rw [eL hok]<;>rfl) | (rw [eL hok,ho,List.take_of_length_le (by omega),hE])
   ·first | (rw [iU hbad]<;>rfl) | (rw [eL hok]<;>rfl) | (rw [eL hok,ho,List.take_of_length_le (by omega),hE])
   ·first | (rw [iU hbad]<;>rfl) | (rw [eL hok]<;>rfl) | (rw [eL hok,ho,List.take_of_length_le (by omega),hE])
def yH (d:aP) (u:UpdateD):aN × Bool:=if u.ins=true then eV (aM d u.name).1 u.row else hZ (aM d u.name).1 u.row
def dZ (d:aP) (u:UpdateD):aP × Bool:=if ((aM d u.name).2&&(yH d u).2)=true then eY d (yH d u).1 else (d,false)
theorem aAH {d:aP} {u:UpdateD} (h:(dZ d u).2=true):aW (dZ d u).1≤1000∧eB (dZ d u).1=true:=by
 unfold dZ at*
 split at h
 ·rename_i h1
  rw [if_pos h1]
  unfold eY at*
  split at h
  ·rename_i h2
   rw [if_pos h2]
   simp only [Bool.and_eq_true,decide_eq_true_eq] at h2
   have h3:=vW h2.1 h2.2.1
   rw [decide_eq_true h2.2.2] at h3
   refine ⟨?_,h3⟩
   have h4:=qI (c:=dF) (m:=64) (l:=fZ (yH d u).1 d.tables) fun x hx=>lC (List.all_eq_true.1 (aEA h3) x hx)
   show rO dF (fZ (yH d u).1 d.tables)≤1000
   omega
  ·cases h
 ·cases h
abbrev wU (d:aP) (u:UpdateD):AV × List (Nat × Rs):=(.tup [.agg [.own 0],vB ((dZ d u).2)],[(0,.arr 162 3 true ((((dZ d u).1).tables).map aD))])
abbrev aCW (d:aP) (u:UpdateD):Prop:=dJ Tryz.prog 74 [.agg [.sl 162 3 (d.tables.map aD)],.agg [.str u.name,.bool u.ins,.sl 3 1 (u.row.map intD)]] (wU d u).1 (wU d u).2
theorem aLL (d:aP) (u:UpdateD) (hc:aW d≤1048576) (hu:dR u≤1048576):aCW d u:=by
 refine aZ bR aT Tryz.func74 (by kernel_rfl) (bG (zX d u.name)<| .br (bG (iR d)<| .fin [(0,1800)]) (.br (bG (aAD ((aM d u.name).1) u.row)<| .br (bG (iR d)<| .fin [(0,3800)]) (bG (rI d ((eV ((aM d u.name).1) u.row).1))<| .fin [(0,4100)])) (bG (aAF ((aM d u.name).1) u.row)<| .br (bG (iR d)<| .fin [(0,3800)]) (bG (rI d ((hZ ((aM d u.name).1) u.row).1))<| .fin [(0,4100)])))) (p:=(d.tables.map aD).length≤9223372036854775807→(u.row.map intD).length≤9223372036854775807→aEB d u.name∧(((!((aM d u.name).2))=true→jI d∧(false)=((dZ d u).2)∧d.tables.map aD=(((dZ d u).1).tables).map aD∧True)∧((!((aM d u.name).2))=false→((u.ins)=true→aEO ((aM d u.name).1) u.row∧(((!((eV ((aM d u.name).1) u.row).2))=true→jI d∧(false)=((dZ d u).2)∧d.tables.map aD=(((dZ d u).1).tables).map aD∧True)∧((!((eV ((aM d u.name).1) u.row).2))=false→wS d ((eV ((aM d u.name).1) u.row).1)∧((eY d ((eV ((aM d u.name).1) u.row).1)).2)=((dZ d u).2)∧(((eY d ((eV ((aM d u.name).1) u.row).1)).1).tables).map aD=(((dZ d u).1).tables).map aD∧True)))∧((u.ins)=false→aEQ ((aM d u.name).1) u.row∧(((!((hZ ((aM d u.name).1) u.row).2))=true→jI d∧(false)=((dZ d u).2)∧d.tables.map aD=(((dZ d u).1).tables).map aD∧True)∧((!((hZ ((aM d u.name).1) u.row).2))=false→wS d ((hZ ((aM d u.name).1) u.row).1)∧((eY d ((hZ ((aM d u.name).1) u.row).1)).2)=((dZ d u).2)∧(((eY d ((hZ ((aM d u.name).1) u.row).1)).1).tables).map aD=(((dZ d u).1).tables).map aD∧True)))))) (by kernel_rfl) ?_
 intro n0 n1
 simp only [List.length_map] at n0 n1
 have q3:dR u=u.name.size+bZ u.row:=rfl
 have q4:bZ u.row=u.row.length:=rfl
 refine ⟨qJ _ u.name (by omega),fun c0=>?_,fun c0=>?_⟩
 ·replace c0:=nt c0
  have hbad:dZ d u=(d,false):=by rw [dZ,if_neg (by rw [c0];simp)]
  refine ⟨oJ _ (by omega),?_,?_,trivial⟩
  ·first | (rw [hbad]<;>rfl) | (rw [hok,hE]<;>rfl) | (rw [hok,←hE]<;>rfl)
  ·first | (rw [hbad]<;>rfl) | (rw [hok,hE]<;>rfl) | (rw [hok,←hE]<;>rfl)
 ·replace c0:=nf c0
  have hsm:=lC (jN c0).1
  refine ⟨fun c1=>?_,fun c1=>?_⟩
  ·have hE:eV (aM d u.name).1 u.row=yH d u:=by rw [yH,if_pos c1]
   refine ⟨aNE ((aM d u.name).1) u.row (by omega) (by omega),fun c2=>?_,fun c2=>?_⟩
   ·replace c2:=nt c2
    have hbad:dZ d u=(d,false):=by rw [dZ,if_neg (by rw [←hE,c2];simp)]
    refine ⟨oJ _ (by omega),?_,?_,trivial⟩
    ·first | (rw [hbad]<;>rfl) | (rw [hok,hE]<;>rfl) | (rw [hok,←hE]<;>rfl)
    ·first | (rw [hbad]<;>rfl) | (rw [hok,hE]<;>rfl) | (rw [hok,←hE]<;>rfl)
   ·replace c2:=nf c2
    have hok:dZ d u=eY d (yH d u).1:=by rw [dZ,if_pos (by rw [←hE,c2,c0];rfl)]
    refine ⟨aGC _ ((eV ((aM d u.name).1) u.row).1) (by omega),?_,?_,trivial⟩
    ·first | (rw [hbad]<;>rfl) | (rw [hok,hE]<;>rfl) | (rw [hok,←hE]<;>rfl)
    ·first | (rw [hbad]<;>rfl) | (rw [hok,hE]<;>rfl) | (rw [hok,←hE]<;>rfl)
  ·have hE:hZ (aM d u.name).1 u.row=yH d u:=by rw [yH,if_neg (by rw [c1];decide)]
   refine ⟨aNG ((aM d u.name).1) u.row (by omega) (by omega),fun c2=>?_,fun c2=>?_⟩
   ·replace c2:=nt c2
    have hbad:dZ d u=(d,false):=by rw [dZ,if_neg (by rw [←hE,c2];simp)]
    refine ⟨oJ _ (by omega),?_,?_,trivial⟩
    ·first | (rw [hbad]<;>rfl) | (rw [hok,hE]<;>rfl) | (rw [hok,←hE]<;>rfl)
    ·first | (rw [hbad]<;>rfl) | (rw [hok,hE]<;>rfl) | (rw [hok,←hE]<;>rfl)
   ·replace c2:=nf c2
    have hok:dZ d u=eY d (yH d u).1:=by rw [dZ,if_pos (by rw [←hE,c2,c0];rfl)]
    refine ⟨aGC _ ((hZ ((aM d u.name).1) u.row).1) (by omega),?_,?_,trivial⟩
    ·first | (rw [hbad]<;>rfl) | (rw [hok,hE]<;>rfl) | (rw [hok,←hE]<;>rfl)
    ·first | (rw [hbad]<;>rfl) | (rw [hok,hE]<;>rfl) | (rw [hok,←hE]<;>rfl)
abbrev wV (d:aP) (u:UpdateD):AV × List (Nat × Rs):=(.tup [.agg [.own 0],vB ((dZ d u).2)],[(0,.arr 162 3 true ((((dZ d u).1).tables).map aD))])
abbrev aCX (d:aP) (u:UpdateD):Prop:=dJ Tryz.prog 64 [.agg [.sl 162 3 (d.tables.map aD)],.agg [.str u.name,.bool u.ins,.sl 3 1 (u.row.map intD)]] (wV d u).1 (wV d u).2
theorem aLM (d:aP) (u:UpdateD) (hc:aW d≤1048576) (hu:dR u≤1048576):aCX d u:=by
 refine aZ bR aT Tryz.func64 (by kernel_rfl) (bG (zY d u.name)<| .br (bG (iS d)<| .fin [(0,2200)]) (.br (bG (aAE ((aM d u.name).1) u.row)<| .br (bG (iS d)<| .fin [(0,4300)]) (bG (rJ d ((eV ((aM d u.name).1) u.row).1))<| .fin [(0,4700)])) (bG (aAG ((aM d u.name).1) u.row)<| .br (bG (iS d)<| .fin [(0,4300)]) (bG (rJ d ((hZ ((aM d u.name).1) u.row).1))<| .fin [(0,4700)])))) (p:=(d.tables.map aD).length≤9223372036854775807→(u.row.map intD).length≤9223372036854775807→aEC d u.name∧(((!((aM d u.name).2))=true→jJ d∧(false)=((dZ d u).2)∧d.tables.map aD=(((dZ d u).1).tables).map aD∧True)∧((!((aM d u.name).2))=false→((u.ins)=true→aEP ((aM d u.name).1) u.row∧(((!((eV ((aM d u.name).1) u.row).2))=true→jJ d∧(false)=((dZ d u).2)∧d.tables.map aD=(((dZ d u).1).tables).map aD∧True)∧((!((eV ((aM d u.name).1) u.row).2))=false→wT d ((eV ((aM d u.name).1) u.row).1)∧((eY d ((eV ((aM d u.name).1) u.row).1)).2)=((dZ d u).2)∧(((eY d ((eV ((aM d u.name).1) u.row).1)).1).tables).map aD=(((dZ d u).1).tables).map aD∧True)))∧((u.ins)=false→aER ((aM d u.name).1) u.row∧(((!((hZ ((aM d u.name).1) u.row).2))=true→jJ d∧(false)=((dZ d u).2)∧d.tables.map aD=(((dZ d u).1).tables).map aD∧True)∧((!((hZ ((aM d u.name).1) u.row).2))=false→wT d ((hZ ((aM d u.name).1) u.row).1)∧((eY d ((hZ ((aM d u.name).1) u.row).1)).2)=((dZ d u).2)∧(((eY d ((hZ ((aM d u.name).1) u.row).1)).1).tables).map aD=(((dZ d u).1).tables).map aD∧True)))))) (by kernel_rfl) ?_
 intro n0 n1
 simp only [List.length_map] at n0 n1
 have q3:dR u=u.name.size+bZ u.row:=rfl
 have q4:bZ u.row=u.row.length:=rfl
 refine ⟨qK _ u.name (by omega),fun c0=>?_,fun c0=>?_⟩
 ·replace c0:=nt c0
  have hbad:dZ d u=(d,false):=by rw [dZ,if_neg (by rw [c0];simp)]
  refine ⟨oK _ (by omega),?_,?_,trivial⟩
  ·first | (rw [hbad]<;>rfl) | (rw [hok,hE]<;>rfl) | (rw [hok,←hE]<;>rfl)
  ·first | (rw [hbad]<;>rfl) | (rw [hok,hE]<;>rfl) | (rw [hok,←hE]<;>rfl)
 ·replace c0:=nf c0
  have hsm:=lC (jN c0).1
  refine ⟨fun c1=>?_,fun c1=>?_⟩
  ·have hE:eV (aM d u.name).1 u.row=yH d u:=by rw [yH,if_pos c1]
   refine ⟨aNF ((aM d u.name).1) u.row (by omega) (by omega),fun c2=>?_,fun c2=>?_⟩
   ·replace c2:=nt c2
    have hbad:dZ d u=(d,false):=by rw [dZ,if_neg (by rw [←hE,c2];simp)]
    refine ⟨oK _ (by omega),?_,?_,trivial⟩
    ·first | (rw [hbad]<;>rfl) | (rw [hok,hE]<;>rfl) | (rw [hok,←hE]<;>rfl)
    ·first | (rw [hbad]<;>rfl) | (rw [hok,hE]<;>rfl) | (rw [hok,←hE]<;>rfl)
   ·replace c2:=nf c2
    have hok:dZ d u=eY d (yH d u).1:=by rw [dZ,if_pos (by rw [←hE,c2,c0];rfl)]
    refine ⟨aGD _ ((eV ((aM d u.name).1) u.row).1) (by omega),?_,?_,trivial⟩
    ·first | (rw [hbad]<;>rfl) | (rw [hok,hE]<;>rfl) | (rw [hok,←hE]<;>rfl)
    ·first | (rw [hbad]<;>rfl) | (rw [hok,hE]<;>rfl) | (rw [hok,←hE]<;>rfl)
  ·have hE:hZ (aM d u.name).1 u.row=yH d u:=by rw [yH,if_neg (by rw [c1];decide)]
   refine ⟨aNH ((aM d u.name).1) u.row (by omega) (by omega),fun c2=>?_,fun c2=>?_⟩
   ·replace c2:=nt c2
    have hbad:dZ d u=(d,false):=by rw [dZ,if_neg (by rw [←hE,c2];simp)]
    refine ⟨oK _ (by omega),?_,?_,trivial⟩
    ·first | (rw [hbad]<;>rfl) | (rw [hok,hE]<;>rfl) | (rw [hok,←hE]<;>rfl)
    ·first | (rw [hbad]<;>rfl) | (rw [hok,hE]<;>rfl) | (rw [hok,←hE]<;>rfl)
   ·replace c2:=nf c2
    have hok:dZ d u=eY d (yH d u).1:=by rw [dZ,if_pos (by rw [←hE,c2,c0];rfl)]
    refine ⟨aGD _ ((hZ ((aM d u.name).1) u.row).1) (by omega),?_,?_,trivial⟩
    ·first | (rw [hbad]<;>rfl) | (rw [hok,hE]<;>rfl) | (rw [hok,←hE]<;>rfl)
    ·first | (rw [hbad]<;>rfl) | (rw [hok,hE]<;>rfl) | (rw [hok,←hE]<;>rfl)
def fL (s:StoreD) (u:UpdateD):Bool:=eE s&&(!decide (s.catalogue.version=999)&&((dZ s.database u).2&&dY (dZ s.database u).1 s.dependencies s.inclusions))
def bQ (s:StoreD) (u:UpdateD):StoreD × Bool:=if fL s u=true then (⟨(dZ s.database u).1,(eK (dZ s.database u).1 (s.catalogue.version+1)).1,s.dependencies,s.inclusions⟩,true) else (s,false)
theorem bA {s:StoreD} {u:UpdateD} (h:fL s u=true):bQ s u=(⟨(dZ s.database u).1,(eK (dZ s.database u).1 (s.catalogue.version+1)).1,s.dependencies,s.inclusions⟩,true):=by rw [bQ,if_pos h]
theorem bJ {s:StoreD} {u:UpdateD} (h:fL s u=false):bQ s u=(s,false):=by rw [bQ,if_neg (by rw [h];decide)]
theorem aGE {s:StoreD} (h:eE s=true):1≤s.catalogue.version∧s.catalogue.version≤999:=by
 simp only [eE,Bool.and_eq_true] at h
 have h1:=h.1
 cases e:(eB s.database&&gG s.catalogue.version 1 999) with
 | false=>rw [fH e] at h1;cases h1
 | true=>rw [Bool.and_eq_true] at e;exact kW e.2
abbrev tU (s:StoreD) (u:UpdateD):AV × List (Nat × Rs):=(.tup [.agg [.own 0,vI ((((bQ s u).1).catalogue).version),.own 1,.own 2,.own 3],vB ((bQ s u).2)],[(0,.arr 162 3 true (((((bQ s u).1).database).tables).map aD)),(1,.arr 121 4 true (((((bQ s u).1).catalogue).tables).map aA)),(2,.arr 168 3 true ((((bQ s u).1).dependencies).map aB)),(3,.arr 170 4 true ((((bQ s u).1).inclusions).map aE))])
abbrev aBE (s:StoreD) (u:UpdateD):Prop:=dJ Tryz.prog 18 [.agg [.sl 162 3 (s.database.tables.map aD),.int .i64 s.catalogue.version,.sl 121 4 (s.catalogue.tables.map aA),.sl 168 3 (s.dependencies.map aB),.sl 170 4 (s.inclusions.map aE)],.agg [.str u.name,.bool u.ins,.sl 3 1 (u.row.map intD)]] (tU s u).1 (tU s u).2
theorem aJP (s:StoreD) (u:UpdateD) (hc:dQ s≤1048576) (hu:dR u≤1048576):aBE s u:=by
 refine aZ bR aT Tryz.func18 (by kernel_rfl) (bG (rH s)<| .call (vB (eE s)) []<| .br (.fin [(0,1000),(1,1001),(2,1002),(3,1003)]) (.lit<| .lit<| .lit<| .lit<| .br (.fin [(0,1000),(1,1001),(2,1002),(3,1003)]) (bG (wU s.database u)<| .br (.fin [(0,1000),(1,1001),(2,1002),(3,1003)]) (.call (vB (dY ((dZ s.database u).1) s.dependencies s.inclusions)) []<| .lit<| .lit<| .br (.fin [(0,1000),(1,1001),(2,1002),(3,1003)]) (bG (tL ((dZ s.database u).1) (s.catalogue.version+(1:Int)))<| .fin [(0,2500),(1,4800),(2,1002),(3,1003)]))))) (p:=(s.database.tables.map aD).length≤9223372036854775807→(s.catalogue.tables.map aA).length≤9223372036854775807→(s.dependencies.map aB).length≤9223372036854775807→(s.inclusions.map aE).length≤9223372036854775807→(u.row.map intD).length≤9223372036854775807→wR s∧(aCU s∧(((!(eE s))=true→s.catalogue.version=((((bQ s u).1).catalogue).version)∧(false)=((bQ s u).2)∧s.database.tables.map aD=((((bQ s u).1).database).tables).map aD∧s.catalogue.tables.map aA=((((bQ s u).1).catalogue).tables).map aA∧s.dependencies.map aB=(((bQ s u).1).dependencies).map aB∧s.inclusions.map aE=(((bQ s u).1).inclusions).map aE∧True)∧((!(eE s))=false→((decide (s.catalogue.version=(999:Int)))=true→s.catalogue.version=((((bQ s u).1).catalogue).version)∧(false)=((bQ s u).2)∧s.database.tables.map aD=((((bQ s u).1).database).tables).map aD∧s.catalogue.tables.map aA=((((bQ s u).1).catalogue).tables).map aA∧s.dependencies.map aB=(((bQ s u).1).dependencies).map aB∧s.inclusions.map aE=(((bQ s u).1).inclusions).map aE∧True)∧((decide (s.catalogue.version=(999:Int)))=false→aCW s.database u∧(((!((dZ s.database u).2))=true→s.catalogue.version=((((bQ s u).1).catalogue).version)∧(false)=((bQ s u).2)∧s.database.tables.map aD=((((bQ s u).1).database).tables).map aD∧s.catalogue.tables.map aA=((((bQ s u).1).catalogue).tables).map aA∧s.dependencies.map aB=(((bQ s u).1).dependencies).map aB∧s.inclusions.map aE=(((bQ s u).1).inclusions).map aE∧True)∧((!((dZ s.database u).2))=false→wP ((dZ s.database u).1) s.dependencies s.inclusions∧(((!(dY ((dZ s.database u).1) s.dependencies s.inclusions))=true→s.catalogue.version=((((bQ s u).1).catalogue).version)∧(false)=((bQ s u).2)∧s.database.tables.map aD=((((bQ s u).1).database).tables).map aD∧s.catalogue.tables.map aA=((((bQ s u).1).catalogue).tables).map aA∧s.dependencies.map aB=(((bQ s u).1).dependencies).map aB∧s.inclusions.map aE=(((bQ s u).1).inclusions).map aE∧True)∧((!(dY ((dZ s.database u).1) s.dependencies s.inclusions))=false→dO (s.catalogue.version+(1:Int))∧zT ((dZ s.database u).1) (s.catalogue.version+(1:Int))∧(((eK ((dZ s.database u).1) (s.catalogue.version+(1:Int))).1).version)=((((bQ s u).1).catalogue).version)∧(true)=((bQ s u).2)∧(((dZ s.database u).1).tables).map aD=((((bQ s u).1).database).tables).map aD∧(((eK ((dZ s.database u).1) (s.catalogue.version+(1:Int))).1).tables).map aA=((((bQ s u).1).catalogue).tables).map aA∧s.dependencies.map aB=(((bQ s u).1).dependencies).map aB∧s.inclusions.map aE=(((bQ s u).1).inclusions).map aE∧True))))))))) (by kernel_rfl) ?_
 intro n0 n1 n2 n3 n4
 simp only [List.length_map] at n0 n1 n2 n3 n4
 have hS:dQ s=aW s.database+bK s.catalogue+bH s.dependencies+cG s.inclusions:=rfl
 have hI:=iA s.inclusions
 refine ⟨aGB _ (by first | omega | (dsimp only;omega)) (by first | omega | (dsimp only;omega)) (by first | omega | (dsimp only;omega)) (by first | omega | (dsimp only;omega)),aLJ _ (by omega),fun g14=>?_,fun g14=>?_⟩
 ·replace g14:=nt g14
  have hbad:fL s u=false:=by first | (rw [fL,g14];rfl) | (rw [fL,c0];simp;done) | (simp [fL, *];done)
  refine ⟨?_,?_,?_,?_,?_,?_,trivial⟩
  ·first | (rw [bJ hbad]<;>rfl) | (rw [bA hok]<;>rfl)
  ·first | (rw [bJ hbad]<;>rfl) | (rw [bA hok]<;>rfl)
  ·first | (rw [bJ hbad]<;>rfl) | (rw [bA hok]<;>rfl)
  ·first | (rw [bJ hbad]<;>rfl) | (rw [bA hok]<;>rfl)
  ·first | (rw [bJ hbad]<;>rfl) | (rw [bA hok]<;>rfl)
  ·first | (rw [bJ hbad]<;>rfl) | (rw [bA hok]<;>rfl)
 ·replace g14:=nf g14
  refine ⟨fun c0=>?_,fun c0=>?_⟩
  ·replace c0:=yq c0
   have hbad:fL s u=false:=by first | (rw [fL,g14];rfl) | (rw [fL,c0];simp;done) | (simp [fL, *];done)
   refine ⟨?_,?_,?_,?_,?_,?_,trivial⟩
   ·first | (rw [bJ hbad]<;>rfl) | (rw [bA hok]<;>rfl)
   ·first | (rw [bJ hbad]<;>rfl) | (rw [bA hok]<;>rfl)
   ·first | (rw [bJ hbad]<;>rfl) | (rw [bA hok]<;>rfl)
   ·first | (rw [bJ hbad]<;>rfl) | (rw [bA hok]<;>rfl)
   ·first | (rw [bJ hbad]<;>rfl) | (rw [bA hok]<;>rfl)
   ·first | (rw [bJ hbad]<;>rfl) | (rw [bA hok]<;>rfl)
  ·replace c0:=nq c0
   have hv:=aGE (by simpa using g14:eE s=true)
   refine ⟨aLL s.database _ (by omega) (by omega),fun g30=>?_,fun g30=>?_⟩
   ·replace g30:=nt g30
    have hbad:fL s u=false:=by first | (simp [fL, *];done) | (simp_all [fL];done)
    refine ⟨?_,?_,?_,?_,?_,?_,trivial⟩
    ·first | (rw [bJ hbad]<;>rfl) | (rw [bA hok]<;>rfl)
    ·first | (rw [bJ hbad]<;>rfl) | (rw [bA hok]<;>rfl)
    ·first | (rw [bJ hbad]<;>rfl) | (rw [bA hok]<;>rfl)
    ·first | (rw [bJ hbad]<;>rfl) | (rw [bA hok]<;>rfl)
    ·first | (rw [bJ hbad]<;>rfl) | (rw [bA hok]<;>rfl)
    ·first | (rw [bJ hbad]<;>rfl) | (rw [bA hok]<;>rfl)
   ·replace g30:=nf g30
    have hap:=aAH (by simpa using g30:(dZ s.database u).2=true)
    refine ⟨aFz ((dZ s.database u).1) _ _ (by omega),fun c1=>?_,fun c1=>?_⟩
    ·replace c1:=nt c1
     have hbad:fL s u=false:=by first | (simp [fL, *];done) | (simp_all [fL];done)
     refine ⟨?_,?_,?_,?_,?_,?_,trivial⟩
     ·first | (rw [bJ hbad]<;>rfl) | (rw [bA hok]<;>rfl)
     ·first | (rw [bJ hbad]<;>rfl) | (rw [bA hok]<;>rfl)
     ·first | (rw [bJ hbad]<;>rfl) | (rw [bA hok]<;>rfl)
     ·first | (rw [bJ hbad]<;>rfl) | (rw [bA hok]<;>rfl)
     ·first | (rw [bJ hbad]<;>rfl) | (rw [bA hok]<;>rfl)
     ·first | (rw [bJ hbad]<;>rfl) | (rw [bA hok]<;>rfl)
    ·replace c1:=nf c1
     have hok:fL s u=true:=by first | (simp [fL, *];done) | (simp_all [fL];done)
     refine ⟨⟨by omega,by omega⟩,aIE ((dZ s.database u).1) (s.catalogue.version+(1:Int)),?_,?_,?_,?_,?_,?_,trivial⟩
     ·first | (rw [bJ hbad]<;>rfl) | (rw [bA hok]<;>rfl)
     ·first | (rw [bJ hbad]<;>rfl) | (rw [bA hok]<;>rfl)
     ·first | (rw [bJ hbad]<;>rfl) | (rw [bA hok]<;>rfl)
     ·first | (rw [bJ hbad]<;>rfl) | (rw [bA hok]<;>rfl)
     ·first | (rw [bJ hbad]<;>rfl) | (rw [bA hok]<;>rfl)
     ·first | (rw [bJ hbad]<;>rfl) | (rw [bA hok]<;>rfl)
abbrev tV (s:StoreD) (u:UpdateD):AV × List (Nat × Rs):=(.tup [.agg [.own 0,vI ((((bQ s u).1).catalogue).version),.own 1,.own 2,.own 3],vB ((bQ s u).2)],[(0,.arr 162 3 true (((((bQ s u).1).database).tables).map aD)),(1,.arr 121 4 true (((((bQ s u).1).catalogue).tables).map aA)),(2,.arr 168 3 true ((((bQ s u).1).dependencies).map aB)),(3,.arr 170 4 true ((((bQ s u).1).inclusions).map aE))])
abbrev aBF (s:StoreD) (u:UpdateD):Prop:=dJ Tryz.prog 15 [.agg [.sl 162 3 (s.database.tables.map aD),.int .i64 s.catalogue.version,.sl 121 4 (s.catalogue.tables.map aA),.sl 168 3 (s.dependencies.map aB),.sl 170 4 (s.inclusions.map aE)],.agg [.str u.name,.bool u.ins,.sl 3 1 (u.row.map intD)]] (tV s u).1 (tV s u).2
theorem aJQ (s:StoreD) (u:UpdateD) (hc:dQ s≤1048576) (hu:dR u≤1048576):aBF s u:=by
 refine aZ bR aT Tryz.func15 (by kernel_rfl) (.call (vB (eE s)) []<| .br (bG (kG s)<| .fin [(0,2000),(1,2001),(2,2002),(3,2003)]) (.lit<| .lit<| .lit<| .lit<| .br (bG (kG s)<| .fin [(0,2000),(1,2001),(2,2002),(3,2003)]) (bG (wV s.database u)<| .br (bG (kG s)<| .fin [(0,4000),(1,4001),(2,4002),(3,4003)]) (.call (vB (dY ((dZ s.database u).1) s.dependencies s.inclusions)) []<| .lit<| .lit<| .br (bG (kG s)<| .fin [(0,4000),(1,4001),(2,4002),(3,4003)]) (bG (tM ((dZ s.database u).1) (s.catalogue.version+(1:Int)))<| bG (tT s.dependencies)<| .app aL aE ([]:List aL) s.inclusions<| .fin [(0,2500),(1,4700),(2,5400),(3,5800)]))))) (p:=(s.database.tables.map aD).length≤9223372036854775807→(s.catalogue.tables.map aA).length≤9223372036854775807→(s.dependencies.map aB).length≤9223372036854775807→(s.inclusions.map aE).length≤9223372036854775807→(u.row.map intD).length≤9223372036854775807→aCV s∧(((!(eE s))=true→lZ s∧s.catalogue.version=((((bQ s u).1).catalogue).version)∧(false)=((bQ s u).2)∧s.database.tables.map aD=((((bQ s u).1).database).tables).map aD∧s.catalogue.tables.map aA=((((bQ s u).1).catalogue).tables).map aA∧s.dependencies.map aB=(((bQ s u).1).dependencies).map aB∧s.inclusions.map aE=(((bQ s u).1).inclusions).map aE∧True)∧((!(eE s))=false→((decide (s.catalogue.version=(999:Int)))=true→lZ s∧s.catalogue.version=((((bQ s u).1).catalogue).version)∧(false)=((bQ s u).2)∧s.database.tables.map aD=((((bQ s u).1).database).tables).map aD∧s.catalogue.tables.map aA=((((bQ s u).1).catalogue).tables).map aA∧s.dependencies.map aB=(((bQ s u).1).dependencies).map aB∧s.inclusions.map aE=(((bQ s u).1).inclusions).map aE∧True)∧((decide (s.catalogue.version=(999:Int)))=false→aCX s.database u∧(((!((dZ s.database u).2))=true→lZ s∧s.catalogue.version=((((bQ s u).1).catalogue).version)∧(false)=((bQ s u).2)∧s.database.tables.map aD=((((bQ s u).1).database).tables).map aD∧s.catalogue.tables.map aA=((((bQ s u).1).catalogue).tables).map aA∧s.dependencies.map aB=(((bQ s u).1).dependencies).map aB∧s.inclusions.map aE=(((bQ s u).1).inclusions).map aE∧True)∧((!((dZ s.database u).2))=false→wQ ((dZ s.database u).1) s.dependencies s.inclusions∧(((!(dY ((dZ s.database u).1) s.dependencies s.inclusions))=true→lZ s∧s.catalogue.version=((((bQ s u).1).catalogue).version)∧(false)=((bQ s u).2)∧s.database.tables.map aD=((((bQ s u).1).database).tables).map aD∧s.catalogue.tables.map aA=((((bQ s u).1).catalogue).tables).map aA∧s.dependencies.map aB=(((bQ s u).1).dependencies).map aB∧s.inclusions.map aE=(((bQ s u).1).inclusions).map aE∧True)∧((!(dY ((dZ s.database u).1) s.dependencies s.inclusions))=false→dO (s.catalogue.version+(1:Int))∧zU ((dZ s.database u).1) (s.catalogue.version+(1:Int))∧aAC s.dependencies∧[]=([]:List aL).map aE∧s.inclusions.map aE=s.inclusions.map aE∧(∀x,fG (aE x)=true)∧(([]:List aL).length+s.inclusions.length)*48≤140737488355328∧(((eK ((dZ s.database u).1) (s.catalogue.version+(1:Int))).1).version)=((((bQ s u).1).catalogue).version)∧(true)=((bQ s u).2)∧(((dZ s.database u).1).tables).map aD=((((bQ s u).1).database).tables).map aD∧(((eK ((dZ s.database u).1) (s.catalogue.version+(1:Int))).1).tables).map aA=((((bQ s u).1).catalogue).tables).map aA∧s.dependencies.map aB=(((bQ s u).1).dependencies).map aB∧(([]:List aL)++s.inclusions).map aE=(((bQ s u).1).inclusions).map aE∧True)))))))) (by kernel_rfl) ?_
 intro n0 n1 n2 n3 n4
 simp only [List.length_map] at n0 n1 n2 n3 n4
 have hS:dQ s=aW s.database+bK s.catalogue+bH s.dependencies+cG s.inclusions:=rfl
 have hI:=iA s.inclusions
 refine ⟨aLK _ (by omega),fun g13=>?_,fun g13=>?_⟩
 ·replace g13:=nt g13
  have hbad:fL s u=false:=by first | (rw [fL,g13];rfl) | (rw [fL,c0];simp;done) | (simp [fL, *];done)
  refine ⟨sO _ (by first | omega | (dsimp only;omega)) (by first | omega | (dsimp only;omega)) (by first | omega | (dsimp only;omega)) (by first | omega | (dsimp only;omega)),?_,?_,?_,?_,?_,?_,trivial⟩
  ·first | (rw [bJ hbad]<;>rfl) | (rw [bA hok]<;>rfl)
  ·first | (rw [bJ hbad]<;>rfl) | (rw [bA hok]<;>rfl)
  ·first | (rw [bJ hbad]<;>rfl) | (rw [bA hok]<;>rfl)
  ·first | (rw [bJ hbad]<;>rfl) | (rw [bA hok]<;>rfl)
  ·first | (rw [bJ hbad]<;>rfl) | (rw [bA hok]<;>rfl)
  ·first | (rw [bJ hbad]<;>rfl) | (rw [bA hok]<;>rfl)
 ·replace g13:=nf g13
  refine ⟨fun c0=>?_,fun c0=>?_⟩
  ·replace c0:=yq c0
   have hbad:fL s u=false:=by first | (rw [fL,g13];rfl) | (rw [fL,c0];simp;done) | (simp [fL, *];done)
   refine ⟨sO _ (by first | omega | (dsimp only;omega)) (by first | omega | (dsimp only;omega)) (by first | omega | (dsimp only;omega)) (by first | omega | (dsimp only;omega)),?_,?_,?_,?_,?_,?_,trivial⟩
   ·first | (rw [bJ hbad]<;>rfl) | (rw [bA hok]<;>rfl)
   ·first | (rw [bJ hbad]<;>rfl) | (rw [bA hok]<;>rfl)
   ·first | (rw [bJ hbad]<;>rfl) | (rw [bA hok]<;>rfl)
   ·first | (rw [bJ hbad]<;>rfl) | (rw [bA hok]<;>rfl)
   ·first | (rw [bJ hbad]<;>rfl) | (rw [bA hok]<;>rfl)
   ·first | (rw [bJ hbad]<;>rfl) | (rw [bA hok]<;>rfl)
  ·replace c0:=nq c0
   have hv:=aGE (by simpa using g13:eE s=true)
   refine ⟨aLM s.database _ (by omega) (by omega),fun g30=>?_,fun g30=>?_⟩
   ·replace g30:=nt g30
    have hbad:fL s u=false:=by first | (simp [fL, *];done) | (simp_all [fL];done)
    refine ⟨sO _ (by first | omega | (dsimp only;omega)) (by first | omega | (dsimp only;omega)) (by first | omega | (dsimp only;omega)) (by first | omega | (dsimp only;omega)),?_,?_,?_,?_,?_,?_,trivial⟩
    ·first | (rw [bJ hbad]<;>rfl) | (rw [bA hok]<;>rfl)
    ·first | (rw [bJ hbad]<;>rfl) | (rw [bA hok]<;>rfl)
    ·first | (rw [bJ hbad]<;>rfl) | (rw [bA hok]<;>rfl)
    ·first | (rw [bJ hbad]<;>rfl) | (rw [bA hok]<;>rfl)
    ·first | (rw [bJ hbad]<;>rfl) | (rw [bA hok]<;>rfl)
    ·first | (rw [bJ hbad]<;>rfl) | (rw [bA hok]<;>rfl)
   ·replace g30:=nf g30
    have hap:=aAH (by simpa using g30:(dZ s.database u).2=true)
    refine ⟨aGA ((dZ s.database u).1) _ _ (by omega),fun c1=>?_,fun c1=>?_⟩
    ·replace c1:=nt c1
     have hbad:fL s u=false:=by first | (simp [fL, *];done) | (simp_all [fL];done)
     refine ⟨sO _ (by first | omega | (dsimp only;omega)) (by first | omega | (dsimp only;omega)) (by first | omega | (dsimp only;omega)) (by first | omega | (dsimp only;omega)),?_,?_,?_,?_,?_,?_,trivial⟩
     ·first | (rw [bJ hbad]<;>rfl) | (rw [bA hok]<;>rfl)
     ·first | (rw [bJ hbad]<;>rfl) | (rw [bA hok]<;>rfl)
     ·first | (rw [bJ hbad]<;>rfl) | (rw [bA hok]<;>rfl)
     ·first | (rw [bJ hbad]<;>rfl) | (rw [bA hok]<;>rfl)
     ·first | (rw [bJ hbad]<;>rfl) | (rw [bA hok]<;>rfl)
     ·first | (rw [bJ hbad]<;>rfl) | (rw [bA hok]<;>rfl)
    ·replace c1:=nf c1
     have hok:fL s u=true:=by first | (simp [fL, *];done) | (simp_all [fL];done)
     refine ⟨⟨by omega,by omega⟩,aIF ((dZ s.database u).1) (s.catalogue.version+(1:Int)),aIO _ (by omega),rfl,rfl,fun _=>rfl,by first | omega | (simp;omega),?_⟩
     refine ⟨?_,?_,?_,?_,?_,?_,trivial⟩
     ·first | (rw [bJ hbad]<;>rfl) | (rw [bA hok]<;>rfl)
     ·first | (rw [bJ hbad]<;>rfl) | (rw [bA hok]<;>rfl)
     ·first | (rw [bJ hbad]<;>rfl) | (rw [bA hok]<;>rfl)
     ·first | (rw [bJ hbad]<;>rfl) | (rw [bA hok]<;>rfl)
     ·first | (rw [bJ hbad]<;>rfl) | (rw [bA hok]<;>rfl)
     ·first | (rw [bJ hbad]<;>rfl) | (rw [bA hok]<;>rfl)
end Go.Proofs.YtokkjaflmcjlhaaGreat
