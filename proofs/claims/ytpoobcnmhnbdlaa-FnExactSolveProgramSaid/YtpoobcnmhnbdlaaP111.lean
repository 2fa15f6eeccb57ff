/-
  Contracts and plain laws, joined: part 12.
-/
import Derived.Test.YtpoobcnmhnbdlaaP110
namespace Go.Proofs.Ytpoobcnmhnbdlaa
open Go.ChangeShapes Go.WideShapes Go.ChangeAt Go.RowKit
set_option linter.unusedVariables false
set_option linter.unusedSimpArgs false
set_option maxRecDepth 100000
set_option maxHeartbeats 4000000
theorem eP {d:DictionaryD} {i j:Int} (h:cB d=true) (hi:0≤i∧i<d.basic.length) (hj:0≤j∧j<d.others.length):aW d i j=eA d i.toNat j.toNat:=by rw [aW,if_pos ⟨h,hi,hj⟩]
abbrev rA (d:DictionaryD) (i:Int) (j:Int):AV × List (Nat × Rs):=(.tup [.agg [.own 0,.own 1,.own 2,.own 3,.own 4,vI ((((aW d i j).1).value).num),vI ((((aW d i j).1).value).den)],vB ((aW d i j).2)],[(0,.arr 3 1 true ((((aW d i j).1).basic).map aG)),(1,.arr 3 1 true ((((aW d i j).1).others).map aG)),(2,.arr 29 1 true ((((aW d i j).1).table).map aD)),(3,.arr 28 2 true ((((aW d i j).1).limits).map aA)),(4,.arr 28 2 true ((((aW d i j).1).costs).map aA))])
abbrev vL (d:DictionaryD) (i:Int) (j:Int):Prop:=gF Try.prog 17 [.agg [.sl 3 1 (d.basic.map aG),.sl 3 1 (d.others.map aG),.sl 29 1 (d.table.map aD),.sl 28 2 (d.limits.map aA),.sl 28 2 (d.costs.map aA),.int .i64 d.value.num,.int .i64 d.value.den],.one (.int .i64 i),.one (.int .i64 j)] (rA d i j).1 (rA d i j).2
theorem aEA (d:DictionaryD) (i j:Int) (h0:d.basic.length≤1048576) (h1:d.others.length≤1048576):vL d i j:=by
 refine cT dR bK Try.func17 (by kernel_rfl) (.len d.basic.length<| .call (vB (decide ((0:Int)≤i∧i≤(((d.basic.length:Nat):Int) - (1:Int))))) []<| .br (.fin []) (.len d.others.length<| .call (vB (decide ((0:Int)≤j∧j≤(((d.others.length:Nat):Int) - (1:Int))))) []<| .lit<| .lit<| .br (.fin []) (.call (vB (cB d)) []<| .lit<| .lit<| .br (.fin []) (dA (aCn d i j)<| .fin [(0,3300),(1,3301),(2,3302),(3,3303),(4,3304)])))) (p:=(d.basic.map aG).length≤9223372036854775807→(d.others.map aG).length≤9223372036854775807→(d.table.map aD).length≤9223372036854775807→(d.limits.map aA).length≤9223372036854775807→(d.costs.map aA).length≤9223372036854775807→Lm aG d.basic∧(dN (((d.basic.length:Nat):Int) - (1:Int))∧(jW i (0:Int) (((d.basic.length:Nat):Int) - (1:Int))∧(((!(decide ((0:Int)≤i∧i≤(((d.basic.length:Nat):Int) - (1:Int)))))=true→(0:Int)=((((aW d i j).1).value).num)∧(0:Int)=((((aW d i j).1).value).den)∧(false)=((aW d i j).2)∧[]=(((aW d i j).1).basic).map aG∧[]=(((aW d i j).1).others).map aG∧[]=(((aW d i j).1).table).map aD∧[]=(((aW d i j).1).limits).map aA∧[]=(((aW d i j).1).costs).map aA∧True)∧((!(decide ((0:Int)≤i∧i≤(((d.basic.length:Nat):Int) - (1:Int)))))=false→Lm aG d.others∧(dN (((d.others.length:Nat):Int) - (1:Int))∧(jW j (0:Int) (((d.others.length:Nat):Int) - (1:Int))∧(((!(decide ((0:Int)≤j∧j≤(((d.others.length:Nat):Int) - (1:Int)))))=true→(0:Int)=((((aW d i j).1).value).num)∧(0:Int)=((((aW d i j).1).value).den)∧(false)=((aW d i j).2)∧[]=(((aW d i j).1).basic).map aG∧[]=(((aW d i j).1).others).map aG∧[]=(((aW d i j).1).table).map aD∧[]=(((aW d i j).1).limits).map aA∧[]=(((aW d i j).1).costs).map aA∧True)∧((!(decide ((0:Int)≤j∧j≤(((d.others.length:Nat):Int) - (1:Int)))))=false→aAj d∧(((!(cB d))=true→(0:Int)=((((aW d i j).1).value).num)∧(0:Int)=((((aW d i j).1).value).den)∧(false)=((aW d i j).2)∧[]=(((aW d i j).1).basic).map aG∧[]=(((aW d i j).1).others).map aG∧[]=(((aW d i j).1).table).map aD∧[]=(((aW d i j).1).limits).map aA∧[]=(((aW d i j).1).costs).map aA∧True)∧((!(cB d))=false→aEg d i j∧((((eA d (i).toNat (j).toNat).1).value).num)=((((aW d i j).1).value).num)∧((((eA d (i).toNat (j).toNat).1).value).den)=((((aW d i j).1).value).den)∧((eA d (i).toNat (j).toNat).2)=((aW d i j).2)∧(((eA d (i).toNat (j).toNat).1).basic).map aG=(((aW d i j).1).basic).map aG∧(((eA d (i).toNat (j).toNat).1).others).map aG=(((aW d i j).1).others).map aG∧(((eA d (i).toNat (j).toNat).1).table).map aD=(((aW d i j).1).table).map aD∧(((eA d (i).toNat (j).toNat).1).limits).map aA=(((aW d i j).1).limits).map aA∧(((eA d (i).toNat (j).toNat).1).costs).map aA=(((aW d i j).1).costs).map aA∧True))))))))))) (by kernel_rfl) ?_
 intro n0 n1 n2 n3 n4
 simp only [List.length_map] at n0 n1 n2 n3 n4
 refine ⟨List.length_map _,⟨by omega,by omega⟩,pC _ _ _,fun g15=>?_,fun g15=>?_⟩
 ·replace g15:=nq (nt g15)
  refine ⟨?_,?_,?_,?_,?_,?_,?_,?_,trivial⟩
  ·first | (rw [aM c0]<;>rfl) | (rw [aI (by omega)]<;>rfl) | (rw [eP hd hi hj]<;>rfl)
  ·first | (rw [aM c0]<;>rfl) | (rw [aI (by omega)]<;>rfl) | (rw [eP hd hi hj]<;>rfl)
  ·first | (rw [aM c0]<;>rfl) | (rw [aI (by omega)]<;>rfl) | (rw [eP hd hi hj]<;>rfl)
  ·first | (rw [aM c0]<;>rfl) | (rw [aI (by omega)]<;>rfl) | (rw [eP hd hi hj]<;>rfl)
  ·first | (rw [aM c0]<;>rfl) | (rw [aI (by omega)]<;>rfl) | (rw [eP hd hi hj]<;>rfl)
  ·first | (rw [aM c0]<;>rfl) | (rw [aI (by omega)]<;>rfl) | (rw [eP hd hi hj]<;>rfl)
  ·first | (rw [aM c0]<;>rfl) | (rw [aI (by omega)]<;>rfl) | (rw [eP hd hi hj]<;>rfl)
  ·first | (rw [aM c0]<;>rfl) | (rw [aI (by omega)]<;>rfl) | (rw [eP hd hi hj]<;>rfl)
 ·replace g15:=yq (nf g15)
  refine ⟨List.length_map _,⟨by omega,by omega⟩,pC _ _ _,fun g24=>?_,fun g24=>?_⟩
  ·replace g24:=nq (nt g24)
   refine ⟨?_,?_,?_,?_,?_,?_,?_,?_,trivial⟩
   ·first | (rw [aM c0]<;>rfl) | (rw [aI (by omega)]<;>rfl) | (rw [eP hd hi hj]<;>rfl)
   ·first | (rw [aM c0]<;>rfl) | (rw [aI (by omega)]<;>rfl) | (rw [eP hd hi hj]<;>rfl)
   ·first | (rw [aM c0]<;>rfl) | (rw [aI (by omega)]<;>rfl) | (rw [eP hd hi hj]<;>rfl)
   ·first | (rw [aM c0]<;>rfl) | (rw [aI (by omega)]<;>rfl) | (rw [eP hd hi hj]<;>rfl)
   ·first | (rw [aM c0]<;>rfl) | (rw [aI (by omega)]<;>rfl) | (rw [eP hd hi hj]<;>rfl)
   ·first | (rw [aM c0]<;>rfl) | (rw [aI (by omega)]<;>rfl) | (rw [eP hd hi hj]<;>rfl)
   ·first | (rw [aM c0]<;>rfl) | (rw [aI (by omega)]<;>rfl) | (rw [eP hd hi hj]<;>rfl)
   ·first | (rw [aM c0]<;>rfl) | (rw [aI (by omega)]<;>rfl) | (rw [eP hd hi hj]<;>rfl)
  ·replace g24:=yq (nf g24)
   refine ⟨aHe d (by omega) (by omega),fun c0=>?_,fun c0=>?_⟩
   ·replace c0:=nt c0
    refine ⟨?_,?_,?_,?_,?_,?_,?_,?_,trivial⟩
    ·first | (rw [aM c0]<;>rfl) | (rw [aI (by omega)]<;>rfl) | (rw [eP hd hi hj]<;>rfl)
    ·first | (rw [aM c0]<;>rfl) | (rw [aI (by omega)]<;>rfl) | (rw [eP hd hi hj]<;>rfl)
    ·first | (rw [aM c0]<;>rfl) | (rw [aI (by omega)]<;>rfl) | (rw [eP hd hi hj]<;>rfl)
    ·first | (rw [aM c0]<;>rfl) | (rw [aI (by omega)]<;>rfl) | (rw [eP hd hi hj]<;>rfl)
    ·first | (rw [aM c0]<;>rfl) | (rw [aI (by omega)]<;>rfl) | (rw [eP hd hi hj]<;>rfl)
    ·first | (rw [aM c0]<;>rfl) | (rw [aI (by omega)]<;>rfl) | (rw [eP hd hi hj]<;>rfl)
    ·first | (rw [aM c0]<;>rfl) | (rw [aI (by omega)]<;>rfl) | (rw [eP hd hi hj]<;>rfl)
    ·first | (rw [aM c0]<;>rfl) | (rw [aI (by omega)]<;>rfl) | (rw [eP hd hi hj]<;>rfl)
   ·replace c0:=nf c0
    have hd:cB d=true:=c0
    obtain ⟨b1,b2,b3,b4,b5,b6,b7,b8⟩:=fR hd
    have hi:0≤i∧i<d.basic.length:=by omega
    have hj:0≤j∧j<d.others.length:=by omega
    refine ⟨aKY d i j (by assumption) (by omega) (by omega),?_,?_,?_,?_,?_,?_,?_,?_,trivial⟩
    ·first | (rw [aM c0]<;>rfl) | (rw [aI (by omega)]<;>rfl) | (rw [eP hd hi hj]<;>rfl)
    ·first | (rw [aM c0]<;>rfl) | (rw [aI (by omega)]<;>rfl) | (rw [eP hd hi hj]<;>rfl)
    ·first | (rw [aM c0]<;>rfl) | (rw [aI (by omega)]<;>rfl) | (rw [eP hd hi hj]<;>rfl)
    ·first | (rw [aM c0]<;>rfl) | (rw [aI (by omega)]<;>rfl) | (rw [eP hd hi hj]<;>rfl)
    ·first | (rw [aM c0]<;>rfl) | (rw [aI (by omega)]<;>rfl) | (rw [eP hd hi hj]<;>rfl)
    ·first | (rw [aM c0]<;>rfl) | (rw [aI (by omega)]<;>rfl) | (rw [eP hd hi hj]<;>rfl)
    ·first | (rw [aM c0]<;>rfl) | (rw [aI (by omega)]<;>rfl) | (rw [eP hd hi hj]<;>rfl)
    ·first | (rw [aM c0]<;>rfl) | (rw [aI (by omega)]<;>rfl) | (rw [eP hd hi hj]<;>rfl)
end Go.Proofs.Ytpoobcnmhnbdlaa
