/-
  Contracts and plain laws, joined: part 20.
-/
import Derived.Test.YtokkjaflmcjlhaaGreatQA14
import Derived.Test.YtokkjaflmcjlhaaGreatQA18
import Derived.Test.YtokkjaflmcjlhaaGreatQA15
import Derived.Test.YtokkjaflmcjlhaaGreatQA16
import Derived.Test.YtokkjaflmcjlhaaGreatQA17
import Derived.Test.YtokkjaflmcjlhaaGreatQA3
import Derived.Test.YtokkjaflmcjlhaaGreatQA0
namespace Go.Proofs.YtokkjaflmcjlhaaGreat
open Go.ChangeShapes Go.WideShapes Go.ChangeAt Go.RowKit
set_option linter.unusedVariables false
set_option linter.unusedSimpArgs false
set_option maxRecDepth 100000
set_option maxHeartbeats 4000000
abbrev lA (u:Nat→Bool) (v:Nat):Nat→Bool:=fun i=>u i || decide (i=v)
abbrev lB (l:Nat→Bool) (v:Nat):Nat→Bool:=fun i=>l i&& !decide (i=v)
def b1 (b:Bool):Nat:=if b=true then 1 else 0
theorem aKm (b:Bool):b1 b≤1:=by cases b<;>decide
def lS (p:Nat→Bool):Nat:=b1 (p 0)+b1 (p 1)+b1 (p 2)+b1 (p 3)
theorem aFG {p:Nat→Bool} {v:Nat} (hv:v<4) (h:p v=true):lS (lB p v)+1=lS p:=by
 have h4:v=0∨v=1∨v=2∨v=3:=by omega
 have e0:b1 false=0:=rfl
 have e1:b1 true=1:=rfl
 rcases h4 with rfl | rfl | rfl | rfl<;>simp [lS,lB,h,e0,e1]<;>omega
theorem aKn (p:Nat→Bool):lS p≤4:=by
 have h0:=aKm (p 0)
 have h1:=aKm (p 1)
 have h2:=aKm (p 2)
 have h3:=aKm (p 3)
 unfold lS
 omega
theorem aKo (p:Nat→Bool):m4 p=0↔lS p=0:=by
 rw [m4,lS]
 cases p 0<;>cases p 1<;>cases p 2<;>cases p 3<;>decide
theorem aMO {p:Nat→Bool} (h:lS p=0) {v:Nat} (hv:v<4):p v=false:=by
 cases e:p v with
 | false=>rfl
 | true=>have:=aFG hv e;omega
theorem aMP {p:Nat→Bool} (h: ¬lS p=0):dE p 4≠[]:=fun e=>h (by
 have h0: ∀v,v<4→p v=false:=fun v hv=>by
  cases q:p v with
  | false=>rfl
  | true=>
    have:(v:Int)∈dE p 4:=aAs.2 ⟨by omega,by simpa using hv,by simpa using q⟩
    rw [e] at this;simp at this
 rw [lS,h0 0 (by omega),h0 1 (by omega),h0 2 (by omega),h0 3 (by omega)];rfl)
theorem aMQ (p:Nat→Bool):cW (m4 p)=dE p 4:=by
 have h:=aIe p
 rw [rO (jV h.1 h.2)]
 exact aE2 fun v hv=>aHN hv
def aBL (b n:Int):Int:=if b<0∨n<b then n else b
def lR (s:StoreD) (q:QueryD) (r:(Nat→Bool)→(Nat→Bool)→Int) (u l:Nat→Bool) (b x:Int):Int:=aBL b (fS s q x.toNat (iI q (m4 u))*r (lA u x.toNat) (lB l x.toNat))
def eS (s:StoreD) (q:QueryD):Nat→(Nat→Bool)→(Nat→Bool)→Int
 | 0,_,_=>1
 | f+1,u,l=>if lS l=0 then 1 else (dE l 4).foldl (lR s q (eS s q f) u l) (-1)
theorem sE {s:StoreD} {q:QueryD} {u l:Nat→Bool} (h:lS l=0): ∀f,eS s q f u l=1
 | 0=>rfl
 | f+1=>by rw [eS,if_pos h]
theorem xA {s:StoreD} {q:QueryD} {u l:Nat→Bool} (h: ¬lS l=0) (f:Nat):eS s q (f+1) u l=(dE l 4).foldl (lR s q (eS s q f) u l) (-1):=by rw [eS,if_neg h]
theorem aPc {b n B:Int} (h1: -1≤b) (h2:b≤B) (h3:0≤n) (h4:n≤B):0≤aBL b n∧aBL b n≤B:=by
 unfold aBL
 split<;>omega
theorem aJC {g:Int→Int→Int} {r:Int→Int} {B:Int} (hg: ∀b x,g b x=aBL b (r x)) (hr: ∀x,0≤r x∧r x≤B): ∀(l:List Int) (b:Int),-1≤b→b≤B→(-1≤l.foldl g b∧l.foldl g b≤B)∧(0≤b∨l≠[]→0≤l.foldl g b)
 | [],b,h1,h2=>⟨⟨h1,h2⟩,fun h=>h.elim id (fun q=>absurd rfl q)⟩
 | x::l,b,h1,h2=>by
   have h3:=aPc h1 h2 (hr x).1 (hr x).2
   have ih:=aJC hg hr l (aBL b (r x)) (by omega) h3.2
   rw [List.foldl_cons,hg]
   exact ⟨ih.1,fun _=>ih.2 (.inl h3.1)⟩
theorem aJD: ∀f:Nat,(1:Int)≤8^f
 | 0=>by decide
 | f+1=>by have:=aJD f;rw [Int.pow_succ];omega
theorem aKp (s:StoreD) (q:QueryD): ∀(f:Nat) (u l:Nat→Bool),0≤eS s q f u l∧eS s q f u l≤8^f
 | 0,_,_=>by simp [eS]
 | f+1,u,l=>by
   have h8:=aJD f
   by_cases h:lS l=0
   ·rw [sE h,Int.pow_succ];omega
   ·rw [xA h,Int.pow_succ]
    have h1:=aJC (g:=lR s q (eS s q f) u l) (r:=fun x=>fS s q x.toNat (iI q (m4 u))*eS s q f (lA u x.toNat) (lB l x.toNat)) (B:=8^f*8) (fun _ _=>rfl) (fun x=>by
     have a1:=aEm s q x.toNat (iI q (m4 u))
     have a2:=aKp s q f (lA u x.toNat) (lB l x.toNat)
     have a3:=aEn a2.1 a2.2 a1.1 a1.2
     rw [Int.mul_comm]
     exact a3) (dE l 4) (-1) (by omega) (by omega)
    exact ⟨h1.2 (.inr (aMP h)),h1.1.2⟩
theorem aJE (s:StoreD) (q:QueryD) {f:Nat} (hf:f≤4) (i:Nat) (vs:List Int) (u l:Nat→Bool):0≤fS s q i vs*eS s q f u l∧fS s q i vs*eS s q f u l≤32768:=by
 have a1:=aEm s q i vs
 have a2:=aKp s q f u l
 have a4:=aKk hf
 have a3:=aEn a2.1 (Int.le_trans a2.2 a4) a1.1 a1.2
 rw [Int.mul_comm]
 omega
theorem aBt {s:StoreD} {q:QueryD} {r:(Nat→Bool)→(Nat→Bool)→Int} {u l:Nat→Bool} {L:List Int} {k:Nat} {x:Int} (h:L[k]? =some x):(L.take (k+1)).foldl (lR s q r u l) (-1)=lR s q r u l ((L.take k).foldl (lR s q r u l) (-1)) x:=by
 rw [cI h,List.foldl_append];rfl
theorem nO {b n:Int} (h:b<0∨n<b):aBL b n=n:=by rw [aBL,if_pos h]
theorem qQ {b n:Int} (h: ¬(b<0∨n<b)):aBL b n=b:=by rw [aBL,if_neg h]
def chB (s:StoreD) (q:QueryD) (m:Int):Int:=if kH s q m=true then eS s q 4 (fun _=>false) (dL m) else -1
theorem aDE {s:StoreD} {q:QueryD} {m:Int} (h:kH s q m=true):chB s q m=eS s q 4 (fun _=>false) (dL m):=by rw [chB,if_pos h]
theorem aHV {s:StoreD} {q:QueryD} {m:Int} (h:kH s q m=false):chB s q m= -1:=by rw [chB,if_neg (by rw [h];decide)]
theorem aO0 {p:Nat→Bool} {n:Nat} (hn:n≤4) (h: ∀v,n≤v→v<4→p v=false):dE p 4=dE p n:=aAt hn h
abbrev aAI (s:StoreD) (q:QueryD) (f:Nat) (u:Nat→Bool) (l:Nat→Bool) (a:Int) (c:Int):Prop:=cO Tryz.prog 105 [.agg [.sl 162 3 (s.database.tables.map aO),.int .i64 s.catalogue.version,.sl 121 4 (s.catalogue.tables.map aB),.sl 168 3 (s.dependencies.map aH),.sl 170 4 (s.inclusions.map aJ)],.agg [.int .i64 q.variableCount,.sl 131 2 (q.atoms.map aV)],.one (.int .i64 a),.one (.int .i64 c)] (vI (eS s q f u l)) []
theorem aJF (s:StoreD) (q:QueryD) (f:Nat) (u l:Nat→Bool) (a c:Int) (hc:cC s≤1048576) (hq1:dD s=true) (hq2:cP s.database q=true) (hq3:bP q=true) (ha:a=m4 u) (hc2:c=m4 l) (hf:lS l≤f∧f≤4) (hl: ∀i,q.atoms.length≤i→i<4→l i=false) (ih: ∀g,g+1=f→ ∀(u l:Nat→Bool) (a c:Int),a=m4 u→c=m4 l→lS l≤g→(∀i,q.atoms.length≤i→i<4→l i=false)→aAI s q g u l a c):aAI s q f u l a c:=by
 refine aT bF aQ Tryz.func105 (by kernel_rfl) (.br (.fin []) (bH (tD c)<| .len ((cW c).length)<| .loop (Nat × Int) (Q2 Nat Int) [9,11,12,18,19,20,21,22,23,24,25,26,27,28,29,30,31,32,33,34,35,36,37,38,39,40,41,42,43,44,45,46,47,48,49] [2700] (fun yy0=>[(18,vI (yy0.1:Int)),(9,vI yy0.2)]) (fun yy0=>[]) (fun yy0=>yy0.1≤(cW c).length∧yy0.2=((cW c).take yy0.1).foldl (lR s q (eS s q (f - 1)) u l) (-1)) (fun yy0=>(cW c).length - yy0.1) (fun yy0=> .br (.len ((cW c).length)<| .elem _ intD (cW c) (fun e21=>bH (qJ q a)<| .call (vI (fS s q e21.toNat (iI q a))) []<| .call (vI (eS s q (f - 1) (lA u e21.toNat) (lB l e21.toNat))) []<| .br (.back []) (.lit<| .lit<| .lit<| .br (.back []) (.back [])))) (.fin [])))) (p:=(s.database.tables.map aO).length≤9223372036854775807→(s.catalogue.tables.map aB).length≤9223372036854775807→(s.dependencies.map aH).length≤9223372036854775807→(s.inclusions.map aJ).length≤9223372036854775807→(q.atoms.map aV).length≤9223372036854775807→((decide (c=(0:Int)))=true→(1:Int)=(eS s q f u l)∧True)∧((decide (c=(0:Int)))=false→zX c∧(Lm intD (cW c)∧((∃(k:Nat) (b:Int),(0:Int)=(k:Int)∧(-1:Int)=b∧k≤(cW c).length∧b=((cW c).take k).foldl (lR s q (eS s q (f - 1)) u l) (-1))∧ ∀(k:Nat) (b:Int),(k≤(cW c).length∧b=((cW c).take k).foldl (lR s q (eS s q (f - 1)) u l) (-1))→((decide ((k:Int)<(((cW c).length:Nat):Int)))=true→0≤(k:Int)∧Lm intD (cW c)∧(k:Int)<(((cW c).length:Nat):Int)∧Em intD (cW c) k fun e21=>wM q a∧(aC5 s q e21 (iI q a)∧((0≤e21∧e21≤64)∧(cL ((1:Int)*2^(Int.toNat e21))∧((0≤e21∧e21≤64)∧(cL ((1:Int)*2^(Int.toNat e21))∧(cO Tryz.prog 105 [.agg [.sl 162 3 (s.database.tables.map aO),.int .i64 s.catalogue.version,.sl 121 4 (s.catalogue.tables.map aB),.sl 168 3 (s.dependencies.map aH),.sl 170 4 (s.inclusions.map aJ)],.agg [.int .i64 q.variableCount,.sl 131 2 (q.atoms.map aV)],.one (.int .i64 (fL .or .i64 a ((1:Int)*2^(Int.toNat e21)))),.one (.int .i64 (fL .andNot .i64 c ((1:Int)*2^(Int.toNat e21))))] (vI (eS s q (f - 1) (lA u e21.toNat) (lB l e21.toNat))) []∧(cL ((fS s q e21.toNat (iI q a))*(eS s q (f - 1) (lA u e21.toNat) (lB l e21.toNat)))∧(((decide (b<(0:Int)))=true→cL ((k:Int)+(1:Int))∧ ∃(k' :Nat) (b' :Int),((k:Int)+(1:Int))=(k' :Int)∧((fS s q e21.toNat (iI q a))*(eS s q (f - 1) (lA u e21.toNat) (lB l e21.toNat)))=b' ∧(k' ≤(cW c).length∧b' =((cW c).take k').foldl (lR s q (eS s q (f - 1)) u l) (-1))∧(cW c).length - k' <(cW c).length - k)∧((decide (b<(0:Int)))=false→((decide (((fS s q e21.toNat (iI q a))*(eS s q (f - 1) (lA u e21.toNat) (lB l e21.toNat)))<b))=true→cL ((k:Int)+(1:Int))∧ ∃(k' :Nat) (b' :Int),((k:Int)+(1:Int))=(k' :Int)∧((fS s q e21.toNat (iI q a))*(eS s q (f - 1) (lA u e21.toNat) (lB l e21.toNat)))=b' ∧(k' ≤(cW c).length∧b' =((cW c).take k').foldl (lR s q (eS s q (f - 1)) u l) (-1))∧(cW c).length - k' <(cW c).length - k)∧((decide (((fS s q e21.toNat (iI q a))*(eS s q (f - 1) (lA u e21.toNat) (lB l e21.toNat)))<b))=false→cL ((k:Int)+(1:Int))∧ ∃(k' :Nat) (b' :Int),((k:Int)+(1:Int))=(k' :Int)∧b=b' ∧(k' ≤(cW c).length∧b' =((cW c).take k').foldl (lR s q (eS s q (f - 1)) u l) (-1))∧(cW c).length - k' <(cW c).length - k)))))))))))∧((decide ((k:Int)<(((cW c).length:Nat):Int)))=false→b=(eS s q f u l)∧True))))) (by kernel_rfl) ?_
 intro n0 n1 n2 n3 n4
 simp only [List.length_map] at n0 n1 n2 n3 n4
 have hS:cC s=bD s.database+bL s.catalogue+bV s.dependencies+cR s.inclusions:=rfl
 have hI:=eQ s.inclusions
 have hq5:=(dZ hq3).2.1
 refine ⟨fun c0=>?_,fun c0=>?_⟩
 ·replace c0:=yq c0
  have hz:lS l=0:=(aKo l).1 (by rw [←hc2];exact c0)
  refine ⟨?_,trivial⟩
  ·first | (rw [sE hz];done) | (rw [←hg,xA hz,hb,←hML,List.take_of_length_le (by omega)])
 ·replace c0:=nq c0
  have hz: ¬lS l=0:=fun z=>c0 (by rw [hc2];exact (aKo l).2 z)
  have hg:f - 1+1=f:=by omega
  have hML:cW c=dE l 4:=by rw [hc2,aMQ]
  have hml:=aBq c
  refine ⟨aIp c,List.length_map _,⟨0,(-1:Int),rfl,rfl,Nat.zero_le _,rfl⟩,fun k b ⟨hk,hb⟩=>?_⟩
  refine ⟨fun c1=>?_,fun c1=>?_⟩
  ·replace c1:=yq c1
   refine ⟨by omega,List.length_map _,by omega,rfl,by omega,fun e21 h21=>?_⟩
   have hem:=List.mem_of_getElem? h21
   rw [hML] at hem
   obtain ⟨hx0,hx4,hxl⟩:=aAs.1 hem
   have hxn:e21.toNat<q.atoms.length:=by (rcases Nat.lt_or_ge e21.toNat q.atoms.length with z | z;exact z;rw [hl _ z hx4] at hxl;cases hxl)
   have hcc:=aFG hx4 hxl
   obtain ⟨w1,w2,w3⟩:=tA (x:=e21) (jV (by omega) (by omega))
   have hcl: ∀i,q.atoms.length≤i→i<4→lB l e21.toNat i=false:=fun i h1 h2=>by rw [lB,hl i h1 h2];rfl
   have hpr:=aJE s q (show f - 1≤4 by omega) e21.toNat (iI q a) (lA u e21.toNat) (lB l e21.toNat)
   have hidx:=And.intro hx0 hxn
   have hvl:=aG2 q a hq3
   refine ⟨aG5 q a (by first | assumption | exact (iQ (q:=q) (m:=a) (by assumption)).1),aMI s q e21 (iI q a) (by omega) (by first | assumption | exact ⟨by omega,by omega⟩) (by assumption),⟨by omega,by omega⟩,by first | exact w1 | exact ⟨by omega,by omega⟩,⟨by omega,by omega⟩,by first | exact w1 | exact ⟨by omega,by omega⟩,ih (f - 1) hg (lA u e21.toNat) (lB l e21.toNat) (fL .or .i64 a ((1:Int)*2^(Int.toNat e21))) (fL .andNot .i64 c ((1:Int)*2^(Int.toNat e21))) (by rw [ha,aKh hx4]) (by rw [hc2,aQu hx4]) (by omega) hcl,by first | exact w1 | exact ⟨by omega,by omega⟩,fun g43=>?_,fun g43=>?_⟩
   ·replace g43:=yq g43
    refine ⟨by first | exact w1 | exact ⟨by omega,by omega⟩,?_⟩
    have hst:(List.take (k+1) (cW c)).foldl (lR s q (eS s q (f - 1)) u l) (-1)=aBL b (fS s q e21.toNat (iI q a)*eS s q (f - 1) (lA u e21.toNat) (lB l e21.toNat)):=by rw [aBt h21,←hb,lR,ha]
    exact ⟨k+1,_,rfl,rfl,⟨by omega,by first | (rw [hst,nO (by first | (left;exact g43) | (right;exact c2) | (left;omega) | (right;omega))];done) | (rw [hst,qQ (by omega)])⟩,by omega⟩
   ·replace g43:=nq g43
    refine ⟨fun c2=>?_,fun c2=>?_⟩
    ·replace c2:=yq c2
     refine ⟨by first | exact w1 | exact ⟨by omega,by omega⟩,?_⟩
     have hst:(List.take (k+1) (cW c)).foldl (lR s q (eS s q (f - 1)) u l) (-1)=aBL b (fS s q e21.toNat (iI q a)*eS s q (f - 1) (lA u e21.toNat) (lB l e21.toNat)):=by rw [aBt h21,←hb,lR,ha]
     exact ⟨k+1,_,rfl,rfl,⟨by omega,by first | (rw [hst,nO (by first | (left;exact g43) | (right;exact c2) | (left;omega) | (right;omega))];done) | (rw [hst,qQ (by omega)])⟩,by omega⟩
    ·replace c2:=nq c2
     refine ⟨by first | exact w1 | exact ⟨by omega,by omega⟩,?_⟩
     have hst:(List.take (k+1) (cW c)).foldl (lR s q (eS s q (f - 1)) u l) (-1)=aBL b (fS s q e21.toNat (iI q a)*eS s q (f - 1) (lA u e21.toNat) (lB l e21.toNat)):=by rw [aBt h21,←hb,lR,ha]
     exact ⟨k+1,_,rfl,rfl,⟨by omega,by first | (rw [hst,nO (by first | (left;exact g43) | (right;exact c2) | (left;omega) | (right;omega))];done) | (rw [hst,qQ (by omega)])⟩,by omega⟩
  ·replace c1:=nq c1
   refine ⟨?_,trivial⟩
   ·first | (rw [sE hz];done) | (rw [←hg,xA hz,hb,←hML,List.take_of_length_le (by omega)])
theorem aRV {s:StoreD} {q:QueryD} (hc:cC s≤1048576) (hq1:dD s=true) (hq2:cP s.database q=true) (hq3:bP q=true): ∀(f:Nat) (u l:Nat→Bool) (a c:Int),a=m4 u→c=m4 l→lS l≤f∧f≤4→(∀i,q.atoms.length≤i→i<4→l i=false)→aAI s q f u l a c
 | 0,u,l,a,c,h1,h2,h3,h4=>aJF s q 0 u l a c hc hq1 hq2 hq3 h1 h2 h3 h4 fun g hg=>absurd hg (by omega)
 | f+1,u,l,a,c,h1,h2,h3,h4=>aJF s q (f+1) u l a c hc hq1 hq2 hq3 h1 h2 h3 h4 fun g hg u l a c k1 k2 k3 k4=>by
   obtain rfl:g=f:=by omega
   exact aRV hc hq1 hq2 hq3 g u l a c k1 k2 ⟨k3,by omega⟩ k4
abbrev aFH (s:StoreD) (q:QueryD) (m:Int):Prop:=cO Tryz.prog 40 [.agg [.sl 162 3 (s.database.tables.map aO),.int .i64 s.catalogue.version,.sl 121 4 (s.catalogue.tables.map aB),.sl 168 3 (s.dependencies.map aH),.sl 170 4 (s.inclusions.map aJ)],.agg [.int .i64 q.variableCount,.sl 131 2 (q.atoms.map aV)],.one (.int .i64 m)] (vI (chB s q m)) []
theorem aO1 (s:StoreD) (q:QueryD) (m:Int) (hc:cC s≤1048576):aFH s q m:=by
 refine aT bF aQ Tryz.func40 (by kernel_rfl) (.call (vB (kH s q m)) []<| .br (.fin []) (.call (vI (eS s q 4 (fun _=>false) (dL m))) []<| .fin [])) (p:=(s.database.tables.map aO).length≤9223372036854775807→(s.catalogue.tables.map aB).length≤9223372036854775807→(s.dependencies.map aH).length≤9223372036854775807→(s.inclusions.map aJ).length≤9223372036854775807→(q.atoms.map aV).length≤9223372036854775807→tH s q m∧(((!(kH s q m))=true→(-1:Int)=(chB s q m)∧True)∧((!(kH s q m))=false→cO Tryz.prog 105 [.agg [.sl 162 3 (s.database.tables.map aO),.int .i64 s.catalogue.version,.sl 121 4 (s.catalogue.tables.map aB),.sl 168 3 (s.dependencies.map aH),.sl 170 4 (s.inclusions.map aJ)],.agg [.int .i64 q.variableCount,.sl 131 2 (q.atoms.map aV)],.one (.int .i64 (0:Int)),.one (.int .i64 m)] (vI (eS s q 4 (fun _=>false) (dL m))) []∧(eS s q 4 (fun _=>false) (dL m))=(chB s q m)∧True))) (by kernel_rfl) ?_
 intro n0 n1 n2 n3 n4
 simp only [List.length_map] at n0 n1 n2 n3 n4
 refine ⟨aEo s q m (by omega),fun c0=>?_,fun c0=>?_⟩
 ·replace c0:=nt c0
  have hbad:kH s q m=false:=by simpa using c0
  refine ⟨?_,trivial⟩
  ·first | (rw [aHV hbad];done) | (rw [aDE hq])
 ·replace c0:=nf c0
  have hq:kH s q m=true:=by simpa using c0
  obtain ⟨hq1,hq2,hq3,hm1,hm2,hm3,hm4,hm5⟩:=jP hq
  refine ⟨aRV hc hq1 hq2 hq3 4 (fun _=>false) (dL m) _ _ rfl (aHO ⟨by omega,by omega⟩) ⟨aKn _,by omega⟩ (fun i h1 h2=>aE7 ⟨by omega,hm2⟩ h1 h2),?_⟩
  refine ⟨?_,trivial⟩
  ·first | (rw [aHV hbad];done) | (rw [aDE hq])
abbrev dT (m:Int) (u:Nat→Bool):Nat→Bool:=fun i=>dL m i&& !u i
theorem aJG (m:Int) (u:Nat→Bool) (v:Nat):dT m (lA u v)=lB (dT m u) v:=by
 funext i
 simp only [dT,lA,lB,Bool.not_or,Bool.and_assoc]
theorem aMR {m:Int} {u:Nat→Bool} (h:0≤m∧m≤15) (he:m4 u=m):lS (dT m u)=0:=by
 have e: ∀i,i<4→dT m u i=false:=fun i hi=>by
  have h1:m4 u=m4 (dL m):=by rw [he,←aHO h]
  rw [dT,aQw h1 hi]
  cases dL m i<;>rfl
 rw [lS,e 0 (by omega),e 1 (by omega),e 2 (by omega),e 3 (by omega)];rfl
theorem aMS {m:Int} {u:Nat→Bool} (h:0≤m∧m≤15) (hs: ∀i,i<4→u i=true→dL m i=true) (he: ¬m4 u=m): ¬lS (dT m u)=0:=fun hz=>he (by
 rw [aHO h]
 refine aNz fun i hi=>?_
 have h1:=aMO hz hi
 have h2:=hs i hi
 rw [dT] at h1
 cases e:u i with
 | true=>exact (h2 e).symm
 | false=>rw [e] at h1;simpa using h1.symm)
theorem aO2 {l:List Int} {x:Int} (h:(l++[(0:Int)])[0]? =some x):x=l.getD 0 0:=by
 cases l with
 | nil=>simpa using h.symm
 | cons a l=>simpa using h.symm
theorem aPd {s:StoreD} {q:QueryD} {L:List aF} {k:Nat} {x:aF} (hL:L=(List.range q.atoms.length).map (bG s q)) (hk:k<q.atoms.length) (h:L[k]? =some x):x=bG s q k:=by
 rw [hL,List.getElem?_map,List.getElem?_range hk] at h
 simpa using h.symm
abbrev aAJ (s:StoreD) (q:QueryD) (L:List aF) (f:Nat) (u:Nat→Bool) (m:Int) (c:Int):Prop:=cO Tryz.prog 104 [.one (.sl 121 4 (L.map aB)),.agg [.int .i64 q.variableCount,.sl 131 2 (q.atoms.map aV)],.one (.int .i64 m),.one (.int .i64 c)] (vI (eS s q f u (dT m u))) []
theorem aJH (s:StoreD) (q:QueryD) (L:List aF) (f:Nat) (u:Nat→Bool) (m c:Int) (hc:cC s≤1048576) (hq1:dD s=true) (hq2:cP s.database q=true) (hq3:bP q=true) (hL:L=(List.range q.atoms.length).map (bG s q)) (hm:0≤m∧m≤(1:Int)*2^q.atoms.length - 1) (ha:c=m4 u) (hs: ∀i,i<4→u i=true→dL m i=true) (hf:lS (dT m u)≤f∧f≤4) (ih: ∀g,g+1=f→ ∀(u:Nat→Bool) (c:Int),c=m4 u→(∀i,i<4→u i=true→dL m i=true)→lS (dT m u)≤g→aAJ s q L g u m c):aAJ s q L f u m c:=by
 refine aT bF aQ Tryz.func104 (by kernel_rfl) (.br (.fin []) (.loop (Nat × Int) (Q2 Nat Int) [9,10,11,12,16,17,18,19,20,21,22,23,24,25,26,27,28,29,30,31,32,33,34,35,36,37,38,39,40,41,42,43,44,45,46,47,48,49,50,51,52,53,54,55,56,57,58,59,60,61,62,63,64,65,66,67,68,69,70,71] [4700,4800,4900,5000,5100] (fun yy0=>[(10,vI (yy0.1:Int)),(9,vI yy0.2)]) (fun yy0=>[]) (fun yy0=>yy0.1≤q.atoms.length∧yy0.2=(dE (dT m u) yy0.1).foldl (lR s q (eS s q (f - 1)) u (dT m u)) (-1)) (fun yy0=>q.atoms.length - yy0.1) (fun yy0=> .len q.atoms.length<| .br (.br (.lit<| .lit<| .lit<| .lit<| .lit<| .br (.elem _ aB L (fun e37=> .elem _ aV q.atoms (fun e42=> .call (vI (m4 (qI q c))) []<| bH (oA (m4 (qI q c)))<| bH (nN e42 (dE (dL (m4 (qI q c))) 4))<| bH (lQ e37 (bO e42 (dE (dL (m4 (qI q c))) 4)))<| .app Int intD (gZ (dG (bU e37) (bO e42 (dE (dL (m4 (qI q c))) 4))).2) ([(0:Int)]:List Int)<| .len (((gZ (dG (bU e37) (bO e42 (dE (dL (m4 (qI q c))) 4))).2)++[(0:Int)]).length)<| .elem _ intD ((gZ (dG (bU e37) (bO e42 (dE (dL (m4 (qI q c))) 4))).2)++[(0:Int)]) (fun e54=> .call (vI (eS s q (f - 1) (lA u yy0.1) (lB (dT m u) yy0.1))) []<| .br (.back []) (.lit<| .lit<| .lit<| .br (.back []) (.back [])))))) (.back [])) (.back [])) (.fin [])))) (p:=(L.map aB).length≤9223372036854775807→(q.atoms.map aV).length≤9223372036854775807→((decide (c=m))=true→(1:Int)=(eS s q f u (dT m u))∧True)∧((decide (c=m))=false→(∃(k:Nat) (b:Int),(0:Int)=(k:Int)∧(-1:Int)=b∧k≤q.atoms.length∧b=(dE (dT m u) k).foldl (lR s q (eS s q (f - 1)) u (dT m u)) (-1))∧ ∀(k:Nat) (b:Int),(k≤q.atoms.length∧b=(dE (dT m u) k).foldl (lR s q (eS s q (f - 1)) u (dT m u)) (-1))→Lm aV q.atoms∧(((decide ((k:Int)<((q.atoms.length:Nat):Int)))=true→(0≤(k:Int)∧(k:Int)≤64)∧(((decide ((fL .and .i64 (m/2^k) (1:Int))=(1:Int)))=true→(0≤(k:Int)∧(k:Int)≤64)∧(((decide ((fL .and .i64 (c/2^k) (1:Int))=(0:Int)))=true→0≤(k:Int)∧Em aB L k fun e37=>0≤(k:Int)∧Em aV q.atoms k fun e42=>tE q c∧(tF (m4 (qI q c))∧(qN e42 (dE (dL (m4 (qI q c))) 4)∧(pQ e37 (bO e42 (dE (dL (m4 (qI q c))) 4))∧((gZ (dG (bU e37) (bO e42 (dE (dL (m4 (qI q c))) 4))).2).map intD=(gZ (dG (bU e37) (bO e42 (dE (dL (m4 (qI q c))) 4))).2).map intD∧[[.int .i64 (0:Int)]]=([(0:Int)]:List Int).map intD∧(∀x,eI (intD x)=true)∧((gZ (dG (bU e37) (bO e42 (dE (dL (m4 (qI q c))) 4))).2).length+([(0:Int)]:List Int).length)*8≤140737488355328∧(0≤(0:Int)∧Lm intD ((gZ (dG (bU e37) (bO e42 (dE (dL (m4 (qI q c))) 4))).2)++[(0:Int)])∧(0:Int)<((((gZ (dG (bU e37) (bO e42 (dE (dL (m4 (qI q c))) 4))).2)++[(0:Int)]).length:Nat):Int)∧Em intD ((gZ (dG (bU e37) (bO e42 (dE (dL (m4 (qI q c))) 4))).2)++[(0:Int)]) 0 fun e54=>(0≤(k:Int)∧(k:Int)≤64)∧(cL ((1:Int)*2^k)∧(cO Tryz.prog 104 [.one (.sl 121 4 (L.map aB)),.agg [.int .i64 q.variableCount,.sl 131 2 (q.atoms.map aV)],.one (.int .i64 m),.one (.int .i64 (fL .or .i64 c ((1:Int)*2^k)))] (vI (eS s q (f - 1) (lA u k) (lB (dT m u) k))) []∧(cL (e54*(eS s q (f - 1) (lA u k) (lB (dT m u) k)))∧(((decide (b<(0:Int)))=true→cL ((k:Int)+(1:Int))∧ ∃(k' :Nat) (b' :Int),((k:Int)+(1:Int))=(k' :Int)∧(e54*(eS s q (f - 1) (lA u k) (lB (dT m u) k)))=b' ∧(k' ≤q.atoms.length∧b' =(dE (dT m u) k').foldl (lR s q (eS s q (f - 1)) u (dT m u)) (-1))∧q.atoms.length - k' <q.atoms.length - k)∧((decide (b<(0:Int)))=false→((decide ((e54*(eS s q (f - 1) (lA u k) (lB (dT m u) k)))<b))=true→cL ((k:Int)+(1:Int))∧ ∃(k' :Nat) (b' :Int),((k:Int)+(1:Int))=(k' :Int)∧(e54*(eS s q (f - 1) (lA u k) (lB (dT m u) k)))=b' ∧(k' ≤q.atoms.length∧b' =(dE (dT m u) k').foldl (lR s q (eS s q (f - 1)) u (dT m u)) (-1))∧q.atoms.length - k' <q.atoms.length - k)∧((decide ((e54*(eS s q (f - 1) (lA u k) (lB (dT m u) k)))<b))=false→cL ((k:Int)+(1:Int))∧ ∃(k' :Nat) (b' :Int),((k:Int)+(1:Int))=(k' :Int)∧b=b' ∧(k' ≤q.atoms.length∧b' =(dE (dT m u) k').foldl (lR s q (eS s q (f - 1)) u (dT m u)) (-1))∧q.atoms.length - k' <q.atoms.length - k))))))))))))∧((decide ((fL .and .i64 (c/2^k) (1:Int))=(0:Int)))=false→cL ((k:Int)+(1:Int))∧ ∃(k' :Nat) (b' :Int),((k:Int)+(1:Int))=(k' :Int)∧b=b' ∧(k' ≤q.atoms.length∧b' =(dE (dT m u) k').foldl (lR s q (eS s q (f - 1)) u (dT m u)) (-1))∧q.atoms.length - k' <q.atoms.length - k)))∧((decide ((fL .and .i64 (m/2^k) (1:Int))=(1:Int)))=false→cL ((k:Int)+(1:Int))∧ ∃(k' :Nat) (b' :Int),((k:Int)+(1:Int))=(k' :Int)∧b=b' ∧(k' ≤q.atoms.length∧b' =(dE (dT m u) k').foldl (lR s q (eS s q (f - 1)) u (dT m u)) (-1))∧q.atoms.length - k' <q.atoms.length - k)))∧((decide ((k:Int)<((q.atoms.length:Nat):Int)))=false→b=(eS s q f u (dT m u))∧True)))) (by kernel_rfl) ?_
 intro n0 n1
 simp only [List.length_map] at n0 n1
 have hq5:=(dZ hq3).2.1
 have hf4:=iP hq5
 have hLn:L.length=q.atoms.length:=by rw [hL];simp
 have hcr:=aIe u
 have hm15:0≤m∧m≤15:=by omega
 have hall:dE (dT m u) 4=dE (dT m u) q.atoms.length:=aO0 hq5.2 fun v h1 h2=>by rw [dT,aE7 hm h1 h2];rfl
 refine ⟨fun c0=>?_,fun c0=>?_⟩
 ·replace c0:=yq c0
  have hz:lS (dT m u)=0:=aMR hm15 (by rw [←ha];exact c0)
  refine ⟨?_,trivial⟩
  ·first | (rw [sE hz];done) | (rw [←hg,xA hz,hb,hall,show q.atoms.length=k by omega])
 ·replace c0:=nq c0
  have hz: ¬lS (dT m u)=0:=aMS hm15 hs (by rw [←ha];exact c0)
  have hg:f - 1+1=f:=by omega
  refine ⟨⟨0,(-1:Int),rfl,rfl,Nat.zero_le _,rfl⟩,fun k b ⟨hk,hb⟩=>?_⟩
  refine ⟨List.length_map _,fun c1=>?_,fun c1=>?_⟩
  ·replace c1:=yq c1
   refine ⟨⟨by omega,by omega⟩,fun g28=>?_,fun g28=>?_⟩
   ·replace g28:=yq g28
    refine ⟨⟨by omega,by omega⟩,fun c2=>?_,fun c2=>?_⟩
    ·replace c2:=yq c2
     have hun:u k=false:=by have z:=aIf (m:=c) (v:=k) ⟨by omega,by omega⟩ (by omega);rw [decide_eq_true c2,ha,aHN (by omega)] at z;simpa using z
     have hrk:dT m u k=true:=by rw [dT,mP g28,hun];rfl
     have hcc:=aFG (p:=dT m u) (v:=k) (by omega) hrk
     have hcg:lS (dT m (lA u k))≤f - 1:=by rw [aJG];omega
     have hs2: ∀i,i<4→lA u k i=true→dL m i=true:=fun i hi h=>by (rw [lA,Bool.or_eq_true,decide_eq_true_eq] at h;rcases h with h | h;exact hs i hi h;rw [h];exact mP g28)
     obtain ⟨w1,w2,w3⟩:=tA (x:=((k:Nat):Int)) (jV (by omega) (by omega))
     rw [Int.toNat_natCast] at w1
     refine ⟨by omega,rfl,by first | omega | (rw [hLn];omega),fun e37 h37=>?_⟩
     refine ⟨by omega,rfl,by omega,fun e42 h42=>?_⟩
     have hs37:=aPd hL (by omega) h37
     have hok37:bM e37=true:=by rw [hs37];exact (aKj hq1 hq2 h42).1
     have hc37:aZ e37≤1048576:=by rw [hs37];exact jS q k hc
     have wv:=oJ hq2 h42
     have wl:=jO e42 (dE (dL (m4 (qI q c))) 4)
     have hdl:=aBl (dG (bU e37) (bO e42 (dE (dL (m4 (qI q c))) 4))).2
     have hgs:=(xW (bU e37) (bO e42 (dE (dL (m4 (qI q c))) 4))).2
     refine ⟨aEi q c (by first | assumption | exact (iQ (q:=q) (m:=c) (by assumption)).1),aEj (m4 (qI q c)),aBo _ (dE (dL (m4 (qI q c))) 4) (by omega),aBJ _ (bO e42 (dE (dL (m4 (qI q c))) 4)) (by omega) (by first | assumption | simpa using c0),rfl,rfl,fun _=>rfl,by first | omega | (simp only [List.length_cons,List.length_nil];omega),?_⟩
     refine ⟨by omega,List.length_map _,by first | (simp;done) | (simp;omega),rfl,by first | (simp;done) | (simp;omega),fun e54 h54=>?_⟩
     have hd54:e54=fS s q k (iI q c):=by rw [aO2 h54,fS,aP h42,←hs37,wG hok37,←zT hq3]
     have hpr:=aJE s q (show f - 1≤4 by omega) k (iI q c) (lA u k) (lB (dT m u) k)
     rw [←hd54] at hpr
     have hst:(dE (dT m u) (k+1)).foldl (lR s q (eS s q (f - 1)) u (dT m u)) (-1)=aBL b (e54*eS s q (f - 1) (lA u k) (lB (dT m u) k)):=by (rw [iH hrk,List.foldl_append,←hb];show lR _ _ _ _ _ b ((k:Nat):Int)=_;rw [lR,Int.toNat_natCast,hd54,←ha])
     refine ⟨⟨by omega,by omega⟩,by first | exact w1 | exact ⟨by omega,by omega⟩,by rw [←aJG];exact ih (f - 1) hg (lA u k) (fL .or .i64 c ((1:Int)*2^k)) (by rw [ha,aKh (by omega)]) hs2 hcg,by first | exact w1 | exact ⟨by omega,by omega⟩,fun g66=>?_,fun g66=>?_⟩
     ·replace g66:=yq g66
      refine ⟨by first | exact w1 | exact ⟨by omega,by omega⟩,?_⟩
      exact ⟨k+1,_,rfl,rfl,⟨by omega,by first | (rw [hst,nO (by omega)];done) | (rw [hst,qQ (by omega)];done) | (rw [hb,gQ hrn];done)⟩,by omega⟩
     ·replace g66:=nq g66
      refine ⟨fun c3=>?_,fun c3=>?_⟩
      ·replace c3:=yq c3
       refine ⟨by first | exact w1 | exact ⟨by omega,by omega⟩,?_⟩
       exact ⟨k+1,_,rfl,rfl,⟨by omega,by first | (rw [hst,nO (by omega)];done) | (rw [hst,qQ (by omega)];done) | (rw [hb,gQ hrn];done)⟩,by omega⟩
      ·replace c3:=nq c3
       refine ⟨by first | exact w1 | exact ⟨by omega,by omega⟩,?_⟩
       exact ⟨k+1,_,rfl,rfl,⟨by omega,by first | (rw [hst,nO (by omega)];done) | (rw [hst,qQ (by omega)];done) | (rw [hb,gQ hrn];done)⟩,by omega⟩
    ·replace c2:=nq c2
     have hrn:dT m u k=false:=by have z:=aIf (m:=c) (v:=k) ⟨by omega,by omega⟩ (by omega);rw [decide_eq_false c2,ha,aHN (by omega)] at z;rw [dT,show u k=true by simpa using z];simp
     refine ⟨by first | exact w1 | exact ⟨by omega,by omega⟩,?_⟩
     exact ⟨k+1,_,rfl,rfl,⟨by omega,by first | (rw [hst,nO (by omega)];done) | (rw [hst,qQ (by omega)];done) | (rw [hb,gQ hrn];done)⟩,by omega⟩
   ·replace g28:=nq g28
    have hrn:dT m u k=false:=by rw [dT,pI g28];rfl
    refine ⟨by first | exact w1 | exact ⟨by omega,by omega⟩,?_⟩
    exact ⟨k+1,_,rfl,rfl,⟨by omega,by first | (rw [hst,nO (by omega)];done) | (rw [hst,qQ (by omega)];done) | (rw [hb,gQ hrn];done)⟩,by omega⟩
  ·replace c1:=nq c1
   refine ⟨?_,trivial⟩
   ·first | (rw [sE hz];done) | (rw [←hg,xA hz,hb,hall,show q.atoms.length=k by omega])
theorem aRW {s:StoreD} {q:QueryD} {L:List aF} {m:Int} (hc:cC s≤1048576) (hq1:dD s=true) (hq2:cP s.database q=true) (hq3:bP q=true) (hL:L=(List.range q.atoms.length).map (bG s q)) (hm:0≤m∧m≤(1:Int)*2^q.atoms.length - 1): ∀(f:Nat) (u:Nat→Bool) (c:Int),c=m4 u→(∀i,i<4→u i=true→dL m i=true)→lS (dT m u)≤f∧f≤4→aAJ s q L f u m c
 | 0,u,c,h1,h2,h3=>aJH s q L 0 u m c hc hq1 hq2 hq3 hL hm h1 h2 h3 fun g hg=>absurd hg (by omega)
 | f+1,u,c,h1,h2,h3=>aJH s q L (f+1) u m c hc hq1 hq2 hq3 hL hm h1 h2 h3 fun g hg u c k1 k2 k3=>by
   obtain rfl:g=f:=by omega
   exact aRW hc hq1 hq2 hq3 hL hm g u c k1 k2 ⟨k3,by omega⟩
theorem aMT (m:Int):dT m (fun _=>false)=dL m:=by
 funext i
 simp [dT]
abbrev aFI (s:StoreD) (q:QueryD) (m:Int):Prop:=cO Tryz.prog 39 [.agg [.sl 162 3 (s.database.tables.map aO),.int .i64 s.catalogue.version,.sl 121 4 (s.catalogue.tables.map aB),.sl 168 3 (s.dependencies.map aH),.sl 170 4 (s.inclusions.map aJ)],.agg [.int .i64 q.variableCount,.sl 131 2 (q.atoms.map aV)],.one (.int .i64 m)] (vI (chB s q m)) []
theorem aO3 (s:StoreD) (q:QueryD) (m:Int) (hc:cC s≤1048576):aFI s q m:=by
 refine aT bF aQ Tryz.func39 (by kernel_rfl) (.call (vB (kH s q m)) []<| .br (.fin []) (.shal 4 1500<| .loop (Nat × (List aF)) (Q2 Nat (List aF)) [7,8,9,15,16,17,18,19,20,21,22,23,24,25,26,27,28,29,30] [900,1500,2900,3000] (fun yy0=>[(8,vI (yy0.1:Int)),(7,.own 1500)]) (fun yy0=>[(1500,some (.arr 121 4 false (yy0.2.map aB)))]) (fun yy0=>yy0.1≤q.atoms.length∧yy0.2=(List.range yy0.1).map (bG s q)) (fun yy0=>q.atoms.length - yy0.1) (fun yy0=> .len q.atoms.length<| .br (bH (jR s q (yy0.1:Int))<| .appr aF aB yy0.2 ([(bG s q (yy0.1:Int).toNat)]:List aF)<| .back [(1500,3000)]) (.call (vI (eS s q 4 (fun _=>false) (dL m))) []<| .fin [])))) (p:=(s.database.tables.map aO).length≤9223372036854775807→(s.catalogue.tables.map aB).length≤9223372036854775807→(s.dependencies.map aH).length≤9223372036854775807→(s.inclusions.map aJ).length≤9223372036854775807→(q.atoms.map aV).length≤9223372036854775807→tI s q m∧(((!(kH s q m))=true→(-1:Int)=(chB s q m)∧True)∧((!(kH s q m))=false→(∃(k:Nat) (out:List aF),(0:Int)=(k:Int)∧[]=out.map aB∧k≤q.atoms.length∧out=(List.range k).map (bG s q))∧ ∀(k:Nat) (out:List aF),(k≤q.atoms.length∧out=(List.range k).map (bG s q))→Lm aV q.atoms∧(((decide ((k:Int)<((q.atoms.length:Nat):Int)))=true→lN s q (k:Int)∧out.map aB=out.map aB∧[[.str ((bG s q (k:Int).toNat).name),.int .i64 ((bG s q (k:Int).toNat).arity),.int .i64 ((bG s q (k:Int).toNat).rowCount),.sl 218 3 (((bG s q (k:Int).toNat).groups).map aA)]]=([(bG s q (k:Int).toNat)]:List aF).map aB∧(out.length+([(bG s q (k:Int).toNat)]:List aF).length)*56≤140737488355328∧cL ((k:Int)+(1:Int))∧ ∃(k' :Nat) (out' :List aF),((k:Int)+(1:Int))=(k' :Int)∧(out++[(bG s q (k:Int).toNat)]).map aB=out'.map aB∧(k' ≤q.atoms.length∧out' =(List.range k').map (bG s q))∧q.atoms.length - k' <q.atoms.length - k)∧((decide ((k:Int)<((q.atoms.length:Nat):Int)))=false→cO Tryz.prog 104 [.one (.sl 121 4 (out.map aB)),.agg [.int .i64 q.variableCount,.sl 131 2 (q.atoms.map aV)],.one (.int .i64 m),.one (.int .i64 (0:Int))] (vI (eS s q 4 (fun _=>false) (dL m))) []∧(eS s q 4 (fun _=>false) (dL m))=(chB s q m)∧True))))) (by kernel_rfl) ?_
 intro n0 n1 n2 n3 n4
 simp only [List.length_map] at n0 n1 n2 n3 n4
 refine ⟨aEp s q m (by omega),fun c0=>?_,fun c0=>?_⟩
 ·replace c0:=nt c0
  have hbad:kH s q m=false:=by simpa using c0
  refine ⟨?_,trivial⟩
  ·first | (rw [aHV hbad];done) | (rw [aDE hq])
 ·replace c0:=nf c0
  have hq:kH s q m=true:=by simpa using c0
  obtain ⟨hq1,hq2,hq3,hm1,hm2,hm3,hm4,hm5⟩:=jP hq
  refine ⟨⟨0,([]:List aF),rfl,rfl,Nat.zero_le _,rfl⟩,fun k out ⟨hk,ho⟩=>?_⟩
  refine ⟨List.length_map _,fun c1=>?_,fun c1=>?_⟩
  ·replace c1:=yq c1
   refine ⟨tK s q (k:Int) (by omega) (by first | assumption | exact ⟨by omega,by omega⟩),rfl,rfl,by first | omega | (rw [ho];simp;omega),⟨by omega,by omega⟩,?_⟩
   exact ⟨k+1,_,rfl,rfl,⟨by omega,by rw [ho,List.range_succ,List.map_append,List.map_singleton,Int.toNat_natCast]⟩,by omega⟩
  ·replace c1:=nq c1
   refine ⟨by rw [←aMT];exact aRW hc hq1 hq2 hq3 (by rw [ho,show q.atoms.length=k by omega]) ⟨by omega,hm2⟩ 4 (fun _=>false) _ rfl (fun _ _ h=>by cases h) ⟨aKn _,by omega⟩,?_⟩
   refine ⟨?_,trivial⟩
   ·first | (rw [aHV hbad];done) | (rw [aDE hq])
theorem lawChainBound (a0:StoreD) (a1:QueryD) (a2:Int) (h0:aDo a0) (h1:aDl a1) (h2:Fits a2):cO Tryz.prog 7 [.agg [.sl 162 3 (a0.database.tables.map aO),.int .i64 a0.catalogue.version,.sl 121 4 (a0.catalogue.tables.map aB),.sl 168 3 (a0.dependencies.map aH),.sl 170 4 (a0.inclusions.map aJ)],.agg [.int .i64 a1.variableCount,.sl 131 2 (a1.atoms.map aV)],.one (.int .i64 a2)] (vB true) []:=by
 refine aT bF aQ Tryz.func7 (by kernel_rfl) (.call (vI (aI (cC a0) (1048576:Int))) []<| .br (.fin []) (.call (vI (aI (jY a1) (aI (cC a0) (1048576:Int)))) []<| .br (.fin []) (bH (gN a0)<| bH (gO a1)<| .call (vI (chB a0 a1 a2)) []<| bH (gN a0)<| bH (gO a1)<| .call (vI (chB a0 a1 a2)) []<| .no<| bH (gN a0)<| .call (vB true) []<| bH (gO a1)<| .call (vB true) []<| .fin []))) (p:=(a0.database.tables.map aO).length≤9223372036854775807→(a0.catalogue.tables.map aB).length≤9223372036854775807→(a0.dependencies.map aH).length≤9223372036854775807→(a0.inclusions.map aJ).length≤9223372036854775807→(a1.atoms.map aV).length≤9223372036854775807→tO a0 (1048576:Int)∧(((decide ((aI (cC a0) (1048576:Int))<(0:Int)))=true→(true)=true∧True)∧((decide ((aI (cC a0) (1048576:Int))<(0:Int)))=false→tP a1 (aI (cC a0) (1048576:Int))∧(((decide ((aI (jY a1) (aI (cC a0) (1048576:Int)))<(0:Int)))=true→(true)=true∧True)∧((decide ((aI (jY a1) (aI (cC a0) (1048576:Int)))<(0:Int)))=false→iA a0∧iB a1∧aFI a0 a1 a2∧iA a0∧iB a1∧aFH a0 a1 a2∧(!(decide ((chB a0 a1 a2)=(chB a0 a1 a2))))=false∧iA a0∧tM a0∧iB a1∧tN a1∧(true)=true∧True))))) (by kernel_rfl) ?_
 intro n0 n1 n2 n3 n4
 simp only [List.length_map] at n0 n1 n2 n3 n4
 refine ⟨aFB a0 _ (by first | assumption | exact hf) (by omega) (by omega),fun c0=>?_,fun c0=>?_⟩
 ·replace c0:=yq c0
  refine ⟨?_,trivial⟩
  ·rfl
 ·replace c0:=nq c0
  try (have y0:=fQ c0;try rw [aG y0] at*)
  refine ⟨aFD a1 _ (by first | assumption | exact hf) (by omega) (by omega),fun c1=>?_,fun c1=>?_⟩
  ·replace c1:=yq c1
   refine ⟨?_,trivial⟩
   ·rfl
  ·replace c1:=nq c1
   try (have y1:=fQ c1;try rw [aG y1] at*)
   refine ⟨lO a0 (by first | omega | (have:=cStoreS_el ‹x[k]? =some _›;omega)),lP a1 (by first | omega | (have:=cQueryS_el ‹x[k]? =some _›;omega)),aO3 a0 a1 a2 (by omega),lO a0 (by first | omega | (have:=cStoreS_el ‹x[k]? =some _›;omega)),lP a1 (by first | omega | (have:=cQueryS_el ‹x[k]? =some _›;omega)),aO1 a0 a1 a2 (by omega),by first | (simp;done) | (simp;omega) | (simp [*];done),lO a0 (by first | omega | (have:=cStoreS_el ‹x[k]? =some _›;omega)),by first | exact rZ a0 | exact rZ _,lP a1 (by first | omega | (have:=cQueryS_el ‹x[k]? =some _›;omega)),by first | exact sA a1 | exact sA _,?_,trivial⟩
   ·rfl
end Go.Proofs.YtokkjaflmcjlhaaGreat
namespace Go.Proofs.YtokkjaflmcjlhaaGreat
open Go.ChangeShapes Go.WideShapes Go.ChangeAt Go.RowKit
set_option linter.unusedVariables false
set_option linter.unusedSimpArgs false
set_option maxRecDepth 100000
set_option maxHeartbeats 4000000
def aO4:Rd (List Int):=fun w cs l=>gT (Lv w) w (aC l) cs∧aCC l
theorem xB {H:Type} {enc:TypeId × Value→H} {w:World} {base:Nat} {spare:Nat→Bool} {held:Bool} {fuel:Nat} {cs:List Value} {x:DataW H × List MemPlace} (h:DataW.trod enc Tryz.prog w base spare held fuel 32 cs=some x): ∃l,aO4 w cs l:=by
 obtain ⟨l,hl⟩:=jG (k:=1) (R:=aKr) Tryz.underlying32 (by kernel_rfl) (by omega) (fun _ _ _ h=>trod_int Tryz.underlying3 h) h
 have hf:aCC l:=hl.all_ (fun _ _ _ h=>h.2)
 obtain ⟨A,c,rfl,_⟩:=id hl
 exact ⟨l,eG (nC (R:=aKr) (enc:=intD) (fun cs x h=>by obtain ⟨rfl,_⟩:=h;exact eG rdV_int gA) hl) gA,hf⟩
def aQz:Rd (List (List Int)):=fun w cs l=>gT (Lv w) w (aQm l) cs∧aDj l
theorem aGd {H:Type} {enc:TypeId × Value→H} {w:World} {base:Nat} {spare:Nat→Bool} {held:Bool} {fuel:Nat} {cs:List Value} {x:DataW H × List MemPlace} (h:DataW.trod enc Tryz.prog w base spare held fuel 160 cs=some x): ∃l,aQz w cs l:=by
 obtain ⟨l,hl⟩:=jG (k:=1) (R:=aO4) Tryz.underlying160 (by kernel_rfl) (by omega) (fun _ _ _ h=>xB h) h
 have hf:aDj l:=hl.all_ (fun _ _ _ h=>h.2)
 obtain ⟨A,c,rfl,_⟩:=id hl
 exact ⟨l,eG (nC (R:=aO4) (enc:=aC) (fun cs x h=>h.1) hl) gA,hf⟩
def aJx:Rd aS:=fun w cs x=>gT (Lv w) w (aO x) cs∧aJ9 x
set_option maxRecDepth 100000 in
theorem aMU {H:Type} {enc:TypeId × Value→H} {w:World} {base:Nat} {spare:Nat→Bool} {held:Bool} {fuel:Nat} {cs:List Value} {x:DataW H × List MemPlace} (h:DataW.trod enc Tryz.prog w base spare held fuel 202 cs=some x): ∃b,aJx w cs b:=by
 obtain ⟨xs,n,_,_,hl,hxl,hf⟩:=DataW.trod_struct Tryz.underlying202 h
 have hl2:cs.length=3:=hl.trans (by kernel_rfl)
 match cs,hl2 with
 | [c0,c1,c2],_=>
   match xs,hxl with
   | [y0,y1,y2],_=>
     obtain ⟨l0,r0⟩:=qY Tryz.underlying9 (hf 0 _ rfl)
     obtain ⟨l1,r1⟩:=trod_int Tryz.underlying3 (hf 1 _ rfl)
     obtain ⟨l2,r2,f2⟩:=aGd (hf 2 _ rfl)
     exact ⟨⟨l0,l1,l2⟩,(eG (rdS r0) (eG (rdI r1) (gT.append r2 gA))),r0.2,r1.2,f2⟩
def aPe:Rd (List aS):=fun w cs l=>gT (Lv w) w (aPX l) cs∧aCx l
theorem aJy {H:Type} {enc:TypeId × Value→H} {w:World} {base:Nat} {spare:Nat→Bool} {held:Bool} {fuel:Nat} {cs:List Value} {x:DataW H × List MemPlace} (h:DataW.trod enc Tryz.prog w base spare held fuel 22 cs=some x): ∃l,aPe w cs l:=by
 obtain ⟨l,hl⟩:=jG (k:=3) (R:=aJx) Tryz.underlying22 (by kernel_rfl) (by omega) (fun _ _ _ h=>aMU h) h
 have hf:aCx l:=hl.all_ (fun _ _ _ h=>h.2)
 obtain ⟨A,c,rfl,_⟩:=id hl
 exact ⟨l,eG (nC (R:=aJx) (enc:=aO) (fun cs x h=>h.1) hl) gA,hf⟩
def aMV:Rd aR:=fun w cs x=>gT (Lv w) w (aL1 x) cs∧aB4 x
set_option maxRecDepth 100000 in
theorem aHW {H:Type} {enc:TypeId × Value→H} {w:World} {base:Nat} {spare:Nat→Bool} {held:Bool} {fuel:Nat} {cs:List Value} {x:DataW H × List MemPlace} (h:DataW.trod enc Tryz.prog w base spare held fuel 24 cs=some x): ∃b,aMV w cs b:=by
 obtain ⟨xs,n,_,_,hl,hxl,hf⟩:=DataW.trod_struct Tryz.underlying24 h
 have hl2:cs.length=1:=hl.trans (by kernel_rfl)
 match cs,hl2 with
 | [c0],_=>
   match xs,hxl with
   | [y0],_=>
     obtain ⟨l0,r0,f0⟩:=aJy (hf 0 _ rfl)
     exact ⟨⟨l0⟩,(gT.append r0 gA),f0⟩
def aO5:Rd dF:=fun w cs x=>gT (Lv w) w (aV x) cs∧aN4 x
set_option maxRecDepth 100000 in
theorem aO6 {H:Type} {enc:TypeId × Value→H} {w:World} {base:Nat} {spare:Nat→Bool} {held:Bool} {fuel:Nat} {cs:List Value} {x:DataW H × List MemPlace} (h:DataW.trod enc Tryz.prog w base spare held fuel 185 cs=some x): ∃b,aO5 w cs b:=by
 obtain ⟨xs,n,_,_,hl,hxl,hf⟩:=DataW.trod_struct Tryz.underlying185 h
 have hl2:cs.length=2:=hl.trans (by kernel_rfl)
 match cs,hl2 with
 | [c0,c1],_=>
   match xs,hxl with
   | [y0,y1],_=>
     obtain ⟨l0,r0⟩:=qY Tryz.underlying9 (hf 0 _ rfl)
     obtain ⟨l1,r1,f1⟩:=xB (hf 1 _ rfl)
     exact ⟨⟨l0,l1⟩,(eG (rdS r0) (gT.append r1 gA)),r0.2,f1⟩
def aRA:Rd (List dF):=fun w cs l=>gT (Lv w) w (aQn l) cs∧aGx l
theorem aMW {H:Type} {enc:TypeId × Value→H} {w:World} {base:Nat} {spare:Nat→Bool} {held:Bool} {fuel:Nat} {cs:List Value} {x:DataW H × List MemPlace} (h:DataW.trod enc Tryz.prog w base spare held fuel 66 cs=some x): ∃l,aRA w cs l:=by
 obtain ⟨l,hl⟩:=jG (k:=2) (R:=aO5) Tryz.underlying66 (by kernel_rfl) (by omega) (fun _ _ _ h=>aO6 h) h
 have hf:aGx l:=hl.all_ (fun _ _ _ h=>h.2)
 obtain ⟨A,c,rfl,_⟩:=id hl
 exact ⟨l,eG (nC (R:=aO5) (enc:=aV) (fun cs x h=>h.1) hl) gA,hf⟩
def RQuery:Rd QueryD:=fun w cs x=>gT (Lv w) w (aQo x) cs∧aDl x
set_option maxRecDepth 100000 in
theorem openQuery {H:Type} {enc:TypeId × Value→H} {w:World} {base:Nat} {spare:Nat→Bool} {held:Bool} {fuel:Nat} {cs:List Value} {x:DataW H × List MemPlace} (h:DataW.trod enc Tryz.prog w base spare held fuel 68 cs=some x): ∃b,RQuery w cs b:=by
 obtain ⟨xs,n,_,_,hl,hxl,hf⟩:=DataW.trod_struct Tryz.underlying68 h
 have hl2:cs.length=2:=hl.trans (by kernel_rfl)
 match cs,hl2 with
 | [c0,c1],_=>
   match xs,hxl with
   | [y0,y1],_=>
     obtain ⟨l0,r0⟩:=trod_int Tryz.underlying3 (hf 0 _ rfl)
     obtain ⟨l1,r1,f1⟩:=aMW (hf 1 _ rfl)
     exact ⟨⟨l0,l1⟩,(eG (rdI r0) (gT.append r1 gA)),r0.2,f1⟩
def xC:Rd aN:=fun w cs x=>gT (Lv w) w (aA x) cs∧vG x
set_option maxRecDepth 100000 in
theorem aFJ {H:Type} {enc:TypeId × Value→H} {w:World} {base:Nat} {spare:Nat→Bool} {held:Bool} {fuel:Nat} {cs:List Value} {x:DataW H × List MemPlace} (h:DataW.trod enc Tryz.prog w base spare held fuel 251 cs=some x): ∃b,xC w cs b:=by
 obtain ⟨xs,n,_,_,hl,hxl,hf⟩:=DataW.trod_struct Tryz.underlying251 h
 have hl2:cs.length=3:=hl.trans (by kernel_rfl)
 match cs,hl2 with
 | [c0,c1,c2],_=>
   match xs,hxl with
   | [y0,y1,y2],_=>
     obtain ⟨l0,r0,f0⟩:=xB (hf 0 _ rfl)
     obtain ⟨l1,r1,f1⟩:=aGd (hf 1 _ rfl)
     obtain ⟨l2,r2,f2⟩:=xB (hf 2 _ rfl)
     exact ⟨⟨l0,l1,l2⟩,(gT.append r0 (gT.append r1 (gT.append r2 gA))),f0,f1,f2⟩
def aHX:Rd (List aN):=fun w cs l=>gT (Lv w) w (aGy l) cs∧nW l
theorem aCp {H:Type} {enc:TypeId × Value→H} {w:World} {base:Nat} {spare:Nat→Bool} {held:Bool} {fuel:Nat} {cs:List Value} {x:DataW H × List MemPlace} (h:DataW.trod enc Tryz.prog w base spare held fuel 204 cs=some x): ∃l,aHX w cs l:=by
 obtain ⟨l,hl⟩:=jG (k:=3) (R:=xC) Tryz.underlying204 (by kernel_rfl) (by omega) (fun _ _ _ h=>aFJ h) h
 have hf:nW l:=hl.all_ (fun _ _ _ h=>h.2)
 obtain ⟨A,c,rfl,_⟩:=id hl
 exact ⟨l,eG (nC (R:=xC) (enc:=aA) (fun cs x h=>h.1) hl) gA,hf⟩
def xD:Rd aF:=fun w cs x=>gT (Lv w) w (aB x) cs∧vH x
set_option maxRecDepth 100000 in
theorem aFK {H:Type} {enc:TypeId × Value→H} {w:World} {base:Nat} {spare:Nat→Bool} {held:Bool} {fuel:Nat} {cs:List Value} {x:DataW H × List MemPlace} (h:DataW.trod enc Tryz.prog w base spare held fuel 206 cs=some x): ∃b,xD w cs b:=by
 obtain ⟨xs,n,_,_,hl,hxl,hf⟩:=DataW.trod_struct Tryz.underlying206 h
 have hl2:cs.length=4:=hl.trans (by kernel_rfl)
 match cs,hl2 with
 | [c0,c1,c2,c3],_=>
   match xs,hxl with
   | [y0,y1,y2,y3],_=>
     obtain ⟨l0,r0⟩:=qY Tryz.underlying9 (hf 0 _ rfl)
     obtain ⟨l1,r1⟩:=trod_int Tryz.underlying3 (hf 1 _ rfl)
     obtain ⟨l2,r2⟩:=trod_int Tryz.underlying3 (hf 2 _ rfl)
     obtain ⟨l3,r3,f3⟩:=aCp (hf 3 _ rfl)
     exact ⟨⟨l0,l1,l2,l3⟩,(eG (rdS r0) (eG (rdI r1) (eG (rdI r2) (gT.append r3 gA)))),r0.2,r1.2,r2.2,f3⟩
def aHY:Rd (List aF):=fun w cs l=>gT (Lv w) w (aGz l) cs∧nX l
theorem aCq {H:Type} {enc:TypeId × Value→H} {w:World} {base:Nat} {spare:Nat→Bool} {held:Bool} {fuel:Nat} {cs:List Value} {x:DataW H × List MemPlace} (h:DataW.trod enc Tryz.prog w base spare held fuel 25 cs=some x): ∃l,aHY w cs l:=by
 obtain ⟨l,hl⟩:=jG (k:=4) (R:=xD) Tryz.underlying25 (by kernel_rfl) (by omega) (fun _ _ _ h=>aFK h) h
 have hf:nX l:=hl.all_ (fun _ _ _ h=>h.2)
 obtain ⟨A,c,rfl,_⟩:=id hl
 exact ⟨l,eG (nC (R:=xD) (enc:=aB) (fun cs x h=>h.1) hl) gA,hf⟩
def aJz:Rd cA:=fun w cs x=>gT (Lv w) w (aJa x) cs∧zD x
set_option maxRecDepth 100000 in
theorem aFa {H:Type} {enc:TypeId × Value→H} {w:World} {base:Nat} {spare:Nat→Bool} {held:Bool} {fuel:Nat} {cs:List Value} {x:DataW H × List MemPlace} (h:DataW.trod enc Tryz.prog w base spare held fuel 27 cs=some x): ∃b,aJz w cs b:=by
 obtain ⟨xs,n,_,_,hl,hxl,hf⟩:=DataW.trod_struct Tryz.underlying27 h
 have hl2:cs.length=2:=hl.trans (by kernel_rfl)
 match cs,hl2 with
 | [c0,c1],_=>
   match xs,hxl with
   | [y0,y1],_=>
     obtain ⟨l0,r0⟩:=trod_int Tryz.underlying3 (hf 0 _ rfl)
     obtain ⟨l1,r1,f1⟩:=aCq (hf 1 _ rfl)
     exact ⟨⟨l0,l1⟩,(eG (rdI r0) (gT.append r1 gA)),r0.2,f1⟩
def xE:Rd aW:=fun w cs x=>gT (Lv w) w (aH x) cs∧vJ x
set_option maxRecDepth 100000 in
theorem aFL {H:Type} {enc:TypeId × Value→H} {w:World} {base:Nat} {spare:Nat→Bool} {held:Bool} {fuel:Nat} {cs:List Value} {x:DataW H × List MemPlace} (h:DataW.trod enc Tryz.prog w base spare held fuel 154 cs=some x): ∃b,xE w cs b:=by
 obtain ⟨xs,n,_,_,hl,hxl,hf⟩:=DataW.trod_struct Tryz.underlying154 h
 have hl2:cs.length=3:=hl.trans (by kernel_rfl)
 match cs,hl2 with
 | [c0,c1,c2],_=>
   match xs,hxl with
   | [y0,y1,y2],_=>
     obtain ⟨l0,r0⟩:=qY Tryz.underlying9 (hf 0 _ rfl)
     obtain ⟨l1,r1,f1⟩:=xB (hf 1 _ rfl)
     obtain ⟨l2,r2⟩:=trod_int Tryz.underlying3 (hf 2 _ rfl)
     exact ⟨⟨l0,l1,l2⟩,(eG (rdS r0) (gT.append r1 (eG (rdI r2) gA))),r0.2,f1,r2.2⟩
def aHZ:Rd (List aW):=fun w cs l=>gT (Lv w) w (aHA l) cs∧nY l
theorem aCr {H:Type} {enc:TypeId × Value→H} {w:World} {base:Nat} {spare:Nat→Bool} {held:Bool} {fuel:Nat} {cs:List Value} {x:DataW H × List MemPlace} (h:DataW.trod enc Tryz.prog w base spare held fuel 28 cs=some x): ∃l,aHZ w cs l:=by
 obtain ⟨l,hl⟩:=jG (k:=3) (R:=xE) Tryz.underlying28 (by kernel_rfl) (by omega) (fun _ _ _ h=>aFL h) h
 have hf:nY l:=hl.all_ (fun _ _ _ h=>h.2)
 obtain ⟨A,c,rfl,_⟩:=id hl
 exact ⟨l,eG (nC (R:=xE) (enc:=aH) (fun cs x h=>h.1) hl) gA,hf⟩
def aAK:Rd aU:=fun w cs x=>gT (Lv w) w (aJ x) cs∧zE x
set_option maxRecDepth 100000 in
theorem aFb {H:Type} {enc:TypeId × Value→H} {w:World} {base:Nat} {spare:Nat→Bool} {held:Bool} {fuel:Nat} {cs:List Value} {x:DataW H × List MemPlace} (h:DataW.trod enc Tryz.prog w base spare held fuel 157 cs=some x): ∃b,aAK w cs b:=by
 obtain ⟨xs,n,_,_,hl,hxl,hf⟩:=DataW.trod_struct Tryz.underlying157 h
 have hl2:cs.length=4:=hl.trans (by kernel_rfl)
 match cs,hl2 with
 | [c0,c1,c2,c3],_=>
   match xs,hxl with
   | [y0,y1,y2,y3],_=>
     obtain ⟨l0,r0⟩:=qY Tryz.underlying9 (hf 0 _ rfl)
     obtain ⟨l1,r1⟩:=trod_int Tryz.underlying3 (hf 1 _ rfl)
     obtain ⟨l2,r2⟩:=qY Tryz.underlying9 (hf 2 _ rfl)
     obtain ⟨l3,r3⟩:=trod_int Tryz.underlying3 (hf 3 _ rfl)
     exact ⟨⟨l0,l1,l2,l3⟩,(eG (rdS r0) (eG (rdI r1) (eG (rdS r2) (eG (rdI r3) gA)))),r0.2,r1.2,r2.2,r3.2⟩
def aJI:Rd (List aU):=fun w cs l=>gT (Lv w) w (aIK l) cs∧qB l
theorem aFM {H:Type} {enc:TypeId × Value→H} {w:World} {base:Nat} {spare:Nat→Bool} {held:Bool} {fuel:Nat} {cs:List Value} {x:DataW H × List MemPlace} (h:DataW.trod enc Tryz.prog w base spare held fuel 29 cs=some x): ∃l,aJI w cs l:=by
 obtain ⟨l,hl⟩:=jG (k:=4) (R:=aAK) Tryz.underlying29 (by kernel_rfl) (by omega) (fun _ _ _ h=>aFb h) h
 have hf:qB l:=hl.all_ (fun _ _ _ h=>h.2)
 obtain ⟨A,c,rfl,_⟩:=id hl
 exact ⟨l,eG (nC (R:=aAK) (enc:=aJ) (fun cs x h=>h.1) hl) gA,hf⟩
def RStore:Rd StoreD:=fun w cs x=>gT (Lv w) w (aQp x) cs∧aDo x
set_option maxRecDepth 100000 in
theorem openStore {H:Type} {enc:TypeId × Value→H} {w:World} {base:Nat} {spare:Nat→Bool} {held:Bool} {fuel:Nat} {cs:List Value} {x:DataW H × List MemPlace} (h:DataW.trod enc Tryz.prog w base spare held fuel 31 cs=some x): ∃b,RStore w cs b:=by
 obtain ⟨xs,n,_,_,hl,hxl,hf⟩:=DataW.trod_struct Tryz.underlying31 h
 have hl2:cs.length=5:=hl.trans (by kernel_rfl)
 match cs,hl2 with
 | [c0,c1,c2,c3,c4],_=>
   match xs,hxl with
   | [y0,y1,y2,y3],_=>
     obtain ⟨l0,r0,f0⟩:=aHW (hf 0 _ rfl)
     obtain ⟨l1,r1,f1⟩:=aFa (hf 1 _ rfl)
     obtain ⟨l2,r2,f2⟩:=aCr (hf 2 _ rfl)
     obtain ⟨l3,r3,f3⟩:=aFM (hf 3 _ rfl)
     exact ⟨⟨l0,l1,l2,l3⟩,(gT.append r0 (gT.append r1 (gT.append r2 (gT.append r3 gA)))),f0,f1,f2,f3⟩
end Go.Proofs.YtokkjaflmcjlhaaGreat
namespace Go.Proofs.YtokkjaflmcjlhaaGreat
open Go.ChangeShapes Go.WideShapes Go.ChangeAt Go.RowKit
set_option linter.unusedVariables false
set_option linter.unusedSimpArgs false
set_option maxRecDepth 100000
set_option maxHeartbeats 4000000
theorem fr_own:ownKnob Tryz.prog.godebug=none:=by kernel_rfl
theorem fr_laid:laidOutB Tryz.prog=true:=by kernel_rfl
theorem fr_maps:mapsRowed Tryz.prog=true:=by kernel_rfl
theorem fr_stops:(Tryz.prog.stops== [])=true:=by kernel_rfl
theorem fr_sk:(Tryz.prog.stopKnobs== [])=true:=by kernel_rfl
theorem fr_heard:Tryz.prog.stopsHeard=true:=by kernel_rfl
theorem fr_enter:Tryz.prog.mayEnter=true:=by kernel_rfl
theorem fr_keys:(Rows.fnExactUpdateStoreRow.plainKeys==Tryz.prog.plainKeys)=true:=by kernel_rfl
theorem fr_lifts:(Rows.fnExactUpdateStoreRow.lifted==Tryz.prog.liftsFinal)=true:=by kernel_rfl
theorem fr_make:(Tryz.prog.make==some Rows.fnExactUpdateStoreRow.make)=true:=by kernel_rfl
end Go.Proofs.YtokkjaflmcjlhaaGreat
