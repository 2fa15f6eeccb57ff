/-
  Contracts and plain laws, joined: part 15.
-/
import Derived.Test.YtokkjaflmcjlhaaGreatQA13
import Derived.Test.YtokkjaflmcjlhaaGreatQA12
namespace Go.Proofs.YtokkjaflmcjlhaaGreat
open Go.ChangeShapes Go.WideShapes Go.ChangeAt Go.RowKit
set_option linter.unusedVariables false
set_option linter.unusedSimpArgs false
set_option maxRecDepth 100000
set_option maxHeartbeats 4000000
theorem aP9 {t:aS} {cols:List Int} {x:Int} (h:x∈(dG t cols).2):0≤x∧x≤8:=by
 cases h0:(aL t&&cQ (t.arity - 1) cols) with
 | false=>rw [jN h0] at h;simp at h
 | true=>
   rw [eB h0] at h
   simp only [aHF,List.mem_map] at h
   obtain ⟨g,_,rfl⟩:=h
   have h1:=(zJ h0).1
   have h2:=List.length_filter_le (fun x=>decide (g=x)) (iO t cols)
   unfold gE
   omega
theorem aOS {x:aF} {cols:List Int} {y:Int} (h:y∈gR x cols):0≤y∧y≤8:=by
 cases h0:bM x with
 | false=>rw [aDC h0] at h;simp at h
 | true=>
   rw [wG h0] at h
   exact aP9 ((sY _).mem_iff.1 h)
theorem aMF (x:aF) (cols:List Int):0≤(gR x cols).getD 0 0∧(gR x cols).getD 0 0≤8:=by
 cases e:gR x cols with
 | nil=>exact ⟨by decide,by decide⟩
 | cons a l=>exact aOS (x:=x) (cols:=cols) (by rw [e];simp)
def fS (s:StoreD) (q:QueryD) (i:Nat) (l:List Int):Int:=(gR (bG s q i) (bO (q.atoms.getD i gJ) l)).getD 0 0
theorem aEm (s:StoreD) (q:QueryD) (i:Nat) (l:List Int):0≤fS s q i l∧fS s q i l≤8:=aMF _ _
def iK (s:StoreD) (q:QueryD) (i:Int):Bool:=kH s q 1&&dM i 0 ((q.atoms.length:Int) - 1)
theorem tG {s:StoreD} {q:QueryD} {i:Int} (h:iK s q i=true):kH s q 1=true∧0≤i∧i.toNat<q.atoms.length:=by
 simp only [iK,Bool.and_eq_true] at h
 have h1:=dP h.2
 exact ⟨h.1,h1.1,by omega⟩
theorem aEn {n r b:Int} (h0:0≤n) (h1:n≤b) (h2:0≤r) (h3:r≤8):0≤n*r∧n*r≤b*8:=by
 refine ⟨Int.mul_nonneg h0 h2,?_⟩
 have a1:n*r≤n*8:=Int.mul_le_mul_of_nonneg_left h3 h0
 omega
def aOT (s:StoreD) (q:QueryD) (n:Int) (x:Int):Int:=n*(bG s q x.toNat).rowCount
def kW (s:StoreD) (q:QueryD) (l:List Int):Int:=l.foldl (aOT s q) 1
def qO (s:StoreD) (q:QueryD) (m:Int):Int:=if kH s q m=true then kW s q (cW m) else -1
theorem yD {s:StoreD} {q:QueryD} {m:Int} (h:kH s q m=true):qO s q m=kW s q (cW m):=by rw [qO,if_pos h]
theorem aAz {s:StoreD} {q:QueryD} {m:Int} (h:kH s q m=false):qO s q m= -1:=by rw [qO,if_neg (by rw [h];decide)]
theorem aAA (s:StoreD) (q:QueryD) (l:List Int) (x:Int):kW s q (l++[x])=kW s q l*(bG s q x.toNat).rowCount:=by
 rw [kW,List.foldl_append];rfl
theorem aBp {s:StoreD} {q:QueryD} {i:Nat} (h:dD s=true) (hq:cP s.database q=true) (hi:i<q.atoms.length):0≤(bG s q i).rowCount∧(bG s q i).rowCount≤8:=by
 obtain ⟨a,ha⟩:=cJ (l:=q.atoms) (k:=i) hi
 obtain ⟨_,_,h1,h2,_⟩:=aKj h hq ha
 exact ⟨h1,h2⟩
theorem aIq {s:StoreD} {q:QueryD} (h:dD s=true) (hq:cP s.database q=true): ∀{l:List Int} {n b:Int},(∀x∈l,x.toNat<q.atoms.length)→0≤n→n≤b→0≤l.foldl (aOT s q) n∧l.foldl (aOT s q) n≤b*8^l.length
 | [],n,b,_,h0,h1=>by simpa using ⟨h0,h1⟩
 | x::l,n,b,hx,h0,h1=>by
   have h2:=aBp h hq (hx x (by simp))
   have h3:=aEn h0 h1 h2.1 h2.2
   have h4:=aIq h hq (l:=l) (fun y hy=>hx y (by simp [hy])) h3.1 h3.2
   rw [List.foldl_cons,List.length_cons,Int.pow_succ]
   rw [show b*(8^l.length*8)=b*8*8^l.length by rw [Int.mul_assoc,Int.mul_comm 8]]
   exact h4
theorem aKk {k:Nat} (h:k≤4):(8:Int)^k≤4096:=by
 have:k=0∨k=1∨k=2∨k=3∨k=4:=by omega
 rcases this with rfl | rfl | rfl | rfl | rfl<;>decide
theorem aIr {s:StoreD} {q:QueryD} (h:dD s=true) (hq:cP s.database q=true) {l:List Int} (hx: ∀x∈l,x.toNat<q.atoms.length) (hl:l.length≤4):0≤kW s q l∧kW s q l≤4096:=by
 have h1:=aIq h hq hx (n:=1) (b:=1) (by decide) (by decide)
 have h2:=aKk hl
 rw [Int.one_mul] at h1
 exact ⟨h1.1,Int.le_trans h1.2 h2⟩
theorem aHP {s:StoreD} {q:QueryD} {m:Int} (h:kH s q m=true):cW m=dE (dL m) q.atoms.length:=by
 obtain ⟨_,_,_,h1,h2,_,_,h3⟩:=jP h
 exact aOC ⟨by omega,h2⟩ h3.2
theorem aBq (m:Int):(cW m).length≤4:=by
 cases h:dM m 0 15 with
 | false=>rw [aE6 h];exact Nat.zero_le _
 | true=>rw [rO h];exact lJ _ _
theorem aIs {s:StoreD} {q:QueryD} {m x:Int} (h:kH s q m=true) (hx:x∈cW m):0≤x∧x.toNat<q.atoms.length∧dL m x.toNat=true:=by
 rw [aHP h] at hx
 exact aAs.1 hx
theorem aJs {s:StoreD} {q:QueryD} {m:Int} (h:kH s q m=true) (k:Nat):0≤kW s q ((cW m).take k)∧kW s q ((cW m).take k)≤4096:=by
 obtain ⟨h1,h2,_⟩:=jP h
 refine aIr h1 h2 (fun x hx=>(aIs h (List.mem_of_mem_take hx)).2.1) ?_
 have:=aBq m
 rw [List.length_take];omega
theorem aMG {s:StoreD} {q:QueryD} {m:Int} (h:kH s q m=true) {k:Nat} (hk:k≤q.atoms.length):0≤kW s q (dE (dL m) k)∧kW s q (dE (dL m) k)≤4096:=by
 obtain ⟨h1,h2,_,_,_,_,_,h3⟩:=jP h
 refine aIr h1 h2 (fun x hx=>by have:=(aAs.1 hx).2.1;omega) ?_
 have:=lJ (dL m) k
 omega
def pT:List Int→Int
 | []=>0
 | x::l=>x+pT l
theorem aMH (l:List Int) (x:Int):pT (l++[x])=pT l+x:=by
 induction l with
 | nil=>simp [pT]
 | cons y l ih=>rw [List.cons_append,pT,ih,pT,Int.add_assoc]
theorem rP {l:List Int} {k:Nat} {x:Int} (h:l[k]? =some x):pT (l.take (k+1))=pT (l.take k)+x:=by rw [cI h,aMH]
def iV (l:List Int) (i:Nat):Bool:=dM (l.getD i 0) 1 (8 - pT (l.take i))&& !(decide (0<i)&&decide (l.getD (i - 1) 0<l.getD i 0))
def cZ (l:List Int):Bool:=(List.range l.length).all (iV l)
theorem aDD {l:List Int}: ∀{k:Nat},k≤l.length→(List.range k).all (iV l)=true→0≤pT (l.take k)∧pT (l.take k)≤8
 | 0,_,_=>by simp [pT]
 | k+1,hk,h=>by
   rw [List.range_succ,List.all_append,Bool.and_eq_true] at h
   have ih:=aDD (l:=l) (k:=k) (by omega) h.1
   obtain ⟨x,hx⟩:=cJ (l:=l) (k:=k) (by omega)
   have h1:=h.2
   simp only [List.all_cons,List.all_nil,Bool.and_true,iV,Bool.and_eq_true] at h1
   have h2:=dP h1.1
   rw [aP hx] at h2
   rw [rP hx]
   omega
theorem aBA {l:List Int} (h:cZ l=true) {i:Nat} {x:Int} (hx:l[i]? =some x):1≤x∧x≤8:=by
 have hi:=(List.getElem?_eq_some_iff.1 hx).1
 have h1:=List.all_eq_true.1 h i (List.mem_range.2 hi)
 have h2:=aDD (l:=l) (k:=i) (by omega) (List.all_eq_true.2 fun j hj=>List.all_eq_true.1 h j (List.mem_range.2 (by have:=List.mem_range.1 hj;omega)))
 simp only [iV,Bool.and_eq_true] at h1
 have h3:=dP h1.1
 rw [aP hx] at h3
 omega
def uI (a b:List Int):Nat→Int
 | 0=>0
 | k+1=>uI a b k+a.getD k 0*b.getD k 0
theorem aBr {a b:List Int} {k:Nat} {x y:Int} (hx:a[k]? =some x) (hy:b[k]? =some y):uI a b (k+1)=uI a b k+x*y:=by rw [uI,aP hx,aP hy]
theorem aHQ {a b:List Int} (ha:cZ a=true) (hb:cZ b=true): ∀{k:Nat},k≤a.length→k≤b.length→0≤uI a b k∧uI a b k≤64*(k:Int)
 | 0,_,_=>by simp [uI]
 | k+1,h1,h2=>by
   have ih:=aHQ ha hb (k:=k) (by omega) (by omega)
   obtain ⟨x,hx⟩:=cJ (l:=a) (k:=k) (by omega)
   obtain ⟨y,hy⟩:=cJ (l:=b) (k:=k) (by omega)
   have q1:=aBA ha hx
   have q2:=aBA hb hy
   have q3:=aEn (n:=x) (r:=y) (b:=8) (by omega) (by omega) (by omega) (by omega)
   rw [aBr hx hy]
   omega
theorem aIt {a b:List Int} (ha:cZ a=true) (hb:cZ b=true) {k:Nat} {x y:Int} (hx:a[k]? =some x) (hy:b[k]? =some y):0≤x*y∧x*y≤64:=by
 have q1:=aBA ha hx
 have q2:=aBA hb hy
 exact aEn (n:=x) (r:=y) (b:=8) (by omega) (by omega) (by omega) (by omega)
def fU (a b:List Int):Int:=if (cZ a&&cZ b)=true then uI a b (min a.length b.length) else 0
theorem pM {a b:List Int} (h:(cZ a&&cZ b)=true):fU a b=uI a b (min a.length b.length):=by rw [fU,if_pos h]
theorem rQ {a b:List Int} (h:(cZ a&&cZ b)=false):fU a b=0:=by rw [fU,if_neg (by rw [h];decide)]
def pN (s:StoreD) (q:QueryD) (a b:Int):Bool:=iK s q a&&(iK s q b&& !decide (a=b))
def oB (s:StoreD) (q:QueryD) (i:Nat) (l:List Int):List Int:=gR (bG s q i) (bO (q.atoms.getD i gJ) l)
def rR (s:StoreD) (q:QueryD) (a b:Int):Int:=if pN s q a b=true then fU (oB s q a.toNat (cD q ((1:Int)*2^a.toNat) ((1:Int)*2^b.toNat))) (oB s q b.toNat (cD q ((1:Int)*2^a.toNat) ((1:Int)*2^b.toNat))) else -1
theorem kI {s:StoreD} {q:QueryD} {a b:Int} (h:pN s q a b=true):rR s q a b=fU (oB s q a.toNat (cD q ((1:Int)*2^a.toNat) ((1:Int)*2^b.toNat))) (oB s q b.toNat (cD q ((1:Int)*2^a.toNat) ((1:Int)*2^b.toNat))):=by rw [rR,if_pos h]
theorem mR {s:StoreD} {q:QueryD} {a b:Int} (h:pN s q a b=false):rR s q a b= -1:=by rw [rR,if_neg (by rw [h];decide)]
abbrev tH (s:StoreD) (q:QueryD) (m:Int):Prop:=cO Tryz.prog 94 [.agg [.sl 162 3 (s.database.tables.map aO),.int .i64 s.catalogue.version,.sl 121 4 (s.catalogue.tables.map aB),.sl 168 3 (s.dependencies.map aH),.sl 170 4 (s.inclusions.map aJ)],.agg [.int .i64 q.variableCount,.sl 131 2 (q.atoms.map aV)],.one (.int .i64 m)] (vB (kH s q m)) []
theorem aEo (s:StoreD) (q:QueryD) (m:Int) (hc:cC s≤1048576):tH s q m:=by
 refine aT bF aQ Tryz.func94 (by kernel_rfl) (.call (vB (dD s)) []<| .br (.call (vB (cP s.database q)) []<| .lit<| .br (.call (vI (iM q)) []<| .call (vB (dM m (1:Int) (iM q))) []<| .fin []) (.fin [])) (.fin [])) (p:=(s.database.tables.map aO).length≤9223372036854775807→(s.catalogue.tables.map aB).length≤9223372036854775807→(s.dependencies.map aH).length≤9223372036854775807→(s.inclusions.map aJ).length≤9223372036854775807→(q.atoms.map aV).length≤9223372036854775807→aCZ s∧(((dD s)=true→aEe s.database q∧(((cP s.database q)=true→aC3 q∧eD m (1:Int) (iM q)∧(dM m (1:Int) (iM q))=(kH s q m)∧True)∧((cP s.database q)=false→(false)=(kH s q m)∧True)))∧((dD s)=false→(false)=(kH s q m)∧True))) (by kernel_rfl) ?_
 intro n0 n1 n2 n3 n4
 simp only [List.length_map] at n0 n1 n2 n3 n4
 have hS:cC s=bD s.database+bL s.catalogue+bV s.dependencies+cR s.inclusions:=rfl
 have hI:=eQ s.inclusions
 refine ⟨aLz _ (by omega),fun g9=>?_,fun g9=>?_⟩
 ·refine ⟨aOL s.database _ (by omega),fun g15=>?_,fun g15=>?_⟩
  ·refine ⟨aMD _,gB _ _ _,?_,trivial⟩
   ·first | (rw [kH,g9];rfl) | (rw [kH,g9,g15];rfl)
  ·refine ⟨?_,trivial⟩
   ·first | (rw [kH,g9];rfl) | (rw [kH,g9,g15];rfl)
 ·refine ⟨?_,trivial⟩
  ·first | (rw [kH,g9];rfl) | (rw [kH,g9,g15];rfl)
abbrev tI (s:StoreD) (q:QueryD) (m:Int):Prop:=cO Tryz.prog 91 [.agg [.sl 162 3 (s.database.tables.map aO),.int .i64 s.catalogue.version,.sl 121 4 (s.catalogue.tables.map aB),.sl 168 3 (s.dependencies.map aH),.sl 170 4 (s.inclusions.map aJ)],.agg [.int .i64 q.variableCount,.sl 131 2 (q.atoms.map aV)],.one (.int .i64 m)] (vB (kH s q m)) []
theorem aEp (s:StoreD) (q:QueryD) (m:Int) (hc:cC s≤1048576):tI s q m:=by
 refine aT bF aQ Tryz.func91 (by kernel_rfl) (.call (vB (dD s)) []<| .br (.call (vB (cP s.database q)) []<| .lit<| .br (.call (vI (iM q)) []<| .call (vB (dM m (1:Int) (iM q))) []<| .fin []) (.fin [])) (.fin [])) (p:=(s.database.tables.map aO).length≤9223372036854775807→(s.catalogue.tables.map aB).length≤9223372036854775807→(s.dependencies.map aH).length≤9223372036854775807→(s.inclusions.map aJ).length≤9223372036854775807→(q.atoms.map aV).length≤9223372036854775807→aC0 s∧(((dD s)=true→aEf s.database q∧(((cP s.database q)=true→wL q∧eL m (1:Int) (iM q)∧(dM m (1:Int) (iM q))=(kH s q m)∧True)∧((cP s.database q)=false→(false)=(kH s q m)∧True)))∧((dD s)=false→(false)=(kH s q m)∧True))) (by kernel_rfl) ?_
 intro n0 n1 n2 n3 n4
 simp only [List.length_map] at n0 n1 n2 n3 n4
 have hS:cC s=bD s.database+bL s.catalogue+bV s.dependencies+cR s.inclusions:=rfl
 have hI:=eQ s.inclusions
 refine ⟨aMA _ (by omega),fun g9=>?_,fun g9=>?_⟩
 ·refine ⟨aOM s.database _ (by omega),fun g15=>?_,fun g15=>?_⟩
  ·refine ⟨aG4 _,gP _ _ _,?_,trivial⟩
   ·first | (rw [kH,g9];rfl) | (rw [kH,g9,g15];rfl)
  ·refine ⟨?_,trivial⟩
   ·first | (rw [kH,g9];rfl) | (rw [kH,g9,g15];rfl)
 ·refine ⟨?_,trivial⟩
  ·first | (rw [kH,g9];rfl) | (rw [kH,g9,g15];rfl)
abbrev jQ (s:StoreD) (q:QueryD) (i:Int):AV × List (Nat × Rs):=(.agg [.p none (.str ((bG s q i.toNat).name)),vI ((bG s q i.toNat).arity),vI ((bG s q i.toNat).rowCount),.p none (.sl 218 3 (((bG s q i.toNat).groups).map aA))],[])
abbrev lM (s:StoreD) (q:QueryD) (i:Int):Prop:=cO Tryz.prog 96 [.agg [.sl 162 3 (s.database.tables.map aO),.int .i64 s.catalogue.version,.sl 121 4 (s.catalogue.tables.map aB),.sl 168 3 (s.dependencies.map aH),.sl 170 4 (s.inclusions.map aJ)],.agg [.int .i64 q.variableCount,.sl 131 2 (q.atoms.map aV)],.one (.int .i64 i)] (jQ s q i).1 (jQ s q i).2
theorem tJ (s:StoreD) (q:QueryD) (i:Int) (hc:cC s≤1048576) (hi:0≤i∧i.toNat<q.atoms.length):lM s q i:=by
 refine aT bF aQ Tryz.func96 (by kernel_rfl) (.elem _ aV q.atoms (fun e15=> .call (.tup [.agg [.p none (.str (((dA s.catalogue e15.name).1).name)),vI (((dA s.catalogue e15.name).1).arity),vI (((dA s.catalogue e15.name).1).rowCount),.p none (.sl 218 3 ((((dA s.catalogue e15.name).1).groups).map aA))],vB ((dA s.catalogue e15.name).2)]) []<| .fin [])) (p:=(s.database.tables.map aO).length≤9223372036854775807→(s.catalogue.tables.map aB).length≤9223372036854775807→(s.dependencies.map aH).length≤9223372036854775807→(s.inclusions.map aJ).length≤9223372036854775807→(q.atoms.map aV).length≤9223372036854775807→0≤i∧Em aV q.atoms ((i).toNat) fun e15=>cO Tryz.prog 122 [.agg [.int .i64 s.catalogue.version,.sl 121 4 (s.catalogue.tables.map aB)],.one (.str e15.name)] (.tup [.agg [.p none (.str (((dA s.catalogue e15.name).1).name)),vI (((dA s.catalogue e15.name).1).arity),vI (((dA s.catalogue e15.name).1).rowCount),.p none (.sl 218 3 ((((dA s.catalogue e15.name).1).groups).map aA))],vB ((dA s.catalogue e15.name).2)]) []∧(((dA s.catalogue e15.name).1).name)=((bG s q i.toNat).name)∧(((dA s.catalogue e15.name).1).arity)=((bG s q i.toNat).arity)∧(((dA s.catalogue e15.name).1).rowCount)=((bG s q i.toNat).rowCount)∧(((dA s.catalogue e15.name).1).groups).map aA=((bG s q i.toNat).groups).map aA∧True) (by kernel_rfl) ?_
 intro n0 n1 n2 n3 n4
 simp only [List.length_map] at n0 n1 n2 n3 n4
 have hS:cC s=bD s.database+bL s.catalogue+bV s.dependencies+cR s.inclusions:=rfl
 have hI:=eQ s.inclusions
 refine ⟨by omega,rfl,by omega,fun e15 h15=>?_⟩
 refine ⟨iF (aMB s.catalogue e15.name (by omega)) rfl,?_,?_,?_,?_,trivial⟩
 ·(rw [bG,aP h15]<;>rfl)
 ·(rw [bG,aP h15]<;>rfl)
 ·(rw [bG,aP h15]<;>rfl)
 ·(rw [bG,aP h15]<;>rfl)
abbrev jR (s:StoreD) (q:QueryD) (i:Int):AV × List (Nat × Rs):=(.agg [.p none (.str ((bG s q i.toNat).name)),vI ((bG s q i.toNat).arity),vI ((bG s q i.toNat).rowCount),.p none (.sl 218 3 (((bG s q i.toNat).groups).map aA))],[])
abbrev lN (s:StoreD) (q:QueryD) (i:Int):Prop:=cO Tryz.prog 92 [.agg [.sl 162 3 (s.database.tables.map aO),.int .i64 s.catalogue.version,.sl 121 4 (s.catalogue.tables.map aB),.sl 168 3 (s.dependencies.map aH),.sl 170 4 (s.inclusions.map aJ)],.agg [.int .i64 q.variableCount,.sl 131 2 (q.atoms.map aV)],.one (.int .i64 i)] (jR s q i).1 (jR s q i).2
theorem tK (s:StoreD) (q:QueryD) (i:Int) (hc:cC s≤1048576) (hi:0≤i∧i.toNat<q.atoms.length):lN s q i:=by
 refine aT bF aQ Tryz.func92 (by kernel_rfl) (.elem _ aV q.atoms (fun e15=> .call (.tup [.agg [.p none (.str (((dA s.catalogue e15.name).1).name)),vI (((dA s.catalogue e15.name).1).arity),vI (((dA s.catalogue e15.name).1).rowCount),.p none (.sl 218 3 ((((dA s.catalogue e15.name).1).groups).map aA))],vB ((dA s.catalogue e15.name).2)]) []<| .fin [])) (p:=(s.database.tables.map aO).length≤9223372036854775807→(s.catalogue.tables.map aB).length≤9223372036854775807→(s.dependencies.map aH).length≤9223372036854775807→(s.inclusions.map aJ).length≤9223372036854775807→(q.atoms.map aV).length≤9223372036854775807→0≤i∧Em aV q.atoms ((i).toNat) fun e15=>cO Tryz.prog 166 [.agg [.int .i64 s.catalogue.version,.sl 121 4 (s.catalogue.tables.map aB)],.one (.str e15.name)] (.tup [.agg [.p none (.str (((dA s.catalogue e15.name).1).name)),vI (((dA s.catalogue e15.name).1).arity),vI (((dA s.catalogue e15.name).1).rowCount),.p none (.sl 218 3 ((((dA s.catalogue e15.name).1).groups).map aA))],vB ((dA s.catalogue e15.name).2)]) []∧(((dA s.catalogue e15.name).1).name)=((bG s q i.toNat).name)∧(((dA s.catalogue e15.name).1).arity)=((bG s q i.toNat).arity)∧(((dA s.catalogue e15.name).1).rowCount)=((bG s q i.toNat).rowCount)∧(((dA s.catalogue e15.name).1).groups).map aA=((bG s q i.toNat).groups).map aA∧True) (by kernel_rfl) ?_
 intro n0 n1 n2 n3 n4
 simp only [List.length_map] at n0 n1 n2 n3 n4
 have hS:cC s=bD s.database+bL s.catalogue+bV s.dependencies+cR s.inclusions:=rfl
 have hI:=eQ s.inclusions
 refine ⟨by omega,rfl,by omega,fun e15 h15=>?_⟩
 refine ⟨iF (aMC s.catalogue e15.name (by omega)) rfl,?_,?_,?_,?_,trivial⟩
 ·(rw [bG,aP h15]<;>rfl)
 ·(rw [bG,aP h15]<;>rfl)
 ·(rw [bG,aP h15]<;>rfl)
 ·(rw [bG,aP h15]<;>rfl)
theorem jS {s:StoreD} (q:QueryD) (i:Nat) (hc:cC s≤1048576):aZ (bG s q i)≤1048576:=by
 have h1:=aIm s.catalogue (q.atoms.getD i gJ).name
 have hS:cC s=bD s.database+bL s.catalogue+bV s.dependencies+cR s.inclusions:=rfl
 unfold bG
 omega
theorem oJ {s:StoreD} {q:QueryD} {i:Nat} {a:dF} (h:cP s.database q=true) (ha:q.atoms[i]? =some a):1≤a.vars.length∧a.vars.length≤3:=
 (sW ((dZ (yC h).1).2.2 a (List.mem_of_getElem? ha))).2.1
abbrev aC5 (s:StoreD) (q:QueryD) (i:Int) (l:List Int):Prop:=cO Tryz.prog 103 [.agg [.sl 162 3 (s.database.tables.map aO),.int .i64 s.catalogue.version,.sl 121 4 (s.catalogue.tables.map aB),.sl 168 3 (s.dependencies.map aH),.sl 170 4 (s.inclusions.map aJ)],.agg [.int .i64 q.variableCount,.sl 131 2 (q.atoms.map aV)],.one (.int .i64 i),.one (.sl 3 1 (l.map intD))] (vI (fS s q i.toNat l)) []
theorem aMI (s:StoreD) (q:QueryD) (i:Int) (l:List Int) (hc:cC s≤1048576) (hi:0≤i∧i.toNat<q.atoms.length) (hq2:cP s.database q=true):aC5 s q i l:=by
 refine aT bF aQ Tryz.func103 (by kernel_rfl) (bH (jQ s q i)<| .elem _ aV q.atoms (fun e16=>bH (nM e16 l)<| .call (vI ((gR (bG s q i.toNat) (bO e16 l)).getD 0 0)) []<| .fin [])) (p:=(s.database.tables.map aO).length≤9223372036854775807→(s.catalogue.tables.map aB).length≤9223372036854775807→(s.dependencies.map aH).length≤9223372036854775807→(s.inclusions.map aJ).length≤9223372036854775807→(q.atoms.map aV).length≤9223372036854775807→(l.map intD).length≤9223372036854775807→lM s q i∧0≤i∧Em aV q.atoms ((i).toNat) fun e16=>qM e16 l∧aCS (bG s q i.toNat) (bO e16 l)∧((gR (bG s q i.toNat) (bO e16 l)).getD 0 0)=(fS s q i.toNat l)∧True) (by kernel_rfl) ?_
 intro n0 n1 n2 n3 n4 n5
 simp only [List.length_map] at n0 n1 n2 n3 n4 n5
 have hst:=jS q i.toNat hc
 refine ⟨tJ s q i (by omega) (by first | assumption | exact ⟨by omega,by omega⟩),by omega,rfl,by omega,fun e16 h16=>?_⟩
 have wv16:=oJ hq2 h16
 have wl16:=jO e16 l
 refine ⟨aBn _ l (by omega),aLs (bG s q i.toNat) (bO e16 l) (by omega) (by omega),?_,trivial⟩
 ·(rw [fS,aP h16])
abbrev aBB (s:StoreD) (q:QueryD) (m:Int):Prop:=cO Tryz.prog 33 [.agg [.sl 162 3 (s.database.tables.map aO),.int .i64 s.catalogue.version,.sl 121 4 (s.catalogue.tables.map aB),.sl 168 3 (s.dependencies.map aH),.sl 170 4 (s.inclusions.map aJ)],.agg [.int .i64 q.variableCount,.sl 131 2 (q.atoms.map aV)],.one (.int .i64 m)] (vI (qO s q m)) []
theorem aJt (s:StoreD) (q:QueryD) (m:Int) (hc:cC s≤1048576):aBB s q m:=by
 refine aT bF aQ Tryz.func33 (by kernel_rfl) (.call (vB (kH s q m)) []<| .br (.fin []) (bH (tD m)<| .len ((cW m).length)<| .loop (Nat × Int) (Q2 Nat Int) [7,9,18,19,20,21,22,23,24,25,26,27,28,29] [] (fun yy0=>[(18,vI (yy0.1:Int)),(7,vI yy0.2)]) (fun yy0=>[]) (fun yy0=>yy0.1≤(cW m).length∧yy0.2=kW s q ((cW m).take yy0.1)) (fun yy0=>(cW m).length - yy0.1) (fun yy0=> .br (.len ((cW m).length)<| .elem _ intD (cW m) (fun e21=>bH (jQ s q e21)<| .back [])) (.fin [])))) (p:=(s.database.tables.map aO).length≤9223372036854775807→(s.catalogue.tables.map aB).length≤9223372036854775807→(s.dependencies.map aH).length≤9223372036854775807→(s.inclusions.map aJ).length≤9223372036854775807→(q.atoms.map aV).length≤9223372036854775807→tH s q m∧(((!(kH s q m))=true→(-1:Int)=(qO s q m)∧True)∧((!(kH s q m))=false→zX m∧(Lm intD (cW m)∧((∃(k:Nat) (p:Int),(0:Int)=(k:Int)∧(1:Int)=p∧k≤(cW m).length∧p=kW s q ((cW m).take k))∧ ∀(k:Nat) (p:Int),(k≤(cW m).length∧p=kW s q ((cW m).take k))→((decide ((k:Int)<(((cW m).length:Nat):Int)))=true→0≤(k:Int)∧Lm intD (cW m)∧(k:Int)<(((cW m).length:Nat):Int)∧Em intD (cW m) k fun e21=>lM s q e21∧cL (p*((bG s q e21.toNat).rowCount))∧cL ((k:Int)+(1:Int))∧ ∃(k' :Nat) (p' :Int),((k:Int)+(1:Int))=(k' :Int)∧(p*((bG s q e21.toNat).rowCount))=p' ∧(k' ≤(cW m).length∧p' =kW s q ((cW m).take k'))∧(cW m).length - k' <(cW m).length - k)∧((decide ((k:Int)<(((cW m).length:Nat):Int)))=false→p=(qO s q m)∧True)))))) (by kernel_rfl) ?_
 intro n0 n1 n2 n3 n4
 simp only [List.length_map] at n0 n1 n2 n3 n4
 refine ⟨aEo s q m (by omega),fun c0=>?_,fun c0=>?_⟩
 ·replace c0:=nt c0
  have hbad:kH s q m=false:=by simpa using c0
  refine ⟨?_,trivial⟩
  ·first | (rw [aAz hbad];done) | (rw [yD hq,hp,List.take_of_length_le (by omega)])
 ·replace c0:=nf c0
  have hq:kH s q m=true:=by simpa using c0
  obtain ⟨hq1,hq2,hq3,hm1,hm2,hm3,hm4,hm5⟩:=jP hq
  refine ⟨aIp m,List.length_map _,⟨0,(1:Int),rfl,rfl,Nat.zero_le _,rfl⟩,fun k p ⟨hk,hp⟩=>?_⟩
  refine ⟨fun c1=>?_,fun c1=>?_⟩
  ·replace c1:=yq c1
   refine ⟨by omega,List.length_map _,by omega,rfl,by omega,fun e21 h21=>?_⟩
   have hml:=aBq m
   have he:=aIs hq (List.mem_of_getElem? h21)
   have hpr:=aJs hq k
   have hr:=aBp hq1 hq2 he.2.1
   have hmul:=aEn (n:=p) (r:=(bG s q e21.toNat).rowCount) (b:=4096) (by omega) (by omega) hr.1 hr.2
   have hi:=And.intro he.1 he.2.1
   refine ⟨tJ s q e21 (by omega) (by first | assumption | exact ⟨by omega,by omega⟩),⟨by omega,by omega⟩,⟨by omega,by omega⟩,?_⟩
   exact ⟨k+1,_,rfl,rfl,⟨by omega,by rw [hp,cI h21,aAA]⟩,by omega⟩
  ·replace c1:=nq c1
   refine ⟨?_,trivial⟩
   ·first | (rw [aAz hbad];done) | (rw [yD hq,hp,List.take_of_length_le (by omega)])
abbrev aBC (s:StoreD) (q:QueryD) (m:Int):Prop:=cO Tryz.prog 31 [.agg [.sl 162 3 (s.database.tables.map aO),.int .i64 s.catalogue.version,.sl 121 4 (s.catalogue.tables.map aB),.sl 168 3 (s.dependencies.map aH),.sl 170 4 (s.inclusions.map aJ)],.agg [.int .i64 q.variableCount,.sl 131 2 (q.atoms.map aV)],.one (.int .i64 m)] (vI (qO s q m)) []
theorem aJu (s:StoreD) (q:QueryD) (m:Int) (hc:cC s≤1048576):aBC s q m:=by
 refine aT bF aQ Tryz.func31 (by kernel_rfl) (.call (vB (kH s q m)) []<| .br (.fin []) (.loop (Nat × Int) (Q2 Nat Int) [7,8,14,15,16,17,18,19,20,21,22,23,24,25,26,27,28,29,30,31,32] [] (fun yy0=>[(8,vI (yy0.1:Int)),(7,vI yy0.2)]) (fun yy0=>[]) (fun yy0=>yy0.1≤q.atoms.length∧yy0.2=kW s q (dE (dL m) yy0.1)) (fun yy0=>q.atoms.length - yy0.1) (fun yy0=> .len q.atoms.length<| .br (.br (bH (jR s q (yy0.1:Int))<| .back []) (.back [])) (.fin [])))) (p:=(s.database.tables.map aO).length≤9223372036854775807→(s.catalogue.tables.map aB).length≤9223372036854775807→(s.dependencies.map aH).length≤9223372036854775807→(s.inclusions.map aJ).length≤9223372036854775807→(q.atoms.map aV).length≤9223372036854775807→tI s q m∧(((!(kH s q m))=true→(-1:Int)=(qO s q m)∧True)∧((!(kH s q m))=false→(∃(k:Nat) (p:Int),(0:Int)=(k:Int)∧(1:Int)=p∧k≤q.atoms.length∧p=kW s q (dE (dL m) k))∧ ∀(k:Nat) (p:Int),(k≤q.atoms.length∧p=kW s q (dE (dL m) k))→Lm aV q.atoms∧(((decide ((k:Int)<((q.atoms.length:Nat):Int)))=true→(0≤(k:Int)∧(k:Int)≤64)∧(((decide ((fL .and .i64 (m/2^k) (1:Int))=(1:Int)))=true→lN s q (k:Int)∧cL (p*((bG s q (k:Int).toNat).rowCount))∧cL ((k:Int)+(1:Int))∧ ∃(k' :Nat) (p' :Int),((k:Int)+(1:Int))=(k' :Int)∧(p*((bG s q (k:Int).toNat).rowCount))=p' ∧(k' ≤q.atoms.length∧p' =kW s q (dE (dL m) k'))∧q.atoms.length - k' <q.atoms.length - k)∧((decide ((fL .and .i64 (m/2^k) (1:Int))=(1:Int)))=false→cL ((k:Int)+(1:Int))∧ ∃(k' :Nat) (p' :Int),((k:Int)+(1:Int))=(k' :Int)∧p=p' ∧(k' ≤q.atoms.length∧p' =kW s q (dE (dL m) k'))∧q.atoms.length - k' <q.atoms.length - k)))∧((decide ((k:Int)<((q.atoms.length:Nat):Int)))=false→p=(qO s q m)∧True))))) (by kernel_rfl) ?_
 intro n0 n1 n2 n3 n4
 simp only [List.length_map] at n0 n1 n2 n3 n4
 refine ⟨aEp s q m (by omega),fun c0=>?_,fun c0=>?_⟩
 ·replace c0:=nt c0
  have hbad:kH s q m=false:=by simpa using c0
  refine ⟨?_,trivial⟩
  ·first | (rw [aAz hbad];done) | (rw [yD hq,aHP hq,hp,show q.atoms.length=k by omega])
 ·replace c0:=nf c0
  have hq:kH s q m=true:=by simpa using c0
  obtain ⟨hq1,hq2,hq3,hm1,hm2,hm3,hm4,hm5⟩:=jP hq
  refine ⟨⟨0,(1:Int),rfl,rfl,Nat.zero_le _,rfl⟩,fun k p ⟨hk,hp⟩=>?_⟩
  refine ⟨List.length_map _,fun c1=>?_,fun c1=>?_⟩
  ·replace c1:=yq c1
   have hpr:=aMG hq hk
   have hr:=aBp hq1 hq2 (show ((k:Nat):Int).toNat<q.atoms.length by omega)
   have hmul:=aEn (n:=p) (r:=(bG s q ((k:Nat):Int).toNat).rowCount) (b:=4096) (by omega) (by omega) hr.1 hr.2
   refine ⟨⟨by omega,by omega⟩,fun c2=>?_,fun c2=>?_⟩
   ·replace c2:=yq c2
    refine ⟨tK s q (k:Int) (by omega) (by first | assumption | exact ⟨by omega,by omega⟩),⟨by omega,by omega⟩,⟨by omega,by omega⟩,?_⟩
    exact ⟨k+1,_,rfl,rfl,⟨by omega,by first | (rw [hp,iH (mP c2),aAA];done) | (rw [hp,gQ (pI c2)];done)⟩,by omega⟩
   ·replace c2:=nq c2
    refine ⟨⟨by omega,by omega⟩,?_⟩
    exact ⟨k+1,_,rfl,rfl,⟨by omega,by first | (rw [hp,iH (mP c2),aAA];done) | (rw [hp,gQ (pI c2)];done)⟩,by omega⟩
  ·replace c1:=nq c1
   refine ⟨?_,trivial⟩
   ·first | (rw [aAz hbad];done) | (rw [yD hq,aHP hq,hp,show q.atoms.length=k by omega])
end Go.Proofs.YtokkjaflmcjlhaaGreat
