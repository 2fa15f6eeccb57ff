/-
  Contracts and plain laws, joined: part 8.
-/
import Derived.Test.YtokkjaflmcjlhaaGreatQC6
namespace Go.Proofs.YtokkjaflmcjlhaaGreat
open Go.ChangeShapes Go.WideShapes Go.ChangeAt Go.RowKit
set_option linter.unusedVariables false
set_option linter.unusedSimpArgs false
set_option maxRecDepth 100000
set_option maxHeartbeats 4000000
theorem aJA {α:Type} (f:α→Nat) {x:α}: ∀{l:List α},x∈l→f x≤bN f l
 | a::l,h=>by
   simp only [bN,List.map_cons,List.sum_cons]
   rcases List.mem_cons.1 h with q | q
   ·subst q;omega
   ·have:=aJA f q
    simp only [bN] at this
    omega
theorem yR {l:List (List Int)} {i:Nat} {x:List Int} (h:l[i]? =some x):x.length≤cM l:=by
 have h1:cM l=l.length+bN bX l:=rfl
 have h2:x.length≤bN bX l:=aJA bX (List.mem_of_getElem? h)
 omega
def pgo (row:List Int):Bool→List (List Int)→List (List Int)
 | p,[]=>if p=true then [] else [row]
 | p,x::xs=>if 0<bV x row∧p=false then row::x::pgo row true xs else x::pgo row (p || decide (bV x row=0)) xs
def kA (row:List Int) (rows:List (List Int)):List (List Int):=pgo row false rows
theorem aCF {row x:List Int} {xs:List (List Int)} (h:0<bV x row):pgo row false (x::xs)=row::x::pgo row true xs:=by rw [pgo,if_pos ⟨h,rfl⟩]
theorem aCG {row x:List Int} {xs:List (List Int)} {p:Bool} (h:bV x row=0):pgo row p (x::xs)=x::pgo row true xs:=by rw [pgo,if_neg (by omega),h];simp
theorem aCH {row x:List Int} {xs:List (List Int)}:pgo row true (x::xs)=x::pgo row true xs:=by rw [pgo,if_neg (by simp)];rfl
theorem aCI {row x:List Int} {xs:List (List Int)} {p:Bool} (h: ¬0<bV x row) (h' : ¬bV x row=0):pgo row p (x::xs)=x::pgo row p xs:=by rw [pgo,if_neg (by omega)];simp [h']
abbrev tW (rows:List (List Int)) (row:List Int):AV × List (Nat × Rs):=(.own 0,[(0,.arr 32 1 true ((kA row rows).map aE))])
abbrev aAL (rows:List (List Int)) (row:List Int):Prop:=dG Tryz.prog 210 [.one (.sl 32 1 (rows.map aE)),.one (.sl 3 1 (row.map intD))] (tW rows row).1 (tW rows row).2
theorem aJB (rows:List (List Int)) (row:List Int) (hl:rows.length≤1000000) (hc:cM rows≤1048576) (hr:row.length≤1048576):aAL rows row:=by
 refine aY bK aU Tryz.func210 (by kernel_rfl) (.loop (Nat × (List (List Int)) × Bool) (Q3 Nat (List (List Int)) Bool) [5,6,7,8,9,10,11,12,13,14,15,16,17,18,19,20,21,22,23,24,25,26,27,28,29,30,31,32,33,34,35,36,37,38,39,40,41,42,43,44] [900,3100,3300,3400,3500,3700,4200,4300,4400] (fun yy0=>[(7,vI (yy0.1:Int)),(5,.own 900),(6,vB yy0.2.2)]) (fun yy0=>[(900,some (.arr 32 1 true (yy0.2.1.map aE)))]) (fun yy0=>yy0.1≤rows.length∧yy0.2.1.length≤2*yy0.1∧yy0.2.1++pgo row yy0.2.2 (rows.drop yy0.1)=kA row rows) (fun yy0=>rows.length - yy0.1) (fun yy0=> .len rows.length<| .br (.elem _ aE rows (fun e18=> .call (vI (bV e18 row)) []<| .br (.br (.elem _ aE rows (fun e40=> .app Int intD ([]:List Int) e40<| .appx (List Int) aE yy0.2.1 (([]:List Int)++e40)<| .back [(900,4400)])) (.elem _ aE rows (fun e40=> .app Int intD ([]:List Int) e40<| .appx (List Int) aE yy0.2.1 (([]:List Int)++e40)<| .back [(900,4400)]))) (.br (.lit<| .lit<| .br (.app Int intD ([]:List Int) row<| .appx (List Int) aE yy0.2.1 (([]:List Int)++row)<| .elem _ aE rows (fun e40=> .app Int intD ([]:List Int) e40<| .appx (List Int) aE (yy0.2.1++[([]:List Int)++row]) (([]:List Int)++e40)<| .back [(900,4400)])) (.elem _ aE rows (fun e40=> .app Int intD ([]:List Int) e40<| .appx (List Int) aE yy0.2.1 (([]:List Int)++e40)<| .back [(900,4400)]))) (.elem _ aE rows (fun e40=> .app Int intD ([]:List Int) e40<| .appx (List Int) aE yy0.2.1 (([]:List Int)++e40)<| .back [(900,4400)]))))) (.br (.app Int intD ([]:List Int) row<| .appx (List Int) aE yy0.2.1 (([]:List Int)++row)<| .fin [(0,5200)]) (.fin [(0,900)])))) (p:=(rows.map aE).length≤9223372036854775807→(row.map intD).length≤9223372036854775807→(∃(k:Nat) (out:List (List Int)) (p:Bool),(0:Int)=(k:Int)∧(false)=p∧[]=out.map aE∧k≤rows.length∧out.length≤2*k∧out++pgo row p (rows.drop k)=kA row rows)∧ ∀(k:Nat) (out:List (List Int)) (p:Bool),(k≤rows.length∧out.length≤2*k∧out++pgo row p (rows.drop k)=kA row rows)→Lm aE rows∧(((decide ((k:Int)<((rows.length:Nat):Int)))=true→0≤(k:Int)∧Em aE rows k fun e18=>fM e18 row∧(((decide ((bV e18 row)=(0:Int)))=true→((decide ((0:Int)<(bV e18 row)))=true→0≤(k:Int)∧Em aE rows k fun e40=>[]=([]:List Int).map intD∧e40.map intD=e40.map intD∧(∀x,eC (intD x)=true)∧(([]:List Int).length+e40.length)*8≤140737488355328∧out.map aE=out.map aE∧(([]:List Int)++e40).map intD=(([]:List Int)++e40).map intD∧(out.length+1)*24≤140737488355328∧dB ((k:Int)+(1:Int))∧ ∃(k' :Nat) (out' :List (List Int)) (p' :Bool),((k:Int)+(1:Int))=(k' :Int)∧(true)=p' ∧(out++[([]:List Int)++e40]).map aE=out'.map aE∧(k' ≤rows.length∧out'.length≤2*k' ∧out' ++pgo row p' (rows.drop k')=kA row rows)∧rows.length - k' <rows.length - k)∧((decide ((0:Int)<(bV e18 row)))=false→0≤(k:Int)∧Em aE rows k fun e40=>[]=([]:List Int).map intD∧e40.map intD=e40.map intD∧(∀x,eC (intD x)=true)∧(([]:List Int).length+e40.length)*8≤140737488355328∧out.map aE=out.map aE∧(([]:List Int)++e40).map intD=(([]:List Int)++e40).map intD∧(out.length+1)*24≤140737488355328∧dB ((k:Int)+(1:Int))∧ ∃(k' :Nat) (out' :List (List Int)) (p' :Bool),((k:Int)+(1:Int))=(k' :Int)∧(true)=p' ∧(out++[([]:List Int)++e40]).map aE=out'.map aE∧(k' ≤rows.length∧out'.length≤2*k' ∧out' ++pgo row p' (rows.drop k')=kA row rows)∧rows.length - k' <rows.length - k))∧((decide ((bV e18 row)=(0:Int)))=false→((decide ((0:Int)<(bV e18 row)))=true→((!p)=true→[]=([]:List Int).map intD∧row.map intD=row.map intD∧(∀x,eC (intD x)=true)∧(([]:List Int).length+row.length)*8≤140737488355328∧out.map aE=out.map aE∧(([]:List Int)++row).map intD=(([]:List Int)++row).map intD∧(out.length+1)*24≤140737488355328∧0≤(k:Int)∧Em aE rows k fun e40=>[]=([]:List Int).map intD∧e40.map intD=e40.map intD∧(∀x,eC (intD x)=true)∧(([]:List Int).length+e40.length)*8≤140737488355328∧(out++[([]:List Int)++row]).map aE=(out++[([]:List Int)++row]).map aE∧(([]:List Int)++e40).map intD=(([]:List Int)++e40).map intD∧((out++[([]:List Int)++row]).length+1)*24≤140737488355328∧dB ((k:Int)+(1:Int))∧ ∃(k' :Nat) (out' :List (List Int)) (p' :Bool),((k:Int)+(1:Int))=(k' :Int)∧(true)=p' ∧((out++[([]:List Int)++row])++[([]:List Int)++e40]).map aE=out'.map aE∧(k' ≤rows.length∧out'.length≤2*k' ∧out' ++pgo row p' (rows.drop k')=kA row rows)∧rows.length - k' <rows.length - k)∧((!p)=false→0≤(k:Int)∧Em aE rows k fun e40=>[]=([]:List Int).map intD∧e40.map intD=e40.map intD∧(∀x,eC (intD x)=true)∧(([]:List Int).length+e40.length)*8≤140737488355328∧out.map aE=out.map aE∧(([]:List Int)++e40).map intD=(([]:List Int)++e40).map intD∧(out.length+1)*24≤140737488355328∧dB ((k:Int)+(1:Int))∧ ∃(k' :Nat) (out' :List (List Int)) (p' :Bool),((k:Int)+(1:Int))=(k' :Int)∧(p)=p' ∧(out++[([]:List Int)++e40]).map aE=out'.map aE∧(k' ≤rows.length∧out'.length≤2*k' ∧out' ++pgo row p' (rows.drop k')=kA row rows)∧rows.length - k' <rows.length - k))∧((decide ((0:Int)<(bV e18 row)))=false→0≤(k:Int)∧Em aE rows k fun e40=>[]=([]:List Int).map intD∧e40.map intD=e40.map intD∧(∀x,eC (intD x)=true)∧(([]:List Int).length+e40.length)*8≤140737488355328∧out.map aE=out.map aE∧(([]:List Int)++e40).map intD=(([]:List Int)++e40).map intD∧(out.length+1)*24≤140737488355328∧dB ((k:Int)+(1:Int))∧ ∃(k' :Nat) (out' :List (List Int)) (p' :Bool),((k:Int)+(1:Int))=(k' :Int)∧(p)=p' ∧(out++[([]:List Int)++e40]).map aE=out'.map aE∧(k' ≤rows.length∧out'.length≤2*k' ∧out' ++pgo row p' (rows.drop k')=kA row rows)∧rows.length - k' <rows.length - k))))∧((decide ((k:Int)<((rows.length:Nat):Int)))=false→((!p)=true→[]=([]:List Int).map intD∧row.map intD=row.map intD∧(∀x,eC (intD x)=true)∧(([]:List Int).length+row.length)*8≤140737488355328∧out.map aE=out.map aE∧(([]:List Int)++row).map intD=(([]:List Int)++row).map intD∧(out.length+1)*24≤140737488355328∧(out++[([]:List Int)++row]).map aE=(kA row rows).map aE∧True)∧((!p)=false→out.map aE=(kA row rows).map aE∧True)))) (by kernel_rfl) ?_
 intro n0 n1
 simp only [List.length_map] at n0 n1
 refine ⟨⟨0,([]:List (List Int)),false,rfl,rfl,rfl,Nat.zero_le _,by simp,rfl⟩,fun k out p ⟨hk,ho,hv⟩=>?_⟩
 refine ⟨List.length_map _,fun c0=>?_,fun c0=>?_⟩
 ·replace c0:=yq c0
  refine ⟨by omega,rfl,by omega,fun e18 h18=>?_⟩
  have hsz:=yR h18
  refine ⟨iI _ _,fun c1=>?_,fun c1=>?_⟩
  ·replace c1:=yq c1
   refine ⟨fun g26=>?_,fun g26=>?_⟩
   ·replace g26:=yq g26
    refine ⟨by omega,rfl,by omega,fun e40 h40=>?_⟩
    obtain rfl:=(bA h18 h40).symm
    refine ⟨rfl,rfl,fun _=>rfl,by first | omega | (simp;omega),?_⟩
    refine ⟨rfl,rfl,by first | omega | (simp;omega),⟨by omega,by omega⟩,?_⟩
    exact ⟨k+1,_,_,rfl,rfl,rfl,⟨by omega,by simp;omega,by rw [←hv,kS h18];first | (rw [aCG c1];simp;done) | (subst c2;rw [aCH];simp;done) | (subst c2;rw [aCF g26];simp;done) | (rw [aCI g26 c1];simp;done)⟩,by omega⟩
   ·replace g26:=nq g26
    refine ⟨by omega,rfl,by omega,fun e40 h40=>?_⟩
    obtain rfl:=(bA h18 h40).symm
    refine ⟨rfl,rfl,fun _=>rfl,by first | omega | (simp;omega),?_⟩
    refine ⟨rfl,rfl,by first | omega | (simp;omega),⟨by omega,by omega⟩,?_⟩
    exact ⟨k+1,_,_,rfl,rfl,rfl,⟨by omega,by simp;omega,by rw [←hv,kS h18];first | (rw [aCG c1];simp;done) | (subst c2;rw [aCH];simp;done) | (subst c2;rw [aCF g26];simp;done) | (rw [aCI g26 c1];simp;done)⟩,by omega⟩
  ·replace c1:=nq c1
   refine ⟨fun g26=>?_,fun g26=>?_⟩
   ·replace g26:=yq g26
    refine ⟨fun c2=>?_,fun c2=>?_⟩
    ·replace c2:=nt c2
     refine ⟨rfl,rfl,fun _=>rfl,by first | omega | (simp;omega),?_⟩
     refine ⟨rfl,rfl,by first | omega | (simp;omega),by omega,rfl,by omega,fun e40 h40=>?_⟩
     obtain rfl:=(bA h18 h40).symm
     refine ⟨rfl,rfl,fun _=>rfl,by first | omega | (simp;omega),?_⟩
     refine ⟨rfl,rfl,by first | omega | (simp;omega),⟨by omega,by omega⟩,?_⟩
     exact ⟨k+1,_,_,rfl,rfl,rfl,⟨by omega,by simp;omega,by rw [←hv,kS h18];first | (rw [aCG c1];simp;done) | (subst c2;rw [aCH];simp;done) | (subst c2;rw [aCF g26];simp;done) | (rw [aCI g26 c1];simp;done)⟩,by omega⟩
    ·replace c2:=nf c2
     refine ⟨by omega,rfl,by omega,fun e40 h40=>?_⟩
     obtain rfl:=(bA h18 h40).symm
     refine ⟨rfl,rfl,fun _=>rfl,by first | omega | (simp;omega),?_⟩
     refine ⟨rfl,rfl,by first | omega | (simp;omega),⟨by omega,by omega⟩,?_⟩
     exact ⟨k+1,_,_,rfl,rfl,rfl,⟨by omega,by simp;omega,by rw [←hv,kS h18];first | (rw [aCG c1];simp;done) | (subst c2;rw [aCH];simp;done) | (subst c2;rw [aCF g26];simp;done) | (rw [aCI g26 c1];simp;done)⟩,by omega⟩
   ·replace g26:=nq g26
    refine ⟨by omega,rfl,by omega,fun e40 h40=>?_⟩
    obtain rfl:=(bA h18 h40).symm
    refine ⟨rfl,rfl,fun _=>rfl,by first | omega | (simp;omega),?_⟩
    refine ⟨rfl,rfl,by first | omega | (simp;omega),⟨by omega,by omega⟩,?_⟩
    exact ⟨k+1,_,_,rfl,rfl,rfl,⟨by omega,by simp;omega,by rw [←hv,kS h18];first | (rw [aCG c1];simp;done) | (subst c2;rw [aCH];simp;done) | (subst c2;rw [aCF g26];simp;done) | (rw [aCI g26 c1];simp;done)⟩,by omega⟩
 ·replace c0:=nq c0
  refine ⟨fun c3=>?_,fun c3=>?_⟩
  ·replace c3:=nt c3
   refine ⟨rfl,rfl,fun _=>rfl,by first | omega | (simp;omega),?_⟩
   refine ⟨rfl,rfl,by first | omega | (simp;omega),?_,trivial⟩
   ·rw [←hv,wM (by omega),pgo];simp [c3]
  ·replace c3:=nf c3
   refine ⟨?_,trivial⟩
   ·rw [←hv,wM (by omega),pgo];simp [c3]
theorem aE7 {row:List Int}: ∀xs:List (List Int),pgo row true xs=xs
 | []=>rfl
 | x::xs=>by rw [aCH,aE7 xs]
theorem aBN {row:List Int}:kA row []= [row]:=rfl
theorem aBO {row x:List Int} {xs:List (List Int)} (h:0<bV x row):kA row (x::xs)=row::x::xs:=by rw [kA,aCF h,aE7]
theorem aBP {row x:List Int} {xs:List (List Int)} (h:bV x row=0):kA row (x::xs)=x::xs:=by rw [kA,aCG h,aE7]
theorem aBQ {row x:List Int} {xs:List (List Int)} (h: ¬0<bV x row) (h' : ¬bV x row=0):kA row (x::xs)=x::kA row xs:=by rw [kA,aCI h h',kA]
theorem aE8 {row y:List Int}: ∀{xs:List (List Int)},y∈kA row xs↔y=row∨y∈xs
 | []=>by simp [aBN]
 | x::xs=>by
   by_cases h:0<bV x row
   ·rw [aBO h];simp
   ·by_cases h' :bV x row=0
    ·rw [aBP h',eI.1 h']
     constructor
     ·exact Or.inr
     ·rintro (rfl | q)
      ·simp
      ·exact q
    ·rw [aBQ h h',List.mem_cons,List.mem_cons,aE8]
     constructor
     ·rintro (q | q | q)
      ·exact .inr (.inl q)
      ·exact .inl q
      ·exact .inr (.inr q)
     ·rintro (q | q | q)
      ·exact .inr (.inl q)
      ·exact .inl q
      ·exact .inr (.inr q)
abbrev Asc (l:List (List Int)):Prop:=l.Pairwise fun a b=>bV a b<0
theorem aJC {row:List Int}: ∀{xs:List (List Int)},Asc xs→Asc (kA row xs)
 | [],_=>by rw [aBN];exact List.pairwise_singleton _ _
 | x::xs,hx=>by
   have h1:=List.pairwise_cons.1 hx
   by_cases h:0<bV x row
   ·rw [aBO h]
    refine List.pairwise_cons.2 ⟨fun y hy=>?_,hx⟩
    have hrx:bV row x<0:=pR.2 h
    rcases List.mem_cons.1 hy with rfl | q
    ·exact hrx
    ·exact lL hrx (h1.1 y q)
   ·by_cases h' :bV x row=0
    ·rw [aBP h'];exact hx
    ·rw [aBQ h h']
     refine List.pairwise_cons.2 ⟨fun y hy=>?_,aJC h1.2⟩
     rcases aE8.1 hy with rfl | q
     ·omega
     ·exact h1.1 y q
theorem aJD {row:List Int}: ∀{xs:List (List Int)},(kA row xs).length≤xs.length+1
 | []=>by simp [aBN]
 | x::xs=>by
   by_cases h:0<bV x row
   ·rw [aBO h];simp
   ·by_cases h' :bV x row=0
    ·rw [aBP h'];simp
    ·rw [aBQ h h']
     have:=aJD (row:=row) (xs:=xs)
     simp only [List.length_cons];omega
def cJ (l:List (List Int)):List (List Int):=l.foldl (fun acc x=>kA x acc) []
theorem rP (l:List (List Int)): ∀acc,Asc acc→Asc (l.foldl (fun acc x=>kA x acc) acc)∧(∀y,y∈l.foldl (fun acc x=>kA x acc) acc↔y∈acc∨y∈l)∧(l.foldl (fun acc x=>kA x acc) acc).length≤acc.length+l.length:=by
 induction l with
 | nil=>intro acc h;simp [h]
 | cons x l ih=>
   intro acc h
   obtain ⟨h1,h2,h3⟩:=ih _ (aJC (row:=x) h)
   refine ⟨h1,fun y=>?_,?_⟩
   ·rw [List.foldl_cons,h2,aE8,List.mem_cons]
    constructor
    ·rintro ((q | q) | q)
     ·exact .inr (.inl q)
     ·exact .inl q
     ·exact .inr (.inr q)
    ·rintro (q | q | q)
     ·exact .inl (.inr q)
     ·exact .inl (.inl q)
     ·exact .inr q
   ·have:=aJD (row:=x) (xs:=acc)
    rw [List.foldl_cons,List.length_cons];omega
theorem aBR {l:List (List Int)} {x:List Int}:cJ (l++[x])=kA x (cJ l):=by simp [cJ,List.foldl_append]
theorem aD5: ∀{l m:List (List Int)},Asc l→Asc m→(∀x,x∈l↔x∈m)→l=m
 | [],[],_,_,_=>rfl
 | [],b::m,_,_,h=>by have:=(h b).2 (by simp);simp at this
 | a::l,[],_,_,h=>by have:=(h a).1 (by simp);simp at this
 | a::l,b::m,hl,hm,h=>by
   have hl' :=List.pairwise_cons.1 hl
   have hm' :=List.pairwise_cons.1 hm
   have hab:a=b:=by
    rcases List.mem_cons.1 ((h a).1 (by simp)) with q | q
    ·exact q
    ·rcases List.mem_cons.1 ((h b).2 (by simp)) with r | r
     ·exact r.symm
     ·have h1:=hm'.1 a q
      have h2:=hl'.1 b r
      have:=lL h1 h2
      rw [yO] at this;omega
   subst hab
   congr 1
   refine aD5 hl'.2 hm'.2 fun x=>⟨fun hx=>?_,fun hx=>?_⟩
   ·rcases List.mem_cons.1 ((h x).1 (by simp [hx])) with q | q
    ·subst q;have:=hl'.1 _ hx;rw [yO] at this;omega
    ·exact q
   ·rcases List.mem_cons.1 ((h x).2 (by simp [hx])) with q | q
    ·subst q;have:=hm'.1 _ hx;rw [yO] at this;omega
    ·exact q
theorem aE9 {s:List (List Int)} {i:Nat}:i∈mH s↔i<s.length∧(i=0∨ ¬s.getD i []=s.getD (i - 1) []):=by
 rw [mH,List.mem_filter,List.mem_range]
 simp [aHi]
theorem aGv (s:List (List Int)): ∀n,n<s.length→ ∃i,i∈mH s∧s.getD i []=s.getD n []
 | 0,h=>⟨0,aE9.2 ⟨h,.inl rfl⟩,rfl⟩
 | n+1,h=>by
   by_cases e:s.getD (n+1) []=s.getD n []
   ·obtain ⟨i,h1,h2⟩:=aGv s n (by omega)
    exact ⟨i,h1,by rw [h2,e]⟩
   ·exact ⟨n+1,aE9.2 ⟨h,.inr e⟩,rfl⟩
theorem aOH {s:List (List Int)} {x:List Int}:x∈fI s↔x∈s:=by
 constructor
 ·intro h
  obtain ⟨i,hi,rfl⟩:=List.mem_map.1 h
  obtain ⟨y,hy⟩:=cC (aLB hi)
  rw [bD hy];exact List.mem_of_getElem? hy
 ·intro h
  obtain ⟨n,hn,hx⟩:=List.mem_iff_getElem.1 h
  obtain ⟨i,h1,h2⟩:=aGv s n hn
  refine List.mem_map.2 ⟨i,h1,?_⟩
  rw [h2,←hx];simp [hn]
theorem aOI {s:List (List Int)} (hs:s.Pairwise (fun a b=>leR a b=true)):Asc (fI s):=by
 rw [fI,Asc,List.pairwise_map]
 have h0:(mH s).Pairwise (· < ·):=List.Pairwise.filter _ List.pairwise_lt_range
 refine List.Pairwise.imp_of_mem ?_ h0
 intro i j hi hj hij
 have h1:=aE9.1 hj
 have hp:=List.pairwise_iff_getElem.1 hs
 have hg: ∀a b,a<b→b<s.length→leR (s.getD a []) (s.getD b [])=true:=by
  intro a b hab hb
  have:=hp a b (by omega) hb hab
  simpa [hb,show a<s.length by omega] using this
 have h2:=hg (j - 1) j (by omega) h1.1
 rw [leR,decide_eq_true_eq] at h2
 have h3:bV (s.getD (j - 1) []) (s.getD j [])<0:=by
  have: ¬bV (s.getD (j - 1) []) (s.getD j [])=0:=fun q=>by
   have:=eI.1 q
   rcases h1.2 with r | r
   ·omega
   ·exact r this.symm
  omega
 by_cases e:i=j - 1
 ·rw [e];exact h3
 ·have h4:=hg i (j - 1) (by omega) (by omega)
  rw [leR,decide_eq_true_eq] at h4
  by_cases z:bV (s.getD i []) (s.getD (j - 1) [])=0
  ·rw [eI.1 z];exact h3
  ·exact lL (by omega) h3
theorem rQ (l:List (List Int)):cJ l=fI (dH l):=by
 obtain ⟨h1,h2,_⟩:=rP l [] List.Pairwise.nil
 exact aD5 h1 (aOI (aE2 l)) fun x=>by
  have h2' :=h2 x
  rw [show l.foldl (fun acc x=>kA x acc) []=cJ l from rfl] at h2'
  rw [h2',aOH,(aAI l).mem_iff];simp
theorem aFz {l:List (List Int)} {m:Nat} (h: ∀x∈l,x.length≤m):(cJ l).length≤l.length∧cM (cJ l)≤l.length+l.length*m:=by
 obtain ⟨_,h2,h3⟩:=rP l [] List.Pairwise.nil
 have h4:(cJ l).length≤l.length:=by
  rw [List.length_nil,Nat.zero_add] at h3
  exact h3
 have:=aBM (l:=cJ l) (m:=m) fun x hx=>h x (by simpa using (h2 x).1 hx)
 have:=Nat.mul_le_mul_right m h4
 exact ⟨h4,by omega⟩
theorem aHj {t:aR} {cols:List Int} {j:Nat} {e:List Int} (h:t.rows[j]? =some e):(jP t cols)[j]? =some (eO e cols).1:=by simp [jP,h]
theorem aHk {t:aR} {cols:List Int} {k:Nat} (h:(aT t&&dD (t.arity - 1) cols)=true):(cJ ((jP t cols).take k)).length≤8∧cM (cJ ((jP t cols).take k))≤64:=by
 have h0:=h
 rw [Bool.and_eq_true] at h
 have ha:=bZ h.1
 have hc:=aBL h.2 (by omega)
 have hl:(jP t cols).length=t.rows.length:=List.length_map _
 have:=aFz (l:=(jP t cols).take k) (m:=3) fun r hr=>by
  obtain ⟨q,_,rfl⟩:=List.mem_map.1 (List.mem_of_mem_take hr)
  have:=aE0 q cols
  omega
 have h5:((jP t cols).take k).length≤8:=by simp;omega
 omega
abbrev aAM (t:aR) (cols:List Int):AV × List (Nat × Rs):=(.tup [.own 0,.own 1],[(0,.arr 32 1 true (((dW t cols).1).map aE)),(1,.arr 3 1 true (((dW t cols).2).map intD))])
abbrev aEa (t:aR) (cols:List Int):Prop:=dG Tryz.prog 217 [.agg [.str t.name,.int .i64 t.arity,.sl 32 1 (t.rows.map aE)],.one (.sl 3 1 (cols.map intD))] (aAM t cols).1 (aAM t cols).2
theorem aOJ (t:aR) (cols:List Int) (hl:cols.length≤1048576):aEa t cols:=by
 refine aY bK aU Tryz.func217 (by kernel_rfl) (.call (vB (aT t&&dD (t.arity - 1) cols)) []<| .br (.fin [(0,1600),(1,1700)]) (.loop (Nat × (List (List Int))) (Q2 Nat (List (List Int))) [6,8,9,10,16,24,25,26,27,28,29,30,31,32,33,34,35,36,37,38,39,40,41,42,43] [1600,3800,4300] (fun yy0=>[(8,vI (yy0.1:Int)),(6,.own 1600)]) (fun yy0=>[(1600,some (.arr 32 1 true (yy0.2.map aE)))]) (fun yy0=>yy0.1≤t.rows.length∧yy0.2=cJ ((jP t cols).take yy0.1)) (fun yy0=>t.rows.length - yy0.1) (fun yy0=> .len t.rows.length<| .br (.elem _ aE t.rows (fun e35=>cI (nE e35 cols)<| cI (tW yy0.2 ((eO e35 cols).1))<| .back [(1600,4300)])) (.loop (Nat × (List Int)) (Q2 Nat (List Int)) [7,11,12,13,14,15,17,44,45,46,47,48,49,50,51,52,53,54,55,56,57,58,59,60,61,62,63,64,65,66,67,68,69,70,71,72,73,74,75,76,77,78,79] [1700,6400,7800,7900] (fun yy1=>[(11,vI (yy1.1:Int)),(7,.own 1700)]) (fun yy1=>[(1700,some (.arr 3 1 true (yy1.2.map intD)))]) (fun yy1=>yy1.1≤yy0.2.length∧yy1.2=(yy0.2.take yy1.1).map (gX (jP t cols))) (fun yy1=>yy0.2.length - yy1.1) (fun yy1=> .len yy0.2.length<| .br (.loop (Nat × Int) (Q2 Nat Int) [12,13,14,15,50,51,52,53,54,55,56,57,58,59,60,61,62,63,64,65,66,67,68,69,70,71,72,73,74,75] [6400] (fun yy2=>[(12,vI yy2.2),(13,vI (yy2.1:Int))]) (fun yy2=>[]) (fun yy2=>yy2.1≤t.rows.length∧yy2.2=gX ((jP t cols).take yy2.1) (yy0.2.getD yy1.1 [])) (fun yy2=>t.rows.length - yy2.1) (fun yy2=> .len t.rows.length<| .br (.elem _ aE t.rows (fun e61=>cI (nE e61 cols)<| .len yy0.2.length<| .elem _ aE yy0.2 (fun e71=> .call (vI (bV ((eO e61 cols).1) e71)) []<| .br (.back []) (.back [])))) (.app Int intD yy1.2 ([yy2.2]:List Int)<| .back [(1700,7900)]))) (.fin [(0,1600),(1,1700)])))))) (p:=(t.rows.map aE).length≤9223372036854775807→(cols.map intD).length≤9223372036854775807→wT t cols∧(((!(aT t&&dD (t.arity - 1) cols))=true→[]=((dW t cols).1).map aE∧[]=((dW t cols).2).map intD∧True)∧((!(aT t&&dD (t.arity - 1) cols))=false→(∃(k:Nat) (out:List (List Int)),(0:Int)=(k:Int)∧[]=out.map aE∧k≤t.rows.length∧out=cJ ((jP t cols).take k))∧ ∀(k:Nat) (out:List (List Int)),(k≤t.rows.length∧out=cJ ((jP t cols).take k))→Lm aE t.rows∧(((decide ((k:Int)<((t.rows.length:Nat):Int)))=true→0≤(k:Int)∧Em aE t.rows k fun e35=>qL e35 cols∧aAL out ((eO e35 cols).1)∧dB ((k:Int)+(1:Int))∧ ∃(k' :Nat) (out' :List (List Int)),((k:Int)+(1:Int))=(k' :Int)∧(kA ((eO e35 cols).1) out).map aE=out'.map aE∧(k' ≤t.rows.length∧out' =cJ ((jP t cols).take k'))∧t.rows.length - k' <t.rows.length - k)∧((decide ((k:Int)<((t.rows.length:Nat):Int)))=false→(∃(i:Nat) (c:List Int),(0:Int)=(i:Int)∧[]=c.map intD∧i≤out.length∧c=(out.take i).map (gX (jP t cols)))∧ ∀(i:Nat) (c:List Int),(i≤out.length∧c=(out.take i).map (gX (jP t cols)))→Lm aE out∧(((decide ((i:Int)<((out.length:Nat):Int)))=true→(∃(j:Nat) (z:Int),(0:Int)=z∧(0:Int)=(j:Int)∧j≤t.rows.length∧z=gX ((jP t cols).take j) (out.getD i []))∧ ∀(j:Nat) (z:Int),(j≤t.rows.length∧z=gX ((jP t cols).take j) (out.getD i []))→Lm aE t.rows∧(((decide ((j:Int)<((t.rows.length:Nat):Int)))=true→0≤(j:Int)∧Em aE t.rows j fun e61=>qL e61 cols∧(0≤(i:Int)∧Lm aE out∧(i:Int)<((out.length:Nat):Int)∧Em aE out i fun e71=>fM ((eO e61 cols).1) e71∧(((decide ((bV ((eO e61 cols).1) e71)=(0:Int)))=true→dB (z+(1:Int))∧dB ((j:Int)+(1:Int))∧ ∃(j' :Nat) (z' :Int),(z+(1:Int))=z' ∧((j:Int)+(1:Int))=(j' :Int)∧(j' ≤t.rows.length∧z' =gX ((jP t cols).take j') (out.getD i []))∧t.rows.length - j' <t.rows.length - j)∧((decide ((bV ((eO e61 cols).1) e71)=(0:Int)))=false→dB ((j:Int)+(1:Int))∧ ∃(j' :Nat) (z' :Int),z=z' ∧((j:Int)+(1:Int))=(j' :Int)∧(j' ≤t.rows.length∧z' =gX ((jP t cols).take j') (out.getD i []))∧t.rows.length - j' <t.rows.length - j))))∧((decide ((j:Int)<((t.rows.length:Nat):Int)))=false→c.map intD=c.map intD∧[[.int .i64 z]]=([z]:List Int).map intD∧(∀x,eC (intD x)=true)∧(c.length+([z]:List Int).length)*8≤140737488355328∧dB ((i:Int)+(1:Int))∧ ∃(i' :Nat) (c' :List Int),((i:Int)+(1:Int))=(i' :Int)∧(c++[z]).map intD=c'.map intD∧(i' ≤out.length∧c' =(out.take i').map (gX (jP t cols)))∧out.length - i' <out.length - i)))∧((decide ((i:Int)<((out.length:Nat):Int)))=false→out.map aE=((dW t cols).1).map aE∧c.map intD=((dW t cols).2).map intD∧True))))))) (by kernel_rfl) ?_
 intro n0 n1
 simp only [List.length_map] at n0 n1
 refine ⟨aGo t _,fun c0=>?_,fun c0=>?_⟩
 ·replace c0:=nt c0
  have hbad:(aT t&&dD (t.arity - 1) cols)=false:=by simpa using c0
  refine ⟨?_,?_,trivial⟩
  ·first | (rw [lH hbad]<;>rfl) | (rw [eP hok,hV]<;>rfl) | (rw [eP hok,hC]<;>rfl)
  ·first | (rw [lH hbad]<;>rfl) | (rw [eP hok,hV]<;>rfl) | (rw [eP hok,hC]<;>rfl)
 ·replace c0:=nf c0
  have hok:(aT t&&dD (t.arity - 1) cols)=true:=by simpa using c0
  obtain ⟨hs1,hs2⟩:=aE6 hok
  refine ⟨⟨0,([]:List (List Int)),rfl,rfl,Nat.zero_le _,rfl⟩,fun k out ⟨hk,ho⟩=>?_⟩
  refine ⟨List.length_map _,fun c1=>?_,fun c1=>?_⟩
  ·replace c1:=yq c1
   have hp:=aHk (k:=k) hok
   rw [←ho] at hp
   refine ⟨by omega,rfl,by omega,fun e35 h35=>?_⟩
   have hsl:=aE0 e35 cols
   refine ⟨aBJ _ _ (by omega),aJB out ((eO e35 cols).1) (by omega) (by omega) (by omega),⟨by omega,by omega⟩,?_⟩
   exact ⟨k+1,_,rfl,rfl,⟨by omega,by rw [ho,cA (aHj h35),aBR]⟩,by omega⟩
  ·replace c1:=nq c1
   have hV:out=aKK t cols:=by rw [ho,List.take_of_length_le (by simp [jP];omega),rQ];rfl
   have hp:=aHk (k:=k) hok
   rw [←ho] at hp
   refine ⟨⟨0,([]:List Int),rfl,rfl,Nat.zero_le _,rfl⟩,fun i c ⟨hi,hc⟩=>?_⟩
   refine ⟨List.length_map _,fun c2=>?_,fun c2=>?_⟩
   ·replace c2:=yq c2
    obtain ⟨g,hg⟩:=cC (l:=out) (k:=i) (by omega)
    refine ⟨⟨0,0,rfl,rfl,Nat.zero_le _,rfl⟩,fun j z ⟨hj,hz⟩=>?_⟩
    refine ⟨List.length_map _,fun c3=>?_,fun c3=>?_⟩
    ·replace c3:=yq c3
     refine ⟨by omega,rfl,by omega,fun e61 h61=>?_⟩
     refine ⟨aBJ _ _ (by omega),by omega,List.length_map _,by omega,rfl,by omega,fun e71 h71=>?_⟩
     have hg71:out.getD i []=e71:=bD h71
     refine ⟨iI _ _,fun c4=>?_,fun c4=>?_⟩
     ·replace c4:=yq c4
      have hcl:=aOD ((jP t cols).take j) e71
      rw [←hg71,←hz] at hcl
      have hjl:((jP t cols).take j).length≤8:=by simp;omega
      refine ⟨⟨by omega,by omega⟩,⟨by omega,by omega⟩,?_⟩
      exact ⟨j+1,_,rfl,rfl,⟨by omega,by rw [hz,hg71,aLC (aHj h61) (eI.1 c4).symm]⟩,by omega⟩
     ·replace c4:=nq c4
      refine ⟨⟨by omega,by omega⟩,?_⟩
      exact ⟨j+1,_,rfl,rfl,⟨by omega,by rw [hz,hg71,aOC (aHj h61) (fun q=>c4 (eI.2 q.symm))]⟩,by omega⟩
    ·replace c3:=nq c3
     refine ⟨rfl,rfl,fun _=>rfl,by first | omega | (simp;omega) | (rw [hc];simp;omega),?_⟩
     refine ⟨⟨by omega,by omega⟩,?_⟩
     exact ⟨i+1,_,rfl,rfl,⟨by omega,by rw [hc,hz,cA hg,bD hg,List.map_append,List.take_of_length_le (l:=jP t cols) (i:=j) (by simp [jP];omega)];rfl⟩,by omega⟩
   ·replace c2:=nq c2
    have hC:c=aIy t cols:=by rw [hc,List.take_of_length_le (by omega),hV];rfl
    refine ⟨?_,?_,trivial⟩
    ·first | (rw [lH hbad]<;>rfl) | (rw [eP hok,hV]<;>rfl) | (rw [eP hok,hC]<;>rfl)
    ·first | (rw [lH hbad]<;>rfl) | (rw [eP hok,hV]<;>rfl) | (rw [eP hok,hC]<;>rfl)
def jQ (s:Int) (v:Nat):Bool:=decide (hZ .and .i64 (s/2^v) 1=1)
def kJ (s:Int) (k:Nat):List Int:=((List.range k).filter (jQ s)).map fun v:Nat=>(v:Int)
def eE (s:Int):List Int:=kJ s 3
theorem sS {s:Int} {k:Nat} (h:hZ .and .i64 (s/2^k) 1=1):kJ s (k+1)=kJ s k++[(k:Int)]:=by
 rw [kJ,List.range_succ,List.filter_append,List.map_append]
 simp [kJ,jQ,h]
theorem wV {s:Int} {k:Nat} (h: ¬hZ .and .i64 (s/2^k) 1=1):kJ s (k+1)=kJ s k:=by
 rw [kJ,List.range_succ,List.filter_append,List.map_append]
 simp [kJ,jQ,h]
theorem aLz {s:Int} {k:Nat} (hs:0≤s∧s≤7) (hk:k≤3) (h:s/2^k=0):kJ s k=eE s:=by
 have h1:s=0∨s=1∨s=2∨s=3∨s=4∨s=5∨s=6∨s=7:=by omega
 have h2:k=0∨k=1∨k=2∨k=3:=by omega
 rcases h2 with rfl | rfl | rfl | rfl<;>rcases h1 with rfl | rfl | rfl | rfl | rfl | rfl | rfl | rfl<;>first | rfl | (revert h;decide)
theorem aPr {s:Int} {k:Nat} (hs:0≤s∧s≤7) (hk:k≤3) (h: ¬s/2^k=0):k<3:=by
 by_cases q:k=3
 ·subst q;omega
 ·omega
theorem sT (s:Int) (k:Nat):(kJ s k).length≤k:=by
 rw [kJ,List.length_map]
 have:=(List.filter_sublist (l:=List.range k) (p:=jQ s)).length_le
 rw [List.length_range] at this
 exact this
theorem pS {n:Int} (h:1≤n∧n≤3):2≤(2:Int)^n.toNat∧(2:Int)^n.toNat≤8:=by
 have:n=1∨n=2∨n=3:=by omega
 rcases this with rfl | rfl | rfl<;>decide
def qN (k:Nat):List (List Int):=(List.range k).map fun i=>eE ((i+1:Nat):Int)
def bO (n:Int):List (List Int):=qN ((2:Int)^n.toNat - 1).toNat
theorem aEb (k:Nat):qN (k+1)=qN k++[eE ((k+1:Nat):Int)]:=by rw [qN,List.range_succ,List.map_append];rfl
abbrev rR (s:Int):AV × List (Nat × Rs):=(.own 0,[(0,.arr 3 1 true ((eE s).map intD))])
abbrev wW (s:Int):Prop:=dG Tryz.prog 198 [.one (.int .i64 s)] (rR s).1 (rR s).2
theorem aGw (s:Int) (hs:0≤s∧s≤7):wW s:=by
 refine aY bK aU Tryz.func198 (by kernel_rfl) (.loop (Nat × (List Int)) (Q2 Nat (List Int)) [3,4,5,6,7,8,9,10,11,12,13,14,15,16,17,18,19,20] [500,1900,2000] (fun yy0=>[(4,vI (yy0.1:Int)),(3,.own 500)]) (fun yy0=>[(500,some (.arr 3 1 true (yy0.2.map intD)))]) (fun yy0=>yy0.1≤3∧yy0.2=kJ s yy0.1) (fun yy0=>3 - yy0.1) (fun yy0=> .br (.br (.app Int intD yy0.2 ([(yy0.1:Int)]:List Int)<| .back [(500,2000)]) (.back [(500,500)])) (.fin [(0,500)]))) (p:=(∃(k:Nat) (out:List Int),(0:Int)=(k:Int)∧[]=out.map intD∧k≤3∧out=kJ s k)∧ ∀(k:Nat) (out:List Int),(k≤3∧out=kJ s k)→(0≤(k:Int)∧(k:Int)≤64)∧(((!(decide ((s/2^k)=(0:Int))))=true→(0≤(k:Int)∧(k:Int)≤64)∧(((decide ((hZ .and .i64 (s/2^k) (1:Int))=(1:Int)))=true→out.map intD=out.map intD∧[[.int .i64 (k:Int)]]=([(k:Int)]:List Int).map intD∧(∀x,eC (intD x)=true)∧(out.length+([(k:Int)]:List Int).length)*8≤140737488355328∧dB ((k:Int)+(1:Int))∧ ∃(k' :Nat) (out' :List Int),((k:Int)+(1:Int))=(k' :Int)∧(out++[(k:Int)]).map intD=out'.map intD∧(k' ≤3∧out' =kJ s k')∧3 - k' <3 - k)∧((decide ((hZ .and .i64 (s/2^k) (1:Int))=(1:Int)))=false→dB ((k:Int)+(1:Int))∧ ∃(k' :Nat) (out' :List Int),((k:Int)+(1:Int))=(k' :Int)∧out.map intD=out'.map intD∧(k' ≤3∧out' =kJ s k')∧3 - k' <3 - k)))∧((!(decide ((s/2^k)=(0:Int))))=false→out.map intD=(eE s).map intD∧True))) (by kernel_rfl) ?_
 refine ⟨⟨0,([]:List Int),rfl,rfl,by omega,rfl⟩,fun k out ⟨hk,ho⟩=>?_⟩
 refine ⟨⟨by omega,by omega⟩,fun c0=>?_,fun c0=>?_⟩
 ·replace c0:=nq (nt c0)
  have hk3:=aPr hs hk c0
  have hln:=sT s k
  refine ⟨⟨by omega,by omega⟩,fun c1=>?_,fun c1=>?_⟩
  ·replace c1:=yq c1
   refine ⟨rfl,rfl,fun _=>rfl,by first | omega | (simp [ho];omega),?_⟩
   refine ⟨⟨by omega,by omega⟩,?_⟩
   exact ⟨k+1,_,rfl,rfl,⟨by omega,by first | (rw [ho,sS c1];done) | (rw [ho,wV c1];done)⟩,by omega⟩
  ·replace c1:=nq c1
   refine ⟨⟨by omega,by omega⟩,?_⟩
   exact ⟨k+1,_,rfl,rfl,⟨by omega,by first | (rw [ho,sS c1];done) | (rw [ho,wV c1];done)⟩,by omega⟩
 ·replace c0:=yq (nf c0)
  refine ⟨?_,trivial⟩
  ·(rw [ho];exact congrArg _ (aLz hs hk c0))
abbrev rS (s:Int):AV × List (Nat × Rs):=(.own 0,[(0,.arr 3 1 true ((eE s).map intD))])
abbrev wX (s:Int):Prop:=dG Tryz.prog 195 [.one (.int .i64 s)] (rS s).1 (rS s).2
theorem aGx (s:Int) (hs:0≤s∧s≤7):wX s:=by
 refine aY bK aU Tryz.func195 (by kernel_rfl) (.loop (Nat × (List Int)) (Q2 Nat (List Int)) [3,4,5,6,7,8,9,10,11,12,13,14,15,16,17,18] [500,1700,1800] (fun yy0=>[(4,vI (yy0.1:Int)),(3,.own 500)]) (fun yy0=>[(500,some (.arr 3 1 true (yy0.2.map intD)))]) (fun yy0=>yy0.1≤3∧yy0.2=kJ s yy0.1) (fun yy0=>3 - yy0.1) (fun yy0=> .br (.br (.app Int intD yy0.2 ([(yy0.1:Int)]:List Int)<| .back [(500,1800)]) (.back [(500,500)])) (.fin [(0,500)]))) (p:=(∃(k:Nat) (out:List Int),(0:Int)=(k:Int)∧[]=out.map intD∧k≤3∧out=kJ s k)∧ ∀(k:Nat) (out:List Int),(k≤3∧out=kJ s k)→((decide ((k:Int)<(3:Int)))=true→(0≤(k:Int)∧(k:Int)≤64)∧(((decide ((hZ .and .i64 (s/2^k) (1:Int))=(1:Int)))=true→out.map intD=out.map intD∧[[.int .i64 (k:Int)]]=([(k:Int)]:List Int).map intD∧(∀x,eC (intD x)=true)∧(out.length+([(k:Int)]:List Int).length)*8≤140737488355328∧dB ((k:Int)+(1:Int))∧ ∃(k' :Nat) (out' :List Int),((k:Int)+(1:Int))=(k' :Int)∧(out++[(k:Int)]).map intD=out'.map intD∧(k' ≤3∧out' =kJ s k')∧3 - k' <3 - k)∧((decide ((hZ .and .i64 (s/2^k) (1:Int))=(1:Int)))=false→dB ((k:Int)+(1:Int))∧ ∃(k' :Nat) (out' :List Int),((k:Int)+(1:Int))=(k' :Int)∧out.map intD=out'.map intD∧(k' ≤3∧out' =kJ s k')∧3 - k' <3 - k)))∧((decide ((k:Int)<(3:Int)))=false→out.map intD=(eE s).map intD∧True)) (by kernel_rfl) ?_
 refine ⟨⟨0,([]:List Int),rfl,rfl,by omega,rfl⟩,fun k out ⟨hk,ho⟩=>?_⟩
 refine ⟨fun c0=>?_,fun c0=>?_⟩
 ·replace c0:=yq c0
  skip
  have hln:=sT s k
  refine ⟨⟨by omega,by omega⟩,fun c1=>?_,fun c1=>?_⟩
  ·replace c1:=yq c1
   refine ⟨rfl,rfl,fun _=>rfl,by first | omega | (simp [ho];omega),?_⟩
   refine ⟨⟨by omega,by omega⟩,?_⟩
   exact ⟨k+1,_,rfl,rfl,⟨by omega,by first | (rw [ho,sS c1];done) | (rw [ho,wV c1];done)⟩,by omega⟩
  ·replace c1:=nq c1
   refine ⟨⟨by omega,by omega⟩,?_⟩
   exact ⟨k+1,_,rfl,rfl,⟨by omega,by first | (rw [ho,sS c1];done) | (rw [ho,wV c1];done)⟩,by omega⟩
 ·replace c0:=nq c0
  refine ⟨?_,trivial⟩
  ·(rw [ho];exact congrArg _ (by rw [eE,show 3=k by omega]))
abbrev wY (n:Int):AV × List (Nat × Rs):=(.own 0,[(0,.arr 32 1 true ((bO n).map aE))])
abbrev aC8 (n:Int):Prop:=dG Tryz.prog 235 [.one (.int .i64 n)] (wY n).1 (wY n).2
theorem aMA (n:Int) (hn:1≤n∧n≤3):aC8 n:=by
 refine aY bK aU Tryz.func235 (by kernel_rfl) (.call (vB (dP n (1:Int) (3:Int))) []<| .br (.fin []) (.loop (Nat × (List (List Int))) (Q2 Nat (List (List Int))) [3,4,8,9,10,11,12,13,14,15,16,17,18,19] [800,1700,1800,1900] (fun yy0=>[(4,vI ((yy0.1+1:Nat):Int)),(3,.own 800)]) (fun yy0=>[(800,some (.arr 32 1 true (yy0.2.map aE)))]) (fun yy0=>yy0.1≤((2:Int)^n.toNat - 1).toNat∧yy0.2=qN yy0.1) (fun yy0=>((2:Int)^n.toNat - 1).toNat - yy0.1) (fun yy0=> .br (cI (rR ((yy0.1+1:Nat):Int))<| .appx (List Int) aE yy0.2 (eE ((yy0.1+1:Nat):Int))<| .back [(800,1900)]) (.fin [(0,800)])))) (p:=eY n (1:Int) (3:Int)∧(((!(dP n (1:Int) (3:Int)))=true→[]=(bO n).map aE∧True)∧((!(dP n (1:Int) (3:Int)))=false→(∃(k:Nat) (out:List (List Int)),(1:Int)=((k+1:Nat):Int)∧[]=out.map aE∧k≤((2:Int)^n.toNat - 1).toNat∧out=qN k)∧ ∀(k:Nat) (out:List (List Int)),(k≤((2:Int)^n.toNat - 1).toNat∧out=qN k)→(0≤n∧n≤64)∧(dB ((1:Int)*2^(Int.toNat n))∧(((decide (((k+1:Nat):Int)<((1:Int)*2^(Int.toNat n))))=true→wW ((k+1:Nat):Int)∧out.map aE=out.map aE∧(eE ((k+1:Nat):Int)).map intD=(eE ((k+1:Nat):Int)).map intD∧(out.length+1)*24≤140737488355328∧dB (((k+1:Nat):Int)+(1:Int))∧ ∃(k' :Nat) (out' :List (List Int)),(((k+1:Nat):Int)+(1:Int))=((k' +1:Nat):Int)∧(out++[eE ((k+1:Nat):Int)]).map aE=out'.map aE∧(k' ≤((2:Int)^n.toNat - 1).toNat∧out' =qN k')∧((2:Int)^n.toNat - 1).toNat - k' <((2:Int)^n.toNat - 1).toNat - k)∧((decide (((k+1:Nat):Int)<((1:Int)*2^(Int.toNat n))))=false→out.map aE=(bO n).map aE∧True)))))) (by kernel_rfl) ?_
 have hb:=pS hn
 have hin:dP n 1 3=true:=aBg hn.1 hn.2
 refine ⟨iJ _ _ _,fun c0=>?_,fun c0=>?_⟩
 ·replace c0:=nt c0
  refine ⟨?_,trivial⟩
  ·first | (rw [ho,bO];congr 2;omega) | (exfalso;simp [hin] at c0;done) | (exfalso;simp [hin] at*;done)
 ·replace c0:=nf c0
  refine ⟨⟨0,([]:List (List Int)),rfl,rfl,Nat.zero_le _,rfl⟩,fun k out ⟨hk,ho⟩=>?_⟩
  refine ⟨⟨by omega,by omega⟩,⟨by omega,by omega⟩,fun c1=>?_,fun c1=>?_⟩
  ·replace c1:=yq c1
   refine ⟨aGw ((k+1:Nat):Int) (by omega),rfl,rfl,by first | omega | (simp [ho,qN];omega),⟨by omega,by omega⟩,?_⟩
   exact ⟨(k+1),_,rfl,rfl,⟨by omega,by rw [ho,aEb]⟩,by omega⟩
  ·replace c1:=nq c1
   refine ⟨?_,trivial⟩
   ·first | (rw [ho,bO];congr 2;omega) | (exfalso;simp [hin] at c0;done) | (exfalso;simp [hin] at*;done)
abbrev wZ (n:Int):AV × List (Nat × Rs):=(.own 0,[(0,.arr 32 1 true ((bO n).map aE))])
abbrev aC9 (n:Int):Prop:=dG Tryz.prog 216 [.one (.int .i64 n)] (wZ n).1 (wZ n).2
theorem aMB (n:Int) (hn:1≤n∧n≤3):aC9 n:=by
 refine aY bK aU Tryz.func216 (by kernel_rfl) (.loop (Nat × (List (List Int))) (Q2 Nat (List (List Int))) [3,4,5,6,7,8,9,10,11,12,13,14,15,16,17,18,19,20] [500,1800,1900,2000] (fun yy0=>[(4,vI ((yy0.1+1:Nat):Int)),(3,.own 500)]) (fun yy0=>[(500,some (.arr 32 1 true (yy0.2.map aE)))]) (fun yy0=>yy0.1≤((2:Int)^n.toNat - 1).toNat∧yy0.2=qN yy0.1) (fun yy0=>((2:Int)^n.toNat - 1).toNat - yy0.1) (fun yy0=> .call (vB (dP n (1:Int) (3:Int))) []<| .br (.lit<| .lit<| .lit<| .lit<| .br (cI (rS ((yy0.1+1:Nat):Int))<| .appx (List Int) aE yy0.2 (eE ((yy0.1+1:Nat):Int))<| .back [(500,2000)]) (.fin [(0,500)])) (.fin [(0,500)]))) (p:=(∃(k:Nat) (out:List (List Int)),(1:Int)=((k+1:Nat):Int)∧[]=out.map aE∧k≤((2:Int)^n.toNat - 1).toNat∧out=qN k)∧ ∀(k:Nat) (out:List (List Int)),(k≤((2:Int)^n.toNat - 1).toNat∧out=qN k)→eZ n (1:Int) (3:Int)∧(((dP n (1:Int) (3:Int))=true→(0≤n∧n≤64)∧(dB ((1:Int)*2^(Int.toNat n))∧(((decide (((k+1:Nat):Int)<((1:Int)*2^(Int.toNat n))))=true→wX ((k+1:Nat):Int)∧out.map aE=out.map aE∧(eE ((k+1:Nat):Int)).map intD=(eE ((k+1:Nat):Int)).map intD∧(out.length+1)*24≤140737488355328∧dB (((k+1:Nat):Int)+(1:Int))∧ ∃(k' :Nat) (out' :List (List Int)),(((k+1:Nat):Int)+(1:Int))=((k' +1:Nat):Int)∧(out++[eE ((k+1:Nat):Int)]).map aE=out'.map aE∧(k' ≤((2:Int)^n.toNat - 1).toNat∧out' =qN k')∧((2:Int)^n.toNat - 1).toNat - k' <((2:Int)^n.toNat - 1).toNat - k)∧((decide (((k+1:Nat):Int)<((1:Int)*2^(Int.toNat n))))=false→out.map aE=(bO n).map aE∧True))))∧((dP n (1:Int) (3:Int))=false→out.map aE=(bO n).map aE∧True))) (by kernel_rfl) ?_
 have hb:=pS hn
 have hin:dP n 1 3=true:=aBg hn.1 hn.2
 refine ⟨⟨0,([]:List (List Int)),rfl,rfl,Nat.zero_le _,rfl⟩,fun k out ⟨hk,ho⟩=>?_⟩
 refine ⟨iK _ _ _,fun g8=>?_,fun g8=>?_⟩
 ·refine ⟨⟨by omega,by omega⟩,⟨by omega,by omega⟩,fun c0=>?_,fun c0=>?_⟩
  ·replace c0:=yq c0
   refine ⟨aGx ((k+1:Nat):Int) (by omega),rfl,rfl,by first | omega | (simp [ho,qN];omega),⟨by omega,by omega⟩,?_⟩
   exact ⟨(k+1),_,rfl,rfl,⟨by omega,by rw [ho,aEb]⟩,by omega⟩
  ·replace c0:=nq c0
   refine ⟨?_,trivial⟩
   ·first | (rw [ho,bO];congr 2;omega) | (exfalso;simp [hin] at c0;done) | (exfalso;simp [hin] at*;done)
 ·refine ⟨?_,trivial⟩
  ·first | (rw [ho,bO];congr 2;omega) | (exfalso;simp [hin] at c0;done) | (exfalso;simp [hin] at*;done)
end Go.Proofs.YtokkjaflmcjlhaaGreat
