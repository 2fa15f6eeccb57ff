/-
  Contracts and plain laws, joined: part 8.
-/
import Derived.Test.YtdfebigfnjfgpaaGreatQI6
namespace Go.Proofs.YtdfebigfnjfgpaaGreat
open Go.ChangeShapes Go.WideShapes Go.ChangeAt Go.RowKit
set_option linter.unusedVariables false
set_option linter.unusedSimpArgs false
set_option maxRecDepth 100000
set_option maxHeartbeats 4000000
theorem aKw {α:Type} (f:α→Nat) {x:α}: ∀{l:List α},x∈l→f x≤fZ f l
 | a::l,h=>by
   simp only [fZ,List.map_cons,List.sum_cons]
   rcases List.mem_cons.1 h with q | q
   ·subst q;omega
   ·have:=aKw f q
    simp only [fZ] at this
    omega
theorem aAI {l:List (List Int)} {i:Nat} {x:List Int} (h:l[i]? =some x):x.length≤cX l:=by
 have h1:cX l=l.length+fZ cG l:=rfl
 have h2:x.length≤fZ cG l:=aKw cG (List.mem_of_getElem? h)
 omega
def pgo (row:List Int):Bool→List (List Int)→List (List Int)
 | p,[]=>if p=true then [] else [row]
 | p,x::xs=>if 0<cE x row∧p=false then row::x::pgo row true xs else x::pgo row (p || decide (cE x row=0)) xs
def lN (row:List Int) (rows:List (List Int)):List (List Int):=pgo row false rows
theorem aDH {row x:List Int} {xs:List (List Int)} (h:0<cE x row):pgo row false (x::xs)=row::x::pgo row true xs:=by rw [pgo,if_pos ⟨h,rfl⟩]
theorem aDI {row x:List Int} {xs:List (List Int)} {p:Bool} (h:cE x row=0):pgo row p (x::xs)=x::pgo row true xs:=by rw [pgo,if_neg (by omega),h];simp
theorem aDJ {row x:List Int} {xs:List (List Int)}:pgo row true (x::xs)=x::pgo row true xs:=by rw [pgo,if_neg (by simp)];rfl
theorem aDK {row x:List Int} {xs:List (List Int)} {p:Bool} (h: ¬0<cE x row) (h' : ¬cE x row=0):pgo row p (x::xs)=x::pgo row p xs:=by rw [pgo,if_neg (by omega)];simp [h']
abbrev uX (rows:List (List Int)) (row:List Int):AV × List (Nat × Rs):=(.own 0,[(0,.arr 39 1 true ((lN row rows).map aA))])
abbrev aBA (rows:List (List Int)) (row:List Int):Prop:=cT Tryz.prog 217 [.one (.sl 39 1 (rows.map aA)),.one (.sl 3 1 (row.map intD))] (uX rows row).1 (uX rows row).2
theorem aKx (rows:List (List Int)) (row:List Int) (hl:rows.length≤1000000) (hc:cX rows≤1048576) (hr:row.length≤1048576):aBA rows row:=by
 refine aT bE aL Tryz.func217 (by kernel_rfl) (.loop (Nat × (List (List Int)) × Bool) (Q3 Nat (List (List Int)) Bool) [5,6,7,8,9,10,11,12,13,14,15,16,17,18,19,20,21,22,23,24,25,26,27,28,29,30,31,32,33,34,35,36,37,38,39,40,41,42,43,44] [900,3100,3300,3400,3500,3700,4200,4300,4400] (fun yy0=>[(7,vI (yy0.1:Int)),(5,.own 900),(6,vB yy0.2.2)]) (fun yy0=>[(900,some (.arr 39 1 true (yy0.2.1.map aA)))]) (fun yy0=>yy0.1≤rows.length∧yy0.2.1.length≤2*yy0.1∧yy0.2.1++pgo row yy0.2.2 (rows.drop yy0.1)=lN row rows) (fun yy0=>rows.length - yy0.1) (fun yy0=> .len rows.length<| .br (.elem _ aA rows (fun e18=> .call (vI (cE e18 row)) []<| .br (.br (.elem _ aA rows (fun e40=> .app Int intD ([]:List Int) e40<| .appx (List Int) aA yy0.2.1 (([]:List Int)++e40)<| .back [(900,4400)])) (.elem _ aA rows (fun e40=> .app Int intD ([]:List Int) e40<| .appx (List Int) aA yy0.2.1 (([]:List Int)++e40)<| .back [(900,4400)]))) (.br (.lit<| .lit<| .br (.app Int intD ([]:List Int) row<| .appx (List Int) aA yy0.2.1 (([]:List Int)++row)<| .elem _ aA rows (fun e40=> .app Int intD ([]:List Int) e40<| .appx (List Int) aA (yy0.2.1++[([]:List Int)++row]) (([]:List Int)++e40)<| .back [(900,4400)])) (.elem _ aA rows (fun e40=> .app Int intD ([]:List Int) e40<| .appx (List Int) aA yy0.2.1 (([]:List Int)++e40)<| .back [(900,4400)]))) (.elem _ aA rows (fun e40=> .app Int intD ([]:List Int) e40<| .appx (List Int) aA yy0.2.1 (([]:List Int)++e40)<| .back [(900,4400)]))))) (.br (.app Int intD ([]:List Int) row<| .appx (List Int) aA yy0.2.1 (([]:List Int)++row)<| .fin [(0,5200)]) (.fin [(0,900)])))) (p:=(rows.map aA).length≤9223372036854775807→(row.map intD).length≤9223372036854775807→(∃(k:Nat) (out:List (List Int)) (p:Bool),(0:Int)=(k:Int)∧(false)=p∧[]=out.map aA∧k≤rows.length∧out.length≤2*k∧out++pgo row p (rows.drop k)=lN row rows)∧ ∀(k:Nat) (out:List (List Int)) (p:Bool),(k≤rows.length∧out.length≤2*k∧out++pgo row p (rows.drop k)=lN row rows)→Lm aA rows∧(((decide ((k:Int)<((rows.length:Nat):Int)))=true→0≤(k:Int)∧Em aA rows k fun e18=>gO e18 row∧(((decide ((cE e18 row)=(0:Int)))=true→((decide ((0:Int)<(cE e18 row)))=true→0≤(k:Int)∧Em aA rows k fun e40=>[]=([]:List Int).map intD∧e40.map intD=e40.map intD∧(∀x,eL (intD x)=true)∧(([]:List Int).length+e40.length)*8≤140737488355328∧out.map aA=out.map aA∧(([]:List Int)++e40).map intD=(([]:List Int)++e40).map intD∧(out.length+1)*24≤140737488355328∧cC ((k:Int)+(1:Int))∧ ∃(k' :Nat) (out' :List (List Int)) (p' :Bool),((k:Int)+(1:Int))=(k' :Int)∧(true)=p' ∧(out++[([]:List Int)++e40]).map aA=out'.map aA∧(k' ≤rows.length∧out'.length≤2*k' ∧out' ++pgo row p' (rows.drop k')=lN row rows)∧rows.length - k' <rows.length - k)∧((decide ((0:Int)<(cE e18 row)))=false→0≤(k:Int)∧Em aA rows k fun e40=>[]=([]:List Int).map intD∧e40.map intD=e40.map intD∧(∀x,eL (intD x)=true)∧(([]:List Int).length+e40.length)*8≤140737488355328∧out.map aA=out.map aA∧(([]:List Int)++e40).map intD=(([]:List Int)++e40).map intD∧(out.length+1)*24≤140737488355328∧cC ((k:Int)+(1:Int))∧ ∃(k' :Nat) (out' :List (List Int)) (p' :Bool),((k:Int)+(1:Int))=(k' :Int)∧(true)=p' ∧(out++[([]:List Int)++e40]).map aA=out'.map aA∧(k' ≤rows.length∧out'.length≤2*k' ∧out' ++pgo row p' (rows.drop k')=lN row rows)∧rows.length - k' <rows.length - k))∧((decide ((cE e18 row)=(0:Int)))=false→((decide ((0:Int)<(cE e18 row)))=true→((!p)=true→[]=([]:List Int).map intD∧row.map intD=row.map intD∧(∀x,eL (intD x)=true)∧(([]:List Int).length+row.length)*8≤140737488355328∧out.map aA=out.map aA∧(([]:List Int)++row).map intD=(([]:List Int)++row).map intD∧(out.length+1)*24≤140737488355328∧0≤(k:Int)∧Em aA rows k fun e40=>[]=([]:List Int).map intD∧e40.map intD=e40.map intD∧(∀x,eL (intD x)=true)∧(([]:List Int).length+e40.length)*8≤140737488355328∧(out++[([]:List Int)++row]).map aA=(out++[([]:List Int)++row]).map aA∧(([]:List Int)++e40).map intD=(([]:List Int)++e40).map intD∧((out++[([]:List Int)++row]).length+1)*24≤140737488355328∧cC ((k:Int)+(1:Int))∧ ∃(k' :Nat) (out' :List (List Int)) (p' :Bool),((k:Int)+(1:Int))=(k' :Int)∧(true)=p' ∧((out++[([]:List Int)++row])++[([]:List Int)++e40]).map aA=out'.map aA∧(k' ≤rows.length∧out'.length≤2*k' ∧out' ++pgo row p' (rows.drop k')=lN row rows)∧rows.length - k' <rows.length - k)∧((!p)=false→0≤(k:Int)∧Em aA rows k fun e40=>[]=([]:List Int).map intD∧e40.map intD=e40.map intD∧(∀x,eL (intD x)=true)∧(([]:List Int).length+e40.length)*8≤140737488355328∧out.map aA=out.map aA∧(([]:List Int)++e40).map intD=(([]:List Int)++e40).map intD∧(out.length+1)*24≤140737488355328∧cC ((k:Int)+(1:Int))∧ ∃(k' :Nat) (out' :List (List Int)) (p' :Bool),((k:Int)+(1:Int))=(k' :Int)∧(p)=p' ∧(out++[([]:List Int)++e40]).map aA=out'.map aA∧(k' ≤rows.length∧out'.length≤2*k' ∧out' ++pgo row p' (rows.drop k')=lN row rows)∧rows.length - k' <rows.length - k))∧((decide ((0:Int)<(cE e18 row)))=false→0≤(k:Int)∧Em aA rows k fun e40=>[]=([]:List Int).map intD∧e40.map intD=e40.map intD∧(∀x,eL (intD x)=true)∧(([]:List Int).length+e40.length)*8≤140737488355328∧out.map aA=out.map aA∧(([]:List Int)++e40).map intD=(([]:List Int)++e40).map intD∧(out.length+1)*24≤140737488355328∧cC ((k:Int)+(1:Int))∧ ∃(k' :Nat) (out' :List (List Int)) (p' :Bool),((k:Int)+(1:Int))=(k' :Int)∧(p)=p' ∧(out++[([]:List Int)++e40]).map aA=out'.map aA∧(k' ≤rows.length∧out'.length≤2*k' ∧out' ++pgo row p' (rows.drop k')=lN row rows)∧rows.length - k' <rows.length - k))))∧((decide ((k:Int)<((rows.length:Nat):Int)))=false→((!p)=true→[]=([]:List Int).map intD∧row.map intD=row.map intD∧(∀x,eL (intD x)=true)∧(([]:List Int).length+row.length)*8≤140737488355328∧out.map aA=out.map aA∧(([]:List Int)++row).map intD=(([]:List Int)++row).map intD∧(out.length+1)*24≤140737488355328∧(out++[([]:List Int)++row]).map aA=(lN row rows).map aA∧True)∧((!p)=false→out.map aA=(lN row rows).map aA∧True)))) (by kernel_rfl) ?_
 intro n0 n1
 simp only [List.length_map] at n0 n1
 refine ⟨⟨0,([]:List (List Int)),false,rfl,rfl,rfl,Nat.zero_le _,by simp,rfl⟩,fun k out p ⟨hk,ho,hv⟩=>?_⟩
 refine ⟨List.length_map _,fun c0=>?_,fun c0=>?_⟩
 ·replace c0:=yq c0
  refine ⟨by omega,rfl,by omega,fun e18 h18=>?_⟩
  have hsz:=aAI h18
  refine ⟨jZ _ _,fun c1=>?_,fun c1=>?_⟩
  ·replace c1:=yq c1
   refine ⟨fun g26=>?_,fun g26=>?_⟩
   ·replace g26:=yq g26
    refine ⟨by omega,rfl,by omega,fun e40 h40=>?_⟩
    obtain rfl:=(aY h18 h40).symm
    refine ⟨rfl,rfl,fun _=>rfl,by first | omega | (simp;omega),?_⟩
    refine ⟨rfl,rfl,by first | omega | (simp;omega),⟨by omega,by omega⟩,?_⟩
    exact ⟨k+1,_,_,rfl,rfl,rfl,⟨by omega,by simp;omega,by rw [←hv,mF h18];first | (rw [aDI c1];simp;done) | (subst c2;rw [aDJ];simp;done) | (subst c2;rw [aDH g26];simp;done) | (rw [aDK g26 c1];simp;done)⟩,by omega⟩
   ·replace g26:=nq g26
    refine ⟨by omega,rfl,by omega,fun e40 h40=>?_⟩
    obtain rfl:=(aY h18 h40).symm
    refine ⟨rfl,rfl,fun _=>rfl,by first | omega | (simp;omega),?_⟩
    refine ⟨rfl,rfl,by first | omega | (simp;omega),⟨by omega,by omega⟩,?_⟩
    exact ⟨k+1,_,_,rfl,rfl,rfl,⟨by omega,by simp;omega,by rw [←hv,mF h18];first | (rw [aDI c1];simp;done) | (subst c2;rw [aDJ];simp;done) | (subst c2;rw [aDH g26];simp;done) | (rw [aDK g26 c1];simp;done)⟩,by omega⟩
  ·replace c1:=nq c1
   refine ⟨fun g26=>?_,fun g26=>?_⟩
   ·replace g26:=yq g26
    refine ⟨fun c2=>?_,fun c2=>?_⟩
    ·replace c2:=nt c2
     refine ⟨rfl,rfl,fun _=>rfl,by first | omega | (simp;omega),?_⟩
     refine ⟨rfl,rfl,by first | omega | (simp;omega),by omega,rfl,by omega,fun e40 h40=>?_⟩
     obtain rfl:=(aY h18 h40).symm
     refine ⟨rfl,rfl,fun _=>rfl,by first | omega | (simp;omega),?_⟩
     refine ⟨rfl,rfl,by first | omega | (simp;omega),⟨by omega,by omega⟩,?_⟩
     exact ⟨k+1,_,_,rfl,rfl,rfl,⟨by omega,by simp;omega,by rw [←hv,mF h18];first | (rw [aDI c1];simp;done) | (subst c2;rw [aDJ];simp;done) | (subst c2;rw [aDH g26];simp;done) | (rw [aDK g26 c1];simp;done)⟩,by omega⟩
    ·replace c2:=nf c2
     refine ⟨by omega,rfl,by omega,fun e40 h40=>?_⟩
     obtain rfl:=(aY h18 h40).symm
     refine ⟨rfl,rfl,fun _=>rfl,by first | omega | (simp;omega),?_⟩
     refine ⟨rfl,rfl,by first | omega | (simp;omega),⟨by omega,by omega⟩,?_⟩
     exact ⟨k+1,_,_,rfl,rfl,rfl,⟨by omega,by simp;omega,by rw [←hv,mF h18];first | (rw [aDI c1];simp;done) | (subst c2;rw [aDJ];simp;done) | (subst c2;rw [aDH g26];simp;done) | (rw [aDK g26 c1];simp;done)⟩,by omega⟩
   ·replace g26:=nq g26
    refine ⟨by omega,rfl,by omega,fun e40 h40=>?_⟩
    obtain rfl:=(aY h18 h40).symm
    refine ⟨rfl,rfl,fun _=>rfl,by first | omega | (simp;omega),?_⟩
    refine ⟨rfl,rfl,by first | omega | (simp;omega),⟨by omega,by omega⟩,?_⟩
    exact ⟨k+1,_,_,rfl,rfl,rfl,⟨by omega,by simp;omega,by rw [←hv,mF h18];first | (rw [aDI c1];simp;done) | (subst c2;rw [aDJ];simp;done) | (subst c2;rw [aDH g26];simp;done) | (rw [aDK g26 c1];simp;done)⟩,by omega⟩
 ·replace c0:=nq c0
  refine ⟨fun c3=>?_,fun c3=>?_⟩
  ·replace c3:=nt c3
   refine ⟨rfl,rfl,fun _=>rfl,by first | omega | (simp;omega),?_⟩
   refine ⟨rfl,rfl,by first | omega | (simp;omega),?_,trivial⟩
   ·rw [←hv,xU (by omega),pgo];simp [c3]
  ·replace c3:=nf c3
   refine ⟨?_,trivial⟩
   ·rw [←hv,xU (by omega),pgo];simp [c3]
theorem aFy {row:List Int}: ∀xs:List (List Int),pgo row true xs=xs
 | []=>rfl
 | x::xs=>by rw [aDJ,aFy xs]
theorem aCM {row:List Int}:lN row []= [row]:=rfl
theorem aCN {row x:List Int} {xs:List (List Int)} (h:0<cE x row):lN row (x::xs)=row::x::xs:=by rw [lN,aDH h,aFy]
theorem aCO {row x:List Int} {xs:List (List Int)} (h:cE x row=0):lN row (x::xs)=x::xs:=by rw [lN,aDI h,aFy]
theorem aCP {row x:List Int} {xs:List (List Int)} (h: ¬0<cE x row) (h' : ¬cE x row=0):lN row (x::xs)=x::lN row xs:=by rw [lN,aDK h h',lN]
theorem aFz {row y:List Int}: ∀{xs:List (List Int)},y∈lN row xs↔y=row∨y∈xs
 | []=>by simp [aCM]
 | x::xs=>by
   by_cases h:0<cE x row
   ·rw [aCN h];simp
   ·by_cases h' :cE x row=0
    ·rw [aCO h',fH.1 h']
     constructor
     ·exact Or.inr
     ·rintro (rfl | q)
      ·simp
      ·exact q
    ·rw [aCP h h',List.mem_cons,List.mem_cons,aFz]
     constructor
     ·rintro (q | q | q)
      ·exact .inr (.inl q)
      ·exact .inl q
      ·exact .inr (.inr q)
     ·rintro (q | q | q)
      ·exact .inr (.inl q)
      ·exact .inl q
      ·exact .inr (.inr q)
abbrev Asc (l:List (List Int)):Prop:=l.Pairwise fun a b=>cE a b<0
theorem aKy {row:List Int}: ∀{xs:List (List Int)},Asc xs→Asc (lN row xs)
 | [],_=>by rw [aCM];exact List.pairwise_singleton _ _
 | x::xs,hx=>by
   have h1:=List.pairwise_cons.1 hx
   by_cases h:0<cE x row
   ·rw [aCN h]
    refine List.pairwise_cons.2 ⟨fun y hy=>?_,hx⟩
    have hrx:cE row x<0:=qX.2 h
    rcases List.mem_cons.1 hy with rfl | q
    ·exact hrx
    ·exact mX hrx (h1.1 y q)
   ·by_cases h' :cE x row=0
    ·rw [aCO h'];exact hx
    ·rw [aCP h h']
     refine List.pairwise_cons.2 ⟨fun y hy=>?_,aKy h1.2⟩
     rcases aFz.1 hy with rfl | q
     ·omega
     ·exact h1.1 y q
theorem aKz {row:List Int}: ∀{xs:List (List Int)},(lN row xs).length≤xs.length+1
 | []=>by simp [aCM]
 | x::xs=>by
   by_cases h:0<cE x row
   ·rw [aCN h];simp
   ·by_cases h' :cE x row=0
    ·rw [aCO h'];simp
    ·rw [aCP h h']
     have:=aKz (row:=row) (xs:=xs)
     simp only [List.length_cons];omega
def cV (l:List (List Int)):List (List Int):=l.foldl (fun acc x=>lN x acc) []
theorem sR (l:List (List Int)): ∀acc,Asc acc→Asc (l.foldl (fun acc x=>lN x acc) acc)∧(∀y,y∈l.foldl (fun acc x=>lN x acc) acc↔y∈acc∨y∈l)∧(l.foldl (fun acc x=>lN x acc) acc).length≤acc.length+l.length:=by
 induction l with
 | nil=>intro acc h;simp [h]
 | cons x l ih=>
   intro acc h
   obtain ⟨h1,h2,h3⟩:=ih _ (aKy (row:=x) h)
   refine ⟨h1,fun y=>?_,?_⟩
   ·rw [List.foldl_cons,h2,aFz,List.mem_cons]
    constructor
    ·rintro ((q | q) | q)
     ·exact .inr (.inl q)
     ·exact .inl q
     ·exact .inr (.inr q)
    ·rintro (q | q | q)
     ·exact .inl (.inr q)
     ·exact .inl (.inl q)
     ·exact .inr q
   ·have:=aKz (row:=x) (xs:=acc)
    rw [List.foldl_cons,List.length_cons];omega
theorem aCQ {l:List (List Int)} {x:List Int}:cV (l++[x])=lN x (cV l):=by simp [cV,List.foldl_append]
theorem aEy: ∀{l m:List (List Int)},Asc l→Asc m→(∀x,x∈l↔x∈m)→l=m
 | [],[],_,_,_=>rfl
 | [],b::m,_,_,h=>by have:=(h b).2 (by simp);simp at this
 | a::l,[],_,_,h=>by have:=(h a).1 (by simp);simp at this
 | a::l,b::m,hl,hm,h=>by
   have hl' :=List.pairwise_cons.1 hl
   have hm' :=List.pairwise_cons.1 hm
   have hab:a=b:=by
    rcases List.mem_cons.1 ((h a).1 (by simp)) with q | q
    ·exact q
    ·rcases List.mem_cons.1 ((h b).2 (by simp)) with r | r
     ·exact r.symm
     ·have h1:=hm'.1 a q
      have h2:=hl'.1 b r
      have:=mX h1 h2
      rw [aAF] at this;omega
   subst hab
   congr 1
   refine aEy hl'.2 hm'.2 fun x=>⟨fun hx=>?_,fun hx=>?_⟩
   ·rcases List.mem_cons.1 ((h x).1 (by simp [hx])) with q | q
    ·subst q;have:=hl'.1 _ hx;rw [aAF] at this;omega
    ·exact q
   ·rcases List.mem_cons.1 ((h x).2 (by simp [hx])) with q | q
    ·subst q;have:=hm'.1 _ hx;rw [aAF] at this;omega
    ·exact q
theorem aGA {s:List (List Int)} {i:Nat}:i∈nY s↔i<s.length∧(i=0∨ ¬s.getD i []=s.getD (i - 1) []):=by
 rw [nY,List.mem_filter,List.mem_range]
 simp [aJ9]
theorem aIh (s:List (List Int)): ∀n,n<s.length→ ∃i,i∈nY s∧s.getD i []=s.getD n []
 | 0,h=>⟨0,aGA.2 ⟨h,.inl rfl⟩,rfl⟩
 | n+1,h=>by
   by_cases e:s.getD (n+1) []=s.getD n []
   ·obtain ⟨i,h1,h2⟩:=aIh s n (by omega)
    exact ⟨i,h1,by rw [h2,e]⟩
   ·exact ⟨n+1,aGA.2 ⟨h,.inr e⟩,rfl⟩
theorem aQh {s:List (List Int)} {x:List Int}:x∈gK s↔x∈s:=by
 constructor
 ·intro h
  obtain ⟨i,hi,rfl⟩:=List.mem_map.1 h
  obtain ⟨y,hy⟩:=dG (aNR hi)
  rw [bC hy];exact List.mem_of_getElem? hy
 ·intro h
  obtain ⟨n,hn,hx⟩:=List.mem_iff_getElem.1 h
  obtain ⟨i,h1,h2⟩:=aIh s n hn
  refine List.mem_map.2 ⟨i,h1,?_⟩
  rw [h2,←hx];simp [hn]
theorem aQi {s:List (List Int)} (hs:s.Pairwise (fun a b=>leR a b=true)):Asc (gK s):=by
 rw [gK,Asc,List.pairwise_map]
 have h0:(nY s).Pairwise (· < ·):=List.Pairwise.filter _ List.pairwise_lt_range
 refine List.Pairwise.imp_of_mem ?_ h0
 intro i j hi hj hij
 have h1:=aGA.1 hj
 have hp:=List.pairwise_iff_getElem.1 hs
 have hg: ∀a b,a<b→b<s.length→leR (s.getD a []) (s.getD b [])=true:=by
  intro a b hab hb
  have:=hp a b (by omega) hb hab
  simpa [hb,show a<s.length by omega] using this
 have h2:=hg (j - 1) j (by omega) h1.1
 rw [leR,decide_eq_true_eq] at h2
 have h3:cE (s.getD (j - 1) []) (s.getD j [])<0:=by
  have: ¬cE (s.getD (j - 1) []) (s.getD j [])=0:=fun q=>by
   have:=fH.1 q
   rcases h1.2 with r | r
   ·omega
   ·exact r this.symm
  omega
 by_cases e:i=j - 1
 ·rw [e];exact h3
 ·have h4:=hg i (j - 1) (by omega) (by omega)
  rw [leR,decide_eq_true_eq] at h4
  by_cases z:cE (s.getD i []) (s.getD (j - 1) [])=0
  ·rw [fH.1 z];exact h3
  ·exact mX (by omega) h3
theorem sS (l:List (List Int)):cV l=gK (dT l):=by
 obtain ⟨h1,h2,_⟩:=sR l [] List.Pairwise.nil
 exact aEy h1 (aQi (aFt l)) fun x=>by
  have h2' :=h2 x
  rw [show l.foldl (fun acc x=>lN x acc) []=cV l from rfl] at h2'
  rw [h2',aQh,(aAx l).mem_iff];simp
theorem aHj {l:List (List Int)} {m:Nat} (h: ∀x∈l,x.length≤m):(cV l).length≤l.length∧cX (cV l)≤l.length+l.length*m:=by
 obtain ⟨_,h2,h3⟩:=sR l [] List.Pairwise.nil
 have h4:(cV l).length≤l.length:=by
  rw [List.length_nil,Nat.zero_add] at h3
  exact h3
 have:=aCL (l:=cV l) (m:=m) fun x hx=>h x (by simpa using (h2 x).1 hx)
 have:=Nat.mul_le_mul_right m h4
 exact ⟨h4,by omega⟩
theorem aJa {t:aV} {cols:List Int} {j:Nat} {e:List Int} (h:t.rows[j]? =some e):(lG t cols)[j]? =some (fK e cols).1:=by simp [lG,h]
theorem aJb {t:aV} {cols:List Int} {k:Nat} (h:(aO t&&dP (t.arity - 1) cols)=true):(cV ((lG t cols).take k)).length≤8∧cX (cV ((lG t cols).take k))≤64:=by
 have h0:=h
 rw [Bool.and_eq_true] at h
 have ha:=cN h.1
 have hc:=aCK h.2 (by omega)
 have hl:(lG t cols).length=t.rows.length:=List.length_map _
 have:=aHj (l:=(lG t cols).take k) (m:=3) fun r hr=>by
  obtain ⟨q,_,rfl⟩:=List.mem_map.1 (List.mem_of_mem_take hr)
  have:=aFr q cols
  omega
 have h5:((lG t cols).take k).length≤8:=by simp;omega
 omega
abbrev aBB (t:aV) (cols:List Int):AV × List (Nat × Rs):=(.tup [.own 0,.own 1],[(0,.arr 39 1 true (((eR t cols).1).map aA)),(1,.arr 3 1 true (((eR t cols).2).map intD))])
abbrev aGB (t:aV) (cols:List Int):Prop:=cT Tryz.prog 200 [.agg [.str t.name,.int .i64 t.arity,.sl 39 1 (t.rows.map aA)],.one (.sl 3 1 (cols.map intD))] (aBB t cols).1 (aBB t cols).2
theorem aQj (t:aV) (cols:List Int) (hl:cols.length≤1048576):aGB t cols:=by
 refine aT bE aL Tryz.func200 (by kernel_rfl) (.call (vB (aO t&&dP (t.arity - 1) cols)) []<| .br (.fin [(0,1600),(1,1700)]) (.loop (Nat × (List (List Int))) (Q2 Nat (List (List Int))) [6,8,9,10,16,24,25,26,27,28,29,30,31,32,33,34,35,36,37,38,39,40,41,42,43] [1600,3800,4300] (fun yy0=>[(8,vI (yy0.1:Int)),(6,.own 1600)]) (fun yy0=>[(1600,some (.arr 39 1 true (yy0.2.map aA)))]) (fun yy0=>yy0.1≤t.rows.length∧yy0.2=cV ((lG t cols).take yy0.1)) (fun yy0=>t.rows.length - yy0.1) (fun yy0=> .len t.rows.length<| .br (.elem _ aA t.rows (fun e35=>bV (oV e35 cols)<| bV (uX yy0.2 ((fK e35 cols).1))<| .back [(1600,4300)])) (.loop (Nat × (List Int)) (Q2 Nat (List Int)) [7,11,12,13,14,15,17,44,45,46,47,48,49,50,51,52,53,54,55,56,57,58,59,60,61,62,63,64,65,66,67,68,69,70,71,72,73,74,75,76,77,78,79] [1700,6400,7800,7900] (fun yy1=>[(11,vI (yy1.1:Int)),(7,.own 1700)]) (fun yy1=>[(1700,some (.arr 3 1 true (yy1.2.map intD)))]) (fun yy1=>yy1.1≤yy0.2.length∧yy1.2=(yy0.2.take yy1.1).map (jL (lG t cols))) (fun yy1=>yy0.2.length - yy1.1) (fun yy1=> .len yy0.2.length<| .br (.loop (Nat × Int) (Q2 Nat Int) [12,13,14,15,50,51,52,53,54,55,56,57,58,59,60,61,62,63,64,65,66,67,68,69,70,71,72,73,74,75] [6400] (fun yy2=>[(12,vI yy2.2),(13,vI (yy2.1:Int))]) (fun yy2=>[]) (fun yy2=>yy2.1≤t.rows.length∧yy2.2=jL ((lG t cols).take yy2.1) (yy0.2.getD yy1.1 [])) (fun yy2=>t.rows.length - yy2.1) (fun yy2=> .len t.rows.length<| .br (.elem _ aA t.rows (fun e61=>bV (oV e61 cols)<| .len yy0.2.length<| .elem _ aA yy0.2 (fun e71=> .call (vI (cE ((fK e61 cols).1) e71)) []<| .br (.back []) (.back [])))) (.app Int intD yy1.2 ([yy2.2]:List Int)<| .back [(1700,7900)]))) (.fin [(0,1600),(1,1700)])))))) (p:=(t.rows.map aA).length≤9223372036854775807→(cols.map intD).length≤9223372036854775807→yB t cols∧(((!(aO t&&dP (t.arity - 1) cols))=true→[]=((eR t cols).1).map aA∧[]=((eR t cols).2).map intD∧True)∧((!(aO t&&dP (t.arity - 1) cols))=false→(∃(k:Nat) (out:List (List Int)),(0:Int)=(k:Int)∧[]=out.map aA∧k≤t.rows.length∧out=cV ((lG t cols).take k))∧ ∀(k:Nat) (out:List (List Int)),(k≤t.rows.length∧out=cV ((lG t cols).take k))→Lm aA t.rows∧(((decide ((k:Int)<((t.rows.length:Nat):Int)))=true→0≤(k:Int)∧Em aA t.rows k fun e35=>rR e35 cols∧aBA out ((fK e35 cols).1)∧cC ((k:Int)+(1:Int))∧ ∃(k' :Nat) (out' :List (List Int)),((k:Int)+(1:Int))=(k' :Int)∧(lN ((fK e35 cols).1) out).map aA=out'.map aA∧(k' ≤t.rows.length∧out' =cV ((lG t cols).take k'))∧t.rows.length - k' <t.rows.length - k)∧((decide ((k:Int)<((t.rows.length:Nat):Int)))=false→(∃(i:Nat) (c:List Int),(0:Int)=(i:Int)∧[]=c.map intD∧i≤out.length∧c=(out.take i).map (jL (lG t cols)))∧ ∀(i:Nat) (c:List Int),(i≤out.length∧c=(out.take i).map (jL (lG t cols)))→Lm aA out∧(((decide ((i:Int)<((out.length:Nat):Int)))=true→(∃(j:Nat) (z:Int),(0:Int)=z∧(0:Int)=(j:Int)∧j≤t.rows.length∧z=jL ((lG t cols).take j) (out.getD i []))∧ ∀(j:Nat) (z:Int),(j≤t.rows.length∧z=jL ((lG t cols).take j) (out.getD i []))→Lm aA t.rows∧(((decide ((j:Int)<((t.rows.length:Nat):Int)))=true→0≤(j:Int)∧Em aA t.rows j fun e61=>rR e61 cols∧(0≤(i:Int)∧Lm aA out∧(i:Int)<((out.length:Nat):Int)∧Em aA out i fun e71=>gO ((fK e61 cols).1) e71∧(((decide ((cE ((fK e61 cols).1) e71)=(0:Int)))=true→cC (z+(1:Int))∧cC ((j:Int)+(1:Int))∧ ∃(j' :Nat) (z' :Int),(z+(1:Int))=z' ∧((j:Int)+(1:Int))=(j' :Int)∧(j' ≤t.rows.length∧z' =jL ((lG t cols).take j') (out.getD i []))∧t.rows.length - j' <t.rows.length - j)∧((decide ((cE ((fK e61 cols).1) e71)=(0:Int)))=false→cC ((j:Int)+(1:Int))∧ ∃(j' :Nat) (z' :Int),z=z' ∧((j:Int)+(1:Int))=(j' :Int)∧(j' ≤t.rows.length∧z' =jL ((lG t cols).take j') (out.getD i []))∧t.rows.length - j' <t.rows.length - j))))∧((decide ((j:Int)<((t.rows.length:Nat):Int)))=false→c.map intD=c.map intD∧[[.int .i64 z]]=([z]:List Int).map intD∧(∀x,eL (intD x)=true)∧(c.length+([z]:List Int).length)*8≤140737488355328∧cC ((i:Int)+(1:Int))∧ ∃(i' :Nat) (c' :List Int),((i:Int)+(1:Int))=(i' :Int)∧(c++[z]).map intD=c'.map intD∧(i' ≤out.length∧c' =(out.take i').map (jL (lG t cols)))∧out.length - i' <out.length - i)))∧((decide ((i:Int)<((out.length:Nat):Int)))=false→out.map aA=((eR t cols).1).map aA∧c.map intD=((eR t cols).2).map intD∧True))))))) (by kernel_rfl) ?_
 intro n0 n1
 simp only [List.length_map] at n0 n1
 refine ⟨aIa t _,fun c0=>?_,fun c0=>?_⟩
 ·replace c0:=nt c0
  have hbad:(aO t&&dP (t.arity - 1) cols)=false:=by simpa using c0
  refine ⟨?_,?_,trivial⟩
  ·first | (rw [mS hbad]<;>rfl) | (rw [fL hok,hV]<;>rfl) | (rw [fL hok,hC]<;>rfl)
  ·first | (rw [mS hbad]<;>rfl) | (rw [fL hok,hV]<;>rfl) | (rw [fL hok,hC]<;>rfl)
 ·replace c0:=nf c0
  have hok:(aO t&&dP (t.arity - 1) cols)=true:=by simpa using c0
  obtain ⟨hs1,hs2⟩:=aFx hok
  refine ⟨⟨0,([]:List (List Int)),rfl,rfl,Nat.zero_le _,rfl⟩,fun k out ⟨hk,ho⟩=>?_⟩
  refine ⟨List.length_map _,fun c1=>?_,fun c1=>?_⟩
  ·replace c1:=yq c1
   have hp:=aJb (k:=k) hok
   rw [←ho] at hp
   refine ⟨by omega,rfl,by omega,fun e35 h35=>?_⟩
   have hsl:=aFr e35 cols
   refine ⟨aCI _ _ (by omega),aKx out ((fK e35 cols).1) (by omega) (by omega) (by omega),⟨by omega,by omega⟩,?_⟩
   exact ⟨k+1,_,rfl,rfl,⟨by omega,by rw [ho,bO (aJa h35),aCQ]⟩,by omega⟩
  ·replace c1:=nq c1
   have hV:out=aMR t cols:=by rw [ho,List.take_of_length_le (by simp [lG];omega),sS];rfl
   have hp:=aJb (k:=k) hok
   rw [←ho] at hp
   refine ⟨⟨0,([]:List Int),rfl,rfl,Nat.zero_le _,rfl⟩,fun i c ⟨hi,hc⟩=>?_⟩
   refine ⟨List.length_map _,fun c2=>?_,fun c2=>?_⟩
   ·replace c2:=yq c2
    obtain ⟨g,hg⟩:=dG (l:=out) (k:=i) (by omega)
    refine ⟨⟨0,0,rfl,rfl,Nat.zero_le _,rfl⟩,fun j z ⟨hj,hz⟩=>?_⟩
    refine ⟨List.length_map _,fun c3=>?_,fun c3=>?_⟩
    ·replace c3:=yq c3
     refine ⟨by omega,rfl,by omega,fun e61 h61=>?_⟩
     refine ⟨aCI _ _ (by omega),by omega,List.length_map _,by omega,rfl,by omega,fun e71 h71=>?_⟩
     have hg71:out.getD i []=e71:=bC h71
     refine ⟨jZ _ _,fun c4=>?_,fun c4=>?_⟩
     ·replace c4:=yq c4
      have hcl:=aQd ((lG t cols).take j) e71
      rw [←hg71,←hz] at hcl
      have hjl:((lG t cols).take j).length≤8:=by simp;omega
      refine ⟨⟨by omega,by omega⟩,⟨by omega,by omega⟩,?_⟩
      exact ⟨j+1,_,rfl,rfl,⟨by omega,by rw [hz,hg71,aNS (aJa h61) (fH.1 c4).symm]⟩,by omega⟩
     ·replace c4:=nq c4
      refine ⟨⟨by omega,by omega⟩,?_⟩
      exact ⟨j+1,_,rfl,rfl,⟨by omega,by rw [hz,hg71,aQc (aJa h61) (fun q=>c4 (fH.2 q.symm))]⟩,by omega⟩
    ·replace c3:=nq c3
     refine ⟨rfl,rfl,fun _=>rfl,by first | omega | (simp;omega) | (rw [hc];simp;omega),?_⟩
     refine ⟨⟨by omega,by omega⟩,?_⟩
     exact ⟨i+1,_,rfl,rfl,⟨by omega,by rw [hc,hz,bO hg,bC hg,List.map_append,List.take_of_length_le (l:=lG t cols) (i:=j) (by simp [lG];omega)];rfl⟩,by omega⟩
   ·replace c2:=nq c2
    have hC:c=aKu t cols:=by rw [hc,List.take_of_length_le (by omega),hV];rfl
    refine ⟨?_,?_,trivial⟩
    ·first | (rw [mS hbad]<;>rfl) | (rw [fL hok,hV]<;>rfl) | (rw [fL hok,hC]<;>rfl)
    ·first | (rw [mS hbad]<;>rfl) | (rw [fL hok,hV]<;>rfl) | (rw [fL hok,hC]<;>rfl)
def gL (s:Int) (v:Nat):Bool:=decide (cF .and .i64 (s/2^v) 1=1)
def lV (s:Int) (k:Nat):List Int:=((List.range k).filter (gL s)).map fun v:Nat=>(v:Int)
def eZ (s:Int):List Int:=lV s 3
theorem tV {s:Int} {k:Nat} (h:cF .and .i64 (s/2^k) 1=1):lV s (k+1)=lV s k++[(k:Int)]:=by
 rw [lV,List.range_succ,List.filter_append,List.map_append]
 simp [lV,gL,h]
theorem yD {s:Int} {k:Nat} (h: ¬cF .and .i64 (s/2^k) 1=1):lV s (k+1)=lV s k:=by
 rw [lV,List.range_succ,List.filter_append,List.map_append]
 simp [lV,gL,h]
theorem aOU {s:Int} {k:Nat} (hs:0≤s∧s≤7) (hk:k≤3) (h:s/2^k=0):lV s k=eZ s:=by
 have h1:s=0∨s=1∨s=2∨s=3∨s=4∨s=5∨s=6∨s=7:=by omega
 have h2:k=0∨k=1∨k=2∨k=3:=by omega
 rcases h2 with rfl | rfl | rfl | rfl<;>rcases h1 with rfl | rfl | rfl | rfl | rfl | rfl | rfl | rfl<;>first | rfl | (revert h;decide)
theorem aSm {s:Int} {k:Nat} (hs:0≤s∧s≤7) (hk:k≤3) (h: ¬s/2^k=0):k<3:=by
 by_cases q:k=3
 ·subst q;omega
 ·omega
theorem tW (s:Int) (k:Nat):(lV s k).length≤k:=by
 rw [lV,List.length_map]
 have:=(List.filter_sublist (l:=List.range k) (p:=gL s)).length_le
 rw [List.length_range] at this
 exact this
theorem qY {n:Int} (h:1≤n∧n≤3):2≤(2:Int)^n.toNat∧(2:Int)^n.toNat≤8:=by
 have:n=1∨n=2∨n=3:=by omega
 rcases this with rfl | rfl | rfl<;>decide
def rT (k:Nat):List (List Int):=(List.range k).map fun i=>eZ ((i+1:Nat):Int)
def bW (n:Int):List (List Int):=rT ((2:Int)^n.toNat - 1).toNat
theorem aGC (k:Nat):rT (k+1)=rT k++[eZ ((k+1:Nat):Int)]:=by rw [rT,List.range_succ,List.map_append];rfl
abbrev sT (s:Int):AV × List (Nat × Rs):=(.own 0,[(0,.arr 3 1 true ((eZ s).map intD))])
abbrev yE (s:Int):Prop:=cT Tryz.prog 153 [.one (.int .i64 s)] (sT s).1 (sT s).2
theorem aIi (s:Int) (hs:0≤s∧s≤7):yE s:=by
 refine aT bE aL Tryz.func153 (by kernel_rfl) (.loop (Nat × (List Int)) (Q2 Nat (List Int)) [3,4,5,6,7,8,9,10,11,12,13,14,15,16,17,18,19,20] [500,1900,2000] (fun yy0=>[(4,vI (yy0.1:Int)),(3,.own 500)]) (fun yy0=>[(500,some (.arr 3 1 true (yy0.2.map intD)))]) (fun yy0=>yy0.1≤3∧yy0.2=lV s yy0.1) (fun yy0=>3 - yy0.1) (fun yy0=> .br (.br (.app Int intD yy0.2 ([(yy0.1:Int)]:List Int)<| .back [(500,2000)]) (.back [(500,500)])) (.fin [(0,500)]))) (p:=(∃(k:Nat) (out:List Int),(0:Int)=(k:Int)∧[]=out.map intD∧k≤3∧out=lV s k)∧ ∀(k:Nat) (out:List Int),(k≤3∧out=lV s k)→(0≤(k:Int)∧(k:Int)≤64)∧(((!(decide ((s/2^k)=(0:Int))))=true→(0≤(k:Int)∧(k:Int)≤64)∧(((decide ((cF .and .i64 (s/2^k) (1:Int))=(1:Int)))=true→out.map intD=out.map intD∧[[.int .i64 (k:Int)]]=([(k:Int)]:List Int).map intD∧(∀x,eL (intD x)=true)∧(out.length+([(k:Int)]:List Int).length)*8≤140737488355328∧cC ((k:Int)+(1:Int))∧ ∃(k' :Nat) (out' :List Int),((k:Int)+(1:Int))=(k' :Int)∧(out++[(k:Int)]).map intD=out'.map intD∧(k' ≤3∧out' =lV s k')∧3 - k' <3 - k)∧((decide ((cF .and .i64 (s/2^k) (1:Int))=(1:Int)))=false→cC ((k:Int)+(1:Int))∧ ∃(k' :Nat) (out' :List Int),((k:Int)+(1:Int))=(k' :Int)∧out.map intD=out'.map intD∧(k' ≤3∧out' =lV s k')∧3 - k' <3 - k)))∧((!(decide ((s/2^k)=(0:Int))))=false→out.map intD=(eZ s).map intD∧True))) (by kernel_rfl) ?_
 refine ⟨⟨0,([]:List Int),rfl,rfl,by omega,rfl⟩,fun k out ⟨hk,ho⟩=>?_⟩
 refine ⟨⟨by omega,by omega⟩,fun c0=>?_,fun c0=>?_⟩
 ·replace c0:=nq (nt c0)
  have hk3:=aSm hs hk c0
  have hln:=tW s k
  refine ⟨⟨by omega,by omega⟩,fun c1=>?_,fun c1=>?_⟩
  ·replace c1:=yq c1
   refine ⟨rfl,rfl,fun _=>rfl,by first | omega | (simp [ho];omega),?_⟩
   refine ⟨⟨by omega,by omega⟩,?_⟩
   exact ⟨k+1,_,rfl,rfl,⟨by omega,by first | (rw [ho,tV c1];done) | (rw [ho,yD c1];done)⟩,by omega⟩
  ·replace c1:=nq c1
   refine ⟨⟨by omega,by omega⟩,?_⟩
   exact ⟨k+1,_,rfl,rfl,⟨by omega,by first | (rw [ho,tV c1];done) | (rw [ho,yD c1];done)⟩,by omega⟩
 ·replace c0:=yq (nf c0)
  refine ⟨?_,trivial⟩
  ·(rw [ho];exact congrArg _ (aOU hs hk c0))
abbrev sU (s:Int):AV × List (Nat × Rs):=(.own 0,[(0,.arr 3 1 true ((eZ s).map intD))])
abbrev yF (s:Int):Prop:=cT Tryz.prog 140 [.one (.int .i64 s)] (sU s).1 (sU s).2
theorem aIj (s:Int) (hs:0≤s∧s≤7):yF s:=by
 refine aT bE aL Tryz.func140 (by kernel_rfl) (.loop (Nat × (List Int)) (Q2 Nat (List Int)) [3,4,5,6,7,8,9,10,11,12,13,14,15,16,17,18] [500,1700,1800] (fun yy0=>[(4,vI (yy0.1:Int)),(3,.own 500)]) (fun yy0=>[(500,some (.arr 3 1 true (yy0.2.map intD)))]) (fun yy0=>yy0.1≤3∧yy0.2=lV s yy0.1) (fun yy0=>3 - yy0.1) (fun yy0=> .br (.br (.app Int intD yy0.2 ([(yy0.1:Int)]:List Int)<| .back [(500,1800)]) (.back [(500,500)])) (.fin [(0,500)]))) (p:=(∃(k:Nat) (out:List Int),(0:Int)=(k:Int)∧[]=out.map intD∧k≤3∧out=lV s k)∧ ∀(k:Nat) (out:List Int),(k≤3∧out=lV s k)→((decide ((k:Int)<(3:Int)))=true→(0≤(k:Int)∧(k:Int)≤64)∧(((decide ((cF .and .i64 (s/2^k) (1:Int))=(1:Int)))=true→out.map intD=out.map intD∧[[.int .i64 (k:Int)]]=([(k:Int)]:List Int).map intD∧(∀x,eL (intD x)=true)∧(out.length+([(k:Int)]:List Int).length)*8≤140737488355328∧cC ((k:Int)+(1:Int))∧ ∃(k' :Nat) (out' :List Int),((k:Int)+(1:Int))=(k' :Int)∧(out++[(k:Int)]).map intD=out'.map intD∧(k' ≤3∧out' =lV s k')∧3 - k' <3 - k)∧((decide ((cF .and .i64 (s/2^k) (1:Int))=(1:Int)))=false→cC ((k:Int)+(1:Int))∧ ∃(k' :Nat) (out' :List Int),((k:Int)+(1:Int))=(k' :Int)∧out.map intD=out'.map intD∧(k' ≤3∧out' =lV s k')∧3 - k' <3 - k)))∧((decide ((k:Int)<(3:Int)))=false→out.map intD=(eZ s).map intD∧True)) (by kernel_rfl) ?_
 refine ⟨⟨0,([]:List Int),rfl,rfl,by omega,rfl⟩,fun k out ⟨hk,ho⟩=>?_⟩
 refine ⟨fun c0=>?_,fun c0=>?_⟩
 ·replace c0:=yq c0
  skip
  have hln:=tW s k
  refine ⟨⟨by omega,by omega⟩,fun c1=>?_,fun c1=>?_⟩
  ·replace c1:=yq c1
   refine ⟨rfl,rfl,fun _=>rfl,by first | omega | (simp [ho];omega),?_⟩
   refine ⟨⟨by omega,by omega⟩,?_⟩
   exact ⟨k+1,_,rfl,rfl,⟨by omega,by first | (rw [ho,tV c1];done) | (rw [ho,yD c1];done)⟩,by omega⟩
  ·replace c1:=nq c1
   refine ⟨⟨by omega,by omega⟩,?_⟩
   exact ⟨k+1,_,rfl,rfl,⟨by omega,by first | (rw [ho,tV c1];done) | (rw [ho,yD c1];done)⟩,by omega⟩
 ·replace c0:=nq c0
  refine ⟨?_,trivial⟩
  ·(rw [ho];exact congrArg _ (by rw [eZ,show 3=k by omega]))
abbrev yG (n:Int):AV × List (Nat × Rs):=(.own 0,[(0,.arr 39 1 true ((bW n).map aA))])
abbrev aDg (n:Int):Prop:=cT Tryz.prog 203 [.one (.int .i64 n)] (yG n).1 (yG n).2
theorem aOV (n:Int) (hn:1≤n∧n≤3):aDg n:=by
 refine aT bE aL Tryz.func203 (by kernel_rfl) (.call (vB (eB n (1:Int) (3:Int))) []<| .br (.fin []) (.loop (Nat × (List (List Int))) (Q2 Nat (List (List Int))) [3,4,8,9,10,11,12,13,14,15,16,17,18,19] [800,1700,1800,1900] (fun yy0=>[(4,vI ((yy0.1+1:Nat):Int)),(3,.own 800)]) (fun yy0=>[(800,some (.arr 39 1 true (yy0.2.map aA)))]) (fun yy0=>yy0.1≤((2:Int)^n.toNat - 1).toNat∧yy0.2=rT yy0.1) (fun yy0=>((2:Int)^n.toNat - 1).toNat - yy0.1) (fun yy0=> .br (bV (sT ((yy0.1+1:Nat):Int))<| .appx (List Int) aA yy0.2 (eZ ((yy0.1+1:Nat):Int))<| .back [(800,1900)]) (.fin [(0,800)])))) (p:=fS n (1:Int) (3:Int)∧(((!(eB n (1:Int) (3:Int)))=true→[]=(bW n).map aA∧True)∧((!(eB n (1:Int) (3:Int)))=false→(∃(k:Nat) (out:List (List Int)),(1:Int)=((k+1:Nat):Int)∧[]=out.map aA∧k≤((2:Int)^n.toNat - 1).toNat∧out=rT k)∧ ∀(k:Nat) (out:List (List Int)),(k≤((2:Int)^n.toNat - 1).toNat∧out=rT k)→(0≤n∧n≤64)∧(cC ((1:Int)*2^(Int.toNat n))∧(((decide (((k+1:Nat):Int)<((1:Int)*2^(Int.toNat n))))=true→yE ((k+1:Nat):Int)∧out.map aA=out.map aA∧(eZ ((k+1:Nat):Int)).map intD=(eZ ((k+1:Nat):Int)).map intD∧(out.length+1)*24≤140737488355328∧cC (((k+1:Nat):Int)+(1:Int))∧ ∃(k' :Nat) (out' :List (List Int)),(((k+1:Nat):Int)+(1:Int))=((k' +1:Nat):Int)∧(out++[eZ ((k+1:Nat):Int)]).map aA=out'.map aA∧(k' ≤((2:Int)^n.toNat - 1).toNat∧out' =rT k')∧((2:Int)^n.toNat - 1).toNat - k' <((2:Int)^n.toNat - 1).toNat - k)∧((decide (((k+1:Nat):Int)<((1:Int)*2^(Int.toNat n))))=false→out.map aA=(bW n).map aA∧True)))))) (by kernel_rfl) ?_
 have hb:=qY hn
 have hin:eB n 1 3=true:=aAh hn.1 hn.2
 refine ⟨jQ _ _ _,fun c0=>?_,fun c0=>?_⟩
 ·replace c0:=nt c0
  refine ⟨?_,trivial⟩
  ·first | (rw [ho,bW];congr 2;omega) | (exfalso;simp [hin] at c0;done) | (exfalso;simp [hin] at*;done)
 ·replace c0:=nf c0
  refine ⟨⟨0,([]:List (List Int)),rfl,rfl,Nat.zero_le _,rfl⟩,fun k out ⟨hk,ho⟩=>?_⟩
  refine ⟨⟨by omega,by omega⟩,⟨by omega,by omega⟩,fun c1=>?_,fun c1=>?_⟩
  ·replace c1:=yq c1
   refine ⟨aIi ((k+1:Nat):Int) (by omega),rfl,rfl,by first | omega | (simp [ho,rT];omega),⟨by omega,by omega⟩,?_⟩
   exact ⟨(k+1),_,rfl,rfl,⟨by omega,by rw [ho,aGC]⟩,by omega⟩
  ·replace c1:=nq c1
   refine ⟨?_,trivial⟩
   ·first | (rw [ho,bW];congr 2;omega) | (exfalso;simp [hin] at c0;done) | (exfalso;simp [hin] at*;done)
abbrev yH (n:Int):AV × List (Nat × Rs):=(.own 0,[(0,.arr 39 1 true ((bW n).map aA))])
abbrev aDh (n:Int):Prop:=cT Tryz.prog 199 [.one (.int .i64 n)] (yH n).1 (yH n).2
theorem aOW (n:Int) (hn:1≤n∧n≤3):aDh n:=by
 refine aT bE aL Tryz.func199 (by kernel_rfl) (.loop (Nat × (List (List Int))) (Q2 Nat (List (List Int))) [3,4,5,6,7,8,9,10,11,12,13,14,15,16,17,18,19,20] [500,1800,1900,2000] (fun yy0=>[(4,vI ((yy0.1+1:Nat):Int)),(3,.own 500)]) (fun yy0=>[(500,some (.arr 39 1 true (yy0.2.map aA)))]) (fun yy0=>yy0.1≤((2:Int)^n.toNat - 1).toNat∧yy0.2=rT yy0.1) (fun yy0=>((2:Int)^n.toNat - 1).toNat - yy0.1) (fun yy0=> .call (vB (eB n (1:Int) (3:Int))) []<| .br (.lit<| .lit<| .lit<| .lit<| .br (bV (sU ((yy0.1+1:Nat):Int))<| .appx (List Int) aA yy0.2 (eZ ((yy0.1+1:Nat):Int))<| .back [(500,2000)]) (.fin [(0,500)])) (.fin [(0,500)]))) (p:=(∃(k:Nat) (out:List (List Int)),(1:Int)=((k+1:Nat):Int)∧[]=out.map aA∧k≤((2:Int)^n.toNat - 1).toNat∧out=rT k)∧ ∀(k:Nat) (out:List (List Int)),(k≤((2:Int)^n.toNat - 1).toNat∧out=rT k)→fT n (1:Int) (3:Int)∧(((eB n (1:Int) (3:Int))=true→(0≤n∧n≤64)∧(cC ((1:Int)*2^(Int.toNat n))∧(((decide (((k+1:Nat):Int)<((1:Int)*2^(Int.toNat n))))=true→yF ((k+1:Nat):Int)∧out.map aA=out.map aA∧(eZ ((k+1:Nat):Int)).map intD=(eZ ((k+1:Nat):Int)).map intD∧(out.length+1)*24≤140737488355328∧cC (((k+1:Nat):Int)+(1:Int))∧ ∃(k' :Nat) (out' :List (List Int)),(((k+1:Nat):Int)+(1:Int))=((k' +1:Nat):Int)∧(out++[eZ ((k+1:Nat):Int)]).map aA=out'.map aA∧(k' ≤((2:Int)^n.toNat - 1).toNat∧out' =rT k')∧((2:Int)^n.toNat - 1).toNat - k' <((2:Int)^n.toNat - 1).toNat - k)∧((decide (((k+1:Nat):Int)<((1:Int)*2^(Int.toNat n))))=false→out.map aA=(bW n).map aA∧True))))∧((eB n (1:Int) (3:Int))=false→out.map aA=(bW n).map aA∧True))) (by kernel_rfl) ?_
 have hb:=qY hn
 have hin:eB n 1 3=true:=aAh hn.1 hn.2
 refine ⟨⟨0,([]:List (List Int)),rfl,rfl,Nat.zero_le _,rfl⟩,fun k out ⟨hk,ho⟩=>?_⟩
 refine ⟨jR _ _ _,fun g8=>?_,fun g8=>?_⟩
 ·refine ⟨⟨by omega,by omega⟩,⟨by omega,by omega⟩,fun c0=>?_,fun c0=>?_⟩
  ·replace c0:=yq c0
   refine ⟨aIj ((k+1:Nat):Int) (by omega),rfl,rfl,by first | omega | (simp [ho,rT];omega),⟨by omega,by omega⟩,?_⟩
   exact ⟨(k+1),_,rfl,rfl,⟨by omega,by rw [ho,aGC]⟩,by omega⟩
  ·replace c0:=nq c0
   refine ⟨?_,trivial⟩
   ·first | (rw [ho,bW];congr 2;omega) | (exfalso;simp [hin] at c0;done) | (exfalso;simp [hin] at*;done)
 ·refine ⟨?_,trivial⟩
  ·first | (rw [ho,bW];congr 2;omega) | (exfalso;simp [hin] at c0;done) | (exfalso;simp [hin] at*;done)
end Go.Proofs.YtdfebigfnjfgpaaGreat
