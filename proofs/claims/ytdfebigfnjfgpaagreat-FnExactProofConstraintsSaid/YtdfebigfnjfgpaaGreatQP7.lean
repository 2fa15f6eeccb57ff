/-
  Contracts and plain laws, joined: part 8.
-/
import Derived.Test.YtdfebigfnjfgpaaGreatQP6
namespace Go.Proofs.YtdfebigfnjfgpaaGreat
open Go.ChangeShapes Go.WideShapes Go.ChangeAt Go.RowKit
set_option linter.unusedVariables false
set_option linter.unusedSimpArgs false
set_option maxRecDepth 100000
set_option maxHeartbeats 4000000
theorem aLj {α:Type} (f:α→Nat) {x:α}: ∀{l:List α},x∈l→f x≤bR f l
 | a::l,h=>by
   simp only [bR,List.map_cons,List.sum_cons]
   rcases List.mem_cons.1 h with q | q
   ·subst q;omega
   ·have:=aLj f q
    simp only [bR] at this
    omega
theorem aAl {l:List (List Int)} {i:Nat} {x:List Int} (h:l[i]? =some x):x.length≤cM l:=by
 have h1:cM l=l.length+bR bS l:=rfl
 have h2:x.length≤bR bS l:=aLj bS (List.mem_of_getElem? h)
 omega
def pgo (row:List Int):Bool→List (List Int)→List (List Int)
 | p,[]=>if p=true then [] else [row]
 | p,x::xs=>if 0<cG x row∧p=false then row::x::pgo row true xs else x::pgo row (p || decide (cG x row=0)) xs
def lO (row:List Int) (rows:List (List Int)):List (List Int):=pgo row false rows
theorem aDl {row x:List Int} {xs:List (List Int)} (h:0<cG x row):pgo row false (x::xs)=row::x::pgo row true xs:=by rw [pgo,if_pos ⟨h,rfl⟩]
theorem aDm {row x:List Int} {xs:List (List Int)} {p:Bool} (h:cG x row=0):pgo row p (x::xs)=x::pgo row true xs:=by rw [pgo,if_neg (by omega),h];simp
theorem aDn {row x:List Int} {xs:List (List Int)}:pgo row true (x::xs)=x::pgo row true xs:=by rw [pgo,if_neg (by simp)];rfl
theorem aDo {row x:List Int} {xs:List (List Int)} {p:Bool} (h: ¬0<cG x row) (h' : ¬cG x row=0):pgo row p (x::xs)=x::pgo row p xs:=by rw [pgo,if_neg (by omega)];simp [h']
abbrev wI (rows:List (List Int)) (row:List Int):AV × List (Nat × Rs):=(.own 0,[(0,.arr 39 1 true ((lO row rows).map aC))])
abbrev aBg (rows:List (List Int)) (row:List Int):Prop:=cX Tryz.prog 217 [.one (.sl 39 1 (rows.map aC)),.one (.sl 3 1 (row.map intD))] (wI rows row).1 (wI rows row).2
theorem aLk (rows:List (List Int)) (row:List Int) (hl:rows.length≤1000000) (hc:cM rows≤1048576) (hr:row.length≤1048576):aBg rows row:=by
 refine aX bG aR Tryz.func217 (by kernel_rfl) (.loop (Nat × (List (List Int)) × Bool) (Q3 Nat (List (List Int)) Bool) [5,6,7,8,9,10,11,12,13,14,15,16,17,18,19,20,21,22,23,24,25,26,27,28,29,30,31,32,33,34,35,36,37,38,39,40,41,42,43,44] [900,3100,3300,3400,3500,3700,4200,4300,4400] (fun yy0=>[(7,vI (yy0.1:Int)),(5,.own 900),(6,vB yy0.2.2)]) (fun yy0=>[(900,some (.arr 39 1 true (yy0.2.1.map aC)))]) (fun yy0=>yy0.1≤rows.length∧yy0.2.1.length≤2*yy0.1∧yy0.2.1++pgo row yy0.2.2 (rows.drop yy0.1)=lO row rows) (fun yy0=>rows.length - yy0.1) (fun yy0=> .len rows.length<| .br (.elem _ aC rows (fun e18=> .call (vI (cG e18 row)) []<| .br (.br (.elem _ aC rows (fun e40=> .app Int intD ([]:List Int) e40<| .appx (List Int) aC yy0.2.1 (([]:List Int)++e40)<| .back [(900,4400)])) (.elem _ aC rows (fun e40=> .app Int intD ([]:List Int) e40<| .appx (List Int) aC yy0.2.1 (([]:List Int)++e40)<| .back [(900,4400)]))) (.br (.lit<| .lit<| .br (.app Int intD ([]:List Int) row<| .appx (List Int) aC yy0.2.1 (([]:List Int)++row)<| .elem _ aC rows (fun e40=> .app Int intD ([]:List Int) e40<| .appx (List Int) aC (yy0.2.1++[([]:List Int)++row]) (([]:List Int)++e40)<| .back [(900,4400)])) (.elem _ aC rows (fun e40=> .app Int intD ([]:List Int) e40<| .appx (List Int) aC yy0.2.1 (([]:List Int)++e40)<| .back [(900,4400)]))) (.elem _ aC rows (fun e40=> .app Int intD ([]:List Int) e40<| .appx (List Int) aC yy0.2.1 (([]:List Int)++e40)<| .back [(900,4400)]))))) (.br (.app Int intD ([]:List Int) row<| .appx (List Int) aC yy0.2.1 (([]:List Int)++row)<| .fin [(0,5200)]) (.fin [(0,900)])))) (p:=(rows.map aC).length≤9223372036854775807→(row.map intD).length≤9223372036854775807→(∃(k:Nat) (out:List (List Int)) (p:Bool),(0:Int)=(k:Int)∧(false)=p∧[]=out.map aC∧k≤rows.length∧out.length≤2*k∧out++pgo row p (rows.drop k)=lO row rows)∧ ∀(k:Nat) (out:List (List Int)) (p:Bool),(k≤rows.length∧out.length≤2*k∧out++pgo row p (rows.drop k)=lO row rows)→Lm aC rows∧(((decide ((k:Int)<((rows.length:Nat):Int)))=true→0≤(k:Int)∧Em aC rows k fun e18=>gL e18 row∧(((decide ((cG e18 row)=(0:Int)))=true→((decide ((0:Int)<(cG e18 row)))=true→0≤(k:Int)∧Em aC rows k fun e40=>[]=([]:List Int).map intD∧e40.map intD=e40.map intD∧(∀x,dT (intD x)=true)∧(([]:List Int).length+e40.length)*8≤140737488355328∧out.map aC=out.map aC∧(([]:List Int)++e40).map intD=(([]:List Int)++e40).map intD∧(out.length+1)*24≤140737488355328∧cC ((k:Int)+(1:Int))∧ ∃(k' :Nat) (out' :List (List Int)) (p' :Bool),((k:Int)+(1:Int))=(k' :Int)∧(true)=p' ∧(out++[([]:List Int)++e40]).map aC=out'.map aC∧(k' ≤rows.length∧out'.length≤2*k' ∧out' ++pgo row p' (rows.drop k')=lO row rows)∧rows.length - k' <rows.length - k)∧((decide ((0:Int)<(cG e18 row)))=false→0≤(k:Int)∧Em aC rows k fun e40=>[]=([]:List Int).map intD∧e40.map intD=e40.map intD∧(∀x,dT (intD x)=true)∧(([]:List Int).length+e40.length)*8≤140737488355328∧out.map aC=out.map aC∧(([]:List Int)++e40).map intD=(([]:List Int)++e40).map intD∧(out.length+1)*24≤140737488355328∧cC ((k:Int)+(1:Int))∧ ∃(k' :Nat) (out' :List (List Int)) (p' :Bool),((k:Int)+(1:Int))=(k' :Int)∧(true)=p' ∧(out++[([]:List Int)++e40]).map aC=out'.map aC∧(k' ≤rows.length∧out'.length≤2*k' ∧out' ++pgo row p' (rows.drop k')=lO row rows)∧rows.length - k' <rows.length - k))∧((decide ((cG e18 row)=(0:Int)))=false→((decide ((0:Int)<(cG e18 row)))=true→((!p)=true→[]=([]:List Int).map intD∧row.map intD=row.map intD∧(∀x,dT (intD x)=true)∧(([]:List Int).length+row.length)*8≤140737488355328∧out.map aC=out.map aC∧(([]:List Int)++row).map intD=(([]:List Int)++row).map intD∧(out.length+1)*24≤140737488355328∧0≤(k:Int)∧Em aC rows k fun e40=>[]=([]:List Int).map intD∧e40.map intD=e40.map intD∧(∀x,dT (intD x)=true)∧(([]:List Int).length+e40.length)*8≤140737488355328∧(out++[([]:List Int)++row]).map aC=(out++[([]:List Int)++row]).map aC∧(([]:List Int)++e40).map intD=(([]:List Int)++e40).map intD∧((out++[([]:List Int)++row]).length+1)*24≤140737488355328∧cC ((k:Int)+(1:Int))∧ ∃(k' :Nat) (out' :List (List Int)) (p' :Bool),((k:Int)+(1:Int))=(k' :Int)∧(true)=p' ∧((out++[([]:List Int)++row])++[([]:List Int)++e40]).map aC=out'.map aC∧(k' ≤rows.length∧out'.length≤2*k' ∧out' ++pgo row p' (rows.drop k')=lO row rows)∧rows.length - k' <rows.length - k)∧((!p)=false→0≤(k:Int)∧Em aC rows k fun e40=>[]=([]:List Int).map intD∧e40.map intD=e40.map intD∧(∀x,dT (intD x)=true)∧(([]:List Int).length+e40.length)*8≤140737488355328∧out.map aC=out.map aC∧(([]:List Int)++e40).map intD=(([]:List Int)++e40).map intD∧(out.length+1)*24≤140737488355328∧cC ((k:Int)+(1:Int))∧ ∃(k' :Nat) (out' :List (List Int)) (p' :Bool),((k:Int)+(1:Int))=(k' :Int)∧(p)=p' ∧(out++[([]:List Int)++e40]).map aC=out'.map aC∧(k' ≤rows.length∧out'.length≤2*k' ∧out' ++pgo row p' (rows.drop k')=lO row rows)∧rows.length - k' <rows.length - k))∧((decide ((0:Int)<(cG e18 row)))=false→0≤(k:Int)∧Em aC rows k fun e40=>[]=([]:List Int).map intD∧e40.map intD=e40.map intD∧(∀x,dT (intD x)=true)∧(([]:List Int).length+e40.length)*8≤140737488355328∧out.map aC=out.map aC∧(([]:List Int)++e40).map intD=(([]:List Int)++e40).map intD∧(out.length+1)*24≤140737488355328∧cC ((k:Int)+(1:Int))∧ ∃(k' :Nat) (out' :List (List Int)) (p' :Bool),((k:Int)+(1:Int))=(k' :Int)∧(p)=p' ∧(out++[([]:List Int)++e40]).map aC=out'.map aC∧(k' ≤rows.length∧out'.length≤2*k' ∧out' ++pgo row p' (rows.drop k')=lO row rows)∧rows.length - k' <rows.length - k))))∧((decide ((k:Int)<((rows.length:Nat):Int)))=false→((!p)=true→[]=([]:List Int).map intD∧row.map intD=row.map intD∧(∀x,dT (intD x)=true)∧(([]:List Int).length+row.length)*8≤140737488355328∧out.map aC=out.map aC∧(([]:List Int)++row).map intD=(([]:List Int)++row).map intD∧(out.length+1)*24≤140737488355328∧(out++[([]:List Int)++row]).map aC=(lO row rows).map aC∧True)∧((!p)=false→out.map aC=(lO row rows).map aC∧True)))) (by kernel_rfl) ?_
 intro n0 n1
 simp only [List.length_map] at n0 n1
 refine ⟨⟨0,([]:List (List Int)),false,rfl,rfl,rfl,Nat.zero_le _,by simp,rfl⟩,fun k out p ⟨hk,ho,hv⟩=>?_⟩
 refine ⟨List.length_map _,fun c0=>?_,fun c0=>?_⟩
 ·replace c0:=yq c0
  refine ⟨by omega,rfl,by omega,fun e18 h18=>?_⟩
  have hsz:=aAl h18
  refine ⟨jQ _ _,fun c1=>?_,fun c1=>?_⟩
  ·replace c1:=yq c1
   refine ⟨fun g26=>?_,fun g26=>?_⟩
   ·replace g26:=yq g26
    refine ⟨by omega,rfl,by omega,fun e40 h40=>?_⟩
    obtain rfl:=(aY h18 h40).symm
    refine ⟨rfl,rfl,fun _=>rfl,by first | omega | (simp;omega),?_⟩
    refine ⟨rfl,rfl,by first | omega | (simp;omega),⟨by omega,by omega⟩,?_⟩
    exact ⟨k+1,_,_,rfl,rfl,rfl,⟨by omega,by simp;omega,by rw [←hv,mL h18];first | (rw [aDm c1];simp;done) | (subst c2;rw [aDn];simp;done) | (subst c2;rw [aDl g26];simp;done) | (rw [aDo g26 c1];simp;done)⟩,by omega⟩
   ·replace g26:=nq g26
    refine ⟨by omega,rfl,by omega,fun e40 h40=>?_⟩
    obtain rfl:=(aY h18 h40).symm
    refine ⟨rfl,rfl,fun _=>rfl,by first | omega | (simp;omega),?_⟩
    refine ⟨rfl,rfl,by first | omega | (simp;omega),⟨by omega,by omega⟩,?_⟩
    exact ⟨k+1,_,_,rfl,rfl,rfl,⟨by omega,by simp;omega,by rw [←hv,mL h18];first | (rw [aDm c1];simp;done) | (subst c2;rw [aDn];simp;done) | (subst c2;rw [aDl g26];simp;done) | (rw [aDo g26 c1];simp;done)⟩,by omega⟩
  ·replace c1:=nq c1
   refine ⟨fun g26=>?_,fun g26=>?_⟩
   ·replace g26:=yq g26
    refine ⟨fun c2=>?_,fun c2=>?_⟩
    ·replace c2:=nt c2
     refine ⟨rfl,rfl,fun _=>rfl,by first | omega | (simp;omega),?_⟩
     refine ⟨rfl,rfl,by first | omega | (simp;omega),by omega,rfl,by omega,fun e40 h40=>?_⟩
     obtain rfl:=(aY h18 h40).symm
     refine ⟨rfl,rfl,fun _=>rfl,by first | omega | (simp;omega),?_⟩
     refine ⟨rfl,rfl,by first | omega | (simp;omega),⟨by omega,by omega⟩,?_⟩
     exact ⟨k+1,_,_,rfl,rfl,rfl,⟨by omega,by simp;omega,by rw [←hv,mL h18];first | (rw [aDm c1];simp;done) | (subst c2;rw [aDn];simp;done) | (subst c2;rw [aDl g26];simp;done) | (rw [aDo g26 c1];simp;done)⟩,by omega⟩
    ·replace c2:=nf c2
     refine ⟨by omega,rfl,by omega,fun e40 h40=>?_⟩
     obtain rfl:=(aY h18 h40).symm
     refine ⟨rfl,rfl,fun _=>rfl,by first | omega | (simp;omega),?_⟩
     refine ⟨rfl,rfl,by first | omega | (simp;omega),⟨by omega,by omega⟩,?_⟩
     exact ⟨k+1,_,_,rfl,rfl,rfl,⟨by omega,by simp;omega,by rw [←hv,mL h18];first | (rw [aDm c1];simp;done) | (subst c2;rw [aDn];simp;done) | (subst c2;rw [aDl g26];simp;done) | (rw [aDo g26 c1];simp;done)⟩,by omega⟩
   ·replace g26:=nq g26
    refine ⟨by omega,rfl,by omega,fun e40 h40=>?_⟩
    obtain rfl:=(aY h18 h40).symm
    refine ⟨rfl,rfl,fun _=>rfl,by first | omega | (simp;omega),?_⟩
    refine ⟨rfl,rfl,by first | omega | (simp;omega),⟨by omega,by omega⟩,?_⟩
    exact ⟨k+1,_,_,rfl,rfl,rfl,⟨by omega,by simp;omega,by rw [←hv,mL h18];first | (rw [aDm c1];simp;done) | (subst c2;rw [aDn];simp;done) | (subst c2;rw [aDl g26];simp;done) | (rw [aDo g26 c1];simp;done)⟩,by omega⟩
 ·replace c0:=nq c0
  refine ⟨fun c3=>?_,fun c3=>?_⟩
  ·replace c3:=nt c3
   refine ⟨rfl,rfl,fun _=>rfl,by first | omega | (simp;omega),?_⟩
   refine ⟨rfl,rfl,by first | omega | (simp;omega),?_,trivial⟩
   ·rw [←hv,zF (by omega),pgo];simp [c3]
  ·replace c3:=nf c3
   refine ⟨?_,trivial⟩
   ·rw [←hv,zF (by omega),pgo];simp [c3]
theorem aG9 {row:List Int}: ∀xs:List (List Int),pgo row true xs=xs
 | []=>rfl
 | x::xs=>by rw [aDn,aG9 xs]
theorem aCn {row:List Int}:lO row []= [row]:=rfl
theorem aCo {row x:List Int} {xs:List (List Int)} (h:0<cG x row):lO row (x::xs)=row::x::xs:=by rw [lO,aDl h,aG9]
theorem aCp {row x:List Int} {xs:List (List Int)} (h:cG x row=0):lO row (x::xs)=x::xs:=by rw [lO,aDm h,aG9]
theorem aCq {row x:List Int} {xs:List (List Int)} (h: ¬0<cG x row) (h' : ¬cG x row=0):lO row (x::xs)=x::lO row xs:=by rw [lO,aDo h h',lO]
theorem aGa {row y:List Int}: ∀{xs:List (List Int)},y∈lO row xs↔y=row∨y∈xs
 | []=>by simp [aCn]
 | x::xs=>by
   by_cases h:0<cG x row
   ·rw [aCo h];simp
   ·by_cases h' :cG x row=0
    ·rw [aCp h',fA.1 h']
     constructor
     ·exact Or.inr
     ·rintro (rfl | q)
      ·simp
      ·exact q
    ·rw [aCq h h',List.mem_cons,List.mem_cons,aGa]
     constructor
     ·rintro (q | q | q)
      ·exact .inr (.inl q)
      ·exact .inl q
      ·exact .inr (.inr q)
     ·rintro (q | q | q)
      ·exact .inr (.inl q)
      ·exact .inl q
      ·exact .inr (.inr q)
abbrev Asc (l:List (List Int)):Prop:=l.Pairwise fun a b=>cG a b<0
theorem aLl {row:List Int}: ∀{xs:List (List Int)},Asc xs→Asc (lO row xs)
 | [],_=>by rw [aCn];exact List.pairwise_singleton _ _
 | x::xs,hx=>by
   have h1:=List.pairwise_cons.1 hx
   by_cases h:0<cG x row
   ·rw [aCo h]
    refine List.pairwise_cons.2 ⟨fun y hy=>?_,hx⟩
    have hrx:cG row x<0:=rU.2 h
    rcases List.mem_cons.1 hy with rfl | q
    ·exact hrx
    ·exact nB hrx (h1.1 y q)
   ·by_cases h' :cG x row=0
    ·rw [aCp h'];exact hx
    ·rw [aCq h h']
     refine List.pairwise_cons.2 ⟨fun y hy=>?_,aLl h1.2⟩
     rcases aGa.1 hy with rfl | q
     ·omega
     ·exact h1.1 y q
theorem aLm {row:List Int}: ∀{xs:List (List Int)},(lO row xs).length≤xs.length+1
 | []=>by simp [aCn]
 | x::xs=>by
   by_cases h:0<cG x row
   ·rw [aCo h];simp
   ·by_cases h' :cG x row=0
    ·rw [aCp h'];simp
    ·rw [aCq h h']
     have:=aLm (row:=row) (xs:=xs)
     simp only [List.length_cons];omega
def cV (l:List (List Int)):List (List Int):=l.foldl (fun acc x=>lO x acc) []
theorem tV (l:List (List Int)): ∀acc,Asc acc→Asc (l.foldl (fun acc x=>lO x acc) acc)∧(∀y,y∈l.foldl (fun acc x=>lO x acc) acc↔y∈acc∨y∈l)∧(l.foldl (fun acc x=>lO x acc) acc).length≤acc.length+l.length:=by
 induction l with
 | nil=>intro acc h;simp [h]
 | cons x l ih=>
   intro acc h
   obtain ⟨h1,h2,h3⟩:=ih _ (aLl (row:=x) h)
   refine ⟨h1,fun y=>?_,?_⟩
   ·rw [List.foldl_cons,h2,aGa,List.mem_cons]
    constructor
    ·rintro ((q | q) | q)
     ·exact .inr (.inl q)
     ·exact .inl q
     ·exact .inr (.inr q)
    ·rintro (q | q | q)
     ·exact .inl (.inr q)
     ·exact .inl (.inl q)
     ·exact .inr q
   ·have:=aLm (row:=x) (xs:=acc)
    rw [List.foldl_cons,List.length_cons];omega
theorem aCr {l:List (List Int)} {x:List Int}:cV (l++[x])=lO x (cV l):=by simp [cV,List.foldl_append]
theorem aF7: ∀{l m:List (List Int)},Asc l→Asc m→(∀x,x∈l↔x∈m)→l=m
 | [],[],_,_,_=>rfl
 | [],b::m,_,_,h=>by have:=(h b).2 (by simp);simp at this
 | a::l,[],_,_,h=>by have:=(h a).1 (by simp);simp at this
 | a::l,b::m,hl,hm,h=>by
   have hl' :=List.pairwise_cons.1 hl
   have hm' :=List.pairwise_cons.1 hm
   have hab:a=b:=by
    rcases List.mem_cons.1 ((h a).1 (by simp)) with q | q
    ·exact q
    ·rcases List.mem_cons.1 ((h b).2 (by simp)) with r | r
     ·exact r.symm
     ·have h1:=hm'.1 a q
      have h2:=hl'.1 b r
      have:=nB h1 h2
      rw [aAi] at this;omega
   subst hab
   congr 1
   refine aF7 hl'.2 hm'.2 fun x=>⟨fun hx=>?_,fun hx=>?_⟩
   ·rcases List.mem_cons.1 ((h x).1 (by simp [hx])) with q | q
    ·subst q;have:=hl'.1 _ hx;rw [aAi] at this;omega
    ·exact q
   ·rcases List.mem_cons.1 ((h x).2 (by simp [hx])) with q | q
    ·subst q;have:=hm'.1 _ hx;rw [aAi] at this;omega
    ·exact q
theorem aGb {s:List (List Int)} {i:Nat}:i∈oE s↔i<s.length∧(i=0∨ ¬s.getD i []=s.getD (i - 1) []):=by
 rw [oE,List.mem_filter,List.mem_range]
 simp [aKV]
theorem aJZ (s:List (List Int)): ∀n,n<s.length→ ∃i,i∈oE s∧s.getD i []=s.getD n []
 | 0,h=>⟨0,aGb.2 ⟨h,.inl rfl⟩,rfl⟩
 | n+1,h=>by
   by_cases e:s.getD (n+1) []=s.getD n []
   ·obtain ⟨i,h1,h2⟩:=aJZ s n (by omega)
    exact ⟨i,h1,by rw [h2,e]⟩
   ·exact ⟨n+1,aGb.2 ⟨h,.inr e⟩,rfl⟩
theorem aR0 {s:List (List Int)} {x:List Int}:x∈gG s↔x∈s:=by
 constructor
 ·intro h
  obtain ⟨i,hi,rfl⟩:=List.mem_map.1 h
  obtain ⟨y,hy⟩:=cK (aOF hi)
  rw [bD hy];exact List.mem_of_getElem? hy
 ·intro h
  obtain ⟨n,hn,hx⟩:=List.mem_iff_getElem.1 h
  obtain ⟨i,h1,h2⟩:=aJZ s n hn
  refine List.mem_map.2 ⟨i,h1,?_⟩
  rw [h2,←hx];simp [hn]
theorem aR1 {s:List (List Int)} (hs:s.Pairwise (fun a b=>leR a b=true)):Asc (gG s):=by
 rw [gG,Asc,List.pairwise_map]
 have h0:(oE s).Pairwise (· < ·):=List.Pairwise.filter _ List.pairwise_lt_range
 refine List.Pairwise.imp_of_mem ?_ h0
 intro i j hi hj hij
 have h1:=aGb.1 hj
 have hp:=List.pairwise_iff_getElem.1 hs
 have hg: ∀a b,a<b→b<s.length→leR (s.getD a []) (s.getD b [])=true:=by
  intro a b hab hb
  have:=hp a b (by omega) hb hab
  simpa [hb,show a<s.length by omega] using this
 have h2:=hg (j - 1) j (by omega) h1.1
 rw [leR,decide_eq_true_eq] at h2
 have h3:cG (s.getD (j - 1) []) (s.getD j [])<0:=by
  have: ¬cG (s.getD (j - 1) []) (s.getD j [])=0:=fun q=>by
   have:=fA.1 q
   rcases h1.2 with r | r
   ·omega
   ·exact r this.symm
  omega
 by_cases e:i=j - 1
 ·rw [e];exact h3
 ·have h4:=hg i (j - 1) (by omega) (by omega)
  rw [leR,decide_eq_true_eq] at h4
  by_cases z:cG (s.getD i []) (s.getD (j - 1) [])=0
  ·rw [fA.1 z];exact h3
  ·exact nB (by omega) h3
theorem tW (l:List (List Int)):cV l=gG (dQ l):=by
 obtain ⟨h1,h2,_⟩:=tV l [] List.Pairwise.nil
 exact aF7 h1 (aR1 (aG4 l)) fun x=>by
  have h2' :=h2 x
  rw [show l.foldl (fun acc x=>lO x acc) []=cV l from rfl] at h2'
  rw [h2',aR0,(aBd l).mem_iff];simp
theorem aIZ {l:List (List Int)} {m:Nat} (h: ∀x∈l,x.length≤m):(cV l).length≤l.length∧cM (cV l)≤l.length+l.length*m:=by
 obtain ⟨_,h2,h3⟩:=tV l [] List.Pairwise.nil
 have h4:(cV l).length≤l.length:=by
  rw [List.length_nil,Nat.zero_add] at h3
  exact h3
 have:=aCm (l:=cV l) (m:=m) fun x hx=>h x (by simpa using (h2 x).1 hx)
 have:=Nat.mul_le_mul_right m h4
 exact ⟨h4,by omega⟩
theorem aKW {t:aS} {cols:List Int} {j:Nat} {e:List Int} (h:t.rows[j]? =some e):(lG t cols)[j]? =some (fF e cols).1:=by simp [lG,h]
theorem aKX {t:aS} {cols:List Int} {k:Nat} (h:(aU t&&dN (t.arity - 1) cols)=true):(cV ((lG t cols).take k)).length≤8∧cM (cV ((lG t cols).take k))≤64:=by
 have h0:=h
 rw [Bool.and_eq_true] at h
 have ha:=cN h.1
 have hc:=aCl h.2 (by omega)
 have hl:(lG t cols).length=t.rows.length:=List.length_map _
 have:=aIZ (l:=(lG t cols).take k) (m:=3) fun r hr=>by
  obtain ⟨q,_,rfl⟩:=List.mem_map.1 (List.mem_of_mem_take hr)
  have:=aG2 q cols
  omega
 have h5:((lG t cols).take k).length≤8:=by simp;omega
 omega
abbrev aBh (t:aS) (cols:List Int):AV × List (Nat × Rs):=(.tup [.own 0,.own 1],[(0,.arr 39 1 true (((eK t cols).1).map aC)),(1,.arr 3 1 true (((eK t cols).2).map intD))])
abbrev aGc (t:aS) (cols:List Int):Prop:=cX Tryz.prog 200 [.agg [.str t.name,.int .i64 t.arity,.sl 39 1 (t.rows.map aC)],.one (.sl 3 1 (cols.map intD))] (aBh t cols).1 (aBh t cols).2
theorem aR2 (t:aS) (cols:List Int) (hl:cols.length≤1048576):aGc t cols:=by
 refine aX bG aR Tryz.func200 (by kernel_rfl) (.call (vB (aU t&&dN (t.arity - 1) cols)) []<| .br (.fin [(0,1600),(1,1700)]) (.loop (Nat × (List (List Int))) (Q2 Nat (List (List Int))) [6,8,9,10,16,24,25,26,27,28,29,30,31,32,33,34,35,36,37,38,39,40,41,42,43] [1600,3800,4300] (fun yy0=>[(8,vI (yy0.1:Int)),(6,.own 1600)]) (fun yy0=>[(1600,some (.arr 39 1 true (yy0.2.map aC)))]) (fun yy0=>yy0.1≤t.rows.length∧yy0.2=cV ((lG t cols).take yy0.1)) (fun yy0=>t.rows.length - yy0.1) (fun yy0=> .len t.rows.length<| .br (.elem _ aC t.rows (fun e35=>cB (pE e35 cols)<| cB (wI yy0.2 ((fF e35 cols).1))<| .back [(1600,4300)])) (.loop (Nat × (List Int)) (Q2 Nat (List Int)) [7,11,12,13,14,15,17,44,45,46,47,48,49,50,51,52,53,54,55,56,57,58,59,60,61,62,63,64,65,66,67,68,69,70,71,72,73,74,75,76,77,78,79] [1700,6400,7800,7900] (fun yy1=>[(11,vI (yy1.1:Int)),(7,.own 1700)]) (fun yy1=>[(1700,some (.arr 3 1 true (yy1.2.map intD)))]) (fun yy1=>yy1.1≤yy0.2.length∧yy1.2=(yy0.2.take yy1.1).map (jC (lG t cols))) (fun yy1=>yy0.2.length - yy1.1) (fun yy1=> .len yy0.2.length<| .br (.loop (Nat × Int) (Q2 Nat Int) [12,13,14,15,50,51,52,53,54,55,56,57,58,59,60,61,62,63,64,65,66,67,68,69,70,71,72,73,74,75] [6400] (fun yy2=>[(12,vI yy2.2),(13,vI (yy2.1:Int))]) (fun yy2=>[]) (fun yy2=>yy2.1≤t.rows.length∧yy2.2=jC ((lG t cols).take yy2.1) (yy0.2.getD yy1.1 [])) (fun yy2=>t.rows.length - yy2.1) (fun yy2=> .len t.rows.length<| .br (.elem _ aC t.rows (fun e61=>cB (pE e61 cols)<| .len yy0.2.length<| .elem _ aC yy0.2 (fun e71=> .call (vI (cG ((fF e61 cols).1) e71)) []<| .br (.back []) (.back [])))) (.app Int intD yy1.2 ([yy2.2]:List Int)<| .back [(1700,7900)]))) (.fin [(0,1600),(1,1700)])))))) (p:=(t.rows.map aC).length≤9223372036854775807→(cols.map intD).length≤9223372036854775807→zM t cols∧(((!(aU t&&dN (t.arity - 1) cols))=true→[]=((eK t cols).1).map aC∧[]=((eK t cols).2).map intD∧True)∧((!(aU t&&dN (t.arity - 1) cols))=false→(∃(k:Nat) (out:List (List Int)),(0:Int)=(k:Int)∧[]=out.map aC∧k≤t.rows.length∧out=cV ((lG t cols).take k))∧ ∀(k:Nat) (out:List (List Int)),(k≤t.rows.length∧out=cV ((lG t cols).take k))→Lm aC t.rows∧(((decide ((k:Int)<((t.rows.length:Nat):Int)))=true→0≤(k:Int)∧Em aC t.rows k fun e35=>sO e35 cols∧aBg out ((fF e35 cols).1)∧cC ((k:Int)+(1:Int))∧ ∃(k' :Nat) (out' :List (List Int)),((k:Int)+(1:Int))=(k' :Int)∧(lO ((fF e35 cols).1) out).map aC=out'.map aC∧(k' ≤t.rows.length∧out' =cV ((lG t cols).take k'))∧t.rows.length - k' <t.rows.length - k)∧((decide ((k:Int)<((t.rows.length:Nat):Int)))=false→(∃(i:Nat) (c:List Int),(0:Int)=(i:Int)∧[]=c.map intD∧i≤out.length∧c=(out.take i).map (jC (lG t cols)))∧ ∀(i:Nat) (c:List Int),(i≤out.length∧c=(out.take i).map (jC (lG t cols)))→Lm aC out∧(((decide ((i:Int)<((out.length:Nat):Int)))=true→(∃(j:Nat) (z:Int),(0:Int)=z∧(0:Int)=(j:Int)∧j≤t.rows.length∧z=jC ((lG t cols).take j) (out.getD i []))∧ ∀(j:Nat) (z:Int),(j≤t.rows.length∧z=jC ((lG t cols).take j) (out.getD i []))→Lm aC t.rows∧(((decide ((j:Int)<((t.rows.length:Nat):Int)))=true→0≤(j:Int)∧Em aC t.rows j fun e61=>sO e61 cols∧(0≤(i:Int)∧Lm aC out∧(i:Int)<((out.length:Nat):Int)∧Em aC out i fun e71=>gL ((fF e61 cols).1) e71∧(((decide ((cG ((fF e61 cols).1) e71)=(0:Int)))=true→cC (z+(1:Int))∧cC ((j:Int)+(1:Int))∧ ∃(j' :Nat) (z' :Int),(z+(1:Int))=z' ∧((j:Int)+(1:Int))=(j' :Int)∧(j' ≤t.rows.length∧z' =jC ((lG t cols).take j') (out.getD i []))∧t.rows.length - j' <t.rows.length - j)∧((decide ((cG ((fF e61 cols).1) e71)=(0:Int)))=false→cC ((j:Int)+(1:Int))∧ ∃(j' :Nat) (z' :Int),z=z' ∧((j:Int)+(1:Int))=(j' :Int)∧(j' ≤t.rows.length∧z' =jC ((lG t cols).take j') (out.getD i []))∧t.rows.length - j' <t.rows.length - j))))∧((decide ((j:Int)<((t.rows.length:Nat):Int)))=false→c.map intD=c.map intD∧[[.int .i64 z]]=([z]:List Int).map intD∧(∀x,dT (intD x)=true)∧(c.length+([z]:List Int).length)*8≤140737488355328∧cC ((i:Int)+(1:Int))∧ ∃(i' :Nat) (c' :List Int),((i:Int)+(1:Int))=(i' :Int)∧(c++[z]).map intD=c'.map intD∧(i' ≤out.length∧c' =(out.take i').map (jC (lG t cols)))∧out.length - i' <out.length - i)))∧((decide ((i:Int)<((out.length:Nat):Int)))=false→out.map aC=((eK t cols).1).map aC∧c.map intD=((eK t cols).2).map intD∧True))))))) (by kernel_rfl) ?_
 intro n0 n1
 simp only [List.length_map] at n0 n1
 refine ⟨aJS t _,fun c0=>?_,fun c0=>?_⟩
 ·replace c0:=nt c0
  have hbad:(aU t&&dN (t.arity - 1) cols)=false:=by simpa using c0
  refine ⟨?_,?_,trivial⟩
  ·first | (rw [mW hbad]<;>rfl) | (rw [fG hok,hV]<;>rfl) | (rw [fG hok,hC]<;>rfl)
  ·first | (rw [mW hbad]<;>rfl) | (rw [fG hok,hV]<;>rfl) | (rw [fG hok,hC]<;>rfl)
 ·replace c0:=nf c0
  have hok:(aU t&&dN (t.arity - 1) cols)=true:=by simpa using c0
  obtain ⟨hs1,hs2⟩:=aG8 hok
  refine ⟨⟨0,([]:List (List Int)),rfl,rfl,Nat.zero_le _,rfl⟩,fun k out ⟨hk,ho⟩=>?_⟩
  refine ⟨List.length_map _,fun c1=>?_,fun c1=>?_⟩
  ·replace c1:=yq c1
   have hp:=aKX (k:=k) hok
   rw [←ho] at hp
   refine ⟨by omega,rfl,by omega,fun e35 h35=>?_⟩
   have hsl:=aG2 e35 cols
   refine ⟨aCj _ _ (by omega),aLk out ((fF e35 cols).1) (by omega) (by omega) (by omega),⟨by omega,by omega⟩,?_⟩
   exact ⟨k+1,_,rfl,rfl,⟨by omega,by rw [ho,bP (aKW h35),aCr]⟩,by omega⟩
  ·replace c1:=nq c1
   have hV:out=aND t cols:=by rw [ho,List.take_of_length_le (by simp [lG];omega),tW];rfl
   have hp:=aKX (k:=k) hok
   rw [←ho] at hp
   refine ⟨⟨0,([]:List Int),rfl,rfl,Nat.zero_le _,rfl⟩,fun i c ⟨hi,hc⟩=>?_⟩
   refine ⟨List.length_map _,fun c2=>?_,fun c2=>?_⟩
   ·replace c2:=yq c2
    obtain ⟨g,hg⟩:=cK (l:=out) (k:=i) (by omega)
    refine ⟨⟨0,0,rfl,rfl,Nat.zero_le _,rfl⟩,fun j z ⟨hj,hz⟩=>?_⟩
    refine ⟨List.length_map _,fun c3=>?_,fun c3=>?_⟩
    ·replace c3:=yq c3
     refine ⟨by omega,rfl,by omega,fun e61 h61=>?_⟩
     refine ⟨aCj _ _ (by omega),by omega,List.length_map _,by omega,rfl,by omega,fun e71 h71=>?_⟩
     have hg71:out.getD i []=e71:=bD h71
     refine ⟨jQ _ _,fun c4=>?_,fun c4=>?_⟩
     ·replace c4:=yq c4
      have hcl:=aRW ((lG t cols).take j) e71
      rw [←hg71,←hz] at hcl
      have hjl:((lG t cols).take j).length≤8:=by simp;omega
      refine ⟨⟨by omega,by omega⟩,⟨by omega,by omega⟩,?_⟩
      exact ⟨j+1,_,rfl,rfl,⟨by omega,by rw [hz,hg71,aOG (aKW h61) (fA.1 c4).symm]⟩,by omega⟩
     ·replace c4:=nq c4
      refine ⟨⟨by omega,by omega⟩,?_⟩
      exact ⟨j+1,_,rfl,rfl,⟨by omega,by rw [hz,hg71,aRV (aKW h61) (fun q=>c4 (fA.2 q.symm))]⟩,by omega⟩
    ·replace c3:=nq c3
     refine ⟨rfl,rfl,fun _=>rfl,by first | omega | (simp;omega) | (rw [hc];simp;omega),?_⟩
     refine ⟨⟨by omega,by omega⟩,?_⟩
     exact ⟨i+1,_,rfl,rfl,⟨by omega,by rw [hc,hz,bP hg,bD hg,List.map_append,List.take_of_length_le (l:=lG t cols) (i:=j) (by simp [lG];omega)];rfl⟩,by omega⟩
   ·replace c2:=nq c2
    have hC:c=aLh t cols:=by rw [hc,List.take_of_length_le (by omega),hV];rfl
    refine ⟨?_,?_,trivial⟩
    ·first | (rw [mW hbad]<;>rfl) | (rw [fG hok,hV]<;>rfl) | (rw [fG hok,hC]<;>rfl)
    ·first | (rw [mW hbad]<;>rfl) | (rw [fG hok,hV]<;>rfl) | (rw [fG hok,hC]<;>rfl)
def gH (s:Int) (v:Nat):Bool:=decide (cH .and .i64 (s/2^v) 1=1)
def lX (s:Int) (k:Nat):List Int:=((List.range k).filter (gH s)).map fun v:Nat=>(v:Int)
def eS (s:Int):List Int:=lX s 3
theorem vC {s:Int} {k:Nat} (h:cH .and .i64 (s/2^k) 1=1):lX s (k+1)=lX s k++[(k:Int)]:=by
 rw [lX,List.range_succ,List.filter_append,List.map_append]
 simp [lX,gH,h]
theorem zO {s:Int} {k:Nat} (h: ¬cH .and .i64 (s/2^k) 1=1):lX s (k+1)=lX s k:=by
 rw [lX,List.range_succ,List.filter_append,List.map_append]
 simp [lX,gH,h]
theorem aPH {s:Int} {k:Nat} (hs:0≤s∧s≤7) (hk:k≤3) (h:s/2^k=0):lX s k=eS s:=by
 have h1:s=0∨s=1∨s=2∨s=3∨s=4∨s=5∨s=6∨s=7:=by omega
 have h2:k=0∨k=1∨k=2∨k=3:=by omega
 rcases h2 with rfl | rfl | rfl | rfl<;>rcases h1 with rfl | rfl | rfl | rfl | rfl | rfl | rfl | rfl<;>first | rfl | (revert h;decide)
theorem aT3 {s:Int} {k:Nat} (hs:0≤s∧s≤7) (hk:k≤3) (h: ¬s/2^k=0):k<3:=by
 by_cases q:k=3
 ·subst q;omega
 ·omega
theorem vD (s:Int) (k:Nat):(lX s k).length≤k:=by
 rw [lX,List.length_map]
 have:=(List.filter_sublist (l:=List.range k) (p:=gH s)).length_le
 rw [List.length_range] at this
 exact this
theorem rV {n:Int} (h:1≤n∧n≤3):2≤(2:Int)^n.toNat∧(2:Int)^n.toNat≤8:=by
 have:n=1∨n=2∨n=3:=by omega
 rcases this with rfl | rfl | rfl<;>decide
def sQ (k:Nat):List (List Int):=(List.range k).map fun i=>eS ((i+1:Nat):Int)
def bV (n:Int):List (List Int):=sQ ((2:Int)^n.toNat - 1).toNat
theorem aGd (k:Nat):sQ (k+1)=sQ k++[eS ((k+1:Nat):Int)]:=by rw [sQ,List.range_succ,List.map_append];rfl
abbrev tX (s:Int):AV × List (Nat × Rs):=(.own 0,[(0,.arr 3 1 true ((eS s).map intD))])
abbrev zP (s:Int):Prop:=cX Tryz.prog 153 [.one (.int .i64 s)] (tX s).1 (tX s).2
theorem aJ0 (s:Int) (hs:0≤s∧s≤7):zP s:=by
 refine aX bG aR Tryz.func153 (by kernel_rfl) (.loop (Nat × (List Int)) (Q2 Nat (List Int)) [3,4,5,6,7,8,9,10,11,12,13,14,15,16,17,18,19,20] [500,1900,2000] (fun yy0=>[(4,vI (yy0.1:Int)),(3,.own 500)]) (fun yy0=>[(500,some (.arr 3 1 true (yy0.2.map intD)))]) (fun yy0=>yy0.1≤3∧yy0.2=lX s yy0.1) (fun yy0=>3 - yy0.1) (fun yy0=> .br (.br (.app Int intD yy0.2 ([(yy0.1:Int)]:List Int)<| .back [(500,2000)]) (.back [(500,500)])) (.fin [(0,500)]))) (p:=(∃(k:Nat) (out:List Int),(0:Int)=(k:Int)∧[]=out.map intD∧k≤3∧out=lX s k)∧ ∀(k:Nat) (out:List Int),(k≤3∧out=lX s k)→(0≤(k:Int)∧(k:Int)≤64)∧(((!(decide ((s/2^k)=(0:Int))))=true→(0≤(k:Int)∧(k:Int)≤64)∧(((decide ((cH .and .i64 (s/2^k) (1:Int))=(1:Int)))=true→out.map intD=out.map intD∧[[.int .i64 (k:Int)]]=([(k:Int)]:List Int).map intD∧(∀x,dT (intD x)=true)∧(out.length+([(k:Int)]:List Int).length)*8≤140737488355328∧cC ((k:Int)+(1:Int))∧ ∃(k' :Nat) (out' :List Int),((k:Int)+(1:Int))=(k' :Int)∧(out++[(k:Int)]).map intD=out'.map intD∧(k' ≤3∧out' =lX s k')∧3 - k' <3 - k)∧((decide ((cH .and .i64 (s/2^k) (1:Int))=(1:Int)))=false→cC ((k:Int)+(1:Int))∧ ∃(k' :Nat) (out' :List Int),((k:Int)+(1:Int))=(k' :Int)∧out.map intD=out'.map intD∧(k' ≤3∧out' =lX s k')∧3 - k' <3 - k)))∧((!(decide ((s/2^k)=(0:Int))))=false→out.map intD=(eS s).map intD∧True))) (by kernel_rfl) ?_
 refine ⟨⟨0,([]:List Int),rfl,rfl,by omega,rfl⟩,fun k out ⟨hk,ho⟩=>?_⟩
 refine ⟨⟨by omega,by omega⟩,fun c0=>?_,fun c0=>?_⟩
 ·replace c0:=nq (nt c0)
  have hk3:=aT3 hs hk c0
  have hln:=vD s k
  refine ⟨⟨by omega,by omega⟩,fun c1=>?_,fun c1=>?_⟩
  ·replace c1:=yq c1
   refine ⟨rfl,rfl,fun _=>rfl,by first | omega | (simp [ho];omega),?_⟩
   refine ⟨⟨by omega,by omega⟩,?_⟩
   exact ⟨k+1,_,rfl,rfl,⟨by omega,by first | (rw [ho,vC c1];done) | (rw [ho,zO c1];done)⟩,by omega⟩
  ·replace c1:=nq c1
   refine ⟨⟨by omega,by omega⟩,?_⟩
   exact ⟨k+1,_,rfl,rfl,⟨by omega,by first | (rw [ho,vC c1];done) | (rw [ho,zO c1];done)⟩,by omega⟩
 ·replace c0:=yq (nf c0)
  refine ⟨?_,trivial⟩
  ·(rw [ho];exact congrArg _ (aPH hs hk c0))
abbrev tY (s:Int):AV × List (Nat × Rs):=(.own 0,[(0,.arr 3 1 true ((eS s).map intD))])
abbrev zQ (s:Int):Prop:=cX Tryz.prog 140 [.one (.int .i64 s)] (tY s).1 (tY s).2
theorem aJ1 (s:Int) (hs:0≤s∧s≤7):zQ s:=by
 refine aX bG aR Tryz.func140 (by kernel_rfl) (.loop (Nat × (List Int)) (Q2 Nat (List Int)) [3,4,5,6,7,8,9,10,11,12,13,14,15,16,17,18] [500,1700,1800] (fun yy0=>[(4,vI (yy0.1:Int)),(3,.own 500)]) (fun yy0=>[(500,some (.arr 3 1 true (yy0.2.map intD)))]) (fun yy0=>yy0.1≤3∧yy0.2=lX s yy0.1) (fun yy0=>3 - yy0.1) (fun yy0=> .br (.br (.app Int intD yy0.2 ([(yy0.1:Int)]:List Int)<| .back [(500,1800)]) (.back [(500,500)])) (.fin [(0,500)]))) (p:=(∃(k:Nat) (out:List Int),(0:Int)=(k:Int)∧[]=out.map intD∧k≤3∧out=lX s k)∧ ∀(k:Nat) (out:List Int),(k≤3∧out=lX s k)→((decide ((k:Int)<(3:Int)))=true→(0≤(k:Int)∧(k:Int)≤64)∧(((decide ((cH .and .i64 (s/2^k) (1:Int))=(1:Int)))=true→out.map intD=out.map intD∧[[.int .i64 (k:Int)]]=([(k:Int)]:List Int).map intD∧(∀x,dT (intD x)=true)∧(out.length+([(k:Int)]:List Int).length)*8≤140737488355328∧cC ((k:Int)+(1:Int))∧ ∃(k' :Nat) (out' :List Int),((k:Int)+(1:Int))=(k' :Int)∧(out++[(k:Int)]).map intD=out'.map intD∧(k' ≤3∧out' =lX s k')∧3 - k' <3 - k)∧((decide ((cH .and .i64 (s/2^k) (1:Int))=(1:Int)))=false→cC ((k:Int)+(1:Int))∧ ∃(k' :Nat) (out' :List Int),((k:Int)+(1:Int))=(k' :Int)∧out.map intD=out'.map intD∧(k' ≤3∧out' =lX s k')∧3 - k' <3 - k)))∧((decide ((k:Int)<(3:Int)))=false→out.map intD=(eS s).map intD∧True)) (by kernel_rfl) ?_
 refine ⟨⟨0,([]:List Int),rfl,rfl,by omega,rfl⟩,fun k out ⟨hk,ho⟩=>?_⟩
 refine ⟨fun c0=>?_,fun c0=>?_⟩
 ·replace c0:=yq c0
  skip
  have hln:=vD s k
  refine ⟨⟨by omega,by omega⟩,fun c1=>?_,fun c1=>?_⟩
  ·replace c1:=yq c1
   refine ⟨rfl,rfl,fun _=>rfl,by first | omega | (simp [ho];omega),?_⟩
   refine ⟨⟨by omega,by omega⟩,?_⟩
   exact ⟨k+1,_,rfl,rfl,⟨by omega,by first | (rw [ho,vC c1];done) | (rw [ho,zO c1];done)⟩,by omega⟩
  ·replace c1:=nq c1
   refine ⟨⟨by omega,by omega⟩,?_⟩
   exact ⟨k+1,_,rfl,rfl,⟨by omega,by first | (rw [ho,vC c1];done) | (rw [ho,zO c1];done)⟩,by omega⟩
 ·replace c0:=nq c0
  refine ⟨?_,trivial⟩
  ·(rw [ho];exact congrArg _ (by rw [eS,show 3=k by omega]))
abbrev zR (n:Int):AV × List (Nat × Rs):=(.own 0,[(0,.arr 39 1 true ((bV n).map aC))])
abbrev aES (n:Int):Prop:=cX Tryz.prog 203 [.one (.int .i64 n)] (zR n).1 (zR n).2
theorem aPI (n:Int) (hn:1≤n∧n≤3):aES n:=by
 refine aX bG aR Tryz.func203 (by kernel_rfl) (.call (vB (dW n (1:Int) (3:Int))) []<| .br (.fin []) (.loop (Nat × (List (List Int))) (Q2 Nat (List (List Int))) [3,4,8,9,10,11,12,13,14,15,16,17,18,19] [800,1700,1800,1900] (fun yy0=>[(4,vI ((yy0.1+1:Nat):Int)),(3,.own 800)]) (fun yy0=>[(800,some (.arr 39 1 true (yy0.2.map aC)))]) (fun yy0=>yy0.1≤((2:Int)^n.toNat - 1).toNat∧yy0.2=sQ yy0.1) (fun yy0=>((2:Int)^n.toNat - 1).toNat - yy0.1) (fun yy0=> .br (cB (tX ((yy0.1+1:Nat):Int))<| .appx (List Int) aC yy0.2 (eS ((yy0.1+1:Nat):Int))<| .back [(800,1900)]) (.fin [(0,800)])))) (p:=fN n (1:Int) (3:Int)∧(((!(dW n (1:Int) (3:Int)))=true→[]=(bV n).map aC∧True)∧((!(dW n (1:Int) (3:Int)))=false→(∃(k:Nat) (out:List (List Int)),(1:Int)=((k+1:Nat):Int)∧[]=out.map aC∧k≤((2:Int)^n.toNat - 1).toNat∧out=sQ k)∧ ∀(k:Nat) (out:List (List Int)),(k≤((2:Int)^n.toNat - 1).toNat∧out=sQ k)→(0≤n∧n≤64)∧(cC ((1:Int)*2^(Int.toNat n))∧(((decide (((k+1:Nat):Int)<((1:Int)*2^(Int.toNat n))))=true→zP ((k+1:Nat):Int)∧out.map aC=out.map aC∧(eS ((k+1:Nat):Int)).map intD=(eS ((k+1:Nat):Int)).map intD∧(out.length+1)*24≤140737488355328∧cC (((k+1:Nat):Int)+(1:Int))∧ ∃(k' :Nat) (out' :List (List Int)),(((k+1:Nat):Int)+(1:Int))=((k' +1:Nat):Int)∧(out++[eS ((k+1:Nat):Int)]).map aC=out'.map aC∧(k' ≤((2:Int)^n.toNat - 1).toNat∧out' =sQ k')∧((2:Int)^n.toNat - 1).toNat - k' <((2:Int)^n.toNat - 1).toNat - k)∧((decide (((k+1:Nat):Int)<((1:Int)*2^(Int.toNat n))))=false→out.map aC=(bV n).map aC∧True)))))) (by kernel_rfl) ?_
 have hb:=rV hn
 have hin:dW n 1 3=true:=aBX hn.1 hn.2
 refine ⟨jG _ _ _,fun c0=>?_,fun c0=>?_⟩
 ·replace c0:=nt c0
  refine ⟨?_,trivial⟩
  ·first | (rw [ho,bV];congr 2;omega) | (exfalso;simp [hin] at c0;done) | (exfalso;simp [hin] at*;done)
 ·replace c0:=nf c0
  refine ⟨⟨0,([]:List (List Int)),rfl,rfl,Nat.zero_le _,rfl⟩,fun k out ⟨hk,ho⟩=>?_⟩
  refine ⟨⟨by omega,by omega⟩,⟨by omega,by omega⟩,fun c1=>?_,fun c1=>?_⟩
  ·replace c1:=yq c1
   refine ⟨aJ0 ((k+1:Nat):Int) (by omega),rfl,rfl,by first | omega | (simp [ho,sQ];omega),⟨by omega,by omega⟩,?_⟩
   exact ⟨(k+1),_,rfl,rfl,⟨by omega,by rw [ho,aGd]⟩,by omega⟩
  ·replace c1:=nq c1
   refine ⟨?_,trivial⟩
   ·first | (rw [ho,bV];congr 2;omega) | (exfalso;simp [hin] at c0;done) | (exfalso;simp [hin] at*;done)
abbrev zS (n:Int):AV × List (Nat × Rs):=(.own 0,[(0,.arr 39 1 true ((bV n).map aC))])
abbrev aET (n:Int):Prop:=cX Tryz.prog 199 [.one (.int .i64 n)] (zS n).1 (zS n).2
theorem aPJ (n:Int) (hn:1≤n∧n≤3):aET n:=by
 refine aX bG aR Tryz.func199 (by kernel_rfl) (.loop (Nat × (List (List Int))) (Q2 Nat (List (List Int))) [3,4,5,6,7,8,9,10,11,12,13,14,15,16,17,18,19,20] [500,1800,1900,2000] (fun yy0=>[(4,vI ((yy0.1+1:Nat):Int)),(3,.own 500)]) (fun yy0=>[(500,some (.arr 39 1 true (yy0.2.map aC)))]) (fun yy0=>yy0.1≤((2:Int)^n.toNat - 1).toNat∧yy0.2=sQ yy0.1) (fun yy0=>((2:Int)^n.toNat - 1).toNat - yy0.1) (fun yy0=> .call (vB (dW n (1:Int) (3:Int))) []<| .br (.lit<| .lit<| .lit<| .lit<| .br (cB (tY ((yy0.1+1:Nat):Int))<| .appx (List Int) aC yy0.2 (eS ((yy0.1+1:Nat):Int))<| .back [(500,2000)]) (.fin [(0,500)])) (.fin [(0,500)]))) (p:=(∃(k:Nat) (out:List (List Int)),(1:Int)=((k+1:Nat):Int)∧[]=out.map aC∧k≤((2:Int)^n.toNat - 1).toNat∧out=sQ k)∧ ∀(k:Nat) (out:List (List Int)),(k≤((2:Int)^n.toNat - 1).toNat∧out=sQ k)→fO n (1:Int) (3:Int)∧(((dW n (1:Int) (3:Int))=true→(0≤n∧n≤64)∧(cC ((1:Int)*2^(Int.toNat n))∧(((decide (((k+1:Nat):Int)<((1:Int)*2^(Int.toNat n))))=true→zQ ((k+1:Nat):Int)∧out.map aC=out.map aC∧(eS ((k+1:Nat):Int)).map intD=(eS ((k+1:Nat):Int)).map intD∧(out.length+1)*24≤140737488355328∧cC (((k+1:Nat):Int)+(1:Int))∧ ∃(k' :Nat) (out' :List (List Int)),(((k+1:Nat):Int)+(1:Int))=((k' +1:Nat):Int)∧(out++[eS ((k+1:Nat):Int)]).map aC=out'.map aC∧(k' ≤((2:Int)^n.toNat - 1).toNat∧out' =sQ k')∧((2:Int)^n.toNat - 1).toNat - k' <((2:Int)^n.toNat - 1).toNat - k)∧((decide (((k+1:Nat):Int)<((1:Int)*2^(Int.toNat n))))=false→out.map aC=(bV n).map aC∧True))))∧((dW n (1:Int) (3:Int))=false→out.map aC=(bV n).map aC∧True))) (by kernel_rfl) ?_
 have hb:=rV hn
 have hin:dW n 1 3=true:=aBX hn.1 hn.2
 refine ⟨⟨0,([]:List (List Int)),rfl,rfl,Nat.zero_le _,rfl⟩,fun k out ⟨hk,ho⟩=>?_⟩
 refine ⟨jH _ _ _,fun g8=>?_,fun g8=>?_⟩
 ·refine ⟨⟨by omega,by omega⟩,⟨by omega,by omega⟩,fun c0=>?_,fun c0=>?_⟩
  ·replace c0:=yq c0
   refine ⟨aJ1 ((k+1:Nat):Int) (by omega),rfl,rfl,by first | omega | (simp [ho,sQ];omega),⟨by omega,by omega⟩,?_⟩
   exact ⟨(k+1),_,rfl,rfl,⟨by omega,by rw [ho,aGd]⟩,by omega⟩
  ·replace c0:=nq c0
   refine ⟨?_,trivial⟩
   ·first | (rw [ho,bV];congr 2;omega) | (exfalso;simp [hin] at c0;done) | (exfalso;simp [hin] at*;done)
 ·refine ⟨?_,trivial⟩
  ·first | (rw [ho,bV];congr 2;omega) | (exfalso;simp [hin] at c0;done) | (exfalso;simp [hin] at*;done)
end Go.Proofs.YtdfebigfnjfgpaaGreat
