/-
  Contracts and plain laws, joined: part 9.
-/
import Derived.Test.YtokkjaflmcjlhaaGreatQU7
import Derived.Test.YtokkjaflmcjlhaaGreatQU3
namespace Go.Proofs.YtokkjaflmcjlhaaGreat
open Go.ChangeShapes Go.WideShapes Go.ChangeAt Go.RowKit
set_option linter.unusedVariables false
set_option linter.unusedSimpArgs false
set_option maxRecDepth 100000
set_option maxHeartbeats 4000000
theorem aDr {row:List Int}: ∀xs:List (List Int),pgo row true xs=xs
 | []=>rfl
 | x::xs=>by rw [aBh,aDr xs]
theorem aDs {row:List Int}:kP row []= [row]:=rfl
theorem aGj {row x:List Int} {xs:List (List Int)} (h:0<cC x row):kP row (x::xs)=row::x::xs:=by rw [kP,aBf h,aDr]
theorem aGk {row x:List Int} {xs:List (List Int)} (h:cC x row=0):kP row (x::xs)=x::xs:=by rw [kP,aBg h,aDr]
theorem aGl {row x:List Int} {xs:List (List Int)} (h: ¬0<cC x row) (h' : ¬cC x row=0):kP row (x::xs)=x::kP row xs:=by rw [kP,aBi h h',kP]
theorem aDt {row y:List Int}: ∀{xs:List (List Int)},y∈kP row xs↔y=row∨y∈xs
 | []=>by simp [aDs]
 | x::xs=>by
   by_cases h:0<cC x row
   ·rw [aGj h];simp
   ·by_cases h' :cC x row=0
    ·rw [aGk h',eD.1 h']
     constructor
     ·exact Or.inr
     ·rintro (rfl | q)
      ·simp
      ·exact q
    ·rw [aGl h h',List.mem_cons,List.mem_cons,aDt]
     constructor
     ·rintro (q | q | q)
      ·exact .inr (.inl q)
      ·exact .inl q
      ·exact .inr (.inr q)
     ·rintro (q | q | q)
      ·exact .inr (.inl q)
      ·exact .inl q
      ·exact .inr (.inr q)
abbrev Asc (l:List (List Int)):Prop:=l.Pairwise fun a b=>cC a b<0
theorem aIA {row:List Int}: ∀{xs:List (List Int)},Asc xs→Asc (kP row xs)
 | [],_=>by rw [aDs];exact List.pairwise_singleton _ _
 | x::xs,hx=>by
   have h1:=List.pairwise_cons.1 hx
   by_cases h:0<cC x row
   ·rw [aGj h]
    refine List.pairwise_cons.2 ⟨fun y hy=>?_,hx⟩
    have hrx:cC row x<0:=pM.2 h
    rcases List.mem_cons.1 hy with rfl | q
    ·exact hrx
    ·exact lP hrx (h1.1 y q)
   ·by_cases h' :cC x row=0
    ·rw [aGk h'];exact hx
    ·rw [aGl h h']
     refine List.pairwise_cons.2 ⟨fun y hy=>?_,aIA h1.2⟩
     rcases aDt.1 hy with rfl | q
     ·omega
     ·exact h1.1 y q
theorem aIB {row:List Int}: ∀{xs:List (List Int)},(kP row xs).length≤xs.length+1
 | []=>by simp [aDs]
 | x::xs=>by
   by_cases h:0<cC x row
   ·rw [aGj h];simp
   ·by_cases h' :cC x row=0
    ·rw [aGk h'];simp
    ·rw [aGl h h']
     have:=aIB (row:=row) (xs:=xs)
     simp only [List.length_cons];omega
def iI (l:List (List Int)):List (List Int):=l.foldl (fun acc x=>kP x acc) []
theorem wB (l:List (List Int)): ∀acc,Asc acc→Asc (l.foldl (fun acc x=>kP x acc) acc)∧(∀y,y∈l.foldl (fun acc x=>kP x acc) acc↔y∈acc∨y∈l)∧(l.foldl (fun acc x=>kP x acc) acc).length≤acc.length+l.length:=by
 induction l with
 | nil=>intro acc h;simp [h]
 | cons x l ih=>
   intro acc h
   obtain ⟨h1,h2,h3⟩:=ih _ (aIA (row:=x) h)
   refine ⟨h1,fun y=>?_,?_⟩
   ·rw [List.foldl_cons,h2,aDt,List.mem_cons]
    constructor
    ·rintro ((q | q) | q)
     ·exact .inr (.inl q)
     ·exact .inl q
     ·exact .inr (.inr q)
    ·rintro (q | q | q)
     ·exact .inl (.inr q)
     ·exact .inl (.inl q)
     ·exact .inr q
   ·have:=aIB (row:=x) (xs:=acc)
    rw [List.foldl_cons,List.length_cons];omega
theorem aAs {l:List (List Int)} {x:List Int}:iI (l++[x])=kP x (iI l):=by simp [iI,List.foldl_append]
theorem aGm: ∀{l m:List (List Int)},Asc l→Asc m→(∀x,x∈l↔x∈m)→l=m
 | [],[],_,_,_=>rfl
 | [],b::m,_,_,h=>by have:=(h b).2 (by simp);simp at this
 | a::l,[],_,_,h=>by have:=(h a).1 (by simp);simp at this
 | a::l,b::m,hl,hm,h=>by
   have hl' :=List.pairwise_cons.1 hl
   have hm' :=List.pairwise_cons.1 hm
   have hab:a=b:=by
    rcases List.mem_cons.1 ((h a).1 (by simp)) with q | q
    ·exact q
    ·rcases List.mem_cons.1 ((h b).2 (by simp)) with r | r
     ·exact r.symm
     ·have h1:=hm'.1 a q
      have h2:=hl'.1 b r
      have:=lP h1 h2
      rw [pL] at this;omega
   subst hab
   congr 1
   refine aGm hl'.2 hm'.2 fun x=>⟨fun hx=>?_,fun hx=>?_⟩
   ·rcases List.mem_cons.1 ((h x).1 (by simp [hx])) with q | q
    ·subst q;have:=hl'.1 _ hx;rw [pL] at this;omega
    ·exact q
   ·rcases List.mem_cons.1 ((h x).2 (by simp [hx])) with q | q
    ·subst q;have:=hm'.1 _ hx;rw [pL] at this;omega
    ·exact q
theorem aDu {s:List (List Int)} {i:Nat}:i∈mH s↔i<s.length∧(i=0∨ ¬s.getD i []=s.getD (i - 1) []):=by
 rw [mH,List.mem_filter,List.mem_range]
 simp [aGi]
theorem aFq (s:List (List Int)): ∀n,n<s.length→ ∃i,i∈mH s∧s.getD i []=s.getD n []
 | 0,h=>⟨0,aDu.2 ⟨h,.inl rfl⟩,rfl⟩
 | n+1,h=>by
   by_cases e:s.getD (n+1) []=s.getD n []
   ·obtain ⟨i,h1,h2⟩:=aFq s n (by omega)
    exact ⟨i,h1,by rw [h2,e]⟩
   ·exact ⟨n+1,aDu.2 ⟨h,.inr e⟩,rfl⟩
theorem aMr {s:List (List Int)} {x:List Int}:x∈fK s↔x∈s:=by
 constructor
 ·intro h
  obtain ⟨i,hi,rfl⟩:=List.mem_map.1 h
  obtain ⟨y,hy⟩:=cE (aJz hi)
  rw [cM hy];exact List.mem_of_getElem? hy
 ·intro h
  obtain ⟨n,hn,hx⟩:=List.mem_iff_getElem.1 h
  obtain ⟨i,h1,h2⟩:=aFq s n hn
  refine List.mem_map.2 ⟨i,h1,?_⟩
  rw [h2,←hx];simp [hn]
theorem aMs {s:List (List Int)} (hs:s.Pairwise (fun a b=>leR a b=true)):Asc (fK s):=by
 rw [fK,Asc,List.pairwise_map]
 have h0:(mH s).Pairwise (· < ·):=List.Pairwise.filter _ List.pairwise_lt_range
 refine List.Pairwise.imp_of_mem ?_ h0
 intro i j hi hj hij
 have h1:=aDu.1 hj
 have hp:=List.pairwise_iff_getElem.1 hs
 have hg: ∀a b,a<b→b<s.length→leR (s.getD a []) (s.getD b [])=true:=by
  intro a b hab hb
  have:=hp a b (by omega) hb hab
  simpa [hb,show a<s.length by omega] using this
 have h2:=hg (j - 1) j (by omega) h1.1
 rw [leR,decide_eq_true_eq] at h2
 have h3:cC (s.getD (j - 1) []) (s.getD j [])<0:=by
  have: ¬cC (s.getD (j - 1) []) (s.getD j [])=0:=fun q=>by
   have:=eD.1 q
   rcases h1.2 with r | r
   ·omega
   ·exact r this.symm
  omega
 by_cases e:i=j - 1
 ·rw [e];exact h3
 ·have h4:=hg i (j - 1) (by omega) (by omega)
  rw [leR,decide_eq_true_eq] at h4
  by_cases z:cC (s.getD i []) (s.getD (j - 1) [])=0
  ·rw [eD.1 z];exact h3
  ·exact lP (by omega) h3
theorem wC (l:List (List Int)):iI l=fK (dH l):=by
 obtain ⟨h1,h2,_⟩:=wB l [] List.Pairwise.nil
 exact aGm h1 (aMs (aDl l)) fun x=>by
  have h2' :=h2 x
  rw [show l.foldl (fun acc x=>kP x acc) []=iI l from rfl] at h2'
  rw [h2',aMr,(zL l).mem_iff];simp
theorem aEx {l:List (List Int)} {m:Nat} (h: ∀x∈l,x.length≤m):(iI l).length≤l.length∧cP (iI l)≤l.length+l.length*m:=by
 obtain ⟨_,h2,h3⟩:=wB l [] List.Pairwise.nil
 have h4:(iI l).length≤l.length:=by
  rw [List.length_nil,Nat.zero_add] at h3
  exact h3
 have:=tJ (l:=iI l) (m:=m) fun x hx=>h x (by simpa using (h2 x).1 hx)
 have:=Nat.mul_le_mul_right m h4
 exact ⟨h4,by omega⟩
theorem aGn {t:aN} {cols:List Int} {j:Nat} {e:List Int} (h:t.rows[j]? =some e):(kV t cols)[j]? =some (fM e cols).1:=by simp [kV,h]
theorem aGo {t:aN} {cols:List Int} {k:Nat} (h:(aS t&&dN (t.arity - 1) cols)=true):(iI ((kV t cols).take k)).length≤8∧cP (iI ((kV t cols).take k))≤64:=by
 have h0:=h
 rw [Bool.and_eq_true] at h
 have ha:=cD h.1
 have hc:=aAr h.2 (by omega)
 have hl:(kV t cols).length=t.rows.length:=List.length_map _
 have:=aEx (l:=(kV t cols).take k) (m:=3) fun r hr=>by
  obtain ⟨q,_,rfl⟩:=List.mem_map.1 (List.mem_of_mem_take hr)
  have:=aDi q cols
  omega
 have h5:((kV t cols).take k).length≤8:=by simp;omega
 omega
abbrev zR (t:aN) (cols:List Int):AV × List (Nat × Rs):=(.tup [.own 0,.own 1],[(0,.arr 32 1 true (((gS t cols).1).map aF)),(1,.arr 3 1 true (((gS t cols).2).map intD))])
abbrev aDv (t:aN) (cols:List Int):Prop:=dJ Tryz.prog 217 [.agg [.str t.name,.int .i64 t.arity,.sl 32 1 (t.rows.map aF)],.one (.sl 3 1 (cols.map intD))] (zR t cols).1 (zR t cols).2
theorem aMt (t:aN) (cols:List Int) (hl:cols.length≤1048576):aDv t cols:=by
 refine aZ bR aT Tryz.func217 (by kernel_rfl) (.call (vB (aS t&&dN (t.arity - 1) cols)) []<| .br (.fin [(0,1600),(1,1700)]) (.loop (Nat × (List (List Int))) (Q2 Nat (List (List Int))) [6,8,9,10,16,24,25,26,27,28,29,30,31,32,33,34,35,36,37,38,39,40,41,42,43] [1600,3800,4300] (fun yy0=>[(8,vI (yy0.1:Int)),(6,.own 1600)]) (fun yy0=>[(1600,some (.arr 32 1 true (yy0.2.map aF)))]) (fun yy0=>yy0.1≤t.rows.length∧yy0.2=iI ((kV t cols).take yy0.1)) (fun yy0=>t.rows.length - yy0.1) (fun yy0=> .len t.rows.length<| .br (.elem _ aF t.rows (fun e35=>bG (nC e35 cols)<| bG (tK yy0.2 ((fM e35 cols).1))<| .back [(1600,4300)])) (.loop (Nat × (List Int)) (Q2 Nat (List Int)) [7,11,12,13,14,15,17,44,45,46,47,48,49,50,51,52,53,54,55,56,57,58,59,60,61,62,63,64,65,66,67,68,69,70,71,72,73,74,75,76,77,78,79] [1700,6400,7800,7900] (fun yy1=>[(11,vI (yy1.1:Int)),(7,.own 1700)]) (fun yy1=>[(1700,some (.arr 3 1 true (yy1.2.map intD)))]) (fun yy1=>yy1.1≤yy0.2.length∧yy1.2=(yy0.2.take yy1.1).map (hX (kV t cols))) (fun yy1=>yy0.2.length - yy1.1) (fun yy1=> .len yy0.2.length<| .br (.loop (Nat × Int) (Q2 Nat Int) [12,13,14,15,50,51,52,53,54,55,56,57,58,59,60,61,62,63,64,65,66,67,68,69,70,71,72,73,74,75] [6400] (fun yy2=>[(12,vI yy2.2),(13,vI (yy2.1:Int))]) (fun yy2=>[]) (fun yy2=>yy2.1≤t.rows.length∧yy2.2=hX ((kV t cols).take yy2.1) (yy0.2.getD yy1.1 [])) (fun yy2=>t.rows.length - yy2.1) (fun yy2=> .len t.rows.length<| .br (.elem _ aF t.rows (fun e61=>bG (nC e61 cols)<| .len yy0.2.length<| .elem _ aF yy0.2 (fun e71=> .call (vI (cC ((fM e61 cols).1) e71)) []<| .br (.back []) (.back [])))) (.app Int intD yy1.2 ([yy2.2]:List Int)<| .back [(1700,7900)]))) (.fin [(0,1600),(1,1700)])))))) (p:=(t.rows.map aF).length≤9223372036854775807→(cols.map intD).length≤9223372036854775807→vZ t cols∧(((!(aS t&&dN (t.arity - 1) cols))=true→[]=((gS t cols).1).map aF∧[]=((gS t cols).2).map intD∧True)∧((!(aS t&&dN (t.arity - 1) cols))=false→(∃(k:Nat) (out:List (List Int)),(0:Int)=(k:Int)∧[]=out.map aF∧k≤t.rows.length∧out=iI ((kV t cols).take k))∧ ∀(k:Nat) (out:List (List Int)),(k≤t.rows.length∧out=iI ((kV t cols).take k))→Lm aF t.rows∧(((decide ((k:Int)<((t.rows.length:Nat):Int)))=true→0≤(k:Int)∧Em aF t.rows k fun e35=>qG e35 cols∧zO out ((fM e35 cols).1)∧dO ((k:Int)+(1:Int))∧ ∃(k' :Nat) (out' :List (List Int)),((k:Int)+(1:Int))=(k' :Int)∧(kP ((fM e35 cols).1) out).map aF=out'.map aF∧(k' ≤t.rows.length∧out' =iI ((kV t cols).take k'))∧t.rows.length - k' <t.rows.length - k)∧((decide ((k:Int)<((t.rows.length:Nat):Int)))=false→(∃(i:Nat) (c:List Int),(0:Int)=(i:Int)∧[]=c.map intD∧i≤out.length∧c=(out.take i).map (hX (kV t cols)))∧ ∀(i:Nat) (c:List Int),(i≤out.length∧c=(out.take i).map (hX (kV t cols)))→Lm aF out∧(((decide ((i:Int)<((out.length:Nat):Int)))=true→(∃(j:Nat) (z:Int),(0:Int)=z∧(0:Int)=(j:Int)∧j≤t.rows.length∧z=hX ((kV t cols).take j) (out.getD i []))∧ ∀(j:Nat) (z:Int),(j≤t.rows.length∧z=hX ((kV t cols).take j) (out.getD i []))→Lm aF t.rows∧(((decide ((j:Int)<((t.rows.length:Nat):Int)))=true→0≤(j:Int)∧Em aF t.rows j fun e61=>qG e61 cols∧(0≤(i:Int)∧Lm aF out∧(i:Int)<((out.length:Nat):Int)∧Em aF out i fun e71=>fA ((fM e61 cols).1) e71∧(((decide ((cC ((fM e61 cols).1) e71)=(0:Int)))=true→dO (z+(1:Int))∧dO ((j:Int)+(1:Int))∧ ∃(j' :Nat) (z' :Int),(z+(1:Int))=z' ∧((j:Int)+(1:Int))=(j' :Int)∧(j' ≤t.rows.length∧z' =hX ((kV t cols).take j') (out.getD i []))∧t.rows.length - j' <t.rows.length - j)∧((decide ((cC ((fM e61 cols).1) e71)=(0:Int)))=false→dO ((j:Int)+(1:Int))∧ ∃(j' :Nat) (z' :Int),z=z' ∧((j:Int)+(1:Int))=(j' :Int)∧(j' ≤t.rows.length∧z' =hX ((kV t cols).take j') (out.getD i []))∧t.rows.length - j' <t.rows.length - j))))∧((decide ((j:Int)<((t.rows.length:Nat):Int)))=false→c.map intD=c.map intD∧[[.int .i64 z]]=([z]:List Int).map intD∧(∀x,fG (intD x)=true)∧(c.length+([z]:List Int).length)*8≤140737488355328∧dO ((i:Int)+(1:Int))∧ ∃(i' :Nat) (c' :List Int),((i:Int)+(1:Int))=(i' :Int)∧(c++[z]).map intD=c'.map intD∧(i' ≤out.length∧c' =(out.take i').map (hX (kV t cols)))∧out.length - i' <out.length - i)))∧((decide ((i:Int)<((out.length:Nat):Int)))=false→out.map aF=((gS t cols).1).map aF∧c.map intD=((gS t cols).2).map intD∧True))))))) (by kernel_rfl) ?_
 intro n0 n1
 simp only [List.length_map] at n0 n1
 refine ⟨aFl t _,fun c0=>?_,fun c0=>?_⟩
 ·replace c0:=nt c0
  have hbad:(aS t&&dN (t.arity - 1) cols)=false:=by simpa using c0
  refine ⟨?_,?_,trivial⟩
  ·first | (rw [mI hbad]<;>rfl) | (rw [fB hok,hV]<;>rfl) | (rw [fB hok,hC]<;>rfl)
  ·first | (rw [mI hbad]<;>rfl) | (rw [fB hok,hV]<;>rfl) | (rw [fB hok,hC]<;>rfl)
 ·replace c0:=nf c0
  have hok:(aS t&&dN (t.arity - 1) cols)=true:=by simpa using c0
  obtain ⟨hs1,hs2⟩:=aDn hok
  refine ⟨⟨0,([]:List (List Int)),rfl,rfl,Nat.zero_le _,rfl⟩,fun k out ⟨hk,ho⟩=>?_⟩
  refine ⟨List.length_map _,fun c1=>?_,fun c1=>?_⟩
  ·replace c1:=yq c1
   have hp:=aGo (k:=k) hok
   rw [←ho] at hp
   refine ⟨by omega,rfl,by omega,fun e35 h35=>?_⟩
   have hsl:=aDi e35 cols
   refine ⟨aAo _ _ (by omega),aHz out ((fM e35 cols).1) (by omega) (by omega) (by omega),⟨by omega,by omega⟩,?_⟩
   exact ⟨k+1,_,rfl,rfl,⟨by omega,by rw [ho,cU (aGn h35),aAs]⟩,by omega⟩
  ·replace c1:=nq c1
   have hV:out=aMi t cols:=by rw [ho,List.take_of_length_le (by simp [kV];omega),wC];rfl
   have hp:=aGo (k:=k) hok
   rw [←ho] at hp
   refine ⟨⟨0,([]:List Int),rfl,rfl,Nat.zero_le _,rfl⟩,fun i c ⟨hi,hc⟩=>?_⟩
   refine ⟨List.length_map _,fun c2=>?_,fun c2=>?_⟩
   ·replace c2:=yq c2
    obtain ⟨g,hg⟩:=cE (l:=out) (k:=i) (by omega)
    refine ⟨⟨0,0,rfl,rfl,Nat.zero_le _,rfl⟩,fun j z ⟨hj,hz⟩=>?_⟩
    refine ⟨List.length_map _,fun c3=>?_,fun c3=>?_⟩
    ·replace c3:=yq c3
     refine ⟨by omega,rfl,by omega,fun e61 h61=>?_⟩
     refine ⟨aAo _ _ (by omega),by omega,List.length_map _,by omega,rfl,by omega,fun e71 h71=>?_⟩
     have hg71:out.getD i []=e71:=cM h71
     refine ⟨gH _ _,fun c4=>?_,fun c4=>?_⟩
     ·replace c4:=yq c4
      have hcl:=aMl ((kV t cols).take j) e71
      rw [←hg71,←hz] at hcl
      have hjl:((kV t cols).take j).length≤8:=by simp;omega
      refine ⟨⟨by omega,by omega⟩,⟨by omega,by omega⟩,?_⟩
      exact ⟨j+1,_,rfl,rfl,⟨by omega,by rw [hz,hg71,aKA (aGn h61) (eD.1 c4).symm]⟩,by omega⟩
     ·replace c4:=nq c4
      refine ⟨⟨by omega,by omega⟩,?_⟩
      exact ⟨j+1,_,rfl,rfl,⟨by omega,by rw [hz,hg71,aMk (aGn h61) (fun q=>c4 (eD.2 q.symm))]⟩,by omega⟩
    ·replace c3:=nq c3
     refine ⟨rfl,rfl,fun _=>rfl,by first | omega | (simp;omega) | (rw [hc];simp;omega),?_⟩
     refine ⟨⟨by omega,by omega⟩,?_⟩
     exact ⟨i+1,_,rfl,rfl,⟨by omega,by rw [hc,hz,cU hg,cM hg,List.map_append,List.take_of_length_le (l:=kV t cols) (i:=j) (by simp [kV];omega)];rfl⟩,by omega⟩
   ·replace c2:=nq c2
    have hC:c=aMj t cols:=by rw [hc,List.take_of_length_le (by omega),hV];rfl
    refine ⟨?_,?_,trivial⟩
    ·first | (rw [mI hbad]<;>rfl) | (rw [fB hok,hV]<;>rfl) | (rw [fB hok,hC]<;>rfl)
    ·first | (rw [mI hbad]<;>rfl) | (rw [fB hok,hV]<;>rfl) | (rw [fB hok,hC]<;>rfl)
def aOJ (s:Int) (v:Nat):Bool:=decide (yZ .and .i64 (s/2^v) 1=1)
def kT (s:Int) (k:Nat):List Int:=((List.range k).filter (aOJ s)).map fun v:Nat=>(v:Int)
def oX (s:Int):List Int:=kT s 3
theorem yC {s:Int} {k:Nat} (h:yZ .and .i64 (s/2^k) 1=1):kT s (k+1)=kT s k++[(k:Int)]:=by
 rw [kT,List.range_succ,List.filter_append,List.map_append]
 simp [kT,aOJ,h]
theorem aAt {s:Int} {k:Nat} (h: ¬yZ .and .i64 (s/2^k) 1=1):kT s (k+1)=kT s k:=by
 rw [kT,List.range_succ,List.filter_append,List.map_append]
 simp [kT,aOJ,h]
theorem aKs {s:Int} {k:Nat} (hs:0≤s∧s≤7) (hk:k≤3) (h:s/2^k=0):kT s k=oX s:=by
 have h1:s=0∨s=1∨s=2∨s=3∨s=4∨s=5∨s=6∨s=7:=by omega
 have h2:k=0∨k=1∨k=2∨k=3:=by omega
 rcases h2 with rfl | rfl | rfl | rfl<;>rcases h1 with rfl | rfl | rfl | rfl | rfl | rfl | rfl | rfl<;>first | rfl | (revert h;decide)
theorem aOK {s:Int} {k:Nat} (hs:0≤s∧s≤7) (hk:k≤3) (h: ¬s/2^k=0):k<3:=by
 by_cases q:k=3
 ·subst q;omega
 ·omega
theorem aBj (s:Int) (k:Nat):(kT s k).length≤k:=by
 rw [kT,List.length_map]
 have:=(List.filter_sublist (l:=List.range k) (p:=aOJ s)).length_le
 rw [List.length_range] at this
 exact this
theorem aBk {n:Int} (h:1≤n∧n≤3):2≤(2:Int)^n.toNat∧(2:Int)^n.toNat≤8:=by
 have:n=1∨n=2∨n=3:=by omega
 rcases this with rfl | rfl | rfl<;>decide
def qH (k:Nat):List (List Int):=(List.range k).map fun i=>oX ((i+1:Nat):Int)
def cB (n:Int):List (List Int):=qH ((2:Int)^n.toNat - 1).toNat
theorem aDw (k:Nat):qH (k+1)=qH k++[oX ((k+1:Nat):Int)]:=by rw [qH,List.range_succ,List.map_append];rfl
abbrev wD (s:Int):AV × List (Nat × Rs):=(.own 0,[(0,.arr 3 1 true ((oX s).map intD))])
abbrev aCJ (s:Int):Prop:=dJ Tryz.prog 198 [.one (.int .i64 s)] (wD s).1 (wD s).2
theorem aKt (s:Int) (hs:0≤s∧s≤7):aCJ s:=by
 refine aZ bR aT Tryz.func198 (by kernel_rfl) (.loop (Nat × (List Int)) (Q2 Nat (List Int)) [3,4,5,6,7,8,9,10,11,12,13,14,15,16,17,18,19,20] [500,1900,2000] (fun yy0=>[(4,vI (yy0.1:Int)),(3,.own 500)]) (fun yy0=>[(500,some (.arr 3 1 true (yy0.2.map intD)))]) (fun yy0=>yy0.1≤3∧yy0.2=kT s yy0.1) (fun yy0=>3 - yy0.1) (fun yy0=> .br (.br (.app Int intD yy0.2 ([(yy0.1:Int)]:List Int)<| .back [(500,2000)]) (.back [(500,500)])) (.fin [(0,500)]))) (p:=(∃(k:Nat) (out:List Int),(0:Int)=(k:Int)∧[]=out.map intD∧k≤3∧out=kT s k)∧ ∀(k:Nat) (out:List Int),(k≤3∧out=kT s k)→(0≤(k:Int)∧(k:Int)≤64)∧(((!(decide ((s/2^k)=(0:Int))))=true→(0≤(k:Int)∧(k:Int)≤64)∧(((decide ((yZ .and .i64 (s/2^k) (1:Int))=(1:Int)))=true→out.map intD=out.map intD∧[[.int .i64 (k:Int)]]=([(k:Int)]:List Int).map intD∧(∀x,fG (intD x)=true)∧(out.length+([(k:Int)]:List Int).length)*8≤140737488355328∧dO ((k:Int)+(1:Int))∧ ∃(k' :Nat) (out' :List Int),((k:Int)+(1:Int))=(k' :Int)∧(out++[(k:Int)]).map intD=out'.map intD∧(k' ≤3∧out' =kT s k')∧3 - k' <3 - k)∧((decide ((yZ .and .i64 (s/2^k) (1:Int))=(1:Int)))=false→dO ((k:Int)+(1:Int))∧ ∃(k' :Nat) (out' :List Int),((k:Int)+(1:Int))=(k' :Int)∧out.map intD=out'.map intD∧(k' ≤3∧out' =kT s k')∧3 - k' <3 - k)))∧((!(decide ((s/2^k)=(0:Int))))=false→out.map intD=(oX s).map intD∧True))) (by kernel_rfl) ?_
 refine ⟨⟨0,([]:List Int),rfl,rfl,by omega,rfl⟩,fun k out ⟨hk,ho⟩=>?_⟩
 refine ⟨⟨by omega,by omega⟩,fun c0=>?_,fun c0=>?_⟩
 ·replace c0:=nq (nt c0)
  have hk3:=aOK hs hk c0
  have hln:=aBj s k
  refine ⟨⟨by omega,by omega⟩,fun c1=>?_,fun c1=>?_⟩
  ·replace c1:=yq c1
   refine ⟨rfl,rfl,fun _=>rfl,by first | omega | (simp [ho];omega),?_⟩
   refine ⟨⟨by omega,by omega⟩,?_⟩
   exact ⟨k+1,_,rfl,rfl,⟨by omega,by first | (rw [ho,yC c1];done) | (rw [ho,aAt c1];done)⟩,by omega⟩
  ·replace c1:=nq c1
   refine ⟨⟨by omega,by omega⟩,?_⟩
   exact ⟨k+1,_,rfl,rfl,⟨by omega,by first | (rw [ho,yC c1];done) | (rw [ho,aAt c1];done)⟩,by omega⟩
 ·replace c0:=yq (nf c0)
  refine ⟨?_,trivial⟩
  ·(rw [ho];exact congrArg _ (aKs hs hk c0))
abbrev wE (s:Int):AV × List (Nat × Rs):=(.own 0,[(0,.arr 3 1 true ((oX s).map intD))])
abbrev aCK (s:Int):Prop:=dJ Tryz.prog 195 [.one (.int .i64 s)] (wE s).1 (wE s).2
theorem aKu (s:Int) (hs:0≤s∧s≤7):aCK s:=by
 refine aZ bR aT Tryz.func195 (by kernel_rfl) (.loop (Nat × (List Int)) (Q2 Nat (List Int)) [3,4,5,6,7,8,9,10,11,12,13,14,15,16,17,18] [500,1700,1800] (fun yy0=>[(4,vI (yy0.1:Int)),(3,.own 500)]) (fun yy0=>[(500,some (.arr 3 1 true (yy0.2.map intD)))]) (fun yy0=>yy0.1≤3∧yy0.2=kT s yy0.1) (fun yy0=>3 - yy0.1) (fun yy0=> .br (.br (.app Int intD yy0.2 ([(yy0.1:Int)]:List Int)<| .back [(500,1800)]) (.back [(500,500)])) (.fin [(0,500)]))) (p:=(∃(k:Nat) (out:List Int),(0:Int)=(k:Int)∧[]=out.map intD∧k≤3∧out=kT s k)∧ ∀(k:Nat) (out:List Int),(k≤3∧out=kT s k)→((decide ((k:Int)<(3:Int)))=true→(0≤(k:Int)∧(k:Int)≤64)∧(((decide ((yZ .and .i64 (s/2^k) (1:Int))=(1:Int)))=true→out.map intD=out.map intD∧[[.int .i64 (k:Int)]]=([(k:Int)]:List Int).map intD∧(∀x,fG (intD x)=true)∧(out.length+([(k:Int)]:List Int).length)*8≤140737488355328∧dO ((k:Int)+(1:Int))∧ ∃(k' :Nat) (out' :List Int),((k:Int)+(1:Int))=(k' :Int)∧(out++[(k:Int)]).map intD=out'.map intD∧(k' ≤3∧out' =kT s k')∧3 - k' <3 - k)∧((decide ((yZ .and .i64 (s/2^k) (1:Int))=(1:Int)))=false→dO ((k:Int)+(1:Int))∧ ∃(k' :Nat) (out' :List Int),((k:Int)+(1:Int))=(k' :Int)∧out.map intD=out'.map intD∧(k' ≤3∧out' =kT s k')∧3 - k' <3 - k)))∧((decide ((k:Int)<(3:Int)))=false→out.map intD=(oX s).map intD∧True)) (by kernel_rfl) ?_
 refine ⟨⟨0,([]:List Int),rfl,rfl,by omega,rfl⟩,fun k out ⟨hk,ho⟩=>?_⟩
 refine ⟨fun c0=>?_,fun c0=>?_⟩
 ·replace c0:=yq c0
  skip
  have hln:=aBj s k
  refine ⟨⟨by omega,by omega⟩,fun c1=>?_,fun c1=>?_⟩
  ·replace c1:=yq c1
   refine ⟨rfl,rfl,fun _=>rfl,by first | omega | (simp [ho];omega),?_⟩
   refine ⟨⟨by omega,by omega⟩,?_⟩
   exact ⟨k+1,_,rfl,rfl,⟨by omega,by first | (rw [ho,yC c1];done) | (rw [ho,aAt c1];done)⟩,by omega⟩
  ·replace c1:=nq c1
   refine ⟨⟨by omega,by omega⟩,?_⟩
   exact ⟨k+1,_,rfl,rfl,⟨by omega,by first | (rw [ho,yC c1];done) | (rw [ho,aAt c1];done)⟩,by omega⟩
 ·replace c0:=nq c0
  refine ⟨?_,trivial⟩
  ·(rw [ho];exact congrArg _ (by rw [oX,show 3=k by omega]))
abbrev wF (n:Int):AV × List (Nat × Rs):=(.own 0,[(0,.arr 32 1 true ((cB n).map aF))])
abbrev aCL (n:Int):Prop:=dJ Tryz.prog 235 [.one (.int .i64 n)] (wF n).1 (wF n).2
theorem aKv (n:Int) (hn:1≤n∧n≤3):aCL n:=by
 refine aZ bR aT Tryz.func235 (by kernel_rfl) (.call (vB (gG n (1:Int) (3:Int))) []<| .br (.fin []) (.loop (Nat × (List (List Int))) (Q2 Nat (List (List Int))) [3,4,8,9,10,11,12,13,14,15,16,17,18,19] [800,1700,1800,1900] (fun yy0=>[(4,vI ((yy0.1+1:Nat):Int)),(3,.own 800)]) (fun yy0=>[(800,some (.arr 32 1 true (yy0.2.map aF)))]) (fun yy0=>yy0.1≤((2:Int)^n.toNat - 1).toNat∧yy0.2=qH yy0.1) (fun yy0=>((2:Int)^n.toNat - 1).toNat - yy0.1) (fun yy0=> .br (bG (wD ((yy0.1+1:Nat):Int))<| .appx (List Int) aF yy0.2 (oX ((yy0.1+1:Nat):Int))<| .back [(800,1900)]) (.fin [(0,800)])))) (p:=jV n (1:Int) (3:Int)∧(((!(gG n (1:Int) (3:Int)))=true→[]=(cB n).map aF∧True)∧((!(gG n (1:Int) (3:Int)))=false→(∃(k:Nat) (out:List (List Int)),(1:Int)=((k+1:Nat):Int)∧[]=out.map aF∧k≤((2:Int)^n.toNat - 1).toNat∧out=qH k)∧ ∀(k:Nat) (out:List (List Int)),(k≤((2:Int)^n.toNat - 1).toNat∧out=qH k)→(0≤n∧n≤64)∧(dO ((1:Int)*2^(Int.toNat n))∧(((decide (((k+1:Nat):Int)<((1:Int)*2^(Int.toNat n))))=true→aCJ ((k+1:Nat):Int)∧out.map aF=out.map aF∧(oX ((k+1:Nat):Int)).map intD=(oX ((k+1:Nat):Int)).map intD∧(out.length+1)*24≤140737488355328∧dO (((k+1:Nat):Int)+(1:Int))∧ ∃(k' :Nat) (out' :List (List Int)),(((k+1:Nat):Int)+(1:Int))=((k' +1:Nat):Int)∧(out++[oX ((k+1:Nat):Int)]).map aF=out'.map aF∧(k' ≤((2:Int)^n.toNat - 1).toNat∧out' =qH k')∧((2:Int)^n.toNat - 1).toNat - k' <((2:Int)^n.toNat - 1).toNat - k)∧((decide (((k+1:Nat):Int)<((1:Int)*2^(Int.toNat n))))=false→out.map aF=(cB n).map aF∧True)))))) (by kernel_rfl) ?_
 have hb:=aBk hn
 have hin:gG n 1 3=true:=aL2 hn.1 hn.2
 refine ⟨pE _ _ _,fun c0=>?_,fun c0=>?_⟩
 ·replace c0:=nt c0
  refine ⟨?_,trivial⟩
  ·first | (rw [ho,cB];congr 2;omega) | (exfalso;simp [hin] at c0;done) | (exfalso;simp [hin] at*;done)
 ·replace c0:=nf c0
  refine ⟨⟨0,([]:List (List Int)),rfl,rfl,Nat.zero_le _,rfl⟩,fun k out ⟨hk,ho⟩=>?_⟩
  refine ⟨⟨by omega,by omega⟩,⟨by omega,by omega⟩,fun c1=>?_,fun c1=>?_⟩
  ·replace c1:=yq c1
   refine ⟨aKt ((k+1:Nat):Int) (by omega),rfl,rfl,by first | omega | (simp [ho,qH];omega),⟨by omega,by omega⟩,?_⟩
   exact ⟨(k+1),_,rfl,rfl,⟨by omega,by rw [ho,aDw]⟩,by omega⟩
  ·replace c1:=nq c1
   refine ⟨?_,trivial⟩
   ·first | (rw [ho,cB];congr 2;omega) | (exfalso;simp [hin] at c0;done) | (exfalso;simp [hin] at*;done)
abbrev wG (n:Int):AV × List (Nat × Rs):=(.own 0,[(0,.arr 32 1 true ((cB n).map aF))])
abbrev aCM (n:Int):Prop:=dJ Tryz.prog 216 [.one (.int .i64 n)] (wG n).1 (wG n).2
theorem aKw (n:Int) (hn:1≤n∧n≤3):aCM n:=by
 refine aZ bR aT Tryz.func216 (by kernel_rfl) (.loop (Nat × (List (List Int))) (Q2 Nat (List (List Int))) [3,4,5,6,7,8,9,10,11,12,13,14,15,16,17,18,19,20] [500,1800,1900,2000] (fun yy0=>[(4,vI ((yy0.1+1:Nat):Int)),(3,.own 500)]) (fun yy0=>[(500,some (.arr 32 1 true (yy0.2.map aF)))]) (fun yy0=>yy0.1≤((2:Int)^n.toNat - 1).toNat∧yy0.2=qH yy0.1) (fun yy0=>((2:Int)^n.toNat - 1).toNat - yy0.1) (fun yy0=> .call (vB (gG n (1:Int) (3:Int))) []<| .br (.lit<| .lit<| .lit<| .lit<| .br (bG (wE ((yy0.1+1:Nat):Int))<| .appx (List Int) aF yy0.2 (oX ((yy0.1+1:Nat):Int))<| .back [(500,2000)]) (.fin [(0,500)])) (.fin [(0,500)]))) (p:=(∃(k:Nat) (out:List (List Int)),(1:Int)=((k+1:Nat):Int)∧[]=out.map aF∧k≤((2:Int)^n.toNat - 1).toNat∧out=qH k)∧ ∀(k:Nat) (out:List (List Int)),(k≤((2:Int)^n.toNat - 1).toNat∧out=qH k)→jW n (1:Int) (3:Int)∧(((gG n (1:Int) (3:Int))=true→(0≤n∧n≤64)∧(dO ((1:Int)*2^(Int.toNat n))∧(((decide (((k+1:Nat):Int)<((1:Int)*2^(Int.toNat n))))=true→aCK ((k+1:Nat):Int)∧out.map aF=out.map aF∧(oX ((k+1:Nat):Int)).map intD=(oX ((k+1:Nat):Int)).map intD∧(out.length+1)*24≤140737488355328∧dO (((k+1:Nat):Int)+(1:Int))∧ ∃(k' :Nat) (out' :List (List Int)),(((k+1:Nat):Int)+(1:Int))=((k' +1:Nat):Int)∧(out++[oX ((k+1:Nat):Int)]).map aF=out'.map aF∧(k' ≤((2:Int)^n.toNat - 1).toNat∧out' =qH k')∧((2:Int)^n.toNat - 1).toNat - k' <((2:Int)^n.toNat - 1).toNat - k)∧((decide (((k+1:Nat):Int)<((1:Int)*2^(Int.toNat n))))=false→out.map aF=(cB n).map aF∧True))))∧((gG n (1:Int) (3:Int))=false→out.map aF=(cB n).map aF∧True))) (by kernel_rfl) ?_
 have hb:=aBk hn
 have hin:gG n 1 3=true:=aL2 hn.1 hn.2
 refine ⟨⟨0,([]:List (List Int)),rfl,rfl,Nat.zero_le _,rfl⟩,fun k out ⟨hk,ho⟩=>?_⟩
 refine ⟨pF _ _ _,fun g8=>?_,fun g8=>?_⟩
 ·refine ⟨⟨by omega,by omega⟩,⟨by omega,by omega⟩,fun c0=>?_,fun c0=>?_⟩
  ·replace c0:=yq c0
   refine ⟨aKu ((k+1:Nat):Int) (by omega),rfl,rfl,by first | omega | (simp [ho,qH];omega),⟨by omega,by omega⟩,?_⟩
   exact ⟨(k+1),_,rfl,rfl,⟨by omega,by rw [ho,aDw]⟩,by omega⟩
  ·replace c0:=nq c0
   refine ⟨?_,trivial⟩
   ·first | (rw [ho,cB];congr 2;omega) | (exfalso;simp [hin] at c0;done) | (exfalso;simp [hin] at*;done)
 ·refine ⟨?_,trivial⟩
  ·first | (rw [ho,cB];congr 2;omega) | (exfalso;simp [hin] at c0;done) | (exfalso;simp [hin] at*;done)
def aAu (t:aN) (cols:List Int):aH:=⟨cols,(gS t cols).1,(gS t cols).2⟩
def bV (t:aN):aG:=if aS t=true then ⟨t.name,t.arity,(t.rows.length:Nat),(cB t.arity).map (aAu t)⟩ else dD
theorem bW {t:aN} (h:aS t=true):bV t=⟨t.name,t.arity,(t.rows.length:Nat),(cB t.arity).map (aAu t)⟩:=by rw [bV,if_pos h]
theorem eQ {t:aN} (h:aS t=false):bV t=dD:=by rw [bV,if_neg (by rw [h];decide)]
theorem aKB {α:Type} {l:List α} {k:Nat} (h:k<l.length):l.drop k≠[]:=fun e=>by
 have:=congrArg List.length e
 simp at this
 omega
theorem aKC {α:Type} {l l2:List α} {k:Nat} {x:α} (h:l.drop k=x::l2):l2=l.drop (k+1):=by rw [←List.tail_drop,h];rfl
theorem aKD {α:Type} {l l2:List α} {k:Nat} {x:α} (h:l.drop k=x::l2):l[k]? =some x:=by
 have:=congrArg List.head? h
 simpa [List.head?_drop] using this
theorem zS {n:Int} {k:Nat} {x:List Int} (h:(cB n)[k]? =some x):x.length≤3:=by
 obtain ⟨i,_,rfl⟩:=List.mem_map.1 (List.mem_of_getElem? h)
 exact aBj _ 3
theorem wH {n:Int} (h:1≤n∧n≤3):(cB n).length≤7:=by
 have:=aBk h
 simp only [cB,qH,List.length_map,List.length_range]
 omega
abbrev aBl (t:aN):AV × List (Nat × Rs):=(.agg [.p none (.str ((bV t).name)),vI ((bV t).arity),vI ((bV t).rowCount),.own 0],[(0,.arr 218 3 true (((bV t).groups).map aC))])
abbrev aFr (t:aN):Prop:=dJ Tryz.prog 155 [.agg [.str t.name,.int .i64 t.arity,.sl 32 1 (t.rows.map aF)]] (aBl t).1 (aBl t).2
theorem aOL (t:aN):aFr t:=by
 refine aZ bR aT Tryz.func155 (by kernel_rfl) (.call (vB (aS t)) []<| .br (.fin []) (.len t.rows.length<| bG (wF t.arity)<| .len ((cB t.arity).length)<| .loop (Nat × (List (List Int)) × (List aH)) (Q3 Nat (List (List Int)) (List aH)) [5,6,7,24,25,26,27,28,29,30,31,32,33,34,35,36,37,38,39,40,41,42,43] [300,2200,3100,3101,4000,4100,9000,50607] (fun yy0=>[(24,vI (yy0.1:Int))]) (fun yy0=>[(300,some (.box 121 [.p none (.str t.name),vI t.arity,vI ((t.rows.length:Nat):Int),.own 9000])),(9000,some (.arr 218 3 true (yy0.2.2.map aC))),(2200,some (.arr 32 1 true (List.replicate yy0.1 [bP.gone]++yy0.2.1.map aF)))]) (fun yy0=>yy0.1≤(cB t.arity).length∧yy0.2.1=(cB t.arity).drop yy0.1∧yy0.2.2=((cB t.arity).take yy0.1).map (aAu t)) (fun yy0=>(cB t.arity).length - yy0.1) (fun yy0=> .br (.takeg 6 2200 yy0.1 50607 (List Int) aF yy0.2.1 (fun x6 l6=> .len (yy0.1+(l6.length+1))<| .leave 7 2200 yy0.1 50607 (List Int) aF x6 l6 (bG (zN t x6)<| .appx aH aC yy0.2.2 (⟨x6,(gS t x6).1,(gS t x6).2⟩:aH)<| .back [(300,300),(2200,2200),(9000,4100)]))) (.fin [(0,9000)])))) (p:=(t.rows.map aF).length≤9223372036854775807→lN t∧(((!(aS t))=true→ByteArray.empty=((bV t).name)∧(0:Int)=((bV t).arity)∧(0:Int)=((bV t).rowCount)∧[]=((bV t).groups).map aC∧True)∧((!(aS t))=false→Lm aF t.rows∧(aCL t.arity∧(Lm aF (cB t.arity)∧((∃(k:Nat) (l2:List (List Int)) (out:List aH),(0:Int)=(k:Int)∧t.name=t.name∧t.arity=t.arity∧((t.rows.length:Nat):Int)=((t.rows.length:Nat):Int)∧[]=out.map aC∧(cB t.arity).map aF=List.replicate k [bP.gone]++l2.map aF∧k≤(cB t.arity).length∧l2=(cB t.arity).drop k∧out=((cB t.arity).take k).map (aAu t))∧ ∀(k:Nat) (l2:List (List Int)) (out:List aH),(k≤(cB t.arity).length∧l2=(cB t.arity).drop k∧out=((cB t.arity).take k).map (aAu t))→((decide ((k:Int)<(((cB t.arity).length:Nat):Int)))=true→List.replicate k [bP.gone]++l2.map aF=List.replicate k [bP.gone]++l2.map aF∧l2≠[]∧ ∀x6 l6,l2=x6::l6→0≤(k:Int)∧(List.replicate k [bP.gone]++(x6::l6).map aF).length=k+(l6.length+1)∧(k:Int)<((k+(l6.length+1):Nat):Int)∧k=k∧List.replicate k [bP.gone]++(x6::l6).map aF=List.replicate k [bP.gone]++(x6::l6).map aF∧k=k∧aDo t x6∧out.map aC=out.map aC∧x6.map intD=((⟨x6,(gS t x6).1,(gS t x6).2⟩:aH).columns).map intD∧((gS t x6).1).map aF=((⟨x6,(gS t x6).1,(gS t x6).2⟩:aH).values).map aF∧((gS t x6).2).map intD=((⟨x6,(gS t x6).1,(gS t x6).2⟩:aH).counts).map intD∧(out.length+1)*72≤140737488355328∧dO ((k:Int)+(1:Int))∧ ∃(k' :Nat) (l2' :List (List Int)) (out' :List aH),((k:Int)+(1:Int))=(k' :Int)∧t.name=t.name∧t.arity=t.arity∧((t.rows.length:Nat):Int)=((t.rows.length:Nat):Int)∧(out++[(⟨x6,(gS t x6).1,(gS t x6).2⟩:aH)]).map aC=out'.map aC∧List.replicate (k+1) [bP.gone]++l6.map aF=List.replicate k' [bP.gone]++l2'.map aF∧(k' ≤(cB t.arity).length∧l2' =(cB t.arity).drop k' ∧out' =((cB t.arity).take k').map (aAu t))∧(cB t.arity).length - k' <(cB t.arity).length - k)∧((decide ((k:Int)<(((cB t.arity).length:Nat):Int)))=false→t.name=((bV t).name)∧t.arity=((bV t).arity)∧((t.rows.length:Nat):Int)=((bV t).rowCount)∧out.map aC=((bV t).groups).map aC∧True))))))) (by kernel_rfl) ?_
 intro n0
 simp only [List.length_map] at n0
 refine ⟨sH t,fun c0=>?_,fun c0=>?_⟩
 ·replace c0:=nt c0
  have hbad:aS t=false:=by simpa using c0
  refine ⟨?_,?_,?_,?_,trivial⟩
  ·first | (rw [eQ hbad]<;>rfl) | (rw [bW hok]<;>rfl) | (rw [bW hok,ho,List.take_of_length_le (by omega)])
  ·first | (rw [eQ hbad]<;>rfl) | (rw [bW hok]<;>rfl) | (rw [bW hok,ho,List.take_of_length_le (by omega)])
  ·first | (rw [eQ hbad]<;>rfl) | (rw [bW hok]<;>rfl) | (rw [bW hok,ho,List.take_of_length_le (by omega)])
  ·first | (rw [eQ hbad]<;>rfl) | (rw [bW hok]<;>rfl) | (rw [bW hok,ho,List.take_of_length_le (by omega)])
 ·replace c0:=nf c0
  have hok:aS t=true:=by simpa using c0
  have hT:=cD hok
  have hn:=wH (n:=t.arity) ⟨hT.1,hT.2.1⟩
  refine ⟨List.length_map _,aKv t.arity (by omega),List.length_map _,⟨0,cB t.arity,([]:List aH),rfl,rfl,rfl,rfl,rfl,rfl,Nat.zero_le _,rfl,rfl⟩,fun k l2 out ⟨hk,hl,ho⟩=>?_⟩
  have hlen:l2.length=(cB t.arity).length - k:=by rw [hl,List.length_drop]
  refine ⟨fun c1=>?_,fun c1=>?_⟩
  ·replace c1:=yq c1
   refine ⟨rfl,(by rw [hl];exact aKB (by omega)),fun x6 l6 t6=>?_⟩
   have hdx:=hl.symm.trans t6
   have hx:=aKD hdx
   have hx3:=zS hx
   refine ⟨by omega,by simp,by omega,rfl,rfl,rfl,aMo t x6 (by omega),rfl,rfl,rfl,rfl,by first | omega | (simp [ho];omega),⟨by omega,by omega⟩,?_⟩
   exact ⟨k+1,_,_,rfl,rfl,rfl,rfl,rfl,rfl,⟨by omega,aKC hdx,by rw [ho,cU hx,List.map_append];rfl⟩,by omega⟩
  ·replace c1:=nq c1
   refine ⟨?_,?_,?_,?_,trivial⟩
   ·first | (rw [eQ hbad]<;>rfl) | (rw [bW hok]<;>rfl) | (rw [bW hok,ho,List.take_of_length_le (by omega)])
   ·first | (rw [eQ hbad]<;>rfl) | (rw [bW hok]<;>rfl) | (rw [bW hok,ho,List.take_of_length_le (by omega)])
   ·first | (rw [eQ hbad]<;>rfl) | (rw [bW hok]<;>rfl) | (rw [bW hok,ho,List.take_of_length_le (by omega)])
   ·first | (rw [eQ hbad]<;>rfl) | (rw [bW hok]<;>rfl) | (rw [bW hok,ho,List.take_of_length_le (by omega)])
abbrev aBm (t:aN):AV × List (Nat × Rs):=(.agg [.p none (.str ((bV t).name)),vI ((bV t).arity),vI ((bV t).rowCount),.own 0],[(0,.arr 218 3 true (((bV t).groups).map aC))])
abbrev aFs (t:aN):Prop:=dJ Tryz.prog 139 [.agg [.str t.name,.int .i64 t.arity,.sl 32 1 (t.rows.map aF)]] (aBm t).1 (aBm t).2
theorem aOM (t:aN):aFs t:=by
 refine aZ bR aT Tryz.func139 (by kernel_rfl) (.call (vB (aS t)) []<| .br (.fin []) (.len t.rows.length<| bG (wG t.arity)<| .loop (Nat × (List (List Int)) × (List aH)) (Q3 Nat (List (List Int)) (List aH)) [5,6,7,23,24,25,26,27,28,29,30,31,32,33,34,35,36,37,38,39,40,41,42,43,44,45,46,47,48,49] [300,2200,3500,3501,4700,4800,9000,50807] (fun yy0=>[(5,vI (yy0.1:Int))]) (fun yy0=>[(300,some (.box 121 [.p none (.str t.name),vI t.arity,vI ((t.rows.length:Nat):Int),.own 9000])),(9000,some (.arr 218 3 true (yy0.2.2.map aC))),(2200,some (.arr 32 1 true (List.replicate yy0.1 [bP.gone]++yy0.2.1.map aF)))]) (fun yy0=>yy0.1≤(cB t.arity).length∧yy0.2.1=(cB t.arity).drop yy0.1∧yy0.2.2=((cB t.arity).take yy0.1).map (aAu t)) (fun yy0=>(cB t.arity).length - yy0.1) (fun yy0=> .len (yy0.1+yy0.2.1.length)<| .br (.takeg 8 2200 yy0.1 50807 (List Int) aF yy0.2.1 (fun x8 l8=> .len (yy0.1+(l8.length+1))<| bG (zR t x8)<| .len (yy0.1+(l8.length+1))<| .appx aH aC yy0.2.2 (⟨x8,(gS t x8).1,(gS t x8).2⟩:aH)<| .leave 7 2200 yy0.1 50807 (List Int) aF x8 l8 (.back [(300,300),(2200,2200),(9000,4800)]))) (.fin [(0,9000)])))) (p:=(t.rows.map aF).length≤9223372036854775807→lO t∧(((!(aS t))=true→ByteArray.empty=((bV t).name)∧(0:Int)=((bV t).arity)∧(0:Int)=((bV t).rowCount)∧[]=((bV t).groups).map aC∧True)∧((!(aS t))=false→Lm aF t.rows∧(aCM t.arity∧((∃(k:Nat) (l2:List (List Int)) (out:List aH),(0:Int)=(k:Int)∧t.name=t.name∧t.arity=t.arity∧((t.rows.length:Nat):Int)=((t.rows.length:Nat):Int)∧[]=out.map aC∧(cB t.arity).map aF=List.replicate k [bP.gone]++l2.map aF∧k≤(cB t.arity).length∧l2=(cB t.arity).drop k∧out=((cB t.arity).take k).map (aAu t))∧ ∀(k:Nat) (l2:List (List Int)) (out:List aH),(k≤(cB t.arity).length∧l2=(cB t.arity).drop k∧out=((cB t.arity).take k).map (aAu t))→(List.replicate k [bP.gone]++l2.map aF).length=k+l2.length∧(((decide ((k:Int)<((k+l2.length:Nat):Int)))=true→List.replicate k [bP.gone]++l2.map aF=List.replicate k [bP.gone]++l2.map aF∧l2≠[]∧ ∀x8 l8,l2=x8::l8→0≤(k:Int)∧(List.replicate k [bP.gone]++(x8::l8).map aF).length=k+(l8.length+1)∧(k:Int)<((k+(l8.length+1):Nat):Int)∧k=k∧aDv t x8∧0≤(k:Int)∧(List.replicate k [bP.gone]++(x8::l8).map aF).length=k+(l8.length+1)∧(k:Int)<((k+(l8.length+1):Nat):Int)∧k=k∧out.map aC=out.map aC∧x8.map intD=((⟨x8,(gS t x8).1,(gS t x8).2⟩:aH).columns).map intD∧((gS t x8).1).map aF=((⟨x8,(gS t x8).1,(gS t x8).2⟩:aH).values).map aF∧((gS t x8).2).map intD=((⟨x8,(gS t x8).1,(gS t x8).2⟩:aH).counts).map intD∧(out.length+1)*72≤140737488355328∧List.replicate k [bP.gone]++(x8::l8).map aF=List.replicate k [bP.gone]++(x8::l8).map aF∧k=k∧dO ((k:Int)+(1:Int))∧ ∃(k' :Nat) (l2' :List (List Int)) (out' :List aH),((k:Int)+(1:Int))=(k' :Int)∧t.name=t.name∧t.arity=t.arity∧((t.rows.length:Nat):Int)=((t.rows.length:Nat):Int)∧(out++[(⟨x8,(gS t x8).1,(gS t x8).2⟩:aH)]).map aC=out'.map aC∧List.replicate (k+1) [bP.gone]++l8.map aF=List.replicate k' [bP.gone]++l2'.map aF∧(k' ≤(cB t.arity).length∧l2' =(cB t.arity).drop k' ∧out' =((cB t.arity).take k').map (aAu t))∧(cB t.arity).length - k' <(cB t.arity).length - k)∧((decide ((k:Int)<((k+l2.length:Nat):Int)))=false→t.name=((bV t).name)∧t.arity=((bV t).arity)∧((t.rows.length:Nat):Int)=((bV t).rowCount)∧out.map aC=((bV t).groups).map aC∧True))))))) (by kernel_rfl) ?_
 intro n0
 simp only [List.length_map] at n0
 refine ⟨sI t,fun c0=>?_,fun c0=>?_⟩
 ·replace c0:=nt c0
  have hbad:aS t=false:=by simpa using c0
  refine ⟨?_,?_,?_,?_,trivial⟩
  ·first | (rw [eQ hbad]<;>rfl) | (rw [bW hok]<;>rfl) | (rw [bW hok,ho,List.take_of_length_le (by omega)])
  ·first | (rw [eQ hbad]<;>rfl) | (rw [bW hok]<;>rfl) | (rw [bW hok,ho,List.take_of_length_le (by omega)])
  ·first | (rw [eQ hbad]<;>rfl) | (rw [bW hok]<;>rfl) | (rw [bW hok,ho,List.take_of_length_le (by omega)])
  ·first | (rw [eQ hbad]<;>rfl) | (rw [bW hok]<;>rfl) | (rw [bW hok,ho,List.take_of_length_le (by omega)])
 ·replace c0:=nf c0
  have hok:aS t=true:=by simpa using c0
  have hT:=cD hok
  have hn:=wH (n:=t.arity) ⟨hT.1,hT.2.1⟩
  refine ⟨List.length_map _,aKw t.arity (by omega),⟨0,cB t.arity,([]:List aH),rfl,rfl,rfl,rfl,rfl,rfl,Nat.zero_le _,rfl,rfl⟩,fun k l2 out ⟨hk,hl,ho⟩=>?_⟩
  have hlen:l2.length=(cB t.arity).length - k:=by rw [hl,List.length_drop]
  refine ⟨by simp,fun c1=>?_,fun c1=>?_⟩
  ·replace c1:=yq c1
   refine ⟨rfl,(by rw [hl];exact aKB (by omega)),fun x8 l8 t8=>?_⟩
   have hdx:=hl.symm.trans t8
   have hx:=aKD hdx
   have hx3:=zS hx
   refine ⟨by omega,by simp,by omega,rfl,aMt t x8 (by omega),by omega,by simp,by omega,rfl,rfl,rfl,rfl,rfl,by first | omega | (simp [ho];omega),rfl,rfl,⟨by omega,by omega⟩,?_⟩
   exact ⟨k+1,_,_,rfl,rfl,rfl,rfl,rfl,rfl,⟨by omega,aKC hdx,by rw [ho,cU hx,List.map_append];rfl⟩,by omega⟩
  ·replace c1:=nq c1
   refine ⟨?_,?_,?_,?_,trivial⟩
   ·first | (rw [eQ hbad]<;>rfl) | (rw [bW hok]<;>rfl) | (rw [bW hok,ho,List.take_of_length_le (by omega)])
   ·first | (rw [eQ hbad]<;>rfl) | (rw [bW hok]<;>rfl) | (rw [bW hok,ho,List.take_of_length_le (by omega)])
   ·first | (rw [eQ hbad]<;>rfl) | (rw [bW hok]<;>rfl) | (rw [bW hok,ho,List.take_of_length_le (by omega)])
   ·first | (rw [eQ hbad]<;>rfl) | (rw [bW hok]<;>rfl) | (rw [bW hok,ho,List.take_of_length_le (by omega)])
theorem wI (a:List Int) (l:List (List Int)):cP (a::l)=cP l+1+a.length:=by
 simp only [cP,rO,bZ,List.map_cons,List.sum_cons,List.length_cons]
 omega
theorem aMu: ∀{l:List (List Int)},(∀i,i+1<l.length→cC (l.getD i []) (l.getD (i+1) [])<0)→Asc l
 | [],_=>List.Pairwise.nil
 | [a],_=>List.pairwise_singleton _ _
 | a::b::l,h=>by
   have ih:=aMu (l:=b::l) fun i hi=>by
    have:=h (i+1) (by simpa using hi)
    simpa using this
   have h0:cC a b<0:=by
    have:=h 0 (by simp)
    simpa using this
   refine List.pairwise_cons.2 ⟨fun y hy=>?_,ih⟩
   rcases List.mem_cons.1 hy with rfl | q
   ·exact h0
   ·exact lP h0 ((List.pairwise_cons.1 ih).1 y q)
theorem aIC {l:List (List Int)} (h:zK l=true):Asc l:=aMu fun i hi=>by
 have:=List.all_eq_true.1 h i (List.mem_range.2 (by omega))
 simpa [lB] using this
theorem nQ {t:aN} (h:aS t=true):t.rows.all (fE t.arity)=true∧eP t.name=true∧zK t.rows=true:=by
 simp only [aS,Bool.and_eq_true] at h
 exact ⟨h.1,h.2.1,h.2.2.2.2⟩
theorem aID {l:List (List Int)} (h:Asc l):iI l=l:=by
 obtain ⟨h1,h2,_⟩:=wB l [] List.Pairwise.nil
 exact aGm h1 h fun x=>by have:=h2 x;simpa [iI] using this
theorem nR {t:aN} (h:aS t=true) {r:List Int} (hr:r∈t.rows):(r.length:Int)=t.arity:=by
 have:=List.all_eq_true.1 (nQ h).1 r hr
 simp only [fE,Bool.and_eq_true,decide_eq_true_eq] at this
 exact this.2
theorem aON {α:Type} {p:α→Bool} {l:List α} {k:Nat} {x:α} (h:l[k]? =some x) (ha:(l.take k).all (fun y=> !p y)=true) (hx:p x=true):l.find? p=some x:=by
 rw [List.find?_eq_some_iff_getElem]
 obtain ⟨hk,rfl⟩:=List.getElem?_eq_some_iff.1 h
 refine ⟨hx,k,hk,rfl,fun j hj=>?_⟩
 have:=List.all_eq_true.1 ha l[j] (List.mem_iff_getElem.2 ⟨j,by simp;omega,by simp⟩)
 exact this
theorem aKE {α:Type} {p:α→Bool} {l:List α} (ha:l.all (fun y=> !p y)=true):l.find? p=none:=by
 rw [List.find?_eq_none]
 intro x hx
 have:=List.all_eq_true.1 ha x hx
 simpa using this
end Go.Proofs.YtokkjaflmcjlhaaGreat
