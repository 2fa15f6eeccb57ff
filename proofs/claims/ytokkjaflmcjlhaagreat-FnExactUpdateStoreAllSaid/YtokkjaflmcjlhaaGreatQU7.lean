/-
  Contracts and plain laws, joined: part 8.
-/
import Derived.Test.YtokkjaflmcjlhaaGreatQU5
import Derived.Test.YtokkjaflmcjlhaaGreatQU6
namespace Go.Proofs.YtokkjaflmcjlhaaGreat
open Go.ChangeShapes Go.WideShapes Go.ChangeAt Go.RowKit
set_option linter.unusedVariables false
set_option linter.unusedSimpArgs false
set_option maxRecDepth 100000
set_option maxHeartbeats 4000000
def kV (t:aN) (cols:List Int):List (List Int):=t.rows.map fun r=>(fM r cols).1
def hX (all:List (List Int)) (g:List Int):Int:=(((all.filter fun x=>decide (g=x)).length:Nat):Int)
def aMi (t:aN) (cols:List Int):List (List Int):=fK (dH (kV t cols))
def aMj (t:aN) (cols:List Int):List Int:=(aMi t cols).map (hX (kV t cols))
def gS (t:aN) (cols:List Int):List (List Int) × List Int:=if (aS t&&dN (t.arity - 1) cols)=true then (aMi t cols,aMj t cols) else ([],[])
theorem fB {t:aN} {cols:List Int} (h:(aS t&&dN (t.arity - 1) cols)=true):gS t cols=(aMi t cols,aMj t cols):=by rw [gS,if_pos h]
theorem mI {t:aN} {cols:List Int} (h:(aS t&&dN (t.arity - 1) cols)=false):gS t cols=([],[]):=by rw [gS,if_neg (by rw [h];decide)]
theorem aKA {all:List (List Int)} {g x:List Int} {j:Nat} (hx:all[j]? =some x) (h:g=x):hX (all.take (j+1)) g=hX (all.take j) g+1:=by
 subst h
 rw [hX,hX,cU hx,List.filter_append]
 simp
theorem aMk {all:List (List Int)} {g x:List Int} {j:Nat} (hx:all[j]? =some x) (h: ¬g=x):hX (all.take (j+1)) g=hX (all.take j) g:=by
 rw [hX,hX,cU hx,List.filter_append]
 simp [h]
theorem aMl (all:List (List Int)) (g:List Int):0≤hX all g∧hX all g≤all.length:=by
 have:=List.length_filter_le (fun x=>decide (g=x)) all
 unfold hX
 omega
theorem aHx {b:Int} {cols:List Int} (h:dN b cols=true): ∀i,i<cols.length→(i:Int)≤cols.getD i 0∧cols.getD i 0≤b
 | 0,hi=>by
   have:=List.all_eq_true.1 h 0 (List.mem_range.2 hi)
   simp only [iH,Bool.and_eq_true] at this
   have:=kW this.1
   exact ⟨by simpa using this.1,this.2⟩
 | i+1,hi=>by
   have ih:=aHx h i (by omega)
   have:=List.all_eq_true.1 h (i+1) (List.mem_range.2 hi)
   simp only [iH,Bool.and_eq_true,Bool.or_eq_true,decide_eq_true_eq,Nat.add_sub_cancel] at this
   have h2:=kW this.1
   rcases this.2 with q | q
   ·omega
   ·exact ⟨by omega,h2.2⟩
theorem aAr {b:Int} {cols:List Int} (h:dN b cols=true) (hb:b≤2):cols.length≤3:=by
 by_cases h3:3<cols.length
 ·have:=aHx h 3 h3
  omega
 ·omega
theorem zM {α:Type} {ct:α→Nat} {m:Nat}: ∀{l:List α},(∀x∈l,ct x≤m)→bB ct l≤l.length*m
 | [],_=>by simp [bB]
 | a::l,h=>by
   have h1:=h a (by simp)
   have h2:=zM (l:=l) fun x hx=>h x (by simp [hx])
   simp only [bB,List.map_cons,List.sum_cons,List.length_cons,Nat.add_mul,Nat.one_mul] at*
   omega
theorem tJ {l:List (List Int)} {m:Nat} (h: ∀r∈l,r.length≤m):cP l≤l.length+l.length*m:=by
 have h1:=zM (ct:=bZ) (m:=m) (l:=l) fun r hr=>h r hr
 have h2:cP l=l.length+bB bZ l:=rfl
 omega
theorem aDn {t:aN} {cols:List Int} (h:(aS t&&dN (t.arity - 1) cols)=true):(kV t cols).length≤8∧cP (kV t cols)≤32:=by
 rw [Bool.and_eq_true] at h
 have ha:=cD h.1
 have hc:=aAr h.2 (by omega)
 have hl:(kV t cols).length=t.rows.length:=List.length_map _
 have:=tJ (l:=kV t cols) (m:=3) fun r hr=>by
  obtain ⟨q,_,rfl⟩:=List.mem_map.1 hr
  have:=aDi q cols
  omega
 omega
theorem aMm (l:List (List Int)):(fK (dH l)).length≤l.length:=by
 rw [fK,List.length_map,←aBc l]
 have:=(List.filter_sublist (l:=List.range (dH l).length) (p:=fun j=>decide (j=0) || !aGi (dH l) j (j - 1))).length_le
 rw [List.length_range] at this
 exact this
theorem aPZ {α:Type} {l:List α} {i:Nat} {x y:α} (h:(l.set i x)[i]? =some y):y=x:=iO h
theorem aKr {f:List Int→Int} {l:List (List Int)} {i:Nat} (h:i<l.length):((l.take i).map f++List.replicate (l.length - i) (0:Int)).set i 0=(l.take i).map f++List.replicate (l.length - i) 0:=by
 rw [show l.length - i=(l.length - (i+1))+1 by omega,List.replicate_succ,List.set_append_right _ _ (by simp;omega)]
 simp [show i - min i l.length=0 by omega]
theorem aMn {f:List Int→Int} {l:List (List Int)} {i:Nat} {x:List Int} (h:l[i]? =some x):((l.take i).map f++List.replicate (l.length - i) (0:Int)).set i (f x)=(l.take (i+1)).map f++List.replicate (l.length - (i+1)) 0:=by
 have hi:i<l.length:=(List.getElem?_eq_some_iff.1 h).1
 rw [show l.length - i=(l.length - (i+1))+1 by omega,List.replicate_succ,List.set_append_right _ _ (by simp;omega),cU h]
 simp [show i - min i l.length=0 by omega]
theorem aJF {f:List Int→Int} {l:List (List Int)} {i:Nat} (h:i≤l.length) (h' : ¬i<l.length):(l.take i).map f++List.replicate (l.length - i) (0:Int)=l.map f:=by
 rw [show i=l.length by omega];simp
abbrev zN (t:aN) (cols:List Int):AV × List (Nat × Rs):=(.tup [.own 0,.own 1],[(0,.arr 32 1 true (((gS t cols).1).map aF)),(1,.arr 3 1 true (((gS t cols).2).map intD))])
abbrev aDo (t:aN) (cols:List Int):Prop:=dJ Tryz.prog 236 [.agg [.str t.name,.int .i64 t.arity,.sl 32 1 (t.rows.map aF)],.one (.sl 3 1 (cols.map intD))] (zN t cols).1 (zN t cols).2
theorem aMo (t:aN) (cols:List Int) (hl:cols.length≤1048576):aDo t cols:=by
 refine aZ bR aT Tryz.func236 (by kernel_rfl) (.call (vB (aS t)) []<| .br (.fin []) (.call (vB (dN (t.arity - 1) cols)) []<| .lit<| .lit<| .br (.fin []) (.len t.rows.length<| .loop (Nat × (List (List Int))) (Q2 Nat (List (List Int))) [6,8,9,10,27,31,32,33,34,35,36,37,38,39,40,41,42,43,44,45] [2700,3800,4300,4400] (fun yy0=>[(31,vI (yy0.1:Int)),(6,.own 2700)]) (fun yy0=>[(2700,some (.arr 32 1 true (yy0.2.map aF)))]) (fun yy0=>yy0.1≤t.rows.length∧yy0.2=(t.rows.take yy0.1).map fun r=>(fM r cols).1) (fun yy0=>t.rows.length - yy0.1) (fun yy0=> .br (.elem _ aF t.rows (fun e33=>bG (qF e33 cols)<| .appx (List Int) aF yy0.2 ((fM e33 cols).1)<| .back [(2700,4400)])) (bG (nP yy0.2)<| .len ((fK (dH yy0.2)).length)<| .mk ((fK (dH yy0.2)).length) [.int .i64 (0:Int)] ((List.replicate ((fK (dH yy0.2)).length) (0:Int)).map intD)<| .len ((fK (dH yy0.2)).length)<| .loop (Nat × (List Int)) (Q2 Nat (List Int)) [13,14,16,53,54,55,56,57,58,59,60,61,62,63,64,65,66,67,68,69,70,71,72,73,74] [5000] (fun yy1=>[(53,vI (yy1.1:Int))]) (fun yy1=>[(5000,some (.arr 3 1 true (yy1.2.map intD)))]) (fun yy1=>yy1.1≤(fK (dH yy0.2)).length∧yy1.2=((fK (dH yy0.2)).take yy1.1).map (hX yy0.2)++List.replicate ((fK (dH yy0.2)).length - yy1.1) 0∧yy1.2.length=(fK (dH yy0.2)).length) (fun yy1=>(fK (dH yy0.2)).length - yy1.1) (fun yy1=> .br (.len ((fK (dH yy0.2)).length)<| .elem _ aF (fK (dH yy0.2)) (fun e57=> .len yy0.2.length<| .loop (Nat × (List Int) × Int) (Q3 Nat (List Int) Int) [16,60,61,62,63,64,65,66,67,68,69,70,71,72,73] [5000] (fun yy2=>[(60,vI (yy2.1:Int))]) (fun yy2=>[(5000,some (.arr 3 1 true (yy2.2.1.map intD)))]) (fun yy2=>yy2.1≤yy0.2.length∧yy2.2.1=yy1.2.set yy1.1 yy2.2.2∧yy2.2.2=hX (yy0.2.take yy2.1) e57) (fun yy2=>yy0.2.length - yy2.1) (fun yy2=> .br (.len yy0.2.length<| .elem _ aF yy0.2 (fun e63=> .call (vB (decide (e57=e63))) []<| .br (.len yy2.2.1.length<| .elem _ intD yy2.2.1 (fun e70=> .len yy2.2.1.length<| .set Int intD yy2.2.1 (fun s19_6=>e70+(1:Int)) (fun s19_6=> .back [(5000,5000)]))) (.back [(5000,5000)]))) (.back [(5000,5000)])))) (.fin [(0,4700),(1,5000)]))))))) (p:=(t.rows.map aF).length≤9223372036854775807→(cols.map intD).length≤9223372036854775807→lN t∧(((!(aS t))=true→[]=((gS t cols).1).map aF∧[]=((gS t cols).2).map intD∧True)∧((!(aS t))=false→vY cols t.arity∧(((!(dN (t.arity - 1) cols))=true→[]=((gS t cols).1).map aF∧[]=((gS t cols).2).map intD∧True)∧((!(dN (t.arity - 1) cols))=false→Lm aF t.rows∧((∃(k:Nat) (out:List (List Int)),(0:Int)=(k:Int)∧[]=out.map aF∧k≤t.rows.length∧out=(t.rows.take k).map fun r=>(fM r cols).1)∧ ∀(k:Nat) (out:List (List Int)),(k≤t.rows.length∧out=(t.rows.take k).map fun r=>(fM r cols).1)→((decide ((k:Int)<((t.rows.length:Nat):Int)))=true→0≤(k:Int)∧Em aF t.rows k fun e33=>tI e33 cols∧out.map aF=out.map aF∧((fM e33 cols).1).map intD=((fM e33 cols).1).map intD∧(out.length+1)*24≤140737488355328∧dO ((k:Int)+(1:Int))∧ ∃(k' :Nat) (out' :List (List Int)),((k:Int)+(1:Int))=(k' :Int)∧(out++[(fM e33 cols).1]).map aF=out'.map aF∧(k' ≤t.rows.length∧out' =(t.rows.take k').map fun r=>(fM r cols).1)∧t.rows.length - k' <t.rows.length - k)∧((decide ((k:Int)<((t.rows.length:Nat):Int)))=false→rU out∧(Lm aF (fK (dH out))∧((((fK (dH out)).length:Nat):Int)=(((fK (dH out)).length:Nat):Int)∧(((fK (dH out)).length:Nat):Int)=(((fK (dH out)).length:Nat):Int)∧8*((fK (dH out)).length)≤281474976710656∧((fK (dH out)).length)≤9223372036854775807∧List.replicate ((fK (dH out)).length) [.int .i64 (0:Int)]=(List.replicate ((fK (dH out)).length) (0:Int)).map intD∧(Lm aF (fK (dH out))∧((∃(i:Nat) (c:List Int),(0:Int)=(i:Int)∧(List.replicate ((fK (dH out)).length) (0:Int)).map intD=c.map intD∧i≤(fK (dH out)).length∧c=((fK (dH out)).take i).map (hX out)++List.replicate ((fK (dH out)).length - i) 0∧c.length=(fK (dH out)).length)∧ ∀(i:Nat) (c:List Int),(i≤(fK (dH out)).length∧c=((fK (dH out)).take i).map (hX out)++List.replicate ((fK (dH out)).length - i) 0∧c.length=(fK (dH out)).length)→((decide ((i:Int)<(((fK (dH out)).length:Nat):Int)))=true→0≤(i:Int)∧Lm aF (fK (dH out))∧(i:Int)<(((fK (dH out)).length:Nat):Int)∧Em aF (fK (dH out)) i fun e57=>Lm aF out∧((∃(j:Nat) (c2:List Int) (z:Int),(0:Int)=(j:Int)∧c.map intD=c2.map intD∧j≤out.length∧c2=c.set i z∧z=hX (out.take j) e57)∧ ∀(j:Nat) (c2:List Int) (z:Int),(j≤out.length∧c2=c.set i z∧z=hX (out.take j) e57)→((decide ((j:Int)<((out.length:Nat):Int)))=true→0≤(j:Int)∧Lm aF out∧(j:Int)<((out.length:Nat):Int)∧Em aF out j fun e63=>nB e57 e63∧(((decide (e57=e63))=true→0≤(i:Int)∧Lm intD c2∧(i:Int)<((c2.length:Nat):Int)∧Em intD c2 i fun e70=>dO (e70+(1:Int))∧(0≤(i:Int)∧Lm intD c2∧(i:Int)<((c2.length:Nat):Int)∧(c2.map intD=c2.map intD∧i<c2.length∧ ∀s19_6,c2[i]? =some s19_6→fG (intD s19_6)=true∧0+1≤(intD s19_6).length∧(intD s19_6).take 0++[.int .i64 (e70+(1:Int))]++(intD s19_6).drop (0+1)=intD (e70+(1:Int))∧dO ((j:Int)+(1:Int))∧ ∃(j' :Nat) (c2' :List Int) (z' :Int),((j:Int)+(1:Int))=(j' :Int)∧(c2.set i (e70+(1:Int))).map intD=c2'.map intD∧(j' ≤out.length∧c2' =c.set i z' ∧z' =hX (out.take j') e57)∧out.length - j' <out.length - j)))∧((decide (e57=e63))=false→dO ((j:Int)+(1:Int))∧ ∃(j' :Nat) (c2' :List Int) (z' :Int),((j:Int)+(1:Int))=(j' :Int)∧c2.map intD=c2'.map intD∧(j' ≤out.length∧c2' =c.set i z' ∧z' =hX (out.take j') e57)∧out.length - j' <out.length - j)))∧((decide ((j:Int)<((out.length:Nat):Int)))=false→dO ((i:Int)+(1:Int))∧ ∃(i' :Nat) (c' :List Int),((i:Int)+(1:Int))=(i' :Int)∧c2.map intD=c'.map intD∧(i' ≤(fK (dH out)).length∧c' =((fK (dH out)).take i').map (hX out)++List.replicate ((fK (dH out)).length - i') 0∧c'.length=(fK (dH out)).length)∧(fK (dH out)).length - i' <(fK (dH out)).length - i)))∧((decide ((i:Int)<(((fK (dH out)).length:Nat):Int)))=false→(fK (dH out)).map aF=((gS t cols).1).map aF∧c.map intD=((gS t cols).2).map intD∧True)))))))))))) (by kernel_rfl) ?_
 intro n0 n1
 simp only [List.length_map] at n0 n1
 refine ⟨sH t,fun g20=>?_,fun g20=>?_⟩
 ·replace g20:=nt g20
  have hbad:(aS t&&dN (t.arity - 1) cols)=false:=by rw [g20];rfl
  refine ⟨?_,?_,trivial⟩
  ·first | (rw [mI hbad]<;>rfl) | (rw [fB hok,hA]<;>rfl) | (rw [fB hok,hC]<;>rfl)
  ·first | (rw [mI hbad]<;>rfl) | (rw [fB hok,hA]<;>rfl) | (rw [fB hok,hC]<;>rfl)
 ·replace g20:=nf g20
  have hT:=cD g20
  refine ⟨aFk _ _ (by omega),fun c0=>?_,fun c0=>?_⟩
  ·replace c0:=nt c0
   have hbad:(aS t&&dN (t.arity - 1) cols)=false:=by rw [g20,c0];rfl
   refine ⟨?_,?_,trivial⟩
   ·first | (rw [mI hbad]<;>rfl) | (rw [fB hok,hA]<;>rfl) | (rw [fB hok,hC]<;>rfl)
   ·first | (rw [mI hbad]<;>rfl) | (rw [fB hok,hA]<;>rfl) | (rw [fB hok,hC]<;>rfl)
  ·replace c0:=nf c0
   have hok:(aS t&&dN (t.arity - 1) cols)=true:=by rw [g20,c0];rfl
   obtain ⟨hs1,hs2⟩:=aDn hok
   refine ⟨List.length_map _,⟨0,([]:List (List Int)),rfl,rfl,Nat.zero_le _,rfl⟩,fun k out ⟨hk,ho⟩=>?_⟩
   refine ⟨fun c1=>?_,fun c1=>?_⟩
   ·replace c1:=yq c1
    refine ⟨by omega,rfl,by first | omega | (rw [hc2,List.length_set,hcn];omega) | (simp;omega),fun e33 h33=>?_⟩
    refine ⟨aDj _ _ (by omega),rfl,rfl,by first | omega | (simp [ho];omega) | (simp;omega),⟨by omega,by omega⟩,?_⟩
    exact ⟨k+1,_,rfl,rfl,⟨by omega,by rw [ho,cU h33,List.map_append];rfl⟩,by omega⟩
   ·replace c1:=nq c1
    have hA:out=kV t cols:=by rw [ho,List.take_of_length_le (by omega)];rfl
    rw [←hA] at hs1 hs2
    have hd:=aMm out
    refine ⟨aCH out (by omega),List.length_map _,rfl,rfl,by first | omega | (simp [ho];omega) | (simp;omega),by first | omega | (simp [ho];omega) | (simp;omega),by first | (rw [List.map_replicate];done) | (rw [List.map_replicate];rfl),List.length_map _,⟨0,List.replicate ((fK (dH out)).length) (0:Int),rfl,rfl,Nat.zero_le _,by simp,List.length_replicate⟩,fun i c ⟨hi,hc,hcn⟩=>?_⟩
    refine ⟨fun c2=>?_,fun c2=>?_⟩
    ·replace c2:=yq c2
     refine ⟨by omega,List.length_map _,by first | omega | (rw [hc2,List.length_set,hcn];omega) | (simp;omega),rfl,by first | omega | (rw [hc2,List.length_set,hcn];omega) | (simp;omega),fun e57 h57=>?_⟩
     refine ⟨List.length_map _,⟨0,c,0,rfl,rfl,Nat.zero_le _,by rw [hc];exact (aKr (by omega)).symm,rfl⟩,fun j c2 z ⟨hj,hc2,hz⟩=>?_⟩
     refine ⟨fun c3=>?_,fun c3=>?_⟩
     ·replace c3:=yq c3
      refine ⟨by omega,List.length_map _,by first | omega | (rw [hc2,List.length_set,hcn];omega) | (simp;omega),rfl,by first | omega | (rw [hc2,List.length_set,hcn];omega) | (simp;omega),fun e63 h63=>?_⟩
      refine ⟨xY _ _,fun c4=>?_,fun c4=>?_⟩
      ·replace c4:=yq c4
       refine ⟨by omega,List.length_map _,by first | omega | (rw [hc2,List.length_set,hcn];omega) | (simp;omega),rfl,by first | omega | (rw [hc2,List.length_set,hcn];omega) | (simp;omega),fun e70 h70=>?_⟩
       have hz70:e70=z:=by rw [hc2] at h70;exact (aPZ h70)
       have hcl:=aMl (out.take j) e57
       have hjl:(out.take j).length≤out.length:=by simp;omega
       refine ⟨⟨by omega,by omega⟩,by omega,List.length_map _,by first | omega | (rw [hc2,List.length_set,hcn];omega) | (simp;omega),rfl,by first | omega | (rw [hc2,List.length_set,hcn];omega) | (simp;omega),fun s19_6 hs19_6=>⟨rfl,Nat.le_of_ble_eq_true rfl,rfl,?_⟩⟩
       refine ⟨⟨by omega,by omega⟩,?_⟩
       exact ⟨j+1,_,_,rfl,rfl,⟨by omega,by rw [hc2,List.set_set,hz70],by rw [hz,aKA h63 c4]⟩,by omega⟩
      ·replace c4:=nq c4
       refine ⟨⟨by omega,by omega⟩,?_⟩
       exact ⟨j+1,_,_,rfl,rfl,⟨by omega,hc2,by rw [hz,aMk h63 c4]⟩,by omega⟩
     ·replace c3:=nq c3
      have hj9:j=out.length:=by omega
      rw [hj9,List.take_length] at hz
      refine ⟨⟨by omega,by omega⟩,?_⟩
      exact ⟨i+1,_,rfl,rfl,⟨by omega,by rw [hc2,hz,hc];exact aMn h57,by rw [hc2,List.length_set];exact hcn⟩,by omega⟩
    ·replace c2:=nq c2
     have hC:c=aMj t cols:=by rw [hc,aJF hi (by omega),hA];rfl
     refine ⟨?_,?_,trivial⟩
     ·first | (rw [mI hbad]<;>rfl) | (rw [fB hok,hA]<;>rfl) | (rw [fB hok,hC]<;>rfl)
     ·first | (rw [mI hbad]<;>rfl) | (rw [fB hok,hA]<;>rfl) | (rw [fB hok,hC]<;>rfl)
theorem aHy {α:Type} (f:α→Nat) {x:α}: ∀{l:List α},x∈l→f x≤bB f l
 | a::l,h=>by
   simp only [bB,List.map_cons,List.sum_cons]
   rcases List.mem_cons.1 h with q | q
   ·subst q;omega
   ·have:=aHy f q
    simp only [bB] at this
    omega
theorem yB {l:List (List Int)} {i:Nat} {x:List Int} (h:l[i]? =some x):x.length≤cP l:=by
 have h1:cP l=l.length+bB bZ l:=rfl
 have h2:x.length≤bB bZ l:=aHy bZ (List.mem_of_getElem? h)
 omega
def pgo (row:List Int):Bool→List (List Int)→List (List Int)
 | p,[]=>if p=true then [] else [row]
 | p,x::xs=>if 0<cC x row∧p=false then row::x::pgo row true xs else x::pgo row (p || decide (cC x row=0)) xs
def kP (row:List Int) (rows:List (List Int)):List (List Int):=pgo row false rows
theorem aBf {row x:List Int} {xs:List (List Int)} (h:0<cC x row):pgo row false (x::xs)=row::x::pgo row true xs:=by rw [pgo,if_pos ⟨h,rfl⟩]
theorem aBg {row x:List Int} {xs:List (List Int)} {p:Bool} (h:cC x row=0):pgo row p (x::xs)=x::pgo row true xs:=by rw [pgo,if_neg (by omega),h];simp
theorem aBh {row x:List Int} {xs:List (List Int)}:pgo row true (x::xs)=x::pgo row true xs:=by rw [pgo,if_neg (by simp)];rfl
theorem aBi {row x:List Int} {xs:List (List Int)} {p:Bool} (h: ¬0<cC x row) (h' : ¬cC x row=0):pgo row p (x::xs)=x::pgo row p xs:=by rw [pgo,if_neg (by omega)];simp [h']
abbrev tK (rows:List (List Int)) (row:List Int):AV × List (Nat × Rs):=(.own 0,[(0,.arr 32 1 true ((kP row rows).map aF))])
abbrev zO (rows:List (List Int)) (row:List Int):Prop:=dJ Tryz.prog 210 [.one (.sl 32 1 (rows.map aF)),.one (.sl 3 1 (row.map intD))] (tK rows row).1 (tK rows row).2
theorem aHz (rows:List (List Int)) (row:List Int) (hl:rows.length≤1000000) (hc:cP rows≤1048576) (hr:row.length≤1048576):zO rows row:=by
 refine aZ bR aT Tryz.func210 (by kernel_rfl) (.loop (Nat × (List (List Int)) × Bool) (Q3 Nat (List (List Int)) Bool) [5,6,7,8,9,10,11,12,13,14,15,16,17,18,19,20,21,22,23,24,25,26,27,28,29,30,31,32,33,34,35,36,37,38,39,40,41,42,43,44] [900,3100,3300,3400,3500,3700,4200,4300,4400] (fun yy0=>[(7,vI (yy0.1:Int)),(5,.own 900),(6,vB yy0.2.2)]) (fun yy0=>[(900,some (.arr 32 1 true (yy0.2.1.map aF)))]) (fun yy0=>yy0.1≤rows.length∧yy0.2.1.length≤2*yy0.1∧yy0.2.1++pgo row yy0.2.2 (rows.drop yy0.1)=kP row rows) (fun yy0=>rows.length - yy0.1) (fun yy0=> .len rows.length<| .br (.elem _ aF rows (fun e18=> .call (vI (cC e18 row)) []<| .br (.br (.elem _ aF rows (fun e40=> .app Int intD ([]:List Int) e40<| .appx (List Int) aF yy0.2.1 (([]:List Int)++e40)<| .back [(900,4400)])) (.elem _ aF rows (fun e40=> .app Int intD ([]:List Int) e40<| .appx (List Int) aF yy0.2.1 (([]:List Int)++e40)<| .back [(900,4400)]))) (.br (.lit<| .lit<| .br (.app Int intD ([]:List Int) row<| .appx (List Int) aF yy0.2.1 (([]:List Int)++row)<| .elem _ aF rows (fun e40=> .app Int intD ([]:List Int) e40<| .appx (List Int) aF (yy0.2.1++[([]:List Int)++row]) (([]:List Int)++e40)<| .back [(900,4400)])) (.elem _ aF rows (fun e40=> .app Int intD ([]:List Int) e40<| .appx (List Int) aF yy0.2.1 (([]:List Int)++e40)<| .back [(900,4400)]))) (.elem _ aF rows (fun e40=> .app Int intD ([]:List Int) e40<| .appx (List Int) aF yy0.2.1 (([]:List Int)++e40)<| .back [(900,4400)]))))) (.br (.app Int intD ([]:List Int) row<| .appx (List Int) aF yy0.2.1 (([]:List Int)++row)<| .fin [(0,5200)]) (.fin [(0,900)])))) (p:=(rows.map aF).length≤9223372036854775807→(row.map intD).length≤9223372036854775807→(∃(k:Nat) (out:List (List Int)) (p:Bool),(0:Int)=(k:Int)∧(false)=p∧[]=out.map aF∧k≤rows.length∧out.length≤2*k∧out++pgo row p (rows.drop k)=kP row rows)∧ ∀(k:Nat) (out:List (List Int)) (p:Bool),(k≤rows.length∧out.length≤2*k∧out++pgo row p (rows.drop k)=kP row rows)→Lm aF rows∧(((decide ((k:Int)<((rows.length:Nat):Int)))=true→0≤(k:Int)∧Em aF rows k fun e18=>fA e18 row∧(((decide ((cC e18 row)=(0:Int)))=true→((decide ((0:Int)<(cC e18 row)))=true→0≤(k:Int)∧Em aF rows k fun e40=>[]=([]:List Int).map intD∧e40.map intD=e40.map intD∧(∀x,fG (intD x)=true)∧(([]:List Int).length+e40.length)*8≤140737488355328∧out.map aF=out.map aF∧(([]:List Int)++e40).map intD=(([]:List Int)++e40).map intD∧(out.length+1)*24≤140737488355328∧dO ((k:Int)+(1:Int))∧ ∃(k' :Nat) (out' :List (List Int)) (p' :Bool),((k:Int)+(1:Int))=(k' :Int)∧(true)=p' ∧(out++[([]:List Int)++e40]).map aF=out'.map aF∧(k' ≤rows.length∧out'.length≤2*k' ∧out' ++pgo row p' (rows.drop k')=kP row rows)∧rows.length - k' <rows.length - k)∧((decide ((0:Int)<(cC e18 row)))=false→0≤(k:Int)∧Em aF rows k fun e40=>[]=([]:List Int).map intD∧e40.map intD=e40.map intD∧(∀x,fG (intD x)=true)∧(([]:List Int).length+e40.length)*8≤140737488355328∧out.map aF=out.map aF∧(([]:List Int)++e40).map intD=(([]:List Int)++e40).map intD∧(out.length+1)*24≤140737488355328∧dO ((k:Int)+(1:Int))∧ ∃(k' :Nat) (out' :List (List Int)) (p' :Bool),((k:Int)+(1:Int))=(k' :Int)∧(true)=p' ∧(out++[([]:List Int)++e40]).map aF=out'.map aF∧(k' ≤rows.length∧out'.length≤2*k' ∧out' ++pgo row p' (rows.drop k')=kP row rows)∧rows.length - k' <rows.length - k))∧((decide ((cC e18 row)=(0:Int)))=false→((decide ((0:Int)<(cC e18 row)))=true→((!p)=true→[]=([]:List Int).map intD∧row.map intD=row.map intD∧(∀x,fG (intD x)=true)∧(([]:List Int).length+row.length)*8≤140737488355328∧out.map aF=out.map aF∧(([]:List Int)++row).map intD=(([]:List Int)++row).map intD∧(out.length+1)*24≤140737488355328∧0≤(k:Int)∧Em aF rows k fun e40=>[]=([]:List Int).map intD∧e40.map intD=e40.map intD∧(∀x,fG (intD x)=true)∧(([]:List Int).length+e40.length)*8≤140737488355328∧(out++[([]:List Int)++row]).map aF=(out++[([]:List Int)++row]).map aF∧(([]:List Int)++e40).map intD=(([]:List Int)++e40).map intD∧((out++[([]:List Int)++row]).length+1)*24≤140737488355328∧dO ((k:Int)+(1:Int))∧ ∃(k' :Nat) (out' :List (List Int)) (p' :Bool),((k:Int)+(1:Int))=(k' :Int)∧(true)=p' ∧((out++[([]:List Int)++row])++[([]:List Int)++e40]).map aF=out'.map aF∧(k' ≤rows.length∧out'.length≤2*k' ∧out' ++pgo row p' (rows.drop k')=kP row rows)∧rows.length - k' <rows.length - k)∧((!p)=false→0≤(k:Int)∧Em aF rows k fun e40=>[]=([]:List Int).map intD∧e40.map intD=e40.map intD∧(∀x,fG (intD x)=true)∧(([]:List Int).length+e40.length)*8≤140737488355328∧out.map aF=out.map aF∧(([]:List Int)++e40).map intD=(([]:List Int)++e40).map intD∧(out.length+1)*24≤140737488355328∧dO ((k:Int)+(1:Int))∧ ∃(k' :Nat) (out' :List (List Int)) (p' :Bool),((k:Int)+(1:Int))=(k' :Int)∧(p)=p' ∧(out++[([]:List Int)++e40]).map aF=out'.map aF∧(k' ≤rows.length∧out'.length≤2*k' ∧out' ++pgo row p' (rows.drop k')=kP row rows)∧rows.length - k' <rows.length - k))∧((decide ((0:Int)<(cC e18 row)))=false→0≤(k:Int)∧Em aF rows k fun e40=>[]=([]:List Int).map intD∧e40.map intD=e40.map intD∧(∀x,fG (intD x)=true)∧(([]:List Int).length+e40.length)*8≤140737488355328∧out.map aF=out.map aF∧(([]:List Int)++e40).map intD=(([]:List Int)++e40).map intD∧(out.length+1)*24≤140737488355328∧dO ((k:Int)+(1:Int))∧ ∃(k' :Nat) (out' :List (List Int)) (p' :Bool),((k:Int)+(1:Int))=(k' :Int)∧(p)=p' ∧(out++[([]:List Int)++e40]).map aF=out'.map aF∧(k' ≤rows.length∧out'.length≤2*k' ∧out' ++pgo row p' (rows.drop k')=kP row rows)∧rows.length - k' <rows.length - k))))∧((decide ((k:Int)<((rows.length:Nat):Int)))=false→((!p)=true→[]=([]:List Int).map intD∧row.map intD=row.map intD∧(∀x,fG (intD x)=true)∧(([]:List Int).length+row.length)*8≤140737488355328∧out.map aF=out.map aF∧(([]:List Int)++row).map intD=(([]:List Int)++row).map intD∧(out.length+1)*24≤140737488355328∧(out++[([]:List Int)++row]).map aF=(kP row rows).map aF∧True)∧((!p)=false→out.map aF=(kP row rows).map aF∧True)))) (by kernel_rfl) ?_
 intro n0 n1
 simp only [List.length_map] at n0 n1
 refine ⟨⟨0,([]:List (List Int)),false,rfl,rfl,rfl,Nat.zero_le _,by simp,rfl⟩,fun k out p ⟨hk,ho,hv⟩=>?_⟩
 refine ⟨List.length_map _,fun c0=>?_,fun c0=>?_⟩
 ·replace c0:=yq c0
  refine ⟨by omega,rfl,by omega,fun e18 h18=>?_⟩
  have hsz:=yB h18
  refine ⟨gH _ _,fun c1=>?_,fun c1=>?_⟩
  ·replace c1:=yq c1
   refine ⟨fun g26=>?_,fun g26=>?_⟩
   ·replace g26:=yq g26
    refine ⟨by omega,rfl,by omega,fun e40 h40=>?_⟩
    obtain rfl:=(aV h18 h40).symm
    refine ⟨rfl,rfl,fun _=>rfl,by first | omega | (simp;omega),?_⟩
    refine ⟨rfl,rfl,by first | omega | (simp;omega),⟨by omega,by omega⟩,?_⟩
    exact ⟨k+1,_,_,rfl,rfl,rfl,⟨by omega,by simp;omega,by rw [←hv,fC h18];first | (rw [aBg c1];simp;done) | (subst c2;rw [aBh];simp;done) | (subst c2;rw [aBf g26];simp;done) | (rw [aBi g26 c1];simp;done)⟩,by omega⟩
   ·replace g26:=nq g26
    refine ⟨by omega,rfl,by omega,fun e40 h40=>?_⟩
    obtain rfl:=(aV h18 h40).symm
    refine ⟨rfl,rfl,fun _=>rfl,by first | omega | (simp;omega),?_⟩
    refine ⟨rfl,rfl,by first | omega | (simp;omega),⟨by omega,by omega⟩,?_⟩
    exact ⟨k+1,_,_,rfl,rfl,rfl,⟨by omega,by simp;omega,by rw [←hv,fC h18];first | (rw [aBg c1];simp;done) | (subst c2;rw [aBh];simp;done) | (subst c2;rw [aBf g26];simp;done) | (rw [aBi g26 c1];simp;done)⟩,by omega⟩
  ·replace c1:=nq c1
   refine ⟨fun g26=>?_,fun g26=>?_⟩
   ·replace g26:=yq g26
    refine ⟨fun c2=>?_,fun c2=>?_⟩
    ·replace c2:=nt c2
     refine ⟨rfl,rfl,fun _=>rfl,by first | omega | (simp;omega),?_⟩
     refine ⟨rfl,rfl,by first | omega | (simp;omega),by omega,rfl,by omega,fun e40 h40=>?_⟩
     obtain rfl:=(aV h18 h40).symm
     refine ⟨rfl,rfl,fun _=>rfl,by first | omega | (simp;omega),?_⟩
     refine ⟨rfl,rfl,by first | omega | (simp;omega),⟨by omega,by omega⟩,?_⟩
     exact ⟨k+1,_,_,rfl,rfl,rfl,⟨by omega,by simp;omega,by rw [←hv,fC h18];first | (rw [aBg c1];simp;done) | (subst c2;rw [aBh];simp;done) | (subst c2;rw [aBf g26];simp;done) | (rw [aBi g26 c1];simp;done)⟩,by omega⟩
    ·replace c2:=nf c2
     refine ⟨by omega,rfl,by omega,fun e40 h40=>?_⟩
     obtain rfl:=(aV h18 h40).symm
     refine ⟨rfl,rfl,fun _=>rfl,by first | omega | (simp;omega),?_⟩
     refine ⟨rfl,rfl,by first | omega | (simp;omega),⟨by omega,by omega⟩,?_⟩
     exact ⟨k+1,_,_,rfl,rfl,rfl,⟨by omega,by simp;omega,by rw [←hv,fC h18];first | (rw [aBg c1];simp;done) | (subst c2;rw [aBh];simp;done) | (subst c2;rw [aBf g26];simp;done) | (rw [aBi g26 c1];simp;done)⟩,by omega⟩
   ·replace g26:=nq g26
    refine ⟨by omega,rfl,by omega,fun e40 h40=>?_⟩
    obtain rfl:=(aV h18 h40).symm
    refine ⟨rfl,rfl,fun _=>rfl,by first | omega | (simp;omega),?_⟩
    refine ⟨rfl,rfl,by first | omega | (simp;omega),⟨by omega,by omega⟩,?_⟩
    exact ⟨k+1,_,_,rfl,rfl,rfl,⟨by omega,by simp;omega,by rw [←hv,fC h18];first | (rw [aBg c1];simp;done) | (subst c2;rw [aBh];simp;done) | (subst c2;rw [aBf g26];simp;done) | (rw [aBi g26 c1];simp;done)⟩,by omega⟩
 ·replace c0:=nq c0
  refine ⟨fun c3=>?_,fun c3=>?_⟩
  ·replace c3:=nt c3
   refine ⟨rfl,rfl,fun _=>rfl,by first | omega | (simp;omega),?_⟩
   refine ⟨rfl,rfl,by first | omega | (simp;omega),?_,trivial⟩
   ·rw [←hv,qE (by omega),pgo];simp [c3]
  ·replace c3:=nf c3
   refine ⟨?_,trivial⟩
   ·rw [←hv,qE (by omega),pgo];simp [c3]
abbrev gX (t:aN):AV × List (Nat × Rs):=(.agg [.p none (.str t.name),vI t.arity,.own 0],[(0,.arr 32 1 true (t.rows.map aF))])
abbrev iP (t:aN):Prop:=dJ Tryz.prog 220 [.agg [.str t.name,.int .i64 t.arity,.sl 32 1 (t.rows.map aF)]] (gX t).1 (gX t).2
theorem mJ (t:aN) (hc:dF t≤1048576):iP t:=by
 refine aZ bR aT Tryz.func220 (by kernel_rfl) (bG (aHp t.rows)<| .fin [(0,500)]) (p:=(t.rows.map aF).length≤9223372036854775807→aJy t.rows∧t.name=t.name∧t.arity=t.arity∧t.rows.map aF=t.rows.map aF∧True) (by kernel_rfl) ?_
 intro n0
 simp only [List.length_map] at n0
 have q1:dF t=t.name.size+cP t.rows:=rfl
 have q2:=fO t.rows
 refine ⟨cpR _ (by omega),?_⟩
 exact ⟨rfl,rfl,rfl,trivial⟩
abbrev gY (t:aN):AV × List (Nat × Rs):=(.agg [.p none (.str t.name),vI t.arity,.own 0],[(0,.arr 32 1 true (t.rows.map aF))])
abbrev iQ (t:aN):Prop:=dJ Tryz.prog 205 [.agg [.str t.name,.int .i64 t.arity,.sl 32 1 (t.rows.map aF)]] (gY t).1 (gY t).2
theorem mK (t:aN) (hc:dF t≤1048576):iQ t:=by
 refine aZ bR aT Tryz.func205 (by kernel_rfl) (.loop (Nat × (List (List Int))) (Q2 Nat (List (List Int))) [4,10,11,12,13,14,15,16,17,18,19,20,21,22,23,24,25,26,27,28] [300,1900,2500,2600,2700,9000] (fun yy0=>[(4,vI (yy0.1:Int))]) (fun yy0=>[(300,some (.box 162 [.p none (.str t.name),vI t.arity,.own 9000])),(9000,some (.arr 32 1 true (yy0.2.map aF)))]) (fun yy0=>yy0.1≤t.rows.length∧yy0.2=t.rows.take yy0.1) (fun yy0=>t.rows.length - yy0.1) (fun yy0=> .len t.rows.length<| .br (.elem _ aF t.rows (fun e23=> .app Int intD ([]:List Int) e23<| .appx (List Int) aF yy0.2 (([]:List Int)++e23)<| .back [(300,300),(9000,2700)])) (.fin [(0,9000)]))) (p:=(t.rows.map aF).length≤9223372036854775807→(∃(k:Nat) (out:List (List Int)),(0:Int)=(k:Int)∧t.name=t.name∧t.arity=t.arity∧[]=out.map aF∧k≤t.rows.length∧out=t.rows.take k)∧ ∀(k:Nat) (out:List (List Int)),(k≤t.rows.length∧out=t.rows.take k)→Lm aF t.rows∧(((decide ((k:Int)<((t.rows.length:Nat):Int)))=true→0≤(k:Int)∧Em aF t.rows k fun e23=>[]=([]:List Int).map intD∧e23.map intD=e23.map intD∧(∀x,fG (intD x)=true)∧(([]:List Int).length+e23.length)*8≤140737488355328∧out.map aF=out.map aF∧(([]:List Int)++e23).map intD=(([]:List Int)++e23).map intD∧(out.length+1)*24≤140737488355328∧dO ((k:Int)+(1:Int))∧ ∃(k' :Nat) (out' :List (List Int)),((k:Int)+(1:Int))=(k' :Int)∧t.name=t.name∧t.arity=t.arity∧(out++[([]:List Int)++e23]).map aF=out'.map aF∧(k' ≤t.rows.length∧out' =t.rows.take k')∧t.rows.length - k' <t.rows.length - k)∧((decide ((k:Int)<((t.rows.length:Nat):Int)))=false→t.name=t.name∧t.arity=t.arity∧out.map aF=t.rows.map aF∧True))) (by kernel_rfl) ?_
 intro n0
 simp only [List.length_map] at n0
 have q1:dF t=t.name.size+cP t.rows:=rfl
 have q2:=fO t.rows
 refine ⟨⟨0,([]:List (List Int)),rfl,rfl,rfl,rfl,Nat.zero_le _,rfl⟩,fun k out ⟨hk,ho⟩=>?_⟩
 refine ⟨List.length_map _,fun c0=>?_,fun c0=>?_⟩
 ·replace c0:=yq c0
  refine ⟨by omega,rfl,by omega,fun e23 h23=>?_⟩
  have hp3:=yB h23
  refine ⟨rfl,rfl,fun _=>rfl,by first | omega | (simp;omega) | (simp [ho];omega),?_⟩
  refine ⟨rfl,rfl,by first | omega | (simp;omega) | (simp [ho];omega),⟨by omega,by omega⟩,?_⟩
  exact ⟨k+1,_,rfl,rfl,rfl,rfl,⟨by omega,by rw [ho,cU h23];rfl⟩,by omega⟩
 ·replace c0:=nq c0
  refine ⟨rfl,rfl,?_,trivial⟩
  ·first | rfl | (rw [ho,List.take_of_length_le (by omega)])
abbrev zP (x:aG):AV × List (Nat × Rs):=(.agg [.p none (.str x.name),vI x.arity,vI x.rowCount,.own 0],[(0,.arr 218 3 true (x.groups.map aC))])
abbrev aDp (x:aG):Prop:=dJ Tryz.prog 197 [.agg [.str x.name,.int .i64 x.arity,.int .i64 x.rowCount,.sl 218 3 (x.groups.map aC)]] (zP x).1 (zP x).2
theorem aMp (x:aG) (hc:bC x≤1048576):aDp x:=by
 refine aZ bR aT Tryz.func197 (by kernel_rfl) (.len x.groups.length<| .loop (Nat × (List aH)) (Q2 Nat (List aH)) [3,5,6,10,11,12,13,14,15,16,17,18,19,20,21,22,23,24,25,26,27] [500,600,1700,2000,2300,2500,2600] (fun yy0=>[(3,.own 600),(10,vI (yy0.1:Int))]) (fun yy0=>[(600,some (.arr 218 3 true (yy0.2.map aC)))]) (fun yy0=>yy0.1≤x.groups.length∧yy0.2=x.groups.take yy0.1) (fun yy0=>x.groups.length - yy0.1) (fun yy0=> .br (.elem _ aC x.groups (fun e12=>bG (aFm e12.columns)<| bG (aHp e12.values)<| bG (aFm e12.counts)<| .appx aH aC yy0.2 e12<| .back [(600,2600)])) (.fin [(0,600)]))) (p:=(x.groups.map aC).length≤9223372036854775807→Lm aC x.groups∧((∃(k:Nat) (out:List aH),(0:Int)=(k:Int)∧[]=out.map aC∧k≤x.groups.length∧out=x.groups.take k)∧ ∀(k:Nat) (out:List aH),(k≤x.groups.length∧out=x.groups.take k)→((decide ((k:Int)<((x.groups.length:Nat):Int)))=true→0≤(k:Int)∧Em aC x.groups k fun e12=>aHo e12.columns∧aJy e12.values∧aHo e12.counts∧out.map aC=out.map aC∧e12.columns.map intD=e12.columns.map intD∧e12.values.map aF=e12.values.map aF∧e12.counts.map intD=e12.counts.map intD∧(out.length+1)*72≤140737488355328∧dO ((k:Int)+(1:Int))∧ ∃(k' :Nat) (out' :List aH),((k:Int)+(1:Int))=(k' :Int)∧(out++[e12]).map aC=out'.map aC∧(k' ≤x.groups.length∧out' =x.groups.take k')∧x.groups.length - k' <x.groups.length - k)∧((decide ((k:Int)<((x.groups.length:Nat):Int)))=false→x.name=x.name∧x.arity=x.arity∧x.rowCount=x.rowCount∧out.map aC=x.groups.map aC∧True))) (by kernel_rfl) ?_
 intro n0
 simp only [List.length_map] at n0
 have q2:bC x=x.name.size+cS x.groups:=rfl
 have q5:=kM x.groups
 refine ⟨List.length_map _,⟨0,([]:List aH),rfl,rfl,Nat.zero_le _,rfl⟩,fun k out ⟨hk,ho⟩=>?_⟩
 refine ⟨fun c0=>?_,fun c0=>?_⟩
 ·replace c0:=yq c0
  refine ⟨by omega,rfl,by omega,fun e12 h12=>?_⟩
  have q1:=lH h12
  have q3:bD e12=bZ e12.columns+cP e12.values+bZ e12.counts:=rfl
  have q6:bZ e12.columns=e12.columns.length:=rfl
  have q7:bZ e12.counts=e12.counts.length:=rfl
  have q8:=fO e12.values
  refine ⟨cpI _ (by omega),cpR _ (by omega),cpI _ (by omega),rfl,rfl,rfl,rfl,by simp [ho];omega,⟨by omega,by omega⟩,?_⟩
  exact ⟨k+1,out++[e12],rfl,rfl,⟨by omega,by rw [ho,cU h12]⟩,by omega⟩
 ·replace c0:=nq c0
  refine ⟨rfl,rfl,rfl,?_,trivial⟩
  ·rw [ho,List.take_of_length_le (by omega)]
abbrev zQ (x:aG):AV × List (Nat × Rs):=(.agg [.p none (.str x.name),vI x.arity,vI x.rowCount,.own 0],[(0,.arr 218 3 true (x.groups.map aC))])
abbrev aDq (x:aG):Prop:=dJ Tryz.prog 206 [.agg [.str x.name,.int .i64 x.arity,.int .i64 x.rowCount,.sl 218 3 (x.groups.map aC)]] (zQ x).1 (zQ x).2
theorem aMq (x:aG) (hc:bC x≤1048576):aDq x:=by
 refine aZ bR aT Tryz.func206 (by kernel_rfl) (.loop (Nat × (List aH)) (Q2 Nat (List aH)) [4,5,6,14,15,16,17,18,19,20,21,22,23,24,25,26,27,28,29,30,31,32,33,34,35,36,37,38,39,40,41,42,43,44,45,46,47,48,49,50,51,52,53,54,55,56,57,58,59,60,61,62,63,64,65,66,67,68,69,70] [300,500,2100,2800,2900,3600,5100,6100,6200,6300,6800,6900,9000,9001] (fun yy0=>[(4,vI (yy0.1:Int))]) (fun yy0=>[(300,some (.box 121 [.p none (.str x.name),vI x.arity,vI x.rowCount,.own 9000])),(9000,some (.arr 218 3 true (yy0.2.map aC)))]) (fun yy0=>yy0.1≤x.groups.length∧yy0.2=x.groups.take yy0.1) (fun yy0=>x.groups.length - yy0.1) (fun yy0=> .len x.groups.length<| .br (.elem _ aC x.groups (fun e25=> .app Int intD ([]:List Int) e25.columns<| .elem _ aC x.groups (fun e33=> .app Int intD ([]:List Int) e33.counts<| .loop (Nat × (List (List Int))) (Q2 Nat (List (List Int))) [6,38,39,40,41,42,43,44,45,46,47,48,49,50,51,52,53,54,55,56,57,58,59,60,61,62,63,64] [500,5100,6100,6200,6300,9001] (fun yy1=>[(6,vI (yy1.1:Int))]) (fun yy1=>[(500,some (.box 218 [.own 2800,.own 9001,.own 3600])),(9001,some (.arr 32 1 true (yy1.2.map aF)))]) (fun yy1=>yy1.1≤e25.values.length∧yy1.2=e25.values.take yy1.1) (fun yy1=>e25.values.length - yy1.1) (fun yy1=> .elem _ aC x.groups (fun e42=> .len e42.values.length<| .br (.elem _ aC x.groups (fun e55=> .elem _ aF e55.values (fun e59=> .app Int intD ([]:List Int) e59<| .appx (List Int) aF yy1.2 (([]:List Int)++e59)<| .back [(500,500),(9001,6300)]))) (.appx aH aC yy0.2 (⟨([]:List Int)++e25.columns,yy1.2,([]:List Int)++e33.counts⟩:aH)<| .back [(300,300),(9000,6900)])))))) (.fin [(0,9000)]))) (p:=(x.groups.map aC).length≤9223372036854775807→(∃(k:Nat) (out:List aH),(0:Int)=(k:Int)∧x.name=x.name∧x.arity=x.arity∧x.rowCount=x.rowCount∧[]=out.map aC∧k≤x.groups.length∧out=x.groups.take k)∧ ∀(k:Nat) (out:List aH),(k≤x.groups.length∧out=x.groups.take k)→Lm aC x.groups∧(((decide ((k:Int)<((x.groups.length:Nat):Int)))=true→0≤(k:Int)∧Em aC x.groups k fun e25=>[]=([]:List Int).map intD∧e25.columns.map intD=e25.columns.map intD∧(∀x,fG (intD x)=true)∧(([]:List Int).length+e25.columns.length)*8≤140737488355328∧(0≤(k:Int)∧Em aC x.groups k fun e33=>[]=([]:List Int).map intD∧e33.counts.map intD=e33.counts.map intD∧(∀x,fG (intD x)=true)∧(([]:List Int).length+e33.counts.length)*8≤140737488355328∧((∃(i:Nat) (v:List (List Int)),(0:Int)=(i:Int)∧[]=v.map aF∧i≤e25.values.length∧v=e25.values.take i)∧ ∀(i:Nat) (v:List (List Int)),(i≤e25.values.length∧v=e25.values.take i)→0≤(k:Int)∧Em aC x.groups k fun e42=>Lm aF e42.values∧(((decide ((i:Int)<((e42.values.length:Nat):Int)))=true→0≤(k:Int)∧Em aC x.groups k fun e55=>0≤(i:Int)∧Em aF e55.values i fun e59=>[]=([]:List Int).map intD∧e59.map intD=e59.map intD∧(∀x,fG (intD x)=true)∧(([]:List Int).length+e59.length)*8≤140737488355328∧v.map aF=v.map aF∧(([]:List Int)++e59).map intD=(([]:List Int)++e59).map intD∧(v.length+1)*24≤140737488355328∧dO ((i:Int)+(1:Int))∧ ∃(i' :Nat) (v' :List (List Int)),((i:Int)+(1:Int))=(i' :Int)∧(v++[([]:List Int)++e59]).map aF=v'.map aF∧(i' ≤e25.values.length∧v' =e25.values.take i')∧e25.values.length - i' <e25.values.length - i)∧((decide ((i:Int)<((e42.values.length:Nat):Int)))=false→out.map aC=out.map aC∧(([]:List Int)++e25.columns).map intD=((⟨([]:List Int)++e25.columns,v,([]:List Int)++e33.counts⟩:aH).columns).map intD∧v.map aF=((⟨([]:List Int)++e25.columns,v,([]:List Int)++e33.counts⟩:aH).values).map aF∧(([]:List Int)++e33.counts).map intD=((⟨([]:List Int)++e25.columns,v,([]:List Int)++e33.counts⟩:aH).counts).map intD∧(out.length+1)*72≤140737488355328∧dO ((k:Int)+(1:Int))∧ ∃(k' :Nat) (out' :List aH),((k:Int)+(1:Int))=(k' :Int)∧x.name=x.name∧x.arity=x.arity∧x.rowCount=x.rowCount∧(out++[(⟨([]:List Int)++e25.columns,v,([]:List Int)++e33.counts⟩:aH)]).map aC=out'.map aC∧(k' ≤x.groups.length∧out' =x.groups.take k')∧x.groups.length - k' <x.groups.length - k)))))∧((decide ((k:Int)<((x.groups.length:Nat):Int)))=false→x.name=x.name∧x.arity=x.arity∧x.rowCount=x.rowCount∧out.map aC=x.groups.map aC∧True))) (by kernel_rfl) ?_
 intro n0
 simp only [List.length_map] at n0
 have q2:bC x=x.name.size+cS x.groups:=rfl
 have q5:=kM x.groups
 refine ⟨⟨0,([]:List aH),rfl,rfl,rfl,rfl,rfl,Nat.zero_le _,rfl⟩,fun k out ⟨hk,ho⟩=>?_⟩
 refine ⟨List.length_map _,fun c0=>?_,fun c0=>?_⟩
 ·replace c0:=yq c0
  refine ⟨by omega,rfl,by omega,fun e25 h25=>?_⟩
  try (obtain rfl:=(aV h25 h25).symm)
  have q1:=lH h25
  have q3:bD e25=bZ e25.columns+cP e25.values+bZ e25.counts:=rfl
  have q6:bZ e25.columns=e25.columns.length:=rfl
  have q7:bZ e25.counts=e25.counts.length:=rfl
  have q8:=fO e25.values
  refine ⟨rfl,rfl,fun _=>rfl,by first | omega | (simp;omega) | (simp [ho];omega) | (simp [hv];omega),?_⟩
  refine ⟨by omega,rfl,by omega,fun e33 h33=>?_⟩
  try (obtain rfl:=(aV h25 h33).symm)
  refine ⟨rfl,rfl,fun _=>rfl,by first | omega | (simp;omega) | (simp [ho];omega) | (simp [hv];omega),?_⟩
  refine ⟨⟨0,([]:List (List Int)),rfl,rfl,Nat.zero_le _,rfl⟩,fun i v ⟨hi,hv⟩=>?_⟩
  refine ⟨by omega,rfl,by omega,fun e42 h42=>?_⟩
  try (obtain rfl:=(aV h25 h42).symm)
  refine ⟨List.length_map _,fun c1=>?_,fun c1=>?_⟩
  ·replace c1:=yq c1
   refine ⟨by omega,rfl,by omega,fun e55 h55=>?_⟩
   try (obtain rfl:=(aV h25 h55).symm)
   refine ⟨by omega,rfl,by omega,fun e59 h59=>?_⟩
   have hp3:=yB h59
   refine ⟨rfl,rfl,fun _=>rfl,by first | omega | (simp;omega) | (simp [ho];omega) | (simp [hv];omega),?_⟩
   refine ⟨rfl,rfl,by first | omega | (simp;omega) | (simp [ho];omega) | (simp [hv];omega),⟨by omega,by omega⟩,?_⟩
   exact ⟨i+1,_,rfl,rfl,⟨by omega,by rw [hv,cU h59];rfl⟩,by omega⟩
  ·replace c1:=nq c1
   have hvv:v=e25.values:=by rw [hv,List.take_of_length_le (by omega)]
   refine ⟨rfl,rfl,rfl,rfl,by first | omega | (simp;omega) | (simp [ho];omega) | (simp [hv];omega),⟨by omega,by omega⟩,?_⟩
   exact ⟨k+1,_,rfl,rfl,rfl,rfl,rfl,⟨by omega,by rw [ho,cU h25,hvv];rfl⟩,by omega⟩
 ·replace c0:=nq c0
  refine ⟨rfl,rfl,rfl,?_,trivial⟩
  ·first | rfl | (rw [ho,List.take_of_length_le (by omega)])
end Go.Proofs.YtokkjaflmcjlhaaGreat
