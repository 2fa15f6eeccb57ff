/-
  Contracts and plain laws, joined: part 4.
-/
import Derived.Test.YtgamjlgfnmpcjaaGreatep2
import Derived.Shelf.Sort.Plain
import Derived.Shelf.Slices.In.SortNone
import Derived.Sort.OwnSortedInts
import Derived.Shelf.SlicesE.Compact
import Derived.Ground.SlgnProg
import Derived.Shelf.SlicesE.Reverse
namespace Go.Proofs.YtgamjlgfnmpcjaaGreat
open Go.ChangeShapes Go.WideShapes Go.ChangeAt Go.RowKit
set_option linter.all false
set_option maxRecDepth 100000
set_option maxHeartbeats 4000000
def mV (t:aX)(cols:Z):List Z:=t.rows.map fun r=>(gT r cols).1
def kJ (all:List Z)(g:Z):Int:=(((all.filter fun x=>decide (g=x)).length:Nat):Int)
def TE (t:aX)(cols:Z):List Z:=hY (dU (mV t cols))
def Qi (t:aX)(cols:Z):Z:=(TE t cols).map (kJ (mV t cols))
def eV (t:aX)(cols:Z):List Z × Z:=if (aW t&&eP (t.l - 1) cols)=true then (TE t cols,Qi t cols) else ([],[])
def uU {t:aX}{cols:Z}(h:(aW t&&eP (t.l - 1) cols)=true):eV t cols=(TE t cols,Qi t cols):=by rw[eV,if_pos h]
def E1 {t:aX}{cols:Z}(h:(aW t&&eP (t.l - 1) cols)=false):eV t cols=([],[]):=by rw[eV,if_neg (by rw[h];decide)]
def Uq {all:List Z}{g x:Z}{j:Nat}(hx:all[j]? =some x)(h:g=x):kJ (all.take (j+1)) g=kJ (all.take j) g+1:=by
 subst h;rw[kJ,kJ,bW hx,List.filter_append];simp
def Yw {all:List Z}{g x:Z}{j:Nat}(hx:all[j]? =some x)(h: ¬g=x):kJ (all.take (j+1)) g=kJ (all.take j) g:=by
 rw[kJ,kJ,bW hx,List.filter_append];simp[h]
def Yx (all:List Z)(g:Z):0<=kJ all g/\kJ all g<=all.length:=by
 have:=List.length_filter_le (fun x=>decide (g=x)) all;unfold kJ;omega
theorem Jf {b:Int}{cols:Z}(h:eP b cols=true): ∀i,i<cols.length->(i:Int)<=cols.getD i 0/\cols.getD i 0<=b
 | 0,hi=>by
   have:=aCS.1 h 0 (aEt.2 hi);simp only[kI,aBB] at this;have:=eU this.1;exact⟨by simpa using this.1,this.2⟩
 | i+1,hi=>by
   have ih:=Jf h i aGR;have:=aCS.1 h (i+1) (aEt.2 hi);simp only[kI,aBB,Bool.or_eq_true,aFI,Nat.add_sub_cancel] at this;have h2:=eU this.1;rcases this.2 with q | q
   ·omega
   exact⟨aGR,h2.2⟩
def E2 {b:Int}{cols:Z}(h:eP b cols=true)(hb:b<=2):cols.length<=3:=by
 by_cases h3:3<cols.length
 ·have:=Jf h 3 h3;omega
 omega
theorem Dc {α:Type}{ct:α->Nat}{m:Nat}: ∀{l:List α},(∀x∈l,ct x<=m)->DI ct l<=l.length*m
 | [],_=>by simp[DI]
 | a::l,h=>by
   have h1:=h a (by simp);have h2:=Dc (l:=l) fun x hx=>h x (by simp[hx]);simp only[DI,aDH,List.sum_cons,aEb,Nat.add_mul,Nat.one_mul] at*;omega
def yX {l:List Z}{m:Nat}(h: ∀r∈l,r.length<=m):dG l<=l.length+l.length*m:=by
 have h1:=Dc (ct:=eL) (m:=m) (l:=l) fun r hr=>h r hr;have h2:dG l=l.length+DI eL l:=rfl;omega
def Jg {t:aX}{cols:Z}(h:(aW t&&eP (t.l - 1) cols)=true):(mV t cols).length<=8/\dG (mV t cols)<=32:=by
 rw[aBB] at h;have ha:=cJ h.1;have hc:=E2 h.2 aGR;have hl:(mV t cols).length=t.rows.length:=aAb _
 have:=yX (l:=mV t cols) (m:=3) fun r hr=>by
  obtain⟨q,_,rfl⟩:=aE9.1 hr;have:=JZ q cols;omega
 omega
def Yy (l:List Z):(hY (dU l)).length<=l.length:=by
 rw[hY,aAb,<-GA l];have:=(List.filter_sublist (l:=List.range (dU l).length) (p:=fun j=>decide (j=0) || !Ou (dU l) j (j - 1))).length_le;rw[List.length_range] at this;exact this
def aE3 {α:Type}{l:List α}{i:Nat}{x y:α}(h:(l.set i x)[i]? =some y):y=x:=aE1 h
def WN {f:Z->Int}{l:List Z}{i:Nat}(h:i<l.length):((l.take i).map f++List.replicate (l.length - i) (0:Int)).set i 0=(l.take i).map f++List.replicate (l.length - i) 0:=by
 rw[show l.length - i=(l.length - (i+1))+1 by omega,List.replicate_succ,List.set_append_right _ _ (by simp;omega)];simp[show i - min i l.length=0 by omega]
def Yz {f:Z->Int}{l:List Z}{i:Nat}{x:Z}(h:l[i]? =some x):((l.take i).map f++List.replicate (l.length - i) (0:Int)).set i (f x)=(l.take (i+1)).map f++List.replicate (l.length - (i+1)) 0:=by
 have hi:i<l.length:=(aCO.1 h).1;rw[show l.length - i=(l.length - (i+1))+1 by omega,List.replicate_succ,List.set_append_right _ _ (by simp;omega),bW h];simp[show i - min i l.length=0 by omega]
def TF {f:Z->Int}{l:List Z}{i:Nat}(h:i<=l.length)(h' : ¬i<l.length):(l.take i).map f++List.replicate (l.length - i) (0:Int)=l.map f:=by
 rw[show i=l.length by omega];simp
abbrev yY (t:aX)(cols:Z):AV × aGJ:=(.tup [.own 0,.own 1],[(0,.arr 51 1 true ((eV t cols).1.map aD)),(1,.arr 3 1 true ((eV t cols).2.map intD))])
abbrev Dd (t:aX)(cols:Z):Prop:=Cn 182 [aGz t,.one (.sl 3 1 (cols.map intD))] (yY t cols).1 (yY t cols).2
def Qj (t:aX)(cols:Z)(hl:cols.length<=1048576):Dd t cols:=by
 refine cq Tryz.func182 (.call (vB (aW t)) []<| .br (.fin []) (.call (vB (eP (t.l - 1) cols)) []<| aGQ<| .br (.fin []) (.len t.rows.length<| .loop (Nat × (List Z)) (Q2 Nat (List Z)) ([6,8,9,10,27]++rg 31 15) [2700,3800,4300,4400] (fun yy0=>[(31,vI (yy0.1:Int)),(6,.own 2700)]) (fun yy0=>[(2700,some (.arr 51 1 true (yy0.2.map aD)))]) (fun yy0=>yy0.1<=t.rows.length/\yy0.2=(t.rows.take yy0.1).map fun r=>(gT r cols).1) (fun yy0=>t.rows.length - yy0.1) (fun yy0=> .br (.elem _ aD t.rows (fun e33=>bN (rP e33 cols)<| .appx Z aD yy0.2 ((gT e33 cols).1)<| .back [(2700,4400)])) (bN (xF yy0.2)<| .len ((hY (dU yy0.2)).length)<| .mk ((hY (dU yy0.2)).length) [.int .i64 (0:Int)] ((List.replicate ((hY (dU yy0.2)).length) (0:Int)).map intD)<| .len ((hY (dU yy0.2)).length)<| .loop (Nat × Z) (Q2 Nat Z) ([13,14,16]++rg 53 22) [5000] (fun yy1=>[(53,vI (yy1.1:Int))]) (fun yy1=>[(5000,some (.arr 3 1 true (yy1.2.map intD)))]) (fun yy1=>yy1.1<=(hY (dU yy0.2)).length/\yy1.2=((hY (dU yy0.2)).take yy1.1).map (kJ yy0.2)++List.replicate ((hY (dU yy0.2)).length - yy1.1) 0/\yy1.2.length=(hY (dU yy0.2)).length) (fun yy1=>(hY (dU yy0.2)).length - yy1.1) (fun yy1=> .br (.len ((hY (dU yy0.2)).length)<| .elem _ aD (hY (dU yy0.2)) (fun e57=> .len yy0.2.length<| .loop (Nat × Z × Int) (Q3 Nat Z Int) ([16]++rg 60 14) [5000] (fun yy2=>[(60,vI (yy2.1:Int))]) (fun yy2=>[(5000,some (.arr 3 1 true (yy2.2.1.map intD)))]) (fun yy2=>yy2.1<=yy0.2.length/\yy2.2.1=yy1.2.set yy1.1 yy2.2.2/\yy2.2.2=kJ (yy0.2.take yy2.1) e57) (fun yy2=>yy0.2.length - yy2.1) (fun yy2=> .br (.len yy0.2.length<| .elem _ aD yy0.2 (fun e63=> .call (vB (decide (e57=e63))) []<| .br (.len yy2.2.1.length<| .elem _ intD yy2.2.1 (fun e70=> .len yy2.2.1.length<| .set Int intD yy2.2.1 (fun s19_6=>e70+1) (fun s19_6=> .back [(5000,5000)]))) (.back [(5000,5000)]))) (.back [(5000,5000)])))) (.fin [(0,4700),(1,5000)]))))))) (p:=Lx (t.rows.map aD)<| Lx (cols.map intD)<| uQ t/\Nr (aW t) ([]=(eV t cols).1.map aD/\[]=(eV t cols).2.map intD/\True) (BG cols t.l/\Nr (eP (t.l - 1) cols) ([]=(eV t cols).1.map aD/\[]=(eV t cols).2.map intD/\True) (Lm aD t.rows/\((∃(k:Nat) (out:List Z),0=(k:Int)/\[]=out.map aD/\k<=t.rows.length/\out=(t.rows.take k).map fun r=>(gT r cols).1)/\ ∀(k:Nat) (out:List Z),(k<=t.rows.length/\out=(t.rows.take k).map fun r=>(gT r cols).1)->Br ((k:Int)<(t.rows.length:Int)) (0<=(k:Int)/\Em aD t.rows k fun e33=>uR e33 cols/\out.map aD=out.map aD/\(gT e33 cols).1.map intD=(gT e33 cols).1.map intD/\(out.length+1)*24<=140737488355328/\bO ((k:Int)+1)/\ ∃(k' :Nat) (out' :List Z),((k:Int)+1)=(k' :Int)/\(out++[(gT e33 cols).1]).map aD=out'.map aD/\(k' <=t.rows.length/\out' =(t.rows.take k').map fun r=>(gT r cols).1)/\t.rows.length - k' <t.rows.length - k) (DB out/\(Lm aD (hY (dU out))/\((((hY (dU out)).length:Nat):Int)=(((hY (dU out)).length:Nat):Int)/\(((hY (dU out)).length:Nat):Int)=(((hY (dU out)).length:Nat):Int)/\8*((hY (dU out)).length)<=281474976710656/\((hY (dU out)).length)<=9223372036854775807/\List.replicate ((hY (dU out)).length) [.int .i64 (0:Int)]=(List.replicate ((hY (dU out)).length) (0:Int)).map intD/\(Lm aD (hY (dU out))/\((∃(i:Nat) (c:Z),0=(i:Int)/\(List.replicate ((hY (dU out)).length) (0:Int)).map intD=c.map intD/\i<=(hY (dU out)).length/\c=((hY (dU out)).take i).map (kJ out)++List.replicate ((hY (dU out)).length - i) 0/\c.length=(hY (dU out)).length)/\ ∀(i:Nat) (c:Z),(i<=(hY (dU out)).length/\c=((hY (dU out)).take i).map (kJ out)++List.replicate ((hY (dU out)).length - i) 0/\c.length=(hY (dU out)).length)->Br ((i:Int)<(((hY (dU out)).length:Nat):Int)) (0<=(i:Int)/\Lm aD (hY (dU out))/\(i:Int)<(((hY (dU out)).length:Nat):Int)/\Em aD (hY (dU out)) i fun e57=>Lm aD out/\((∃(j:Nat) (c2:Z) (z:Int),0=(j:Int)/\c.map intD=c2.map intD/\j<=out.length/\c2=c.set i z/\z=kJ (out.take j) e57)/\ ∀(j:Nat) (c2:Z) (z:Int),(j<=out.length/\c2=c.set i z/\z=kJ (out.take j) e57)->Br ((j:Int)<(out.length:Int)) (0<=(j:Int)/\Lm aD out/\(j:Int)<(out.length:Int)/\Em aD out j fun e63=>tY e57 e63/\Br (e57=e63) (0<=(i:Int)/\Lm intD c2/\(i:Int)<(c2.length:Int)/\Em intD c2 i fun e70=>bO (e70+1)/\(0<=(i:Int)/\Lm intD c2/\(i:Int)<(c2.length:Int)/\(c2.map intD=c2.map intD/\i<c2.length/\ ∀s19_6,c2[i]? =some s19_6->iU (intD s19_6)=true/\0+1<=(intD s19_6).length/\(intD s19_6).take 0++[.int .i64 (e70+1)]++(intD s19_6).drop (0+1)=intD (e70+1)/\bO ((j:Int)+1)/\ ∃(j' :Nat) (c2' :Z) (z' :Int),((j:Int)+1)=(j' :Int)/\(c2.set i (e70+1)).map intD=c2'.map intD/\(j' <=out.length/\c2' =c.set i z' /\z' =kJ (out.take j') e57)/\out.length - j' <out.length - j))) (bO ((j:Int)+1)/\ ∃(j' :Nat) (c2' :Z) (z' :Int),((j:Int)+1)=(j' :Int)/\c2.map intD=c2'.map intD/\(j' <=out.length/\c2' =c.set i z' /\z' =kJ (out.take j') e57)/\out.length - j' <out.length - j)) (bO ((i:Int)+1)/\ ∃(i' :Nat) (c' :Z),((i:Int)+1)=(i' :Int)/\c2.map intD=c'.map intD/\(i' <=(hY (dU out)).length/\c' =((hY (dU out)).take i').map (kJ out)++List.replicate ((hY (dU out)).length - i') 0/\c'.length=(hY (dU out)).length)/\(hY (dU out)).length - i' <(hY (dU out)).length - i))) ((hY (dU out)).map aD=(eV t cols).1.map aD/\c.map intD=(eV t cols).2.map intD/\True)))))))))) ?_;refine lx fun n0=>lx fun n1=>?_;refine⟨BE t,dm (fun g20=>?_) fun g20=>?_⟩
 ·have hbad:(aW t&&eP (t.l - 1) cols)=false:=by rw[g20];rfl
  apply et2<;>((rw[E1 hbad]<;>rfl))
 ·have hT:=cJ g20;refine⟨M0 _ _ aGR,dm (fun c0=>?_) fun c0=>?_⟩
  ·have hbad:(aW t&&eP (t.l - 1) cols)=false:=by rw[g20,c0];rfl
   apply et2<;>((rw[E1 hbad]<;>rfl))
  ·have hok:(aW t&&eP (t.l - 1) cols)=true:=by rw[g20,c0];rfl
   obtain⟨hs1,hs2⟩:=Jg hok;refine⟨aAb _,⟨0,([]:List Z),rfl,rfl,aBC _,rfl⟩,fun k out ⟨hk,ho⟩=>?_⟩;apply dd<;>intro c1
   ·refine⟨aGR,rfl,aGR,fun e33 h33=>?_⟩;refine⟨Ey _ _ aGR,rfl,rfl,by (simp[ho];omega),aGS,?_⟩;exact⟨k+1,_,rfl,rfl,⟨aGR,by rw[ho,bW h33,aDM];rfl⟩,aGR⟩
   ·have hA:out=mV t cols:=by rw[ho,aCR aGR];rfl
    rw[<-hA] at hs1 hs2;have hd:=Yy out;refine⟨Qh out aGR,aAb _,rfl,rfl,aGR,aGR,by (rw[aFE];done),aAb _,⟨0,List.replicate ((hY (dU out)).length) (0:Int),rfl,rfl,aBC _,by simp,aGC⟩,fun i c ⟨hi,hc,hcn⟩=>?_⟩;apply dd<;>intro c2
    ·refine⟨aGR,aAb _,aGR,rfl,aGR,fun e57 h57=>?_⟩;refine⟨aAb _,⟨0,c,0,rfl,rfl,aBC _,by rw[hc];exact(WN aGR).symm,rfl⟩,fun j c2 z ⟨hj,hc2,hz⟩=>?_⟩;apply dd<;>intro c3
     ·refine⟨aGR,aAb _,aGR,rfl,aGR,fun e63 h63=>?_⟩;refine⟨Es _ _,dd (fun c4=>?_) fun c4=>?_⟩
      ·refine⟨aGR,aAb _,by (rw[hc2,aDF,hcn];omega),rfl,by (rw[hc2,aDF,hcn];omega),fun e70 h70=>?_⟩;have hz70:e70=z:=by rw[hc2] at h70;exact(aE3 h70)
       have hcl:=Yx (out.take j) e57;have hjl:(out.take j).length<=out.length:=by simp;omega
       refine⟨aGS,aGR,aAb _,by (rw[hc2,aDF,hcn];omega),rfl,by (rw[hc2,aDF,hcn];omega),fun s19_6 hs19_6=>⟨rfl,aBF rfl,rfl,?_⟩⟩;refine⟨aGS,?_⟩;exact⟨j+1,_,_,rfl,rfl,⟨aGR,by rw[hc2,List.set_set,hz70],by rw[hz,Uq h63 c4]⟩,aGR⟩
      ·refine⟨aGS,?_⟩;exact⟨j+1,_,_,rfl,rfl,⟨aGR,hc2,by rw[hz,Yw h63 c4]⟩,aGR⟩
     ·have hj9:j=out.length:=aGR
      rw[hj9,aFF] at hz;refine⟨aGS,?_⟩;exact⟨i+1,_,rfl,rfl,⟨aGR,by rw[hc2,hz,hc];exact Yz h57,by rw[hc2,aDF];exact hcn⟩,aGR⟩
    ·have hC:c=Qi t cols:=by rw[hc,TF hi aGR,hA];rfl
     apply et2<;>(first|(rw[uU hok,hA]<;>rfl)|(rw[uU hok,hC]<;>rfl))
theorem Qk {α:Type}(f:α->Nat){x:α}: ∀{l:List α},x∈l->f x<=DI f l
 | a::l,h=>by
   simp only[DI,aDH,List.sum_cons];rcases aDr.1 h with q | q
   ·subst q;omega
   have:=Qk f q;simp only[DI] at this;omega
def CW {l:List Z}{i:Nat}{x:Z}(h:l[i]? =some x):x.length<=dG l:=by
 have h1:dG l=l.length+DI eL l:=rfl;have h2:x.length<=DI eL l:=Qk eL (aBD h);omega
def G0 (row:Z):Bool->List Z->List Z
 | p,[]=>if p=true then [] else [row]
 | p,x::xs=>if 0<cO x row/\p=false then row::x::G0 row true xs else x::G0 row (p || decide (cO x row=0)) xs
def mP (row:Z)(rows:List Z):List Z:=G0 row false rows
def Y0 {row x:Z}{xs:List Z}(h:0<cO x row):G0 row false (x::xs)=row::x::G0 row true xs:=by rw[G0,if_pos ⟨h,rfl⟩]
def TG {row x:Z}{xs:List Z}{p:Bool}(h:cO x row=0):G0 row p (x::xs)=x::G0 row true xs:=by rw[G0,if_neg aGR,h];simp
def Y1 {row x:Z}{xs:List Z}:G0 row true (x::xs)=x::G0 row true xs:=by rw[G0,if_neg (by simp)];rfl
def Y2 {row x:Z}{xs:List Z}{p:Bool}(h: ¬0<cO x row)(h' : ¬cO x row=0):G0 row p (x::xs)=x::G0 row p xs:=by rw[G0,if_neg aGR];simp[h']
abbrev uV (rows:List Z)(row:Z):AV × aGJ:=(.own 0,[(0,.arr 51 1 true ((mP row rows).map aD))])
abbrev yZ (rows:List Z)(row:Z):Prop:=Cn 173 [.one (.sl 51 1 (rows.map aD)),.one (.sl 3 1 (row.map intD))] (uV rows row).1 (uV rows row).2
def Jh (rows:List Z)(row:Z)(hl:rows.length<=1000000)(hc:dG rows<=1048576)(hr:row.length<=1048576):yZ rows row:=by
 refine cq Tryz.func173 (.loop (Nat × (List Z) × Bool) (Q3 Nat (List Z) Bool) (rg 5 40) [900,3100,3300,3400,3500,3700,4200,4300,4400] (fun yy0=>[(7,vI (yy0.1:Int)),(5,.own 900),(6,vB yy0.2.2)]) (fun yy0=>[(900,some (.arr 51 1 true (yy0.2.1.map aD)))]) (fun yy0=>yy0.1<=rows.length/\yy0.2.1.length<=2*yy0.1/\yy0.2.1++G0 row yy0.2.2 (rows.drop yy0.1)=mP row rows) (fun yy0=>rows.length - yy0.1) (fun yy0=> .len rows.length<| .br (.elem _ aD rows (fun e18=> .call (vI (cO e18 row)) []<| .br (.br (.elem _ aD rows (fun e40=> .app Int intD ([]:Z) e40<| .appx Z aD yy0.2.1 (([]:Z)++e40)<| .back [(900,4400)])) (.elem _ aD rows (fun e40=> .app Int intD ([]:Z) e40<| .appx Z aD yy0.2.1 (([]:Z)++e40)<| .back [(900,4400)]))) (.br (aGQ<| .br (.app Int intD ([]:Z) row<| .appx Z aD yy0.2.1 (([]:Z)++row)<| .elem _ aD rows (fun e40=> .app Int intD ([]:Z) e40<| .appx Z aD (yy0.2.1++[([]:Z)++row]) (([]:Z)++e40)<| .back [(900,4400)])) (.elem _ aD rows (fun e40=> .app Int intD ([]:Z) e40<| .appx Z aD yy0.2.1 (([]:Z)++e40)<| .back [(900,4400)]))) (.elem _ aD rows (fun e40=> .app Int intD ([]:Z) e40<| .appx Z aD yy0.2.1 (([]:Z)++e40)<| .back [(900,4400)]))))) (.br (.app Int intD ([]:Z) row<| .appx Z aD yy0.2.1 (([]:Z)++row)<| .fin [(0,5200)]) (.fin [(0,900)])))) (p:=Lx (rows.map aD)<| Lx (row.map intD)<| (∃(k:Nat) (out:List Z) (p:Bool),0=(k:Int)/\(false)=p/\[]=out.map aD/\k<=rows.length/\out.length<=2*k/\out++G0 row p (rows.drop k)=mP row rows)/\ ∀(k:Nat) (out:List Z) (p:Bool),(k<=rows.length/\out.length<=2*k/\out++G0 row p (rows.drop k)=mP row rows)->Lm aD rows/\Br ((k:Int)<(rows.length:Int)) (0<=(k:Int)/\Em aD rows k fun e18=>gZ e18 row/\Br ((cO e18 row)=0) (Br (0<(cO e18 row)) (0<=(k:Int)/\Em aD rows k fun e40=>Ap intD ([]:Z) e40 8 (out.map aD=out.map aD/\(([]:Z)++e40).map intD=(([]:Z)++e40).map intD/\(out.length+1)*24<=140737488355328/\bO ((k:Int)+1)/\ ∃(k' :Nat) (out' :List Z) (p' :Bool),((k:Int)+1)=(k' :Int)/\(true)=p' /\(out++[([]:Z)++e40]).map aD=out'.map aD/\(k' <=rows.length/\out'.length<=2*k' /\out' ++G0 row p' (rows.drop k')=mP row rows)/\rows.length - k' <rows.length - k)) (0<=(k:Int)/\Em aD rows k fun e40=>Ap intD ([]:Z) e40 8 (out.map aD=out.map aD/\(([]:Z)++e40).map intD=(([]:Z)++e40).map intD/\(out.length+1)*24<=140737488355328/\bO ((k:Int)+1)/\ ∃(k' :Nat) (out' :List Z) (p' :Bool),((k:Int)+1)=(k' :Int)/\(true)=p' /\(out++[([]:Z)++e40]).map aD=out'.map aD/\(k' <=rows.length/\out'.length<=2*k' /\out' ++G0 row p' (rows.drop k')=mP row rows)/\rows.length - k' <rows.length - k))) (Br (0<(cO e18 row)) (Nr (p) (Ap intD ([]:Z) row 8 (out.map aD=out.map aD/\(([]:Z)++row).map intD=(([]:Z)++row).map intD/\(out.length+1)*24<=140737488355328/\0<=(k:Int)/\Em aD rows k fun e40=>Ap intD ([]:Z) e40 8 ((out++[([]:Z)++row]).map aD=(out++[([]:Z)++row]).map aD/\(([]:Z)++e40).map intD=(([]:Z)++e40).map intD/\((out++[([]:Z)++row]).length+1)*24<=140737488355328/\bO ((k:Int)+1)/\ ∃(k' :Nat) (out' :List Z) (p' :Bool),((k:Int)+1)=(k' :Int)/\(true)=p' /\((out++[([]:Z)++row])++[([]:Z)++e40]).map aD=out'.map aD/\(k' <=rows.length/\out'.length<=2*k' /\out' ++G0 row p' (rows.drop k')=mP row rows)/\rows.length - k' <rows.length - k))) (0<=(k:Int)/\Em aD rows k fun e40=>Ap intD ([]:Z) e40 8 (out.map aD=out.map aD/\(([]:Z)++e40).map intD=(([]:Z)++e40).map intD/\(out.length+1)*24<=140737488355328/\bO ((k:Int)+1)/\ ∃(k' :Nat) (out' :List Z) (p' :Bool),((k:Int)+1)=(k' :Int)/\(p)=p' /\(out++[([]:Z)++e40]).map aD=out'.map aD/\(k' <=rows.length/\out'.length<=2*k' /\out' ++G0 row p' (rows.drop k')=mP row rows)/\rows.length - k' <rows.length - k))) (0<=(k:Int)/\Em aD rows k fun e40=>Ap intD ([]:Z) e40 8 (out.map aD=out.map aD/\(([]:Z)++e40).map intD=(([]:Z)++e40).map intD/\(out.length+1)*24<=140737488355328/\bO ((k:Int)+1)/\ ∃(k' :Nat) (out' :List Z) (p' :Bool),((k:Int)+1)=(k' :Int)/\(p)=p' /\(out++[([]:Z)++e40]).map aD=out'.map aD/\(k' <=rows.length/\out'.length<=2*k' /\out' ++G0 row p' (rows.drop k')=mP row rows)/\rows.length - k' <rows.length - k)))) (Nr (p) (Ap intD ([]:Z) row 8 (out.map aD=out.map aD/\(([]:Z)++row).map intD=(([]:Z)++row).map intD/\(out.length+1)*24<=140737488355328/\(out++[([]:Z)++row]).map aD=(mP row rows).map aD/\True)) (out.map aD=(mP row rows).map aD/\True))) ?_;refine lx fun n0=>lx fun n1=>?_;refine⟨⟨0,([]:List Z),false,rfl,rfl,rfl,aBC _,by simp,rfl⟩,fun k out p ⟨hk,ho,hv⟩=>?_⟩;refine⟨aAb _,dd (fun c0=>?_) fun c0=>?_⟩
 ·refine⟨aGR,rfl,aGR,fun e18 h18=>?_⟩;have hsz:=CW h18;refine⟨lC _ _,dd (fun c1=>?_) fun c1=>?_⟩
  ·apply dd<;>intro g26
   ·refine⟨aGR,rfl,aGR,fun e40 h40=>?_⟩;obtain rfl:=(bE h18 h40).symm;refine ap ?_ (fun _=>rfl) aGR;refine⟨rfl,rfl,aGR,aGS,?_⟩;exact⟨k+1,_,_,rfl,rfl,rfl,⟨aGR,by simp;omega,by rw[<-hv,oD h18];(rw[TG c1];simp;done)⟩,aGR⟩
   ·refine⟨aGR,rfl,aGR,fun e40 h40=>?_⟩;obtain rfl:=(bE h18 h40).symm;refine ap ?_ (fun _=>rfl) (by (simp;omega));refine⟨rfl,rfl,aGR,aGS,?_⟩;exact⟨k+1,_,_,rfl,rfl,rfl,⟨aGR,by simp;omega,by rw[<-hv,oD h18];(rw[TG c1];simp;done)⟩,aGR⟩
  ·apply dd<;>intro g26
   ·apply dm<;>intro c2
    ·refine ap ?_ (fun _=>rfl) (by (simp;omega));refine⟨rfl,rfl,aGR,aGR,rfl,aGR,fun e40 h40=>?_⟩;obtain rfl:=(bE h18 h40).symm;refine ap ?_ (fun _=>rfl) (by (simp;omega));refine⟨rfl,rfl,by (simp;omega),aGS,?_⟩;exact⟨k+1,_,_,rfl,rfl,rfl,⟨aGR,by simp;omega,by rw[<-hv,oD h18];(subst c2;rw[Y0 g26];simp;done)⟩,aGR⟩
    ·refine⟨aGR,rfl,aGR,fun e40 h40=>?_⟩;obtain rfl:=(bE h18 h40).symm;refine ap ?_ (fun _=>rfl) (by (simp;omega));refine⟨rfl,rfl,aGR,aGS,?_⟩;exact⟨k+1,_,_,rfl,rfl,rfl,⟨aGR,by simp;omega,by rw[<-hv,oD h18];(subst c2;rw[Y1];simp;done)⟩,aGR⟩
   ·refine⟨aGR,rfl,aGR,fun e40 h40=>?_⟩;obtain rfl:=(bE h18 h40).symm;refine ap ?_ (fun _=>rfl) (by (simp;omega));refine⟨rfl,rfl,aGR,aGS,?_⟩;exact⟨k+1,_,_,rfl,rfl,rfl,⟨aGR,by simp;omega,by rw[<-hv,oD h18];(rw[Y2 g26 c1];simp;done)⟩,aGR⟩
 ·apply dm<;>intro c3
  ·refine ap ?_ (fun _=>rfl) (by (simp;omega));refine⟨rfl,rfl,aGR,?_,trivial⟩
   ·rw[<-hv,BA aGR,G0];simp[c3]
  ·apply et1
   ·rw[<-hv,BA aGR,G0];simp[c3]
theorem Ji {row:Z}: ∀xs:List Z,G0 row true xs=xs
 | []=>rfl
 | x::xs=>by rw[Y1,Ji xs]
theorem E3 {row:Z}:mP row []= [row]:=rfl
def E4 {row x:Z}{xs:List Z}(h:0<cO x row):mP row (x::xs)=row::x::xs:=by rw[mP,Y0 h,Ji]
def E5 {row x:Z}{xs:List Z}(h:cO x row=0):mP row (x::xs)=x::xs:=by rw[mP,TG h,Ji]
def E6 {row x:Z}{xs:List Z}(h: ¬0<cO x row)(h' : ¬cO x row=0):mP row (x::xs)=x::mP row xs:=by rw[mP,Y2 h h',mP]
theorem E7 {row y:Z}: ∀{xs:List Z},y∈mP row xs↔y=row\/y∈xs
 | []=>by simp[E3]
 | x::xs=>by
   by_cases h:0<cO x row
   ·rw[E4 h];simp
   by_cases h' :cO x row=0
   ·rw[E5 h',fW.1 h'];constructor
    ·exact Or.inr
    rintro(rfl | q)
    ·simp
    exact q
   rw[E6 h h',aDr,aDr,E7];constructor
   ·rintro(q | q | q)
    ·exact .inr (.inl q)
    ·exact .inl q
    exact .inr (.inr q)
   rintro(q | q | q)
   ·exact .inr (.inl q)
   ·exact .inl q
   exact .inr (.inr q)
abbrev Y3 (l:List Z):Prop:=l.Pairwise fun a b=>cO a b<0
theorem Ql {row:Z}: ∀{xs:List Z},Y3 xs->Y3 (mP row xs)
 | [],_=>by rw[E3];exact List.pairwise_singleton _ _
 | x::xs,hx=>by
   have h1:=List.pairwise_cons.1 hx;by_cases h:0<cO x row
   ·rw[E4 h];refine List.pairwise_cons.2 ⟨fun y hy=>?_,hx⟩;have hrx:cO row x<0:=tZ.2 h;rcases aDr.1 hy with rfl | q
    ·exact hrx
    exact pG hrx (h1.1 y q)
   by_cases h' :cO x row=0
   ·rw[E5 h'];exact hx
   rw[E6 h h'];refine List.pairwise_cons.2 ⟨fun y hy=>?_,Ql h1.2⟩;rcases E7.1 hy with rfl | q
   ·omega
   exact h1.1 y q
theorem Jj {row:Z}: ∀{xs:List Z},(mP row xs).length<=xs.length+1
 | []=>by simp[E3]
 | x::xs=>by
   by_cases h:0<cO x row
   ·rw[E4 h];simp
   by_cases h' :cO x row=0
   ·rw[E5 h'];simp
   rw[E6 h h'];have:=Jj (row:=row) (xs:=xs);simp only[aEb];omega
def cR (l:List Z):List Z:=l.foldl (fun acc x=>mP x acc) []
def wD (l:List Z): ∀acc,Y3 acc->Y3 (l.foldl (fun acc x=>mP x acc) acc)/\(∀y,y∈l.foldl (fun acc x=>mP x acc) acc↔y∈acc\/y∈l)/\(l.foldl (fun acc x=>mP x acc) acc).length<=acc.length+l.length:=by
 induction l with
 | nil=>intro acc h;simp[h]
 | cons x l ih=>
   intro acc h;obtain⟨h1,h2,h3⟩:=ih _ (Ql (row:=x) h);refine⟨h1,fun y=>?_,?_⟩
   ·rw[List.foldl_cons,h2,E7,aDr];constructor
    ·rintro((q | q) | q)
     ·exact .inr (.inl q)
     ·exact .inl q
     exact .inr (.inr q)
    rintro(q | q | q)
    ·exact .inl (.inr q)
    ·exact .inl (.inl q)
    exact .inr q
   have:=Jj (row:=x) (xs:=acc);rw[List.foldl_cons,aEb];omega
def E8 {l:List Z}{x:Z}:cR (l++[x])=mP x (cR l):=by simp[cR,List.foldl_append]
theorem IF: ∀{l m:List Z},Y3 l->Y3 m->(∀x,x∈l↔x∈m)->l=m
 | [],[],_,_,_=>rfl
 | [],b::m,_,_,h=>by have:=(h b).2 (by simp);simp at this
 | a::l,[],_,_,h=>by have:=(h a).1 (by simp);simp at this
 | a::l,b::m,hl,hm,h=>by
   have hl' :=List.pairwise_cons.1 hl;have hm' :=List.pairwise_cons.1 hm
   have hab:a=b:=by
    rcases aDr.1 ((h a).1 (by simp)) with q | q
    ·exact q
    rcases aDr.1 ((h b).2 (by simp)) with r | r
    ·exact r.symm
    have h1:=hm'.1 a q;have h2:=hl'.1 b r;have:=pG h1 h2;rw[CT] at this;omega
   subst hab
   congr 1
   refine IF hl'.2 hm'.2 fun x=>⟨fun hx=>?_,fun hx=>?_⟩
   ·rcases aDr.1 ((h x).1 (by simp[hx])) with q | q
    ·subst q;have:=hl'.1 _ hx;rw[CT] at this;omega
    exact q
   rcases aDr.1 ((h x).2 (by simp[hx])) with q | q
   ·subst q;have:=hm'.1 _ hx;rw[CT] at this;omega
   exact q
def Jk {s:List Z}{i:Nat}:i∈qO s↔i<s.length/\(i=0\/ ¬s.getD i []=s.getD (i - 1) []):=by
 rw[qO,aGE,aEt];simp[Ou]
theorem M7 (s:List Z): ∀n,n<s.length-> ∃i,i∈qO s/\s.getD i []=s.getD n []
 | 0,h=>⟨0,Jk.2 ⟨h,.inl rfl⟩,rfl⟩
 | n+1,h=>by
   by_cases e:s.getD (n+1) []=s.getD n []
   ·obtain⟨i,h1,h2⟩:=M7 s n aGR;exact⟨i,h1,by rw[h2,e]⟩
   exact⟨n+1,Jk.2 ⟨h,.inr e⟩,rfl⟩
def Y4 {s:List Z}{x:Z}:x∈hY s↔x∈s:=by
 constructor
 ·intro h;obtain⟨i,hi,rfl⟩:=aE9.1 h;obtain⟨y,hy⟩:=fK (Up hi);rw[bK hy];exact aBD hy
 intro h;obtain⟨n,hn,hx⟩:=List.mem_iff_getElem.1 h;obtain⟨i,h1,h2⟩:=M7 s n hn;refine aE9.2 ⟨i,h1,?_⟩;rw[h2,<-hx];simp[hn]
def Y5 {s:List Z}(hs:s.Pairwise (fun a b=>Qc a b=true)):Y3 (hY s):=by
 rw[hY,Y3,List.pairwise_map];have h0:(qO s).Pairwise (· < ·):=List.Pairwise.filter _ List.pairwise_lt_range;refine List.Pairwise.imp_of_mem ?_ h0;intro i j hi hj hij;have h1:=Jk.1 hj;have hp:=List.pairwise_iff_getElem.1 hs
 have hg: ∀a b,a<b->b<s.length->Qc (s.getD a []) (s.getD b [])=true:=by
  intro a b hab hb;have:=hp a b aGR hb hab;simpa [hb,show a<s.length by omega] using this
 have h2:=hg (j - 1) j aGR h1.1;rw[Qc,aFI] at h2
 have h3:cO (s.getD (j - 1) []) (s.getD j [])<0:=by
  have: ¬cO (s.getD (j - 1) []) (s.getD j [])=0:=fun q=>by
   have:=fW.1 q;rcases h1.2 with r | r
   ·omega
   exact r this.symm
  omega
 by_cases e:i=j - 1
 ·rw[e];exact h3
 have h4:=hg i (j - 1) aGR aGR;rw[Qc,aFI] at h4;by_cases z:cO (s.getD i []) (s.getD (j - 1) [])=0
 ·rw[fW.1 z];exact h3
 exact pG aGR h3
def wE (l:List Z):cR l=hY (dU l):=by
 obtain⟨h1,h2,_⟩:=wD l [] List.Pairwise.nil
 exact IF h1 (Y5 (Jc l)) fun x=>by
  have h2' :=h2 x;rw[show l.foldl (fun acc x=>mP x acc) []=cR l from rfl] at h2';rw[h2',Y4,(Db l).mem_iff];simp
def MG {l:List Z}{m:Nat}(h: ∀x∈l,x.length<=m):(cR l).length<=l.length/\dG (cR l)<=l.length+l.length*m:=by
 obtain⟨_,h2,h3⟩:=wD l [] List.Pairwise.nil
 have h4:(cR l).length<=l.length:=by
  rw[List.length_nil,Nat.zero_add] at h3;exact h3
 have:=yX (l:=cR l) (m:=m) fun x hx=>h x (by simpa using (h2 x).1 hx);have:=Nat.mul_le_mul_right m h4;exact⟨h4,aGR⟩
def Ov {t:aX}{cols:Z}{j:Nat}{e:Z}(h:t.rows[j]? =some e):(mV t cols)[j]? =some (gT e cols).1:=by simp[mV,h]
def Ow {t:aX}{cols:Z}{k:Nat}(h:(aW t&&eP (t.l - 1) cols)=true):(cR ((mV t cols).take k)).length<=8/\dG (cR ((mV t cols).take k))<=64:=by
 have h0:=h;rw[aBB] at h;have ha:=cJ h.1;have hc:=E2 h.2 aGR;have hl:(mV t cols).length=t.rows.length:=aAb _
 have:=MG (l:=(mV t cols).take k) (m:=3) fun r hr=>by
  obtain⟨q,_,rfl⟩:=aE9.1 (List.mem_of_mem_take hr);have:=JZ q cols;omega
 have h5:((mV t cols).take k).length<=8:=by simp;omega
 omega
abbrev De (t:aX)(cols:Z):AV × aGJ:=(.tup [.own 0,.own 1],[(0,.arr 51 1 true ((eV t cols).1.map aD)),(1,.arr 3 1 true ((eV t cols).2.map intD))])
abbrev Jl (t:aX)(cols:Z):Prop:=Cn 194 [aGz t,.one (.sl 3 1 (cols.map intD))] (De t cols).1 (De t cols).2
def Y6 (t:aX)(cols:Z)(hl:cols.length<=1048576):Jl t cols:=by
 refine cq Tryz.func194 (.call (vB (aW t&&eP (t.l - 1) cols)) []<| .br (.fin [(0,1600),(1,1700)]) (.loop (Nat × (List Z)) (Q2 Nat (List Z)) ([6,8,9,10,16]++rg 24 20) [1600,3800,4300] (fun yy0=>[(8,vI (yy0.1:Int)),(6,.own 1600)]) (fun yy0=>[(1600,some (.arr 51 1 true (yy0.2.map aD)))]) (fun yy0=>yy0.1<=t.rows.length/\yy0.2=cR ((mV t cols).take yy0.1)) (fun yy0=>t.rows.length - yy0.1) (fun yy0=> .len t.rows.length<| .br (.elem _ aD t.rows (fun e35=>bN (rQ e35 cols)<| bN (uV yy0.2 ((gT e35 cols).1))<| .back [(1600,4300)])) (.loop (Nat × Z) (Q2 Nat Z) ([7,11,12,13,14,15,17]++rg 44 36) [1700,6400,7800,7900] (fun yy1=>[(11,vI (yy1.1:Int)),(7,.own 1700)]) (fun yy1=>[(1700,some (.arr 3 1 true (yy1.2.map intD)))]) (fun yy1=>yy1.1<=yy0.2.length/\yy1.2=(yy0.2.take yy1.1).map (kJ (mV t cols))) (fun yy1=>yy0.2.length - yy1.1) (fun yy1=> .len yy0.2.length<| .br (.loop (Nat × Int) (Q2 Nat Int) ([12,13,14,15]++rg 50 26) [6400] (fun yy2=>[(12,vI yy2.2),(13,vI (yy2.1:Int))]) (fun yy2=>[]) (fun yy2=>yy2.1<=t.rows.length/\yy2.2=kJ ((mV t cols).take yy2.1) (yy0.2.getD yy1.1 [])) (fun yy2=>t.rows.length - yy2.1) (fun yy2=> .len t.rows.length<| .br (.elem _ aD t.rows (fun e61=>bN (rQ e61 cols)<| .len yy0.2.length<| .elem _ aD yy0.2 (fun e71=> .call (vI (cO ((gT e61 cols).1) e71)) []<| .br (.back []) (.back [])))) (.app Int intD yy1.2 ([yy2.2]:Z)<| .back [(1700,7900)]))) (.fin [(0,1600),(1,1700)])))))) (p:=Lx (t.rows.map aD)<| Lx (cols.map intD)<| BH t cols/\Nr (aW t&&eP (t.l - 1) cols) ([]=(eV t cols).1.map aD/\[]=(eV t cols).2.map intD/\True) ((∃(k:Nat) (out:List Z),0=(k:Int)/\[]=out.map aD/\k<=t.rows.length/\out=cR ((mV t cols).take k))/\ ∀(k:Nat) (out:List Z),(k<=t.rows.length/\out=cR ((mV t cols).take k))->Lm aD t.rows/\Br ((k:Int)<(t.rows.length:Int)) (0<=(k:Int)/\Em aD t.rows k fun e35=>uS e35 cols/\yZ out ((gT e35 cols).1)/\bO ((k:Int)+1)/\ ∃(k' :Nat) (out' :List Z),((k:Int)+1)=(k' :Int)/\(mP ((gT e35 cols).1) out).map aD=out'.map aD/\(k' <=t.rows.length/\out' =cR ((mV t cols).take k'))/\t.rows.length - k' <t.rows.length - k) ((∃(i:Nat) (c:Z),0=(i:Int)/\[]=c.map intD/\i<=out.length/\c=(out.take i).map (kJ (mV t cols)))/\ ∀(i:Nat) (c:Z),(i<=out.length/\c=(out.take i).map (kJ (mV t cols)))->Lm aD out/\Br ((i:Int)<(out.length:Int)) ((∃(j:Nat) (z:Int),0=z/\0=(j:Int)/\j<=t.rows.length/\z=kJ ((mV t cols).take j) (out.getD i []))/\ ∀(j:Nat) (z:Int),(j<=t.rows.length/\z=kJ ((mV t cols).take j) (out.getD i []))->Lm aD t.rows/\Br ((j:Int)<(t.rows.length:Int)) (0<=(j:Int)/\Em aD t.rows j fun e61=>uS e61 cols/\0<=(i:Int)/\Lm aD out/\(i:Int)<(out.length:Int)/\Em aD out i fun e71=>gZ ((gT e61 cols).1) e71/\Br ((cO ((gT e61 cols).1) e71)=0) (bO (z+1)/\bO ((j:Int)+1)/\ ∃(j' :Nat) (z' :Int),(z+1)=z' /\((j:Int)+1)=(j' :Int)/\(j' <=t.rows.length/\z' =kJ ((mV t cols).take j') (out.getD i []))/\t.rows.length - j' <t.rows.length - j) (bO ((j:Int)+1)/\ ∃(j' :Nat) (z' :Int),z=z' /\((j:Int)+1)=(j' :Int)/\(j' <=t.rows.length/\z' =kJ ((mV t cols).take j') (out.getD i []))/\t.rows.length - j' <t.rows.length - j)) (Ap intD c ([z]:Z) 8 (bO ((i:Int)+1)/\ ∃(i' :Nat) (c' :Z),((i:Int)+1)=(i' :Int)/\(c++[z]).map intD=c'.map intD/\(i' <=out.length/\c' =(out.take i').map (kJ (mV t cols)))/\out.length - i' <out.length - i))) (out.map aD=(eV t cols).1.map aD/\c.map intD=(eV t cols).2.map intD/\True)))) ?_;refine lx fun n0=>lx fun n1=>?_;refine⟨M1 t _,dm (fun c0=>?_) fun c0=>?_⟩
 ·have hbad:(aW t&&eP (t.l - 1) cols)=false:=by simpa using c0
  apply et2<;>((rw[E1 hbad]<;>rfl))
 ·have hok:(aW t&&eP (t.l - 1) cols)=true:=by simpa using c0
  obtain⟨hs1,hs2⟩:=Jg hok;refine⟨⟨0,([]:List Z),rfl,rfl,aBC _,rfl⟩,fun k out ⟨hk,ho⟩=>?_⟩;refine⟨aAb _,dd (fun c1=>?_) fun c1=>?_⟩
  ·have hp:=Ow (k:=k) hok;rw[<-ho] at hp;refine⟨aGR,rfl,aGR,fun e35 h35=>?_⟩;have hsl:=JZ e35 cols;refine⟨Ez _ _ aGR,Jh out ((gT e35 cols).1) aGR aGR aGR,aGS,?_⟩;exact⟨k+1,_,rfl,rfl,⟨aGR,by rw[ho,bW (Ov h35),E8]⟩,aGR⟩
  ·have hV:out=TE t cols:=by rw[ho,aCR (by simp[mV];omega),wE];rfl
   have hp:=Ow (k:=k) hok;rw[<-ho] at hp;refine⟨⟨0,([]:Z),rfl,rfl,aBC _,rfl⟩,fun i c ⟨hi,hc⟩=>?_⟩;refine⟨aAb _,dd (fun c2=>?_) fun c2=>?_⟩
   ·obtain⟨g,hg⟩:=fK (l:=out) (k:=i) aGR;refine⟨⟨0,0,rfl,rfl,aBC _,rfl⟩,fun j z ⟨hj,hz⟩=>?_⟩;refine⟨aAb _,dd (fun c3=>?_) fun c3=>?_⟩
    ·refine⟨aGR,rfl,aGR,fun e61 h61=>?_⟩;refine⟨Ez _ _ aGR,aGR,aAb _,aGR,rfl,aGR,fun e71 h71=>?_⟩;have hg71:out.getD i []=e71:=bK h71;refine⟨lC _ _,dd (fun c4=>?_) fun c4=>?_⟩
     ·have hcl:=Yx ((mV t cols).take j) e71;rw[<-hg71,<-hz] at hcl;have hjl:((mV t cols).take j).length<=8:=by simp;omega
      refine⟨aGS,aGS,?_⟩;exact⟨j+1,_,rfl,rfl,⟨aGR,by rw[hz,hg71,Uq (Ov h61) (fW.1 c4).symm]⟩,aGR⟩
     ·refine⟨aGS,?_⟩;exact⟨j+1,_,rfl,rfl,⟨aGR,by rw[hz,hg71,Yw (Ov h61) (fun q=>c4 (fW.2 q.symm))]⟩,aGR⟩
    ·refine ap ?_ (fun _=>rfl) (by (rw[hc];simp;omega));refine⟨aGS,?_⟩;exact⟨i+1,_,rfl,rfl,⟨aGR,by rw[hc,hz,bW hg,bK hg,aDM,aCR (l:=mV t cols) (i:=j) (by simp[mV];omega)];rfl⟩,aGR⟩
   ·have hC:c=Qi t cols:=by rw[hc,aCR aGR,hV];rfl
    apply et2<;>(first|(rw[uU hok,hV]<;>rfl)|(rw[uU hok,hC]<;>rfl))
def gX (s:Int)(v:Nat):Bool:=decide (cH .and .i64 (s/2^v) 1=1)
def nO (s:Int)(k:Nat):Z:=((List.range k).filter (gX s)).map fun v:Nat=>(v:Int)
def fZ (s:Int):Z:=nO s 3
def GC {s:Int}{k:Nat}(h:cH .and .i64 (s/2^k) 1=1):nO s (k+1)=nO s k++[(k:Int)]:=by
 rw[nO,List.range_succ,List.filter_append,aDM];simp[nO,gX,h]
def Jm {s:Int}{k:Nat}(h: ¬cH .and .i64 (s/2^k) 1=1):nO s (k+1)=nO s k:=by
 rw[nO,List.range_succ,List.filter_append,aDM];simp[nO,gX,h]
def WO {s:Int}{k:Nat}(hs:0<=s/\s<=7)(hk:k<=3)(h:s/2^k=0):nO s k=fZ s:=by
 have h1:s=0\/s=1\/s=2\/s=3\/s=4\/s=5\/s=6\/s=7:=aGR
 have h2:k=0\/k=1\/k=2\/k=3:=aGR
 rcases h2 with rfl|rfl|rfl|rfl<;>rcases h1 with rfl|rfl|rfl|rfl|rfl|rfl|rfl|rfl<;>first|rfl|(revert h;decide)
def aBz {s:Int}{k:Nat}(hs:0<=s/\s<=7)(hk:k<=3)(h: ¬s/2^k=0):k<3:=by
 by_cases q:k=3
 ·subst q;omega
 omega
def xS (s:Int)(k:Nat):(nO s k).length<=k:=by
 rw[nO,aAb];have:=(List.filter_sublist (l:=List.range k) (p:=gX s)).length_le;rw[List.length_range] at this;exact this
def uA {n:Int}(h:1<=n/\n<=3):2<=(2:Int)^n.toNat/\(2:Int)^n.toNat<=8:=by
 have:n=1\/n=2\/n=3:=aGR
 rcases this with rfl | rfl | rfl<;>decide
def uW (k:Nat):List Z:=(List.range k).map fun i=>fZ ((i+1:Nat):Int)
def cD (n:Int):List Z:=uW ((2:Int)^n.toNat - 1).toNat
def Jn (k:Nat):uW (k+1)=uW k++[fZ ((k+1:Nat):Int)]:=by rw[uW,List.range_succ,aDM];rfl
abbrev wF (s:Int):AV × aGJ:=(.own 0,[(0,.arr 3 1 true ((fZ s).map intD))])
abbrev BJ (s:Int):Prop:=Cn 120 [.one (.int .i64 s)] (wF s).1 (wF s).2
def M8 (s:Int)(hs:0<=s/\s<=7):BJ s:=by
 refine cq Tryz.func120 (.loop (Nat × Z) (Q2 Nat Z) (rg 3 18) [500,1900,2000] (fun yy0=>[(4,vI (yy0.1:Int)),(3,.own 500)]) (fun yy0=>[(500,some (.arr 3 1 true (yy0.2.map intD)))]) (fun yy0=>yy0.1<=3/\yy0.2=nO s yy0.1) (fun yy0=>3 - yy0.1) (fun yy0=> .br (.br (.app Int intD yy0.2 ([(yy0.1:Int)]:Z)<| .back [(500,2000)]) (.back [(500,500)])) (.fin [(0,500)]))) (p:=(∃(k:Nat) (out:Z),0=(k:Int)/\[]=out.map intD/\k<=3/\out=nO s k)/\ ∀(k:Nat) (out:Z),(k<=3/\out=nO s k)->(0<=(k:Int)/\(k:Int)<=64)/\Nb ((s/2^k)=0) ((0<=(k:Int)/\(k:Int)<=64)/\Br ((cH .and .i64 (s/2^k) (1:Int))=1) (Ap intD out ([(k:Int)]:Z) 8 (bO ((k:Int)+1)/\ ∃(k' :Nat) (out' :Z),((k:Int)+1)=(k' :Int)/\(out++[(k:Int)]).map intD=out'.map intD/\(k' <=3/\out' =nO s k')/\3 - k' <3 - k)) (bO ((k:Int)+1)/\ ∃(k' :Nat) (out' :Z),((k:Int)+1)=(k' :Int)/\out.map intD=out'.map intD/\(k' <=3/\out' =nO s k')/\3 - k' <3 - k)) (out.map intD=(fZ s).map intD/\True)) ?_;refine⟨⟨0,([]:Z),rfl,rfl,aGR,rfl⟩,fun k out ⟨hk,ho⟩=>?_⟩;refine⟨aGS,dn (fun c0=>?_) fun c0=>?_⟩
 ·have hk3:=aBz hs hk c0;have hln:=xS s k;refine⟨aGS,dd (fun c1=>?_) fun c1=>?_⟩
  ·refine ap ?_ (fun _=>rfl) (by (simp[ho];omega));refine⟨aGS,?_⟩;exact⟨k+1,_,rfl,rfl,⟨aGR,by (rw[ho,GC c1];done)⟩,aGR⟩
  ·refine⟨aGS,?_⟩;exact⟨k+1,_,rfl,rfl,⟨aGR,by (rw[ho,Jm c1];done)⟩,aGR⟩
 ·apply et1
  ·(rw[ho];exact congrArg _ (WO hs hk c0))
abbrev wG (s:Int):AV × aGJ:=(.own 0,[(0,.arr 3 1 true ((fZ s).map intD))])
abbrev BK (s:Int):Prop:=Cn 135 [.one (.int .i64 s)] (wG s).1 (wG s).2
def M9 (s:Int)(hs:0<=s/\s<=7):BK s:=by
 refine cq Tryz.func135 (.loop (Nat × Z) (Q2 Nat Z) (rg 3 16) [500,1700,1800] (fun yy0=>[(4,vI (yy0.1:Int)),(3,.own 500)]) (fun yy0=>[(500,some (.arr 3 1 true (yy0.2.map intD)))]) (fun yy0=>yy0.1<=3/\yy0.2=nO s yy0.1) (fun yy0=>3 - yy0.1) (fun yy0=> .br (.br (.app Int intD yy0.2 ([(yy0.1:Int)]:Z)<| .back [(500,1800)]) (.back [(500,500)])) (.fin [(0,500)]))) (p:=(∃(k:Nat) (out:Z),0=(k:Int)/\[]=out.map intD/\k<=3/\out=nO s k)/\ ∀(k:Nat) (out:Z),(k<=3/\out=nO s k)->Br ((k:Int)<3) ((0<=(k:Int)/\(k:Int)<=64)/\Br ((cH .and .i64 (s/2^k) (1:Int))=1) (Ap intD out ([(k:Int)]:Z) 8 (bO ((k:Int)+1)/\ ∃(k' :Nat) (out' :Z),((k:Int)+1)=(k' :Int)/\(out++[(k:Int)]).map intD=out'.map intD/\(k' <=3/\out' =nO s k')/\3 - k' <3 - k)) (bO ((k:Int)+1)/\ ∃(k' :Nat) (out' :Z),((k:Int)+1)=(k' :Int)/\out.map intD=out'.map intD/\(k' <=3/\out' =nO s k')/\3 - k' <3 - k)) (out.map intD=(fZ s).map intD/\True)) ?_;refine⟨⟨0,([]:Z),rfl,rfl,aGR,rfl⟩,fun k out ⟨hk,ho⟩=>?_⟩;apply dd<;>intro c0
 ·skip
  have hln:=xS s k;refine⟨aGS,dd (fun c1=>?_) fun c1=>?_⟩
  ·refine ap ?_ (fun _=>rfl) (by (simp[ho];omega));refine⟨aGS,?_⟩;exact⟨k+1,_,rfl,rfl,⟨aGR,by (rw[ho,GC c1];done)⟩,aGR⟩
  ·refine⟨aGS,?_⟩;exact⟨k+1,_,rfl,rfl,⟨aGR,by (rw[ho,Jm c1];done)⟩,aGR⟩
 ·apply et1
  ·(rw[ho];exact congrArg _ (by rw[fZ,show 3=k by omega]))
abbrev BL (n:Int):AV × aGJ:=(.own 0,[(0,.arr 51 1 true ((cD n).map aD))])
abbrev G3 (n:Int):Prop:=Cn 181 [.one (.int .i64 n)] (BL n).1 (BL n).2
def WP (n:Int)(hn:1<=n/\n<=3):G3 n:=by
 refine cq Tryz.func181 (.call (vB (eZ n (1:Int) (3:Int))) []<| .br (.fin []) (.loop (Nat × (List Z)) (Q2 Nat (List Z)) ([3,4]++rg 8 12) [800,1700,1800,1900] (fun yy0=>[(4,vI ((yy0.1+1:Nat):Int)),(3,.own 800)]) (fun yy0=>[(800,some (.arr 51 1 true (yy0.2.map aD)))]) (fun yy0=>yy0.1<=((2:Int)^n.toNat - 1).toNat/\yy0.2=uW yy0.1) (fun yy0=>((2:Int)^n.toNat - 1).toNat - yy0.1) (fun yy0=> .br (bN (wF ((yy0.1+1:Nat):Int))<| .appx Z aD yy0.2 (fZ ((yy0.1+1:Nat):Int))<| .back [(800,1900)]) (.fin [(0,800)])))) (p:=fX n (1:Int) (3:Int)/\Nr (eZ n (1:Int) (3:Int)) ([]=(cD n).map aD/\True) ((∃(k:Nat) (out:List Z),1=((k+1:Nat):Int)/\[]=out.map aD/\k<=((2:Int)^n.toNat - 1).toNat/\out=uW k)/\ ∀(k:Nat) (out:List Z),(k<=((2:Int)^n.toNat - 1).toNat/\out=uW k)->(0<=n/\n<=64)/\bO ((1:Int)*2^(Int.toNat n))/\Br (((k+1:Nat):Int)<((1:Int)*2^(Int.toNat n))) (BJ ((k+1:Nat):Int)/\out.map aD=out.map aD/\(fZ ((k+1:Nat):Int)).map intD=(fZ ((k+1:Nat):Int)).map intD/\(out.length+1)*24<=140737488355328/\bO (((k+1:Nat):Int)+1)/\ ∃(k' :Nat) (out' :List Z),(((k+1:Nat):Int)+1)=((k' +1:Nat):Int)/\(out++[fZ ((k+1:Nat):Int)]).map aD=out'.map aD/\(k' <=((2:Int)^n.toNat - 1).toNat/\out' =uW k')/\((2:Int)^n.toNat - 1).toNat - k' <((2:Int)^n.toNat - 1).toNat - k) (out.map aD=(cD n).map aD/\True))) ?_;have hb:=uA hn;have hin:eZ n 1 3=true:=qF hn.1 hn.2;refine⟨kP _ _ _,dm (fun c0=>?_) fun c0=>?_⟩
 ·apply et1
  ·(exfalso;simp[hin] at c0;done)
 ·refine⟨⟨0,([]:List Z),rfl,rfl,aBC _,rfl⟩,fun k out ⟨hk,ho⟩=>?_⟩;refine⟨aGS,aGS,dd (fun c1=>?_) fun c1=>?_⟩
  ·refine⟨M8 ((k+1:Nat):Int) aGR,rfl,rfl,by (simp[ho,uW];omega),aGS,?_⟩;exact⟨(k+1),_,rfl,rfl,⟨aGR,by rw[ho,Jn]⟩,aGR⟩
  ·apply et1
   ·(rw[ho,cD];congr 2;omega)
abbrev BM (n:Int):AV × aGJ:=(.own 0,[(0,.arr 51 1 true ((cD n).map aD))])
abbrev G4 (n:Int):Prop:=Cn 193 [.one (.int .i64 n)] (BM n).1 (BM n).2
def WR (n:Int)(hn:1<=n/\n<=3):G4 n:=by
 refine cq Tryz.func193 (.loop (Nat × (List Z)) (Q2 Nat (List Z)) (rg 3 18) [500,1800,1900,2000] (fun yy0=>[(4,vI ((yy0.1+1:Nat):Int)),(3,.own 500)]) (fun yy0=>[(500,some (.arr 51 1 true (yy0.2.map aD)))]) (fun yy0=>yy0.1<=((2:Int)^n.toNat - 1).toNat/\yy0.2=uW yy0.1) (fun yy0=>((2:Int)^n.toNat - 1).toNat - yy0.1) (fun yy0=> .call (vB (eZ n (1:Int) (3:Int))) []<| .br (aGO<| .br (bN (wG ((yy0.1+1:Nat):Int))<| .appx Z aD yy0.2 (fZ ((yy0.1+1:Nat):Int))<| .back [(500,2000)]) (.fin [(0,500)])) (.fin [(0,500)]))) (p:=(∃(k:Nat) (out:List Z),1=((k+1:Nat):Int)/\[]=out.map aD/\k<=((2:Int)^n.toNat - 1).toNat/\out=uW k)/\ ∀(k:Nat) (out:List Z),(k<=((2:Int)^n.toNat - 1).toNat/\out=uW k)->fO n (1:Int) (3:Int)/\Bb (eZ n (1:Int) (3:Int)) ((0<=n/\n<=64)/\bO ((1:Int)*2^(Int.toNat n))/\Br (((k+1:Nat):Int)<((1:Int)*2^(Int.toNat n))) (BK ((k+1:Nat):Int)/\out.map aD=out.map aD/\(fZ ((k+1:Nat):Int)).map intD=(fZ ((k+1:Nat):Int)).map intD/\(out.length+1)*24<=140737488355328/\bO (((k+1:Nat):Int)+1)/\ ∃(k' :Nat) (out' :List Z),(((k+1:Nat):Int)+1)=((k' +1:Nat):Int)/\(out++[fZ ((k+1:Nat):Int)]).map aD=out'.map aD/\(k' <=((2:Int)^n.toNat - 1).toNat/\out' =uW k')/\((2:Int)^n.toNat - 1).toNat - k' <((2:Int)^n.toNat - 1).toNat - k) (out.map aD=(cD n).map aD/\True)) (out.map aD=(cD n).map aD/\True)) ?_;have hb:=uA hn;have hin:eZ n 1 3=true:=qF hn.1 hn.2;refine⟨⟨0,([]:List Z),rfl,rfl,aBC _,rfl⟩,fun k out ⟨hk,ho⟩=>?_⟩;refine⟨jV _ _ _,db (fun g8=>?_) fun g8=>?_⟩
 ·refine⟨aGS,aGS,dd (fun c0=>?_) fun c0=>?_⟩
  ·refine⟨M9 ((k+1:Nat):Int) aGR,rfl,rfl,by (simp[ho,uW];omega),aGS,?_⟩;exact⟨(k+1),_,rfl,rfl,⟨aGR,by rw[ho,Jn]⟩,aGR⟩
  ·apply et1
   ·(rw[ho,cD];congr 2;omega)
 ·apply et1
  ·(exfalso;simp[hin] at*;done)
def xT (t:aX)(cols:Z):aY:=⟨cols,(eV t cols).1,(eV t cols).2⟩
def bM (t:aX):aQ:=if aW t=true then ⟨t.name,t.l,(t.rows.length:Nat),(cD t.l).map (xT t)⟩ else vZ
def lD {t:aX}(h:aW t=true):bM t=⟨t.name,t.l,(t.rows.length:Nat),(cD t.l).map (xT t)⟩:=by rw[bM,if_pos h]
def Df {t:aX}(h:aW t=false):bM t=vZ:=by rw[bM,if_neg (by rw[h];decide)]
def Ur {α:Type}{l:List α}{k:Nat}(h:k<l.length):l.drop k≠[]:=fun e=>by
 have:=congrArg List.length e;simp at this;omega
def Us {α:Type}{l l2:List α}{k:Nat}{x:α}(h:l.drop k=x::l2):l2=l.drop (k+1):=by rw[<-List.tail_drop,h];rfl
def Ut {α:Type}{l l2:List α}{k:Nat}{x:α}(h:l.drop k=x::l2):l[k]? =some x:=by
 have:=congrArg List.head? h;simpa [List.head?_drop] using this
def Dg {n:Int}{k:Nat}{x:Z}(h:(cD n)[k]? =some x):x.length<=3:=by
 obtain⟨i,_,rfl⟩:=aE9.1 (aBD h);exact xS _ 3
def BN {n:Int}(h:1<=n/\n<=3):(cD n).length<=7:=by
 have:=uA h;simp only[cD,uW,aAb,List.length_range];omega
abbrev CX (t:aX):AV × aGJ:=(.agg [.p none (.str ((bM t).name)),vI ((bM t).l),vI ((bM t).A),.own 0],[(0,.arr 187 3 true ((bM t).t.map aL))])
abbrev GD (t:aX):Prop:=Cn 152 [aGz t] (CX t).1 (CX t).2
def Ox (t:aX):GD t:=by
 refine cq Tryz.func152 (.call (vB (aW t)) []<| .br (.fin []) (.len t.rows.length<| bN (BL t.l)<| .len ((cD t.l).length)<| .loop (Nat × (List Z) × (List aY)) (Q3 Nat (List Z) (List aY)) ([5,6,7]++rg 24 20) [300,2200,3100,3101,4000,4100,9000,50607] (fun yy0=>[(24,vI (yy0.1:Int))]) (fun yy0=>[(300,some (.box 112 [.p none (.str t.name),vI t.l,vI (t.rows.length:Int),.own 9000])),(9000,some (.arr 187 3 true (yy0.2.2.map aL))),(2200,some (.arr 51 1 true (List.replicate yy0.1 [bX.gone]++yy0.2.1.map aD)))]) (fun yy0=>yy0.1<=(cD t.l).length/\yy0.2.1=(cD t.l).drop yy0.1/\yy0.2.2=((cD t.l).take yy0.1).map (xT t)) (fun yy0=>(cD t.l).length - yy0.1) (fun yy0=> .br (.takeg 6 2200 yy0.1 50607 Z aD yy0.2.1 (fun x6 l6=> .len (yy0.1+(l6.length+1))<| .leave 7 2200 yy0.1 50607 Z aD x6 l6 (bN (yY t x6)<| .appx aY aL yy0.2.2 (⟨x6,(eV t x6).1,(eV t x6).2⟩:aY)<| .back [(300,300),(2200,2200),(9000,4100)]))) (.fin [(0,9000)])))) (p:=Lx (t.rows.map aD)<| uQ t/\Nr (aW t) (ByteArray.empty=((bM t).name)/\0=((bM t).l)/\0=((bM t).A)/\[]=(bM t).t.map aL/\True) (Lm aD t.rows/\(G3 t.l/\(Lm aD (cD t.l)/\((∃(k:Nat) (l2:List Z) (out:List aY),0=(k:Int)/\t.name=t.name/\t.l=t.l/\(t.rows.length:Int)=(t.rows.length:Int)/\[]=out.map aL/\(cD t.l).map aD=List.replicate k [bX.gone]++l2.map aD/\k<=(cD t.l).length/\l2=(cD t.l).drop k/\out=((cD t.l).take k).map (xT t))/\ ∀(k:Nat) (l2:List Z) (out:List aY),(k<=(cD t.l).length/\l2=(cD t.l).drop k/\out=((cD t.l).take k).map (xT t))->Br ((k:Int)<(((cD t.l).length:Nat):Int)) (List.replicate k [bX.gone]++l2.map aD=List.replicate k [bX.gone]++l2.map aD/\l2≠[]/\ ∀x6 l6,l2=x6::l6->0<=(k:Int)/\(List.replicate k [bX.gone]++(x6::l6).map aD).length=k+(l6.length+1)/\(k:Int)<((k+(l6.length+1):Nat):Int)/\k=k/\List.replicate k [bX.gone]++(x6::l6).map aD=List.replicate k [bX.gone]++(x6::l6).map aD/\k=k/\Dd t x6/\out.map aL=out.map aL/\x6.map intD=(⟨x6,(eV t x6).1,(eV t x6).2⟩:aY).C.map intD/\(eV t x6).1.map aD=(⟨x6,(eV t x6).1,(eV t x6).2⟩:aY).values.map aD/\(eV t x6).2.map intD=(⟨x6,(eV t x6).1,(eV t x6).2⟩:aY).counts.map intD/\(out.length+1)*72<=140737488355328/\bO ((k:Int)+1)/\ ∃(k' :Nat) (l2' :List Z) (out' :List aY),((k:Int)+1)=(k' :Int)/\t.name=t.name/\t.l=t.l/\(t.rows.length:Int)=(t.rows.length:Int)/\(out++[(⟨x6,(eV t x6).1,(eV t x6).2⟩:aY)]).map aL=out'.map aL/\List.replicate (k+1) [bX.gone]++l6.map aD=List.replicate k' [bX.gone]++l2'.map aD/\(k' <=(cD t.l).length/\l2' =(cD t.l).drop k' /\out' =((cD t.l).take k').map (xT t))/\(cD t.l).length - k' <(cD t.l).length - k) (t.name=((bM t).name)/\t.l=((bM t).l)/\(t.rows.length:Int)=((bM t).A)/\out.map aL=(bM t).t.map aL/\True)))))) ?_;refine lx fun n0=>?_;refine⟨BE t,dm (fun c0=>?_) fun c0=>?_⟩
 ·have hbad:aW t=false:=by simpa using c0
  apply et4<;>((rw[Df hbad]<;>rfl))
 ·have hok:aW t=true:=by simpa using c0
  have hT:=cJ hok;have hn:=BN (n:=t.l) ⟨hT.1,hT.2.1⟩;refine⟨aAb _,WP t.l aGR,aAb _,⟨0,cD t.l,([]:List aY),rfl,rfl,rfl,rfl,rfl,rfl,aBC _,rfl,rfl⟩,fun k l2 out ⟨hk,hl,ho⟩=>?_⟩;have hlen:l2.length=(cD t.l).length - k:=by rw[hl,aF6]
  apply dd<;>intro c1
  ·refine⟨rfl,(by rw[hl];exact Ur aGR),fun x6 l6 t6=>?_⟩;have hdx:=hl.symm.trans t6;have hx:=Ut hdx;have hx3:=Dg hx;refine⟨aGR,by simp,aGR,rfl,rfl,rfl,Qj t x6 aGR,rfl,rfl,rfl,rfl,by (simp[ho];omega),aGS,?_⟩;exact⟨k+1,_,_,rfl,rfl,rfl,rfl,rfl,rfl,⟨aGR,Us hdx,by rw[ho,bW hx,aDM];rfl⟩,aGR⟩
  ·apply et4<;>(first|(rw[lD hok]<;>rfl)|(rw[lD hok,ho,aCR aGR]))
abbrev CY (t:aX):AV × aGJ:=(.agg [.p none (.str ((bM t).name)),vI ((bM t).l),vI ((bM t).A),.own 0],[(0,.arr 187 3 true ((bM t).t.map aL))])
abbrev GF (t:aX):Prop:=Cn 170 [aGz t] (CY t).1 (CY t).2
def Uu (t:aX):GF t:=by
 refine cq Tryz.func170 (.call (vB (aW t)) []<| .br (.fin []) (.len t.rows.length<| bN (BM t.l)<| .loop (Nat × (List Z) × (List aY)) (Q3 Nat (List Z) (List aY)) ([5,6,7]++rg 23 27) [300,2200,3500,3501,4700,4800,9000,50807] (fun yy0=>[(5,vI (yy0.1:Int))]) (fun yy0=>[(300,some (.box 112 [.p none (.str t.name),vI t.l,vI (t.rows.length:Int),.own 9000])),(9000,some (.arr 187 3 true (yy0.2.2.map aL))),(2200,some (.arr 51 1 true (List.replicate yy0.1 [bX.gone]++yy0.2.1.map aD)))]) (fun yy0=>yy0.1<=(cD t.l).length/\yy0.2.1=(cD t.l).drop yy0.1/\yy0.2.2=((cD t.l).take yy0.1).map (xT t)) (fun yy0=>(cD t.l).length - yy0.1) (fun yy0=> .len (yy0.1+yy0.2.1.length)<| .br (.takeg 8 2200 yy0.1 50807 Z aD yy0.2.1 (fun x8 l8=> .len (yy0.1+(l8.length+1))<| bN (De t x8)<| .len (yy0.1+(l8.length+1))<| .appx aY aL yy0.2.2 (⟨x8,(eV t x8).1,(eV t x8).2⟩:aY)<| .leave 7 2200 yy0.1 50807 Z aD x8 l8 (.back [(300,300),(2200,2200),(9000,4800)]))) (.fin [(0,9000)])))) (p:=Lx (t.rows.map aD)<| rO t/\Nr (aW t) (ByteArray.empty=((bM t).name)/\0=((bM t).l)/\0=((bM t).A)/\[]=(bM t).t.map aL/\True) (Lm aD t.rows/\(G4 t.l/\((∃(k:Nat) (l2:List Z) (out:List aY),0=(k:Int)/\t.name=t.name/\t.l=t.l/\(t.rows.length:Int)=(t.rows.length:Int)/\[]=out.map aL/\(cD t.l).map aD=List.replicate k [bX.gone]++l2.map aD/\k<=(cD t.l).length/\l2=(cD t.l).drop k/\out=((cD t.l).take k).map (xT t))/\ ∀(k:Nat) (l2:List Z) (out:List aY),(k<=(cD t.l).length/\l2=(cD t.l).drop k/\out=((cD t.l).take k).map (xT t))->(List.replicate k [bX.gone]++l2.map aD).length=k+l2.length/\Br ((k:Int)<((k+l2.length:Nat):Int)) (List.replicate k [bX.gone]++l2.map aD=List.replicate k [bX.gone]++l2.map aD/\l2≠[]/\ ∀x8 l8,l2=x8::l8->0<=(k:Int)/\(List.replicate k [bX.gone]++(x8::l8).map aD).length=k+(l8.length+1)/\(k:Int)<((k+(l8.length+1):Nat):Int)/\k=k/\Jl t x8/\0<=(k:Int)/\(List.replicate k [bX.gone]++(x8::l8).map aD).length=k+(l8.length+1)/\(k:Int)<((k+(l8.length+1):Nat):Int)/\k=k/\out.map aL=out.map aL/\x8.map intD=(⟨x8,(eV t x8).1,(eV t x8).2⟩:aY).C.map intD/\(eV t x8).1.map aD=(⟨x8,(eV t x8).1,(eV t x8).2⟩:aY).values.map aD/\(eV t x8).2.map intD=(⟨x8,(eV t x8).1,(eV t x8).2⟩:aY).counts.map intD/\(out.length+1)*72<=140737488355328/\List.replicate k [bX.gone]++(x8::l8).map aD=List.replicate k [bX.gone]++(x8::l8).map aD/\k=k/\bO ((k:Int)+1)/\ ∃(k' :Nat) (l2' :List Z) (out' :List aY),((k:Int)+1)=(k' :Int)/\t.name=t.name/\t.l=t.l/\(t.rows.length:Int)=(t.rows.length:Int)/\(out++[(⟨x8,(eV t x8).1,(eV t x8).2⟩:aY)]).map aL=out'.map aL/\List.replicate (k+1) [bX.gone]++l8.map aD=List.replicate k' [bX.gone]++l2'.map aD/\(k' <=(cD t.l).length/\l2' =(cD t.l).drop k' /\out' =((cD t.l).take k').map (xT t))/\(cD t.l).length - k' <(cD t.l).length - k) (t.name=((bM t).name)/\t.l=((bM t).l)/\(t.rows.length:Int)=((bM t).A)/\out.map aL=(bM t).t.map aL/\True))))) ?_;refine lx fun n0=>?_;refine⟨BF t,dm (fun c0=>?_) fun c0=>?_⟩
 ·have hbad:aW t=false:=by simpa using c0
  apply et4<;>((rw[Df hbad]<;>rfl))
 ·have hok:aW t=true:=by simpa using c0
  have hT:=cJ hok;have hn:=BN (n:=t.l) ⟨hT.1,hT.2.1⟩;refine⟨aAb _,WR t.l aGR,⟨0,cD t.l,([]:List aY),rfl,rfl,rfl,rfl,rfl,rfl,aBC _,rfl,rfl⟩,fun k l2 out ⟨hk,hl,ho⟩=>?_⟩;have hlen:l2.length=(cD t.l).length - k:=by rw[hl,aF6]
  refine⟨by simp,dd (fun c1=>?_) fun c1=>?_⟩
  ·refine⟨rfl,(by rw[hl];exact Ur aGR),fun x8 l8 t8=>?_⟩;have hdx:=hl.symm.trans t8;have hx:=Ut hdx;have hx3:=Dg hx;refine⟨aGR,by simp,aGR,rfl,Y6 t x8 aGR,aGR,by simp,aGR,rfl,rfl,rfl,rfl,rfl,by (simp[ho];omega),rfl,rfl,aGS,?_⟩;exact⟨k+1,_,_,rfl,rfl,rfl,rfl,rfl,rfl,⟨aGR,Us hdx,by rw[ho,bW hx,aDM];rfl⟩,aGR⟩
  ·apply et4<;>(first|(rw[lD hok]<;>rfl)|(rw[lD hok,ho,aCR aGR]))
abbrev Dh (x:aQ):AV × aGJ:=(.agg [.p none (.str x.name),vI x.l,vI x.A,.own 0],[(0,.arr 187 3 true (x.t.map aL))])
abbrev Jo (x:aQ):Prop:=Cn 119 [aGZ x] (Dh x).1 (Dh x).2
def Y7 (x:aQ)(hc:cP x<=1048576):Jo x:=by
 refine cq Tryz.func119 (.len x.t.length<| .loop (Nat × (List aY)) (Q2 Nat (List aY)) ([3,5,6]++rg 10 18) [500,600,1700,2000,2300,2500,2600] (fun yy0=>[(3,.own 600),(10,vI (yy0.1:Int))]) (fun yy0=>[(600,some (.arr 187 3 true (yy0.2.map aL)))]) (fun yy0=>yy0.1<=x.t.length/\yy0.2=x.t.take yy0.1) (fun yy0=>x.t.length - yy0.1) (fun yy0=> .br (.elem _ aL x.t (fun e12=>bN (Gy e12.C)<| bN (M2 e12.values)<| bN (Gy e12.counts)<| .appx aY aL yy0.2 e12<| .back [(600,2600)])) (.fin [(0,600)]))) (p:=Lx (x.t.map aL)<| Lm aL x.t/\((∃(k:Nat) (out:List aY),0=(k:Int)/\[]=out.map aL/\k<=x.t.length/\out=x.t.take k)/\ ∀(k:Nat) (out:List aY),(k<=x.t.length/\out=x.t.take k)->Br ((k:Int)<(x.t.length:Int)) (0<=(k:Int)/\Em aL x.t k fun e12=>Jb e12.C/\QZ e12.values/\Jb e12.counts/\out.map aL=out.map aL/\e12.C.map intD=e12.C.map intD/\e12.values.map aD=e12.values.map aD/\e12.counts.map intD=e12.counts.map intD/\(out.length+1)*72<=140737488355328/\bO ((k:Int)+1)/\ ∃(k' :Nat) (out' :List aY),((k:Int)+1)=(k' :Int)/\(out++[e12]).map aL=out'.map aL/\(k' <=x.t.length/\out' =x.t.take k')/\x.t.length - k' <x.t.length - k) (x.name=x.name/\x.l=x.l/\x.A=x.A/\out.map aL=x.t.map aL/\True))) ?_;refine lx fun n0=>?_;have q2:cP x=x.name.size+jU x.t:=rfl;have q5:=lY x.t;refine⟨aAb _,⟨0,([]:List aY),rfl,rfl,aBC _,rfl⟩,fun k out ⟨hk,ho⟩=>?_⟩;apply dd<;>intro c0
 ·refine⟨aGR,rfl,aGR,fun e12 h12=>?_⟩;have q1:=kY h12;have q3:iV e12=eL e12.C+dG e12.values+eL e12.counts:=rfl;have q6:eL e12.C=e12.C.length:=rfl;have q7:eL e12.counts=e12.counts.length:=rfl;have q8:=gP e12.values;refine⟨cpI _ aGR,cpR _ aGR,cpI _ aGR,rfl,rfl,rfl,rfl,by simp[ho];omega,aGS,?_⟩;exact⟨k+1,out++[e12],rfl,rfl,⟨aGR,by rw[ho,bW h12]⟩,aGR⟩
 ·refine⟨rfl,rfl,rfl,?_,trivial⟩
  ·rw[ho,aCR aGR]
def nG (x:aQ):List Z:=(x.t.getD (x.t.length - 1) Gw).values
def eM (x:aQ):aX:=⟨x.name,x.l,nG x⟩
def cS (x:aQ):Bool:=aW (eM x)&&decide (bM (eM x)=x)
def Qm {x:aQ}{g:aY}(h:x.t[x.t.length - 1]? =some g):nG x=g.values:=by rw[nG,bK h]
def WS {x:aQ}(h:x.t.length=0):nG x= []:=by
 rw[nG,List.length_eq_zero_iff.1 h];rfl
abbrev tP (x:aQ):AV × aGJ:=(.tup [.agg [.p none (.str ((eM x).name)),vI ((eM x).l),.own 0],vB (cS x)],[(0,.arr 51 1 true ((eM x).rows.map aD))])
abbrev zA (x:aQ):Prop:=Cn 162 [aGZ x] (tP x).1 (tP x).2
def Jp (x:aQ)(hc:cP x<=1048576):zA x:=by
 refine cq Tryz.func162 (.len x.t.length<| .br (.elem _ aL x.t (fun e20=>bN (M2 e20.values)<| .call (vB (aW (⟨x.name,x.l,e20.values⟩:aX))) []<| .br (bN (CX (⟨x.name,x.l,e20.values⟩:aX))<| .call (vB (decide ((bM (⟨x.name,x.l,e20.values⟩:aX))=x))) []<| .fin [(0,2300)]) (.fin [(0,2300)]))) (.call (vB (aW (⟨x.name,x.l,([]:List Z)⟩:aX))) []<| .br (.call (.agg [.p none (.str ((bM (⟨x.name,x.l,([]:List Z)⟩:aX)).name)),vI ((bM (⟨x.name,x.l,([]:List Z)⟩:aX)).l),vI ((bM (⟨x.name,x.l,([]:List Z)⟩:aX)).A),.own 0]) [(0,.arr 187 3 true (((bM (⟨x.name,x.l,([]:List Z)⟩:aX)).t).map aL))]<| .call (vB (decide ((bM (⟨x.name,x.l,([]:List Z)⟩:aX))=x))) []<| .fin []) (.fin []))) (p:=Lx (x.t.map aL)<| Lm aL x.t/\Br (0<(x.t.length:Int)) (bO ((x.t.length:Int) - 1)/\0<=((x.t.length:Int) - 1)/\Em aL x.t (((x.t.length:Int) - 1).toNat) fun e20=>QZ e20.values/\uQ (⟨x.name,x.l,e20.values⟩:aX)/\Bb (aW (⟨x.name,x.l,e20.values⟩:aX)) (GD (⟨x.name,x.l,e20.values⟩:aX)/\qN (bM (⟨x.name,x.l,e20.values⟩:aX)) x/\x.name=((eM x).name)/\x.l=((eM x).l)/\(decide ((bM (⟨x.name,x.l,e20.values⟩:aX))=x))=(cS x)/\e20.values.map aD=(eM x).rows.map aD/\True) (x.name=((eM x).name)/\x.l=((eM x).l)/\(false)=(cS x)/\e20.values.map aD=(eM x).rows.map aD/\True)) (xK Tryz.prog 180 [.agg [.str x.name,.int .i64 x.l,.sl 0 1 ([])]] (vB (aW (⟨x.name,x.l,([]:List Z)⟩:aX))) []/\Bb (aW (⟨x.name,x.l,([]:List Z)⟩:aX)) (xK Tryz.prog 152 [.agg [.str x.name,.int .i64 x.l,.sl 0 1 ([])]] (.agg [.p none (.str ((bM (⟨x.name,x.l,([]:List Z)⟩:aX)).name)),vI ((bM (⟨x.name,x.l,([]:List Z)⟩:aX)).l),vI ((bM (⟨x.name,x.l,([]:List Z)⟩:aX)).A),.own 0]) [(0,.arr 187 3 true (((bM (⟨x.name,x.l,([]:List Z)⟩:aX)).t).map aL))]/\qN (bM (⟨x.name,x.l,([]:List Z)⟩:aX)) x/\x.name=((eM x).name)/\x.l=((eM x).l)/\(decide ((bM (⟨x.name,x.l,([]:List Z)⟩:aX))=x))=(cS x)/\[]=(eM x).rows.map aD/\True) (x.name=((eM x).name)/\x.l=((eM x).l)/\(false)=(cS x)/\[]=(eM x).rows.map aD/\True))) ?_;refine lx fun n0=>?_;have q2:cP x=x.name.size+jU x.t:=rfl;have q5:=lY x.t;refine⟨aAb _,dd (fun c0=>?_) fun c0=>?_⟩
 ·refine⟨aGS,aGR,rfl,aGR,fun e20 h20=>?_⟩;have i20:x.t[x.t.length - 1]? =some e20:=by rw[<-h20];congr 1;omega
  have hT:nG x=e20.values:=Qm i20;have q1:=kY i20;have q3:iV e20=eL e20.C+dG e20.values+eL e20.counts:=rfl;have q6:eL e20.C=e20.C.length:=rfl;have q7:eL e20.counts=e20.counts.length:=rfl;have q8:=gP e20.values;refine⟨cpR _ aGR,BE (⟨x.name,x.l,e20.values⟩:aX),db (fun g28=>?_) fun g28=>?_⟩
  ·refine⟨Ox (⟨x.name,x.l,e20.values⟩:aX),yW _ _,?_,?_,?_,?_,trivial⟩<;>(first|(rw[eM,hT]<;>rfl)|(simp[cS,eM,hT, *];done))
  ·apply et4<;>(first|(rw[eM,hT]<;>rfl)|(simp[cS,eM,hT, *];done))
 ·have hT:nG x= []:=WS aGR;refine⟨xK.imp (fun A w vs h=>by simpa only [tL,Pv,oL,P3,List.map_nil] using h) (BE (⟨x.name,x.l,([]:List Z)⟩:aX)),?_⟩;apply db<;>intro g28
  ·refine⟨xK.imp (fun A w vs h=>by simpa only [tL,Pv,oL,P3,List.map_nil] using h) (Ox (⟨x.name,x.l,([]:List Z)⟩:aX)),?_⟩;refine⟨yW _ _,?_,?_,?_,?_,trivial⟩<;>(first|(rw[eM,hT]<;>rfl)|(simp[cS,eM,hT, *];done))
  ·apply et4<;>(first|(rw[eM,hT]<;>rfl)|(simp[cS,eM,hT, *];done))
abbrev Di (x:aQ):Prop:=Cn 118 [aGZ x] (vB (cS x)) []
def Qo (x:aQ)(hc:cP x<=1048576):Di x:=by
 refine cq Tryz.func118 (bN (tP x)<| .fin []) (p:=Lx (x.t.map aL)<| zA x/\(cS x)=(cS x)/\True) ?_;refine lx fun n0=>?_;refine⟨Jp x aGR,?_⟩;exact⟨rfl,trivial⟩
def nP (a:Z)(l:List Z):dG (a::l)=dG l+1+a.length:=by
 simp only[dG,qG,eL,aDH,List.sum_cons,aEb];omega
def Qp (l:List Z): ∀k,dG (l.take k)<=dG l:=by
 induction l with
 | nil=>intro k;simp
 | cons a l ih=>
   intro k;cases k with
   | zero=>rw[List.take_zero];exact aBC _
   | succ k=>rw[List.take_succ_cons,nP,nP];have:=ih k;omega
theorem Qq {row:Z}: ∀{xs:List Z},dG (mP row xs)<=dG xs+1+row.length
 | []=>by rw[E3,nP];exact aFC _
 | x::xs=>by
   by_cases h:0<cO x row
   ·rw[E4 h,nP];omega
   by_cases h' :cO x row=0
   ·rw[E5 h'];omega
   rw[E6 h h',nP,nP];have:=Qq (row:=row) (xs:=xs);omega
theorem Uv {row:Z}: ∀{xs:List Z},xs.length<=(mP row xs).length
 | []=>by simp
 | x::xs=>by
   by_cases h:0<cO x row
   ·rw[E4 h];simp
   by_cases h' :cO x row=0
   ·rw[E5 h'];simp
   rw[E6 h h'];have:=Uv (row:=row) (xs:=xs);simp only[aEb];omega
def Qr (l:List Z): ∀acc,dG (l.foldl (fun acc x=>mP x acc) acc)<=dG acc+dG l/\acc.length<=(l.foldl (fun acc x=>mP x acc) acc).length:=by
 induction l with
 | nil=>intro acc;simp
 | cons x l ih=>
   intro acc;obtain⟨h1,h2⟩:=ih (mP x acc);have h3:=Qq (row:=x) (xs:=acc);have h4:=Uv (row:=x) (xs:=acc);rw[List.foldl_cons,nP];exact aGS
def Qt (l:List Z)(k:Nat):dG (cR (l.take k))<=dG l:=by
 have h1:=(Qr (l.take k) []).1;have h2:=Qp l k;have h3:dG ([]:List Z)=0:=rfl;unfold cR;omega
def Oy (l:List Z)(k:Nat):(cR (l.take k)).length<=(cR l).length:=by
 have h:=(Qr (l.drop k) (cR (l.take k))).2
 have e:cR l=(l.drop k).foldl (fun acc x=>mP x acc) (cR (l.take k)):=by
  unfold cR;rw[<-List.foldl_append,List.take_append_drop]
 rw[e];exact h
def qE (name:E)(arity:Int)(rows:List Z):aX × Bool:=if aW ⟨name,arity,cR rows⟩=true then (⟨name,arity,cR rows⟩,true) else (rM,false)
def xU {name:E}{arity:Int}{rows:List Z}(h:aW ⟨name,arity,cR rows⟩=true):qE name arity rows=(⟨name,arity,cR rows⟩,true):=by rw[qE,if_pos h]
def Oz {name:E}{arity:Int}{rows:List Z}(h:aW ⟨name,arity,cR rows⟩=false):qE name arity rows=(rM,false):=by rw[qE,if_neg (by rw[h];decide)]
def G5 {t:aX}(h:8<t.rows.length):aW t=false:=by
 cases e:aW t with
 | false=>rfl
 | true=>have:=cJ e;omega
def Qu {name:E}{arity:Int}{rows:List Z}{k:Nat}{acc:List Z}(ha:acc=cR (rows.take k))(h:rows.length<=k\/8<acc.length):aW ⟨name,arity,acc⟩=aW ⟨name,arity,cR rows⟩/\(aW ⟨name,arity,acc⟩=true->acc=cR rows):=by
 by_cases h1:8<acc.length
 ·have h2:=Oy rows k;rw[<-ha] at h2;have q1:=G5 (t:=⟨name,arity,acc⟩) h1;rw[q1,G5 (t:=⟨name,arity,cR rows⟩) (show 8<(cR rows).length by omega)];exact⟨rfl,fun q=>by cases q⟩
 have e:acc=cR rows:=by rw[ha,aCR aGR]
 rw[e];exact⟨rfl,fun _=>rfl⟩
theorem Y8: ∀{l:List Z},(∀i,i+1<l.length->cO (l.getD i []) (l.getD (i+1) [])<0)->Y3 l
 | [],_=>List.Pairwise.nil
 | [a],_=>List.pairwise_singleton _ _
 | a::b::l,h=>by
   have ih:=Y8 (l:=b::l) fun i hi=>by
    have:=h (i+1) (by simpa using hi);simpa using this
   have h0:cO a b<0:=by
    have:=h 0 (by simp);simpa using this
   refine List.pairwise_cons.2 ⟨fun y hy=>?_,ih⟩;rcases aDr.1 hy with rfl | q
   ·exact h0
   exact pG h0 ((List.pairwise_cons.1 ih).1 y q)
def Qv {l:List Z}(h:F9 l=true):Y3 l:=Y8 fun i hi=>by
 have:=aCS.1 h i (aEt.2 aGR);simpa [oT] using this
def sI {t:aX}(h:aW t=true):t.rows.all (mA t.l)=true/\hJ t.name=true/\F9 t.rows=true:=by
 simp only[aW,aBB] at h;exact⟨h.1,h.2.1,h.2.2.2.2⟩
def G6 {l:List Z}(h:Y3 l):cR l=l:=by
 obtain⟨h1,h2,_⟩:=wD l [] List.Pairwise.nil;exact IF h1 h fun x=>by have:=h2 x;simpa [cR] using this
def sJ {t:aX}(h:aW t=true){r:Z}(hr:r∈t.rows):(r.length:Int)=t.l:=by
 have:=aCS.1 (sI h).1 r hr;simp only[mA,aBB,aFI] at this;exact this.2
def TH (n:Int):Z:=fZ ((2:Int)^n.toNat - 1)
def aCA {n:Int}(hn:1<=n/\n<=3){r:Z}(h:(r.length:Int)=n):(gT r (TH n)).1=r:=by
 have h1:n=1\/n=2\/n=3:=aGR
 rcases h1 with rfl | rfl | rfl
 ·match r,h with
  | [a],_=>rfl
  | [],h=>simp at h
  | _::_::_,h=>simp at h;omega
 ·match r,h with
  | [a,b],_=>rfl
  | [],h=>simp at h
  | [_],h=>simp at h
  | _::_::_::_,h=>simp at h;omega
 match r,h with
 | [a,b,c],_=>rfl
 | [],h=>simp at h
 | [_],h=>simp at h
 | [_,_],h=>simp at h
 | _::_::_::_::_,h=>simp at h;omega
def Y9 {n:Int}(hn:1<=n/\n<=3):eP (n - 1) (TH n)=true:=by
 have h1:n=1\/n=2\/n=3:=aGR
 rcases h1 with rfl | rfl | rfl<;>decide
def O0 {n:Int}(hn:1<=n/\n<=3):0<(cD n).length/\(cD n)[(cD n).length - 1]? =some (TH n):=by
 have h1:n=1\/n=2\/n=3:=aGR
 rcases h1 with rfl | rfl | rfl<;>decide
def ZA {t:aX}(h:aW t=true):(eV t (TH t.l)).1=t.rows:=by
 have hT:=cJ h;have hc:=Y9 (n:=t.l) ⟨hT.1,hT.2.1⟩;rw[uU (by rw[h,hc];rfl)]
 have e:mV t (TH t.l)=t.rows:=by
  rw[mV]
  conv=>rhs;rw[<-List.map_id t.rows]
  exact List.map_congr_left fun r hr=>aCA ⟨hT.1,hT.2.1⟩ (sJ h hr)
 show hY (dU (mV t (TH t.l)))=t.rows;rw[e,<-wE,G6 (Qv (sI h).2.2)]
def G7 {t:aX}(h:aW t=true):nG (bM t)=t.rows/\(bM t).t≠[]:=by
 have hT:=cJ h;obtain⟨h0,h1⟩:=O0 (n:=t.l) ⟨hT.1,hT.2.1⟩;rw[lD h];constructor
 ·rw[nG];show (((cD t.l).map (xT t)).getD (((cD t.l).map (xT t)).length - 1) Gw).values=t.rows;rw[aAb,bK (x:=xT t (TH t.l)) (by rw[aGB,h1];rfl)];exact ZA h
 intro e;have:((cD t.l).map (xT t)).length=0:=congrArg List.length e;rw[aAb] at this;omega
def qP (x:aQ):aX × Bool:=if x.t.length=0 then (rM,false) else qE x.name x.l (nG x)
def aCB {x:aQ}(h:cS x=true):qP x=(eM x,true):=by
 simp only[cS,aBB,aFI] at h;have h2:=(G7 h.1).2;rw[h.2] at h2;rw[qP,if_neg (fun e=>h2 (aDE e))];have e:=G6 (Qv (sI h.1).2.2);rw[show (eM x).rows=nG x from rfl] at e;rw[xU (by rw[e];exact h.1),e];rfl
def WT (x:aQ):((qP x).2&&decide (bM (qP x).1=x))=cS x:=by
 cases h:cS x with
 | true=>
   rw[aCB h];simp only[cS,aBB,aFI] at h;simp[h.2]
 | false=>
   rw[qP];split
   ·rfl
   cases e:aW ⟨x.name,x.l,cR (nG x)⟩ with
   | false=>rw[Oz e];rfl
   | true=>
     rw[xU e];simp only[Bool.true_and];by_cases q:bM ⟨x.name,x.l,cR (nG x)⟩=x
     ·exfalso;have h3:=(G7 e).1;rw[q] at h3
      have h4:eM x=⟨x.name,x.l,cR (nG x)⟩:=by
       rw[eM]
       congr 1
      rw[cS,h4,e,q] at h;simp at h
     simp[q]
def xV {x:aQ}(h:cS x=true):aW (eM x)=true/\bM (eM x)=x:=by
 simpa only [cS,aBB,aFI] using h
def Jq {x:aQ}(h:cS x=true):x.t=(cD x.l).map (xT (eM x)):=by
 obtain⟨h1,h2⟩:=xV h;rw[lD h1] at h2;exact(congrArg aQ.t h2).symm
def WU {x:aQ}(h:cS x=true):x.A=((nG x).length:Nat):=by
 obtain⟨h1,h2⟩:=xV h;rw[lD h1] at h2;exact(congrArg aQ.A h2).symm
def CZ {x:aQ}(h:cS x=true):1<=x.l/\x.l<=3:=by
 have:=cJ (xV h).1;exact⟨this.1,this.2.1⟩
def O1 {α:Type}{p:α->Bool}{l:List α}{k:Nat}{x:α}(h:l[k]? =some x)(ha:(l.take k).all (fun y=> !p y)=true)(hx:p x=true):l.find? p=some x:=by
 rw[List.find?_eq_some_iff_getElem];obtain⟨hk,rfl⟩:=aCO.1 h;refine⟨hx,k,hk,rfl,fun j hj=>?_⟩;have:=aCS.1 ha l[j] (List.mem_iff_getElem.2 ⟨j,by simp;omega,by simp⟩);exact this
def O2 {α:Type}{p:α->Bool}{l:List α}(ha:l.all (fun y=> !p y)=true):l.find? p=none:=by
 rw[List.find?_eq_none];intro x hx;have:=aCS.1 ha x hx;simpa using this
def iO (l:List aX)(i:Nat):Bool:=Op.bytesLess (l.getD i rM).name.toList (l.getD (i+1) rM).name.toList
def kU (d:aU):Bool:=d.a.all aW&&((List.range (d.a.length - 1)).all (iO d.a)&&decide ((d.a.length:Int)<=6))
abbrev GG (t:aU):Prop:=Cn 151 [.agg [.sl 155 3 (t.a.map aP)]] (vB (kU t)) []
def Uw (t:aU):GG t:=by
 refine cq Tryz.func151 (.len t.a.length<| .loop Nat (Q1 Nat) ([3,4]++rg 8 25) [400] (fun k=>[(8,vI (k:Int))]) (fun k=>[]) (fun k=>k<=t.a.length/\(t.a.take k).all aW=true/\(List.range (k - 1)).all (iO t.a)=true) (fun k=>t.a.length - k) (fun k=> .br (.elem _ aP t.a (fun e11=> .call (vB (aW e11)) []<| .br (.fin []) (aGQ<| .br (.elem _ aP t.a (fun e24=> aGN<| aGP<| .br (.fin []) (.back []))) (.back [])))) (.len t.a.length<| .fin []))) (p:=Lx (t.a.map aP)<| Lm aP t.a/\((∃(k:Nat),0=(k:Int)/\k<=t.a.length/\(t.a.take k).all aW=true/\(List.range (k - 1)).all (iO t.a)=true)/\ ∀(k:Nat),(k<=t.a.length/\(t.a.take k).all aW=true/\(List.range (k - 1)).all (iO t.a)=true)->Br ((k:Int)<(t.a.length:Int)) (0<=(k:Int)/\Em aP t.a k fun e11=>uQ e11/\Nr (aW e11) ((false)=(kU t)/\True) (Br (0<(k:Int)) (bO ((k:Int) - 1)/\0<=((k:Int) - 1)/\Em aP t.a (((k:Int) - 1).toNat) fun e24=>Nr (Op.bytesLess e24.name.toList e11.name.toList) ((false)=(kU t)/\True) (bO ((k:Int)+1)/\ ∃(k' :Nat),((k:Int)+1)=(k' :Int)/\(k' <=t.a.length/\(t.a.take k').all aW=true/\(List.range (k' - 1)).all (iO t.a)=true)/\t.a.length - k' <t.a.length - k)) (bO ((k:Int)+1)/\ ∃(k' :Nat),((k:Int)+1)=(k' :Int)/\(k' <=t.a.length/\(t.a.take k').all aW=true/\(List.range (k' - 1)).all (iO t.a)=true)/\t.a.length - k' <t.a.length - k))) (Lm aP t.a/\(decide ((t.a.length:Int)<=6))=(kU t)/\True))) ?_;refine lx fun n0=>?_;refine⟨aAb _,⟨0,rfl,aBC _,rfl,rfl⟩,fun k ⟨hk,ha,hs⟩=>?_⟩;apply dd<;>intro c0
 ·refine⟨aGR,rfl,aGR,fun e11 h11=>?_⟩;refine⟨BE e11,dm (fun g16=>?_) fun g16=>?_⟩
  ·apply et1
   ·(rw[kU,eT h11 g16];rfl)
  ·apply dd<;>intro g19
   ·refine⟨aGS,aGR,rfl,aGR,fun e24 h24=>?_⟩;have i1:t.a[k - 1]? =some e24:=by rw[<-h24];congr 1;omega
    apply dm<;>intro c1
    ·have hp:iO t.a (k - 1)=false:=by rw[iO,bK i1,show k - 1+1=k by omega,bK h11];simpa using c1
     have hz:(List.range (t.a.length - 1)).all (iO t.a)=false:=jL aGR hp;apply et1
     ·(rw[kU,hz];simp[*];done)
    ·have hp:iO t.a (k - 1)=true:=by rw[iO,bK i1,show k - 1+1=k by omega,bK h11];simpa using c1
     have hs2:(List.range (k+1 - 1)).all (iO t.a)=true:=by rw[show k+1 - 1=(k - 1)+1 by omega];exact lP hs hp
     refine⟨aGS,?_⟩;exact⟨k+1,rfl,⟨aGR,cL h11 ha g16,hs2⟩,aGR⟩
   ·have hs2:(List.range (k+1 - 1)).all (iO t.a)=true:=by rw[show k=0 by omega];rfl
    refine⟨aGS,?_⟩;exact⟨k+1,rfl,⟨aGR,cL h11 ha g16,hs2⟩,aGR⟩
 ·have hall:=dD aGR ha;have hz:(List.range (t.a.length - 1)).all (iO t.a)=true:=by rw[show t.a.length - 1=k - 1 by omega,hs]
  refine⟨aAb _,?_,trivial⟩
  ·(rw[kU,hz];simp[*];done)
abbrev GH (t:aU):Prop:=Cn 177 [.agg [.sl 155 3 (t.a.map aP)]] (vB (kU t)) []
def Ux (t:aU):GH t:=by
 refine cq Tryz.func177 (.loop Nat (Q1 Nat) (rg 3 35) [] (fun k=>[(3,vI (k:Int))]) (fun k=>[]) (fun k=>k<=t.a.length/\(t.a.take k).all aW=true/\(List.range (k - 1)).all (iO t.a)=true) (fun k=>t.a.length - k) (fun k=> .len t.a.length<| .br (.elem _ aP t.a (fun e14=> .call (vB (aW e14)) []<| .br (.fin []) (aGQ<| .br (.elem _ aP t.a (fun e26=> .elem _ aP t.a (fun e32=> aGN<| .lit<| .br (.fin []) (.back [])))) (.back [])))) (.len t.a.length<| .fin []))) (p:=Lx (t.a.map aP)<| (∃(k:Nat),0=(k:Int)/\k<=t.a.length/\(t.a.take k).all aW=true/\(List.range (k - 1)).all (iO t.a)=true)/\ ∀(k:Nat),(k<=t.a.length/\(t.a.take k).all aW=true/\(List.range (k - 1)).all (iO t.a)=true)->Lm aP t.a/\Br ((k:Int)<(t.a.length:Int)) (0<=(k:Int)/\Em aP t.a k fun e14=>rO e14/\Nr (aW e14) ((false)=(kU t)/\True) (Br (0<(k:Int)) (bO ((k:Int) - 1)/\0<=((k:Int) - 1)/\Em aP t.a (((k:Int) - 1).toNat) fun e26=>0<=(k:Int)/\Em aP t.a k fun e32=>Nr (Op.bytesLess e26.name.toList e32.name.toList) ((false)=(kU t)/\True) (bO ((k:Int)+1)/\ ∃(k' :Nat),((k:Int)+1)=(k' :Int)/\(k' <=t.a.length/\(t.a.take k').all aW=true/\(List.range (k' - 1)).all (iO t.a)=true)/\t.a.length - k' <t.a.length - k)) (bO ((k:Int)+1)/\ ∃(k' :Nat),((k:Int)+1)=(k' :Int)/\(k' <=t.a.length/\(t.a.take k').all aW=true/\(List.range (k' - 1)).all (iO t.a)=true)/\t.a.length - k' <t.a.length - k))) (Lm aP t.a/\(decide ((t.a.length:Int)<=6))=(kU t)/\True)) ?_;refine lx fun n0=>?_;refine⟨⟨0,rfl,aBC _,rfl,rfl⟩,fun k ⟨hk,ha,hs⟩=>?_⟩;refine⟨aAb _,dd (fun c0=>?_) fun c0=>?_⟩
 ·refine⟨aGR,rfl,aGR,fun e14 h14=>?_⟩;refine⟨BF e14,dm (fun g18=>?_) fun g18=>?_⟩
  ·apply et1
   ·(rw[kU,eT h14 g18];rfl)
  ·apply dd<;>intro g21
   ·refine⟨aGS,aGR,rfl,aGR,fun e26 h26=>?_⟩;have i1:t.a[k - 1]? =some e26:=by rw[<-h26];congr 1;omega
    refine⟨aGR,rfl,aGR,fun e32 h32=>?_⟩;apply dm<;>intro c1
    ·have hp:iO t.a (k - 1)=false:=by rw[iO,bK i1,show k - 1+1=k by omega,bK h32];simpa using c1
     have hz:(List.range (t.a.length - 1)).all (iO t.a)=false:=jL aGR hp;apply et1
     ·(rw[kU,hz];simp[*];done)
    ·have hp:iO t.a (k - 1)=true:=by rw[iO,bK i1,show k - 1+1=k by omega,bK h32];simpa using c1
     have hs2:(List.range (k+1 - 1)).all (iO t.a)=true:=by rw[show k+1 - 1=(k - 1)+1 by omega];exact lP hs hp
     refine⟨aGS,?_⟩;exact⟨k+1,rfl,⟨aGR,cL h14 ha g18,hs2⟩,aGR⟩
   ·have hs2:(List.range (k+1 - 1)).all (iO t.a)=true:=by rw[show k=0 by omega];rfl
    refine⟨aGS,?_⟩;exact⟨k+1,rfl,⟨aGR,cL h14 ha g18,hs2⟩,aGR⟩
 ·have hall:=dD aGR ha;have hz:(List.range (t.a.length - 1)).all (iO t.a)=true:=by rw[show t.a.length - 1=k - 1 by omega,hs]
  refine⟨aAb _,?_,trivial⟩
  ·(rw[kU,hz];simp[*];done)
def eW (d:aU)(v:Int):eO × Bool:=if (kU d&&eZ v 1 999)=true then (⟨v,d.a.map bM⟩,true) else (DZ,false)
def uB {d:aU}{v:Int}(h:(kU d&&eZ v 1 999)=true):eW d v=(⟨v,d.a.map bM⟩,true):=by rw[eW,if_pos h]
def xW {d:aU}{v:Int}(h:(kU d&&eZ v 1 999)=false):eW d v=(DZ,false):=by rw[eW,if_neg (by rw[h];decide)]
def Jr {d:aU}(h:kU d=true):d.a.length<=6:=by
 simp only[kU,aBB,aFI] at h;omega
abbrev Dj (d:aU)(v:Int):AV × aGJ:=(.tup [.agg [vI ((eW d v).1.D),.own 0],vB ((eW d v).2)],[(0,.arr 112 4 true ((eW d v).1.a.map aJ))])
abbrev Js (d:aU)(v:Int):Prop:=Cn 113 [.agg [.sl 155 3 (d.a.map aP)],.one (.int .i64 v)] (Dj d v).1 (Dj d v).2
def ZB (d:aU)(v:Int):Js d v:=by
 refine cq Tryz.func113 (.call (vB (kU d)) []<| .br (.fin []) (.call (vB (eZ v (1:Int) (999:Int))) []<| aGQ<| .br (.fin []) (.len d.a.length<| .loop (Nat × (List aQ)) (Q2 Nat (List aQ)) ([8]++rg 23 12) [600,800,3000,3100,3200,9000] (fun yy0=>[(23,vI (yy0.1:Int))]) (fun yy0=>[(600,some (.box 29 [vI v,.own 9000])),(9000,some (.arr 112 4 true (yy0.2.map aJ)))]) (fun yy0=>yy0.1<=d.a.length/\yy0.2=(d.a.take yy0.1).map bM) (fun yy0=>d.a.length - yy0.1) (fun yy0=> .br (.elem _ aP d.a (fun e25=>bN (CX e25)<| .appx aQ aJ yy0.2 (bM e25)<| .back [(600,600),(9000,3200)])) (.fin [(0,9000)]))))) (p:=Lx (d.a.map aP)<| GG d/\Nr (kU d) (0=((eW d v).1.D)/\(false)=((eW d v).2)/\[]=(eW d v).1.a.map aJ/\True) (fX v (1:Int) (999:Int)/\Nr (eZ v (1:Int) (999:Int)) (0=((eW d v).1.D)/\(false)=((eW d v).2)/\[]=(eW d v).1.a.map aJ/\True) (Lm aP d.a/\((∃(k:Nat) (out:List aQ),0=(k:Int)/\v=v/\[]=out.map aJ/\k<=d.a.length/\out=(d.a.take k).map bM)/\ ∀(k:Nat) (out:List aQ),(k<=d.a.length/\out=(d.a.take k).map bM)->Br ((k:Int)<(d.a.length:Int)) (0<=(k:Int)/\Em aP d.a k fun e25=>GD e25/\out.map aJ=out.map aJ/\((bM e25).name)=((bM e25).name)/\((bM e25).l)=((bM e25).l)/\((bM e25).A)=((bM e25).A)/\(bM e25).t.map aL=(bM e25).t.map aL/\(out.length+1)*56<=140737488355328/\bO ((k:Int)+1)/\ ∃(k' :Nat) (out' :List aQ),((k:Int)+1)=(k' :Int)/\v=v/\(out++[(bM e25)]).map aJ=out'.map aJ/\(k' <=d.a.length/\out' =(d.a.take k').map bM)/\d.a.length - k' <d.a.length - k) (v=((eW d v).1.D)/\(true)=((eW d v).2)/\out.map aJ=(eW d v).1.a.map aJ/\True))))) ?_;refine lx fun n0=>?_;refine⟨Uw d,dm (fun g12=>?_) fun g12=>?_⟩
 ·have hbad:(kU d&&eZ v 1 999)=false:=by simp_all
  apply et3<;>((rw[xW hbad]<;>rfl))
 ·refine⟨kP _ _ _,dm (fun c0=>?_) fun c0=>?_⟩
  ·have hbad:(kU d&&eZ v 1 999)=false:=by simp_all
   apply et3<;>((rw[xW hbad]<;>rfl))
  ·have hok:(kU d&&eZ v 1 999)=true:=by simp_all
   have h6:=Jr (by simp_all:kU d=true);refine⟨aAb _,⟨0,([]:List aQ),rfl,rfl,rfl,aBC _,rfl⟩,fun k out ⟨hk,ho⟩=>?_⟩;apply dd<;>intro c1
   ·refine⟨aGR,rfl,aGR,fun e25 h25=>?_⟩;refine⟨Ox e25,rfl,rfl,rfl,rfl,rfl,by (simp[ho];omega),aGS,?_⟩;exact⟨k+1,_,rfl,rfl,rfl,⟨aGR,by rw[ho,bW h25,aDM];rfl⟩,aGR⟩
   ·apply et3<;>(first|(rw[uB hok]<;>rfl)|(rw[uB hok,ho,aCR aGR]))
abbrev zB (d:aU)(v:Int):AV × aGJ:=(.tup [.agg [vI ((eW d v).1.D),.own 0],vB ((eW d v).2)],[(0,.arr 112 4 true ((eW d v).1.a.map aJ))])
abbrev Dk (d:aU)(v:Int):Prop:=Cn 143 [.agg [.sl 155 3 (d.a.map aP)],.one (.int .i64 v)] (zB d v).1 (zB d v).2
def Qx (d:aU)(v:Int):Dk d v:=by
 refine cq Tryz.func143 (.call (vB (kU d)) []<| .br (.fin []) (.call (vB (eZ v (1:Int) (999:Int))) []<| aGQ<| .br (.fin []) (.loop (Nat × (List aQ)) (Q2 Nat (List aQ)) ([7,8]++rg 20 19) [600,800,3200,3600,3700,9000] (fun yy0=>[(7,vI (yy0.1:Int))]) (fun yy0=>[(600,some (.box 29 [vI v,.own 9000])),(9000,some (.arr 112 4 true (yy0.2.map aJ)))]) (fun yy0=>yy0.1<=d.a.length/\yy0.2=(d.a.take yy0.1).map bM) (fun yy0=>d.a.length - yy0.1) (fun yy0=> .len d.a.length<| .br (.elem _ aP d.a (fun e30=>bN (CY e30)<| .appx aQ aJ yy0.2 (bM e30)<| .back [(600,600),(9000,3700)])) (.fin [(0,9000)]))))) (p:=Lx (d.a.map aP)<| GH d/\Nr (kU d) (0=((eW d v).1.D)/\(false)=((eW d v).2)/\[]=(eW d v).1.a.map aJ/\True) (fO v (1:Int) (999:Int)/\Nr (eZ v (1:Int) (999:Int)) (0=((eW d v).1.D)/\(false)=((eW d v).2)/\[]=(eW d v).1.a.map aJ/\True) ((∃(k:Nat) (out:List aQ),0=(k:Int)/\v=v/\[]=out.map aJ/\k<=d.a.length/\out=(d.a.take k).map bM)/\ ∀(k:Nat) (out:List aQ),(k<=d.a.length/\out=(d.a.take k).map bM)->Lm aP d.a/\Br ((k:Int)<(d.a.length:Int)) (0<=(k:Int)/\Em aP d.a k fun e30=>GF e30/\out.map aJ=out.map aJ/\((bM e30).name)=((bM e30).name)/\((bM e30).l)=((bM e30).l)/\((bM e30).A)=((bM e30).A)/\(bM e30).t.map aL=(bM e30).t.map aL/\(out.length+1)*56<=140737488355328/\bO ((k:Int)+1)/\ ∃(k' :Nat) (out' :List aQ),((k:Int)+1)=(k' :Int)/\v=v/\(out++[(bM e30)]).map aJ=out'.map aJ/\(k' <=d.a.length/\out' =(d.a.take k').map bM)/\d.a.length - k' <d.a.length - k) (v=((eW d v).1.D)/\(true)=((eW d v).2)/\out.map aJ=(eW d v).1.a.map aJ/\True)))) ?_;refine lx fun n0=>?_;refine⟨Ux d,dm (fun g12=>?_) fun g12=>?_⟩
 ·have hbad:(kU d&&eZ v 1 999)=false:=by simp_all
  apply et3<;>((rw[xW hbad]<;>rfl))
 ·refine⟨jV _ _ _,dm (fun c0=>?_) fun c0=>?_⟩
  ·have hbad:(kU d&&eZ v 1 999)=false:=by simp_all
   apply et3<;>((rw[xW hbad]<;>rfl))
  ·have hok:(kU d&&eZ v 1 999)=true:=by simp_all
   have h6:=Jr (by simp_all:kU d=true);refine⟨⟨0,([]:List aQ),rfl,rfl,rfl,aBC _,rfl⟩,fun k out ⟨hk,ho⟩=>?_⟩;refine⟨aAb _,dd (fun c1=>?_) fun c1=>?_⟩
   ·refine⟨aGR,rfl,aGR,fun e30 h30=>?_⟩;refine⟨Uu e30,rfl,rfl,rfl,rfl,rfl,by (simp[ho];omega),aGS,?_⟩;exact⟨k+1,_,rfl,rfl,rfl,⟨aGR,by rw[ho,bW h30,aDM];rfl⟩,aGR⟩
   ·apply et3<;>(first|(rw[uB hok]<;>rfl)|(rw[uB hok,ho,aCR aGR]))
def Jt {α:Type}{c:α->Nat}{m:Nat}{l:List α}(h: ∀x∈l,c x<=m):qG c l<=l.length+l.length*m:=by
 have h1:=Dc (ct:=c) (m:=m) (l:=l) h;have h2:qG c l=l.length+DI c l:=rfl;omega
def NA (t:aX)(cols:Z):dG (eV t cols).1<=64/\(eV t cols).2.length<=8:=by
 cases h:(aW t&&eP (t.l - 1) cols) with
 | false=>rw[E1 h];exact⟨by decide,by decide⟩
 | true=>
   have:=Ow (k:=(mV t cols).length) h;rw[aFF,wE] at this;rw[uU h];exact⟨this.2,by simp only[Qi,aAb,TE];exact this.1⟩
def O3 {t:aX}(h:aW t=true):t.name.size=1:=by
 simp only[aW,hJ,aBB,aFI] at h;omega
def G8 (t:aX):cP (bM t)<=2000:=by
 cases h:aW t with
 | false=>rw[Df h];decide
 | true=>
   have hT:=cJ h;have hn:=O3 h;have hl:=BN (n:=t.l) ⟨hT.1,hT.2.1⟩;rw[lD h]
   have h1:=Jt (c:=iV) (m:=75) (l:=(cD t.l).map (xT t)) fun x hx=>by
    obtain⟨c,hc,rfl⟩:=aE9.1 hx;obtain⟨k,hk,hc⟩:=List.mem_iff_getElem.1 hc;have h3:=Dg (aCO.2 ⟨hk,hc⟩);have h4:=NA t c;have h5:iV (xT t c)=c.length+dG (eV t c).1+(eV t c).2.length:=rfl;omega
   rw[aAb] at h1;have h2:cP ⟨t.name,t.l,(t.rows.length:Nat),(cD t.l).map (xT t)⟩=t.name.size+qG iV ((cD t.l).map (xT t)):=rfl;omega
def Ca (d:aU)(v:Int):dA (eW d v).1<=20000:=by
 cases h:(kU d&&eZ v 1 999) with
 | false=>rw[xW h];decide
 | true=>
   have h6:=Jr (by simp_all:kU d=true);rw[uB h]
   have h1:=Jt (c:=cP) (m:=2000) (l:=d.a.map bM) fun x hx=>by
    obtain⟨t,_,rfl⟩:=aE9.1 hx;exact G8 t
   rw[aAb] at h1;have h2:dA ⟨v,d.a.map bM⟩=qG cP (d.a.map bM):=rfl;show dA ⟨v,d.a.map bM⟩<=20000;omega
def nC {α:Type}(p:α->Bool)(l:List α):Int:=match l.findIdx? p with | some k=>(k:Int) | none=> -1
def O4 {α:Type}{p:α->Bool}{l:List α}{k:Nat}{x:α}(h:l[k]? =some x)(ha:(l.take k).all (fun y=> !p y)=true)(hx:p x=true):nC p l=(k:Int):=by
 obtain⟨hk,rfl⟩:=aCO.1 h
 have:l.findIdx? p=some k:=by
  rw[List.findIdx?_eq_some_iff_getElem];refine⟨hk,hx,fun j hj=>?_⟩;have:=aCS.1 ha l[j] (List.mem_iff_getElem.2 ⟨j,by rw[aF5];omega,by rw[List.getElem_take]⟩);simpa using this
 rw[nC,this]
def IG {α:Type}{p:α->Bool}{l:List α}(ha:l.all (fun y=> !p y)=true):nC p l= -1:=by
 have:l.findIdx? p=none:=by
  rw[List.findIdx?_eq_none_iff];intro x hx;have:=aCS.1 ha x hx;simpa using this
 rw[nC,this]
def ZC {α:Type}{p:α->Bool}{l:List α}(h:0<=nC p l): ∃(k:Nat) (x:α),nC p l=(k:Int)/\l[k]? =some x/\p x=true/\k<l.length:=by
 unfold nC at*;cases e:l.findIdx? p with
 | none=>rw[e] at h;exact absurd h (by decide)
 | some k=>
   rw[List.findIdx?_eq_some_iff_getElem] at e;obtain⟨hk,hx,_⟩:=e;exact⟨k,l[k],rfl,aBP hk,hx,hk⟩
def aCC {α:Type}(p:α->Bool)(l:List α): -1<=nC p l/\nC p l<(l.length:Int):=by
 by_cases h:0<=nC p l
 ·obtain⟨k,x,h1,_,_,h4⟩:=ZC h;omega
 unfold nC at*;cases e:l.findIdx? p with
 | none=>simp only;omega
 | some k=>rw[e] at h;simp only at h;omega
abbrev Dl (t:aX):AV × aGJ:=(.agg [.p none (.str t.name),vI t.l,.own 0],[(0,.arr 51 1 true (t.rows.map aD))])
abbrev Ju (t:aX):Prop:=Cn 161 [aGz t] (Dl t).1 (Dl t).2
def ZD (t:aX)(hc:kT t<=1048576):Ju t:=by
 refine cq Tryz.func161 (bN (M2 t.rows)<| .fin [(0,500)]) (p:=Lx (t.rows.map aD)<| QZ t.rows/\t.name=t.name/\t.l=t.l/\t.rows.map aD=t.rows.map aD/\True) ?_;refine lx fun n0=>?_;have q1:kT t=t.name.size+dG t.rows:=rfl;have q2:=gP t.rows;refine⟨cpR _ aGR,?_⟩;exact⟨rfl,rfl,rfl,trivial⟩
abbrev zC (t:aX):AV × aGJ:=(.agg [.p none (.str t.name),vI t.l,.own 0],[(0,.arr 51 1 true (t.rows.map aD))])
abbrev Dm (t:aX):Prop:=Cn 178 [aGz t] (zC t).1 (zC t).2
def Qy (t:aX)(hc:kT t<=1048576):Dm t:=by
 refine cq Tryz.func178 (.loop (Nat × (List Z)) (Q2 Nat (List Z)) ([4]++rg 10 19) [300,1900,2500,2600,2700,9000] (fun yy0=>[(4,vI (yy0.1:Int))]) (fun yy0=>[(300,some (.box 155 [.p none (.str t.name),vI t.l,.own 9000])),(9000,some (.arr 51 1 true (yy0.2.map aD)))]) (fun yy0=>yy0.1<=t.rows.length/\yy0.2=t.rows.take yy0.1) (fun yy0=>t.rows.length - yy0.1) (fun yy0=> .len t.rows.length<| .br (.elem _ aD t.rows (fun e23=> .app Int intD ([]:Z) e23<| .appx Z aD yy0.2 (([]:Z)++e23)<| .back [(300,300),(9000,2700)])) (.fin [(0,9000)]))) (p:=Lx (t.rows.map aD)<| (∃(k:Nat) (out:List Z),0=(k:Int)/\t.name=t.name/\t.l=t.l/\[]=out.map aD/\k<=t.rows.length/\out=t.rows.take k)/\ ∀(k:Nat) (out:List Z),(k<=t.rows.length/\out=t.rows.take k)->Lm aD t.rows/\Br ((k:Int)<(t.rows.length:Int)) (0<=(k:Int)/\Em aD t.rows k fun e23=>Ap intD ([]:Z) e23 8 (out.map aD=out.map aD/\(([]:Z)++e23).map intD=(([]:Z)++e23).map intD/\(out.length+1)*24<=140737488355328/\bO ((k:Int)+1)/\ ∃(k' :Nat) (out' :List Z),((k:Int)+1)=(k' :Int)/\t.name=t.name/\t.l=t.l/\(out++[([]:Z)++e23]).map aD=out'.map aD/\(k' <=t.rows.length/\out' =t.rows.take k')/\t.rows.length - k' <t.rows.length - k)) (t.name=t.name/\t.l=t.l/\out.map aD=t.rows.map aD/\True)) ?_;refine lx fun n0=>?_;have q1:kT t=t.name.size+dG t.rows:=rfl;have q2:=gP t.rows;refine⟨⟨0,([]:List Z),rfl,rfl,rfl,rfl,aBC _,rfl⟩,fun k out ⟨hk,ho⟩=>?_⟩;refine⟨aAb _,dd (fun c0=>?_) fun c0=>?_⟩
 ·refine⟨aGR,rfl,aGR,fun e23 h23=>?_⟩;have hp3:=CW h23;refine ap ?_ (fun _=>rfl) (by (simp;omega));refine⟨rfl,rfl,by (simp[ho];omega),aGS,?_⟩;exact⟨k+1,_,rfl,rfl,rfl,rfl,⟨aGR,by rw[ho,bW h23];rfl⟩,aGR⟩
 ·refine⟨rfl,rfl,?_,trivial⟩
  ·(rw[ho,aCR aGR])
abbrev E9 (n:E):aX->Bool:=fun t=>t.name.toList==n.toList
abbrev Jv (v:Int):Int->Bool:=fun y=>decide (v=y)
def uC {α:Type}{p:α->Bool}{l:List α}:(nC p l<0->l.find? p=none)/\(0<=nC p l-> ∃(k:Nat) (x:α),nC p l=(k:Int)/\l[k]? =some x/\l.find? p=some x):=by
 unfold nC;cases e:l.findIdx? p with
 | none=>
   rw[List.findIdx?_eq_none_iff] at e;refine⟨fun _=>List.find?_eq_none.2 fun x hx=>by rw[e x hx];decide,fun h=>absurd h (by decide)⟩
 | some k=>
   rw[List.findIdx?_eq_some_iff_getElem] at e;obtain⟨hk,hx,hj⟩:=e;refine⟨fun h=>absurd h (by simp only;omega),fun _=>⟨k,l[k],rfl,aBP hk,?_⟩⟩;rw[List.find?_eq_some_iff_getElem];exact⟨hx,k,hk,rfl,fun j hjk=>by have:=hj j hjk;simpa using this⟩
def Qz {l:Z}{v:Int}:decide (0<=nC (Jv v) l)=decide (v∈l):=by
 apply Bool.eq_iff_iff.2;rw[aFI,aFI];constructor
 ·intro h;obtain⟨k,x,_,hx,hf⟩:=uC.2 h;have h1:=List.find?_some hf;have:v=x:=by simpa [Jv] using h1
  rw[this];exact aBD hx
 intro h;rcases Int.lt_or_le (nC (Jv v) l) 0 with q | q
 ·have:=uC.1 q;rw[List.find?_eq_none] at this;exact absurd (this v h) (by simp[Jv])
 exact q
def aM (d:aU)(n:E):aX × Bool:=if kU d=true then (match d.a.find? (E9 n) with | some t=>(t,true) | none=>(rM,false)) else (rM,false)
def FA {d:aU}{n:E}(h:kU d=false\/d.a.find? (E9 n)=none):aM d n=(rM,false):=by
 unfold aM;rcases h with h | h
 ·rw[if_neg (by rw[h];decide)]
 rw[h];split<;>rfl
def NB {d:aU}{n:E}{t:aX}(h:kU d=true)(hf:d.a.find? (E9 n)=some t):aM d n=(t,true):=by rw[aM,if_pos h,hf]
def Q0 {d:aU}(h:kU d=true):d.a.all aW=true:=by
 simp only[kU,aBB] at h;exact h.1
def qQ {d:aU}{n:E}(h:(aM d n).2=true):aW (aM d n).1=true/\kU d=true:=by
 unfold aM at*;split at h
 ·rename_i hd;rw[if_pos hd];cases e:d.a.find? (E9 n) with
  | none=>rw[e] at h;cases h
  | some t=>exact⟨aCS.1 (Q0 hd) t (List.mem_of_find?_eq_some e),hd⟩
 cases h
abbrev ZE (t:aX)(n:E):Prop:=Cn 160 [aGz t,.ref [.str n]] (vB (E9 n t)) []
def aGW (t:aX)(n:E):ZE t n:=by
 refine cq Tryz.func160 (.fin []) (p:=Lx (t.rows.map aD)<| (t.name.toList==n.toList)=(E9 n t)/\True) ?_;refine lx fun n0=>?_;apply et1
 ·rfl
abbrev ZF (l:List aX)(n:E):Prop:=Cn 159 [.one (.sl 155 3 (l.map aP)),.fn 160 [[.str n]]] (vI (nC (E9 n) l)) []
def aGX (l:List aX)(n:E):ZF l n:=by
 refine cq Tryz.func159 (.len l.length<| .loop Nat (Q1 Nat) ([5]++rg 8 9++[18]) [] (fun k=>[(8,vI (k:Int))]) (fun k=>[]) (fun k=>k<=l.length/\(l.take k).all (fun y=> !E9 n y)=true) (fun k=>l.length - k) (fun k=> .br (.elem _ aP l (fun e14=> .call (vB (E9 n e14)) []<| .br (.fin []) (.back []))) (.fin []))) (p:=Lx (l.map aP)<| Lm aP l/\((∃(k:Nat),0=(k:Int)/\k<=l.length/\(l.take k).all (fun y=> !E9 n y)=true)/\ ∀(k:Nat),(k<=l.length/\(l.take k).all (fun y=> !E9 n y)=true)->Br ((k:Int)<(l.length:Int)) (0<=(k:Int)/\Em aP l k fun e14=>ZE e14 n/\Bb (E9 n e14) ((k:Int)=(nC (E9 n) l)/\True) (bO ((k:Int)+1)/\ ∃(k' :Nat),((k:Int)+1)=(k' :Int)/\(k' <=l.length/\(l.take k').all (fun y=> !E9 n y)=true)/\l.length - k' <l.length - k)) ((-1:Int)=(nC (E9 n) l)/\True))) ?_;refine lx fun n0=>?_;refine⟨aAb _,⟨0,rfl,aBC _,rfl⟩,fun k ⟨hk,ha⟩=>?_⟩;apply dd<;>intro c0
 ·refine⟨aGR,rfl,aGR,fun e14 h14=>?_⟩;refine⟨aGW _ _,db (fun c1=>?_) fun c1=>?_⟩
  ·have hE:=O4 (p:=E9 n) h14 ha c1;apply et1
   ·rw[hE]
  ·refine⟨aGS,?_⟩;exact⟨k+1,rfl,⟨aGR,cL h14 ha (by simp[c1])⟩,aGR⟩
 ·have hE:=IG (p:=E9 n) (dD aGR ha);apply et1
  ·rw[hE]
abbrev Jw (d:aU)(n:E):AV × aGJ:=(.tup [.agg [.p none (.str ((aM d n).1.name)),vI ((aM d n).1.l),.own 0],vB ((aM d n).2)],[(0,.arr 51 1 true ((aM d n).1.rows.map aD))])
abbrev TI (d:aU)(n:E):Prop:=Cn 117 [.agg [.sl 155 3 (d.a.map aP)],.one (.str n)] (Jw d n).1 (Jw d n).2
def uX (d:aU)(n:E)(hc:cC d<=1048576):TI d n:=by
 refine cq Tryz.func117 (.call (vI (nC (E9 n) d.a)) []<| .br (.fin []) (.call (vB (kU d)) []<| aGQ<| .br (.fin []) (.elem _ aP d.a (fun e22=>bN (Dl e22)<| .fin [(0,2400)])))) (p:=Lx (d.a.map aP)<| ZF d.a n/\Br ((nC (E9 n) d.a)<0) (ByteArray.empty=((aM d n).1.name)/\0=((aM d n).1.l)/\(false)=((aM d n).2)/\[]=(aM d n).1.rows.map aD/\True) (GG d/\Nr (kU d) (ByteArray.empty=((aM d n).1.name)/\0=((aM d n).1.l)/\(false)=((aM d n).2)/\[]=(aM d n).1.rows.map aD/\True) (0<=(nC (E9 n) d.a)/\Em aP d.a ((nC (E9 n) d.a).toNat) fun e22=>Ju e22/\e22.name=((aM d n).1.name)/\e22.l=((aM d n).1.l)/\(true)=((aM d n).2)/\e22.rows.map aD=(aM d n).1.rows.map aD/\True))) ?_;refine lx fun n0=>?_;have q1:cC d=CR d.a:=rfl;have hg:=aCC (E9 n) d.a;refine⟨aGX _ _,dd (fun g13=>?_) fun g13=>?_⟩
 ·have hbad:aM d n=(rM,false):=FA (by (right;exact uC.1 aGR));apply et4<;>((rw[hbad]<;>rfl))
 ·refine⟨Uw d,dm (fun c0=>?_) fun c0=>?_⟩
  ·have hbad:aM d n=(rM,false):=FA (by (left;simpa using c0;done));apply et4<;>((rw[hbad]<;>rfl))
  ·have hd:kU d=true:=by simpa using c0
   obtain⟨k,y,hk,hy,hf⟩:=uC.2 (show 0<=nC (E9 n) d.a by omega);have hok:=NB hd hf;refine⟨aGR,rfl,aGR,fun e22 h22=>?_⟩;have hyx:y=e22:=by rw[hk] at h22;exact(bE (by simpa using h22) hy)
   have q2:=DX h22;rw[hyx] at hok;refine⟨ZD _ aGR,?_,?_,?_,?_,trivial⟩<;>((rw[hok]<;>rfl))
abbrev Jx (d:aU)(n:E):AV × aGJ:=(.tup [.agg [.p none (.str ((aM d n).1.name)),vI ((aM d n).1.l),.own 0],vB ((aM d n).2)],[(0,.arr 51 1 true ((aM d n).1.rows.map aD))])
abbrev TJ (d:aU)(n:E):Prop:=Cn 167 [.agg [.sl 155 3 (d.a.map aP)],.one (.str n)] (Jx d n).1 (Jx d n).2
def uY (d:aU)(n:E)(hc:cC d<=1048576):TJ d n:=by
 refine cq Tryz.func167 (.loop Nat (Q1 Nat) (rg 6 20) [] (fun k=>[(6,vI (k:Int))]) (fun k=>[]) (fun k=>k<=d.a.length/\(d.a.take k).all (fun y=> !E9 n y)=true) (fun k=>d.a.length - k) (fun k=> .len d.a.length<| .br (.call (vB (kU d)) []<| .lit<| .br (.elem _ aP d.a (fun e21=> .br (.elem _ aP d.a (fun e29=>bN (zC e29)<| .fin [(0,3100)])) (.back []))) (.fin [])) (.fin []))) (p:=Lx (d.a.map aP)<| (∃(k:Nat),0=(k:Int)/\k<=d.a.length/\(d.a.take k).all (fun y=> !E9 n y)=true)/\ ∀(k:Nat),(k<=d.a.length/\(d.a.take k).all (fun y=> !E9 n y)=true)->Lm aP d.a/\Br ((k:Int)<(d.a.length:Int)) (GH d/\Bb (kU d) (0<=(k:Int)/\Em aP d.a k fun e21=>Bb (e21.name.toList==n.toList) (0<=(k:Int)/\Em aP d.a k fun e29=>Dm e29/\e29.name=((aM d n).1.name)/\e29.l=((aM d n).1.l)/\(true)=((aM d n).2)/\e29.rows.map aD=(aM d n).1.rows.map aD/\True) (bO ((k:Int)+1)/\ ∃(k' :Nat),((k:Int)+1)=(k' :Int)/\(k' <=d.a.length/\(d.a.take k').all (fun y=> !E9 n y)=true)/\d.a.length - k' <d.a.length - k)) (ByteArray.empty=((aM d n).1.name)/\0=((aM d n).1.l)/\(false)=((aM d n).2)/\[]=(aM d n).1.rows.map aD/\True)) (ByteArray.empty=((aM d n).1.name)/\0=((aM d n).1.l)/\(false)=((aM d n).2)/\[]=(aM d n).1.rows.map aD/\True)) ?_;refine lx fun n0=>?_;have q1:cC d=CR d.a:=rfl;refine⟨⟨0,rfl,aBC _,rfl⟩,fun k ⟨hk,ha⟩=>?_⟩;refine⟨aAb _,dd (fun g12=>?_) fun g12=>?_⟩
 ·refine⟨Ux d,db (fun c0=>?_) fun c0=>?_⟩
  ·refine⟨aGR,rfl,aGR,fun e21 h21=>?_⟩
   try (obtain rfl:=(bE h21 h21).symm)
   have q2:=DX h21;apply db<;>intro c1
   ·have hok:=NB (n:=n) c0 (O1 (p:=E9 n) h21 ha c1);refine⟨aGR,rfl,aGR,fun e29 h29=>?_⟩
    try (obtain rfl:=(bE h21 h29).symm)
    refine⟨Qy _ aGR,?_,?_,?_,?_,trivial⟩<;>((rw[hok]<;>rfl))
   ·refine⟨aGS,?_⟩;exact⟨k+1,rfl,⟨aGR,cL h21 ha (by simp[E9,c1])⟩,aGR⟩
  ·have hbad:aM d n=(rM,false):=FA (by (left;exact c0));apply et4<;>((rw[hbad]<;>rfl))
 ·have hbad:aM d n=(rM,false):=FA (by (right;exact O2 (dD aGR ha)));apply et4<;>((rw[hbad]<;>rfl))
abbrev aDB (l:Z)(v:Int):Prop:=Cn 165 [.one (.sl 3 1 (l.map intD)),.one (.int .i64 v)] (vI (nC (Jv v) l)) []
def ixI (l:Z)(v:Int):aDB l v:=by
 refine cq Tryz.func165 (.len l.length<| .loop Nat (Q1 Nat) ([5]++rg 8 9++[18]) [] (fun k=>[(8,vI (k:Int))]) (fun k=>[]) (fun k=>k<=l.length/\(l.take k).all (fun y=> !Jv v y)=true) (fun k=>l.length - k) (fun k=> .br (.elem _ intD l (fun e14=> .br (.fin []) (.back []))) (.fin []))) (p:=Lx (l.map intD)<| Lm intD l/\((∃(k:Nat),0=(k:Int)/\k<=l.length/\(l.take k).all (fun y=> !Jv v y)=true)/\ ∀(k:Nat),(k<=l.length/\(l.take k).all (fun y=> !Jv v y)=true)->Br ((k:Int)<(l.length:Int)) (0<=(k:Int)/\Em intD l k fun e14=>Br (v=e14) ((k:Int)=(nC (Jv v) l)/\True) (bO ((k:Int)+1)/\ ∃(k' :Nat),((k:Int)+1)=(k' :Int)/\(k' <=l.length/\(l.take k').all (fun y=> !Jv v y)=true)/\l.length - k' <l.length - k)) ((-1:Int)=(nC (Jv v) l)/\True))) ?_;refine lx fun n0=>?_;refine⟨aAb _,⟨0,rfl,aBC _,rfl⟩,fun k ⟨hk,ha⟩=>?_⟩;apply dd<;>intro c0
 ·refine⟨aGR,rfl,aGR,fun e14 h14=>?_⟩;apply dd<;>intro c1
  ·have hE:=O4 (p:=Jv v) h14 ha (by simpa [Jv] using c1);apply et1
   ·rw[hE]
  ·refine⟨aGS,?_⟩;exact⟨k+1,rfl,⟨aGR,cL h14 ha (by simpa [Jv] using c1)⟩,aGR⟩
 ·have hE:=IG (p:=Jv v) (dD aGR ha);apply et1
  ·rw[hE]
abbrev Q5 (l:Z)(v:Int):Prop:=Cn 125 [.one (.sl 3 1 (l.map intD)),.one (.int .i64 v)] (vB (decide (v∈l))) []
def ctI (l:Z)(v:Int):Q5 l v:=by
 refine cq Tryz.func125 (.call (vI (nC (Jv v) l)) []<| .fin []) (p:=Lx (l.map intD)<| aDB l v/\(decide (0<=(nC (Jv v) l)))=(decide (v∈l))/\True) ?_;refine lx fun n0=>?_;refine⟨ixI _ _,?_,trivial⟩
 ·exact Qz
abbrev ZG (l:Z)(v:Int):Prop:=Cn 112 [.one (.sl 3 1 (l.map intD)),.one (.int .i64 v)] (vB (decide (v∈l))) []
def hsI (l:Z)(v:Int):ZG l v:=by
 refine cq Tryz.func112 (.loop Nat (Q1 Nat) (rg 5 13) [] (fun k=>[(5,vI (k:Int))]) (fun k=>[]) (fun k=>k<=l.length/\(l.take k).all (fun y=> !Jv v y)=true) (fun k=>l.length - k) (fun k=> .len l.length<| .br (.elem _ intD l (fun e14=> .br (.fin []) (.back []))) (.fin []))) (p:=Lx (l.map intD)<| (∃(k:Nat),0=(k:Int)/\k<=l.length/\(l.take k).all (fun y=> !Jv v y)=true)/\ ∀(k:Nat),(k<=l.length/\(l.take k).all (fun y=> !Jv v y)=true)->Lm intD l/\Br ((k:Int)<(l.length:Int)) (0<=(k:Int)/\Em intD l k fun e14=>Br (e14=v) ((true)=(decide (v∈l))/\True) (bO ((k:Int)+1)/\ ∃(k' :Nat),((k:Int)+1)=(k' :Int)/\(k' <=l.length/\(l.take k').all (fun y=> !Jv v y)=true)/\l.length - k' <l.length - k)) ((false)=(decide (v∈l))/\True)) ?_;refine lx fun n0=>?_;refine⟨⟨0,rfl,aBC _,rfl⟩,fun k ⟨hk,ha⟩=>?_⟩;refine⟨aAb _,dd (fun c0=>?_) fun c0=>?_⟩
 ·refine⟨aGR,rfl,aGR,fun e14 h14=>?_⟩;apply dd<;>intro c1
  ·have hE:decide (v∈l)=true:=by rw[<-c1];exact decide_eq_true (aBD h14)
   apply et1
   ·rw[hE]
  ·refine⟨aGS,?_⟩;exact⟨k+1,rfl,⟨aGR,cL h14 ha (by simpa [Jv] using fun q=>c1 (Eq.symm q))⟩,aGR⟩
 ·have hE:decide (v∈l)=false:=by rw[<-Qz,IG (p:=Jv v) (dD aGR ha)];rfl
  apply et1
  ·rw[hE]
def jZ (d:aU)(f:bB):Bool:=(aM d f.name).2&&(eP ((aM d f.name).1.l - 1) f.src&&(eZ f.dst 0 ((aM d f.name).1.l - 1)&& !decide (f.dst∈f.src)))
def TK (rows:List Z)(cols:Z)(c:Int)(i k:Nat):Bool:=decide ((gT (rows.getD i []) cols).1=(gT (rows.getD k []) cols).1)&& !decide ((rows.getD i []).getD c.toNat 0=(rows.getD k []).getD c.toNat 0)
def mW (rows:List Z)(cols:Z)(c:Int)(k:Nat):Nat->Z
 | 0=>[]
 | i+1=>if mW rows cols c k i= []/\TK rows cols c i k=true then [(i:Int),(k:Int)] else mW rows cols c k i
def nH (rows:List Z)(cols:Z)(c:Int):Nat->Z
 | 0=>[]
 | k+1=>if nH rows cols c k= [] then mW rows cols c k k else nH rows cols c k
def mJ (d:aU)(f:bB):Z:=if jZ d f=true then nH (aM d f.name).1.rows f.src f.dst (aM d f.name).1.rows.length else []
def FB {rows:List Z}{cols:Z}{c:Int}{k i:Nat}(h:mW rows cols c k i= [])(hb:TK rows cols c i k=false):mW rows cols c k (i+1)= []:=by rw[mW,if_neg (by simp[hb]),h]
theorem Jy {rows:List Z}{cols:Z}{c:Int}{k i:Nat}(h: ¬mW rows cols c k i= []): ∀j,mW rows cols c k (i+j)=mW rows cols c k i
 | 0=>rfl
 | j+1=>by rw[Nat.add_succ,mW,Jy h j,if_neg (by simp[h])]
theorem Jz {rows:List Z}{cols:Z}{c:Int}{k:Nat}(h: ¬nH rows cols c k= []): ∀j,nH rows cols c (k+j)=nH rows cols c k
 | 0=>rfl
 | j+1=>by rw[Nat.add_succ,nH,Jz h j,if_neg h]
def J0 {rows:List Z}{cols:Z}{c:Int}{k i n:Nat}(hk:nH rows cols c k= [])(hi:mW rows cols c k i= [])(hb:TK rows cols c i k=true)(hik:i<k)(hkn:k<n):nH rows cols c n= [(i:Int),(k:Int)]:=by
 have h1:mW rows cols c k (i+1)= [(i:Int),(k:Int)]:=by rw[mW,if_pos ⟨hi,hb⟩]
 have h2:mW rows cols c k k= [(i:Int),(k:Int)]:=by
  have:=Jy (rows:=rows) (cols:=cols) (c:=c) (k:=k) (i:=i+1) (by rw[h1];simp) (k - (i+1));rw[show i+1+(k - (i+1))=k by omega,h1] at this;exact this
 have h3:nH rows cols c (k+1)= [(i:Int),(k:Int)]:=by rw[nH,if_pos hk,h2]
 have:=Jz (rows:=rows) (cols:=cols) (c:=c) (k:=k+1) (by rw[h3];simp) (n - (k+1));rw[show k+1+(n - (k+1))=n by omega,h3] at this;exact this
def J1 {rows:List Z}{cols:Z}{c:Int}{k:Nat}(hk:nH rows cols c k= [])(hi:mW rows cols c k k= []):nH rows cols c (k+1)= []:=by rw[nH,if_pos hk,hi]
def G9 {d:aU}{f:bB}(h:jZ d f=true):aW (aM d f.name).1=true/\0<=f.dst/\f.dst<=(aM d f.name).1.l - 1/\f.src.length<=3:=by
 simp only[jZ,aBB] at h;obtain⟨h1,h2,h3,_⟩:=h;have hT:=(qQ h1).1;have ha:=cJ hT;have:=eU h3;exact⟨hT,this.1,this.2,E2 h2 aGR⟩
def Uy {rows:List Z}{cols:Z}{c:Int}{i k:Nat}{x y:Z}(hx:rows[i]? =some x)(hy:rows[k]? =some y):TK rows cols c i k=(decide ((gT x cols).1=(gT y cols).1)&& !decide (x.getD c.toNat 0=y.getD c.toNat 0)):=by
 rw[TK,bK hx,bK hy]
def kR (d:aU)(f:bB):Bool:=jZ d f&&decide (mJ d f= [])
def Q6 {α:Type}[DecidableEq α](l:List α):decide ((l.length:Int)=0)=decide (l= []):=by
 cases l with
 | nil=>rfl
 | cons a l=>simp;omega
abbrev aHE(x:bB):Ar:=.agg [.str x.name,.sl 3 1 (x.src.map intD),.int .i64 x.dst]
abbrev zD (d:aU)(f:bB):Prop:=Cn 185 [.agg [.sl 155 3 (d.a.map aP)],aHE f] (vB (jZ d f)) []
def J2 (d:aU)(f:bB)(hc:cC d<=1048576):zD d f:=by
 refine cq Tryz.func185 (.call (.tup [.agg [.p none (.str ((aM d f.name).1.name)),vI ((aM d f.name).1.l),.p none (.sl 51 1 ((aM d f.name).1.rows.map aD))],vB ((aM d f.name).2)]) []<| .br (.call (vB (eP (((aM d f.name).1.l) - 1) f.src)) []<| .lit<| .br (.raw<| .call (vB (eZ f.dst (0:Int) (IntKind.i64.wrap (((aM d f.name).1.l) - 1)))) []<| .lit<| .br (.call (vB (decide (f.dst∈f.src))) []<| .fin []) (.fin [])) (.fin [])) (.fin [])) (p:=Lx (d.a.map aP)<| Lx (f.src.map intD)<| xK Tryz.prog 117 [.agg [.sl 155 3 (d.a.map aP)],.one (.str f.name)] (.tup [.agg [.p none (.str ((aM d f.name).1.name)),vI ((aM d f.name).1.l),.p none (.sl 51 1 ((aM d f.name).1.rows.map aD))],vB ((aM d f.name).2)]) []/\Bb ((aM d f.name).2) (BG f.src ((aM d f.name).1.l)/\Bb (eP (((aM d f.name).1.l) - 1) f.src) (fX f.dst (0:Int) (IntKind.i64.wrap (((aM d f.name).1.l) - 1))/\Bb (eZ f.dst (0:Int) (IntKind.i64.wrap (((aM d f.name).1.l) - 1))) (Q5 f.src f.dst/\(!(decide (f.dst∈f.src)))=(jZ d f)/\True) ((false)=(jZ d f)/\True)) ((false)=(jZ d f)/\True)) ((false)=(jZ d f)/\True)) ?_;refine lx fun n0=>lx fun n1=>?_;refine⟨lV (uX _ f.name aGR) rfl,db (fun g15=>?_) fun g15=>?_⟩
 ·have hT:=(qQ g15).1;have hA:=cJ hT;have hw:IntKind.i64.wrap ((aM d f.name).1.l - 1)=(aM d f.name).1.l - 1:=IntWalk.i64_in _ aGS
  try rw[hw]
  refine⟨M0 _ _ aGR,db (fun g22=>?_) fun g22=>?_⟩
  ·refine⟨kP _ _ _,db (fun g30=>?_) fun g30=>?_⟩
   ·refine⟨ctI _ _,?_,trivial⟩
    ·(simp[jZ, *];done)
   ·apply et1
    ·(simp[jZ, *];done)
  ·apply et1
   ·(simp[jZ, *];done)
 ·apply et1
  ·(simp[jZ, *];done)
abbrev zE (d:aU)(f:bB):Prop:=Cn 139 [.agg [.sl 155 3 (d.a.map aP)],aHE f] (vB (jZ d f)) []
def J3 (d:aU)(f:bB)(hc:cC d<=1048576):zE d f:=by
 refine cq Tryz.func139 (.call (.tup [.agg [.p none (.str ((aM d f.name).1.name)),vI ((aM d f.name).1.l),.p none (.sl 51 1 ((aM d f.name).1.rows.map aD))],vB ((aM d f.name).2)]) []<| .br (.call (vB (aW ((aM d f.name).1)&&eP ((aM d f.name).1.l - 1) f.src)) []<| .lit<| .br (.raw<| .call (vB (eZ f.dst (0:Int) (IntKind.i64.wrap (((aM d f.name).1.l) - 1)))) []<| .lit<| .br (.call (vB (decide (f.dst∈f.src))) []<| .fin []) (.fin [])) (.fin [])) (.fin [])) (p:=Lx (d.a.map aP)<| Lx (f.src.map intD)<| xK Tryz.prog 167 [.agg [.sl 155 3 (d.a.map aP)],.one (.str f.name)] (.tup [.agg [.p none (.str ((aM d f.name).1.name)),vI ((aM d f.name).1.l),.p none (.sl 51 1 ((aM d f.name).1.rows.map aD))],vB ((aM d f.name).2)]) []/\Bb ((aM d f.name).2) (BH ((aM d f.name).1) f.src/\Bb (aW ((aM d f.name).1)&&eP ((aM d f.name).1.l - 1) f.src) (fO f.dst (0:Int) (IntKind.i64.wrap (((aM d f.name).1.l) - 1))/\Bb (eZ f.dst (0:Int) (IntKind.i64.wrap (((aM d f.name).1.l) - 1))) (ZG f.src f.dst/\(!(decide (f.dst∈f.src)))=(jZ d f)/\True) ((false)=(jZ d f)/\True)) ((false)=(jZ d f)/\True)) ((false)=(jZ d f)/\True)) ?_;refine lx fun n0=>lx fun n1=>?_;refine⟨lV (uY _ f.name aGR) rfl,db (fun g15=>?_) fun g15=>?_⟩
 ·have hT:=(qQ g15).1;have hA:=cJ hT;have hw:IntKind.i64.wrap ((aM d f.name).1.l - 1)=(aM d f.name).1.l - 1:=IntWalk.i64_in _ aGS
  try rw[hw]
  refine⟨M1 ((aM d f.name).1) _,db (fun g21=>?_) fun g21=>?_⟩
  ·refine⟨jV _ _ _,db (fun g29=>?_) fun g29=>?_⟩
   ·refine⟨hsI _ _,?_,trivial⟩
    ·(simp[jZ, *] at*;simp[*];done)
   ·apply et1
    ·(simp[jZ, *];done)
  ·apply et1
   ·(simp[jZ, *] at*;simp[*];done)
 ·apply et1
  ·(simp[jZ, *];done)
end Go.Proofs.YtgamjlgfnmpcjaaGreat
namespace Go.Proofs
open Go.Shelf
namespace YtgamjlgfnmpcjaaGreat
def Tryz.lays189_ren:Go.Shelf.Ren:=⟨fun | 189=>202 | 125=>214 | 257=>213 | 128=>226 | 129=>227 | 294=>217 | 295=>218 | 296=>219 | 297=>220 | 298=>221 | 299=>222 | 216=>223 | 300=>224 | 301=>225 | 328=>237 | 329=>238 | 330=>239 | 331=>240 | 332=>241 | 215=>242 | 343=>246 | n=>n,fun | 28=>51 | 3=>3 | 46=>175 | 0=>0 | 51=>221 | 53=>223 | 4=>4 | 183=>213 | 182=>212 | 131=>218 | 5=>5 | 9=>9 | 218=>229 | 222=>233 | 228=>238 | 229=>239 | n=>n,fun | n=>n⟩
theorem Tryz.lays189:Go.Proofs.Lays.n189 Tryz.prog Tryz.lays189_ren:={
 mixed:=by kernel_rfl
 f125:=Tryz.func214.trans (congrArg some (by kernel_rfl))
 f128:=Tryz.func226.trans (congrArg some (by kernel_rfl))
 f129:=Tryz.func227.trans (congrArg some (by kernel_rfl))
 f189:=Tryz.func202.trans (congrArg some (by kernel_rfl))
 f215:=Tryz.func242.trans (congrArg some (by kernel_rfl))
 f216:=Tryz.func223.trans (congrArg some (by kernel_rfl))
 f257:=Tryz.func213.trans (congrArg some (by kernel_rfl))
 f294:=Tryz.func217.trans (congrArg some (by kernel_rfl))
 f295:=Tryz.func218.trans (congrArg some (by kernel_rfl))
 f296:=Tryz.func219.trans (congrArg some (by kernel_rfl))
 f297:=Tryz.func220.trans (congrArg some (by kernel_rfl))
 f298:=Tryz.func221.trans (congrArg some (by kernel_rfl))
 f299:=Tryz.func222.trans (congrArg some (by kernel_rfl))
 f300:=Tryz.func224.trans (congrArg some (by kernel_rfl))
 f301:=Tryz.func225.trans (congrArg some (by kernel_rfl))
 f328:=Tryz.func237.trans (congrArg some (by kernel_rfl))
 f329:=Tryz.func238.trans (congrArg some (by kernel_rfl))
 f330:=Tryz.func239.trans (congrArg some (by kernel_rfl))
 f331:=Tryz.func240.trans (congrArg some (by kernel_rfl))
 f332:=Tryz.func241.trans (congrArg some (by kernel_rfl))
 f343:=Tryz.func246.trans (congrArg some (by kernel_rfl))
 t0:=Tryz.underlying0
 a0:=Tryz.isAgg0
 z0:=Tryz.sizeOf0
 v0:=Tryz.zeroValue0
 t3:=Tryz.underlying3
 a3:=Tryz.isAgg3
 z3:=Tryz.sizeOf3
 v3:=Tryz.zeroValue3
 t4:=Tryz.underlying4
 a4:=Tryz.isAgg4
 z4:=Tryz.sizeOf4
 v4:=Tryz.zeroValue4
 t5:=Tryz.underlying5
 a5:=Tryz.isAgg5
 z5:=Tryz.sizeOf5
 v5:=Tryz.zeroValue5
 t9:=Tryz.underlying9
 a9:=Tryz.isAgg9
 z9:=Tryz.sizeOf9
 v9:=Tryz.zeroValue9
 t28:=Tryz.underlying51
 a28:=Tryz.isAgg51
 z28:=Tryz.sizeOf51
 v28:=Tryz.zeroValue51
 t46:=Tryz.underlying175
 a46:=Tryz.isAgg175
 z46:=Tryz.sizeOf175
 v46:=Tryz.zeroValue175
 t51:=Tryz.underlying221
 a51:=Tryz.isAgg221
 z51:=Tryz.sizeOf221
 v51:=Tryz.zeroValue221
 t53:=Tryz.underlying223
 a53:=Tryz.isAgg223
 z53:=Tryz.sizeOf223
 v53:=Tryz.zeroValue223
 t131:=Tryz.underlying218
 a131:=Tryz.isAgg218
 z131:=Tryz.sizeOf218
 v131:=Tryz.zeroValue218
 t182:=Tryz.underlying212
 a182:=Tryz.isAgg212
 z182:=Tryz.sizeOf212
 v182:=Tryz.zeroValue212
 t183:=Tryz.underlying213
 a183:=Tryz.isAgg213
 z183:=Tryz.sizeOf213
 v183:=Tryz.zeroValue213
 t218:=Tryz.underlying229
 a218:=Tryz.isAgg229
 z218:=Tryz.sizeOf229
 v218:=Tryz.zeroValue229
 t222:=Tryz.underlying233
 a222:=Tryz.isAgg233
 z222:=Tryz.sizeOf233
 v222:=Tryz.zeroValue233
 t228:=Tryz.underlying238
 a228:=Tryz.isAgg238
 z228:=Tryz.sizeOf238
 v228:=Tryz.zeroValue238
 t229:=Tryz.underlying239
 a229:=Tryz.isAgg239
 z229:=Tryz.sizeOf239
 v229:=Tryz.zeroValue239 }
end YtgamjlgfnmpcjaaGreat
end Go.Proofs
namespace Go.Proofs.YtgamjlgfnmpcjaaGreat
open Go.ChangeShapes Go.WideShapes Go.ChangeAt Go.RowKit
set_option linter.all false
theorem GI {w:World}: ∀{l:Z} {css:List (List Value)} {Fs:List (List Nat)},dB w 1 (l.map intD) css Fs->css.flatten=l.map (Value.int .i64)/\Fs.flatten= []
 | [],css,Fs,h=>by
   simp only[List.map_nil] at h;unfold dB at h;rw[h.1,h.2];simp
 | n::l,css,Fs,h=>by
   simp only[aDH] at h;unfold dB at h;obtain⟨c,css',F,Fs',rfl,rfl,_,h1,h2⟩:=h;obtain⟨q1,q2⟩:=GI h2;unfold intD dW at h1;obtain⟨v,cs',F1,F2,rfl,rfl,h3,h4⟩:=h1;unfold dW at h4;unfold sG at h3;simp[q1,q2,h4.1,h4.2,h3.1,h3.2]
theorem zF (w:World): ∀(l:Z),dB w 1 (l.map intD) (l.map fun n=>[Value.int .i64 n]) (l.map fun _=>[])
 | []=>by simp only[List.map_nil];unfold dB;exact⟨rfl,rfl⟩
 | n::l=>by
   simp only[aDH];unfold dB;refine⟨_,_,_,_,rfl,rfl,rfl,?_,zF w l⟩;unfold intD dW;refine⟨_,_,[],[],rfl,rfl,?_,?_⟩
   ·unfold sG;exact⟨rfl,rfl⟩
   unfold dW;exact⟨rfl,rfl⟩
theorem GJ: ∀(m:Z),(m.map fun n=>[Value.int .i64 n]).flatten=m.map (Value.int .i64)
 | []=>rfl
 | a::l=>by simp only[aDH,aE8,GJ l];rfl
theorem NC {P:Program}{f:FuncId}{e:Nat}(l m:Z)(hc:lB P f=true)(hm:m.length=l.length)
 (hn0:l= []-> ∀w,Calls P f #[.slice none 0 0] w (fun ex w' =>ex= .returned (.tuple #[])/\w' =w))
 (hs: ∀(blk cap:Nat) (w:World),Go.Sort.Holds (Value.int .i64) w blk 0 l.toArray->blk<w.heap.size->l.length<=cap->Calls P f #[.slice (some ⟨blk,0,none⟩) l.length cap] w (fun ex w' =>ex= .returned (.tuple #[])/\ ∃n os,w' =Go.Sort.grow (Go.Sort.putRow (Value.int .i64) (Go.Sort.ahead w n) blk 0 m.toArray) os)):
 xB P f [.own 0] [(0,.arr e 1 true (l.map intD))] (.tup []) [(0,.arr e 1 true (m.map intD))]:=by
 refine⟨hc,by simp,fun A φ w vs hI hM=>?_⟩;obtain⟨pl,hp,css,Fs,q1,q2,q3,q4⟩:=hI.dom 0 _ rfl;unfold aS at hM;obtain⟨v,us,e1,m1,hM⟩:=hM;unfold aS at hM;unfold aH at m1;have hv:=m1 pl hp;have ev:vs= #[pl.val]:=by apply Array.ext';rw[e1,hM,hv]
 rw[ev];obtain⟨c1,c2⟩:=GI q4;rw[c1,aAb] at q1;have hge:=hI.ge 0 pl hp;have hsub:pl.sub= []:=by rw[q3,c2]
 have hfoot: ∀b∈pl.F,Oe φ b:=fun b hb=>⟨0,pl,trivial,hp,hb⟩
 have hend: ∀(w' :World),oK pl.F w w' ->w'.ownsRow 0 e 1 pl.val l.length (m.map (Value.int .i64))->
  ∃v K φ',Ending.returned (.tuple #[])= .returned v/\WA A φ w [(0,.arr e 1 true (m.map intD))] K φ' w' /\aH K φ' w' (.tup []) v:=by
  intro w' hon howns;refine⟨_,A,fun h=>if h=0 then some pl else none,rfl,⟨⟨hon.os,hon.tape,hon.output,hon.size,fun b hb hn=>hon.block b hb (fun hm=>hn (hfoot b hm))⟩,fun _ h=>h,fun b hb=>⟨aFD (hI.lt b hb) hon.size,.inl hb⟩,fun b hb h pl1 e' hm' =>?_,fun h r hr=>?_,fun h hr=>?_,fun h h' pl1 pl2 hne ea eb=>?_,fun h pl1 e' =>?_,fun h pl1 e' g hg=>?_,fun h pl1 pl0 e' e0=>?_⟩,?_⟩
  ·split at e'
   ·injection e' with e';subst e'
    exact hI.out b hb 0 pl hp hm'
   cases e'
  ·simp only[bF] at hr;split at hr
   ·rename_i eh;subst eh;injection hr with hr
    subst hr;refine⟨pl,by simp,m.map fun n=>[Value.int .i64 n],m.map fun _=>[],?_,q2,?_,zF _ m⟩
    ·rw[GJ,aAb,hm];exact howns
    rw[hsub];simp
   cases hr
  ·simp only[bF] at hr;split at hr
   ·cases hr
   rename_i eh;exact if_neg eh
  ·split at ea
   ·split at eb
    ·rename_i x y;exact absurd (x.trans y.symm) hne
    cases eb
   cases ea
  ·split at e'
   ·injection e' with e';subst e';exact hI.nodup 0 pl hp
   cases e'
  ·split at e'
   ·injection e' with e';subst e'
    exact⟨.inr (hfoot g hg),aFD (hge g hg) hon.size⟩
   cases e'
  ·split at e'
   ·rename_i eh;subst eh;rw[hp] at e0;injection e0 with e0;injection e' with e'
    subst e0;subst e';exact⟨rfl,rfl⟩
   cases e'
  unfold aH;exact⟨#[],rfl,by unfold aS;rfl⟩
 rcases q1.2 with ⟨hvn,hz⟩ | ⟨g,cap,cur,hvv,hg0,hb,hn,hcap,hsz,htk⟩
 ·have hz' :l= []:=aDE hz;rw[hvn];refine(hn0 hz' w).mono ?_;rintro en w' ⟨rfl,rfl⟩;have hm0:m= []:=aDE (by rw[hm,hz]);refine hend w' (oK.refl _ _) ?_;rw[hvn,hm0,hz];exact⟨by simp,.inl ⟨rfl,rfl⟩⟩
 have hlt:g<w.heap.size:=(Array.getElem?_eq_some_iff.1 hb).1;have hH:Go.Sort.Holds (Value.int .i64) w g 0 l.toArray:=holds_of_blockI hb (by rw[Nat.mul_one] at htk;exact htk);rw[hvv];refine(hs g cap w hH hlt hn).mono ?_;rintro en w' ⟨rfl,n,os,rfl⟩;have hgb:=grownBy_sortedI (w:=w) (g:=g) (n:=n) (os:=os) m.toArray;have hown:=ownsRow_sortedI (n:=n) (os:=os) hm hg0 hb hn hcap hsz;refine hend _ ⟨hgb.os,hgb.tape,hgb.output,hgb.size,fun k hk hne=>hgb.block k hk (fun e=>hne (by injection e with e;subst e;unfold Pl.F;rw[q2,hvv];simp[Value.ownBlock]))⟩ ?_;rw[hvv];exact hown
def lT (l:Z):Z:=l.mergeSort fun x y=>decide (x<=y)
def J4 (l:Z):(lT l).Perm l:=List.mergeSort_perm l _
def xX (l:Z):(lT l).length=l.length:=(J4 l).length_eq
def TL (l:Z):(lT l).Pairwise (· <= ·):=by
 have:=List.pairwise_mergeSort (le:=fun x y:Int=>decide (x<=y)) (fun a b c h1 h2=>by simp at*;omega) (fun a b=>by simp;omega) l;exact this.imp (fun h=>by simpa using h)
def ND (l:Z)(hl:l.length<4611686018427387904):xB Tryz.prog 202 [.own 0] [(0,.arr 3 1 true (l.map intD))] (.tup []) [(0,.arr 3 1 true ((lT l).map intD))]:=
 NC l (lT l) (by kernel_rfl) (xX l)
  (fun h w=>Any.slices_Sort_int_none Tryz.lays189 none 0 w)
  (fun blk cap w hH hblk _=>Any.slices_Sort_int Tryz.lays189 blk 0 cap l w hH hblk hl)
end Go.Proofs.YtgamjlgfnmpcjaaGreat
namespace Go.Proofs
open Go.Shelf
namespace YtgamjlgfnmpcjaaGreat
def Tryz.compInts_ren:Go.Shelf.Ren:=⟨fun | 43=>203 | n=>n,fun | 22=>51 | 23=>3 | 3=>3 | 4=>4 | 0=>0 | n=>n,fun | n=>n⟩
theorem Tryz.compInts:Go.Proofs.SlLaysE.n43 Tryz.prog Tryz.compInts_ren:={
 mixed:=by kernel_rfl
 f43:=⟨Tryz.f203.name,by decide,Tryz.func203.trans (congrArg some (by kernel_rfl))⟩
 t0:=Tryz.underlying0
 a0:=Tryz.isAgg0
 z0:=Tryz.sizeOf0
 v0:=Tryz.zeroValue0
 t3:=Tryz.underlying3
 a3:=Tryz.isAgg3
 z3:=Tryz.sizeOf3
 v3:=Tryz.zeroValue3
 t4:=Tryz.underlying4
 a4:=Tryz.isAgg4
 z4:=Tryz.sizeOf4
 v4:=Tryz.zeroValue4
 t22:=Tryz.underlying51
 a22:=Tryz.isAgg51
 z22:=Tryz.sizeOf51
 v22:=Tryz.zeroValue51
 a23:=Tryz.isAgg3
 z23:=Tryz.sizeOf3 }
end YtgamjlgfnmpcjaaGreat
end Go.Proofs
namespace Go.Proofs.YtgamjlgfnmpcjaaGreat
open Go.ChangeShapes Go.WideShapes Go.ChangeAt Go.RowKit Go.Lib
set_option linter.all false
theorem TM {P:Program}{f:FuncId}{e:Nat}(l m:Z)(hc:lB P f=true)(hm:m.length<=l.length)(hm0:l= []->m= [])
 (hn0:l= []-> ∀w,Calls P f #[.slice none 0 0] w (fun ex w' =>ex= .returned (.slice none 0 0)/\w' =w))
 (hs: ∀(blk cap:Nat) (w:World),Go.Sort.Holds (Value.int .i64) w blk 0 l.toArray->blk<w.heap.size->l.length<=cap->Calls P f #[.slice (some ⟨blk,0,none⟩) l.length cap] w (fun ex w' =>ex= .returned (.slice (some ⟨blk,0,none⟩) m.length cap)/\ ∃n os z,(m++z).length=l.length/\w' =Go.Sort.grow (Go.Sort.putRow (Value.int .i64) (Go.Sort.ahead w n) blk 0 (m++z).toArray) os)):
 xB P f [.own 0] [(0,.arr e 1 true (l.map intD))] (.own 1) [(1,.arr e 1 true (m.map intD))]:=by
 refine⟨hc,by simp,fun A φ w vs hI hM=>?_⟩;obtain⟨pl,hp,css,Fs,q1,q2,q3,q4⟩:=hI.dom 0 _ rfl;unfold aS at hM;obtain⟨v,us,e1,m1,hM⟩:=hM;unfold aS at hM;unfold aH at m1;have hv:=m1 pl hp;have ev:vs= #[pl.val]:=by apply Array.ext';rw[e1,hM,hv]
 rw[ev];obtain⟨c1,c2⟩:=GI q4;rw[c1,aAb] at q1;have hge:=hI.ge 0 pl hp;have hsub:pl.sub= []:=by rw[q3,c2]
 have hfoot: ∀b∈pl.F,Oe φ b:=fun b hb=>⟨0,pl,trivial,hp,hb⟩;have h1:φ 1=none:=hI.non 1 rfl
 have hend: ∀(v' :Value) (w' :World),oK pl.F w w' ->(∀b∈v'.ownBlock,b∈pl.val.ownBlock)->w'.ownsRow 0 e 1 v' m.length (m.map (Value.int .i64))->
  ∃v K φ',Ending.returned v' = .returned v/\WA A φ w [(1,.arr e 1 true (m.map intD))] K φ' w' /\aH K φ' w' (.own 1) v:=by
  intro v' w' hon hvb howns
  let pl' :Pl:=⟨v',v'.ownBlock.toList,[]⟩
  have hmem: ∀g,g∈pl'.F->g∈pl.F:=fun g hg=>by
   unfold Pl.F;simp only[pl',Pl.F,aFk,Option.mem_toList] at hg;rw[q2];exact aDG _ (by rw[Option.mem_toList];exact hvb g hg)
  have hnd' :pl'.F.Nodup:=by simp only[pl',Pl.F,aFk];cases v'.ownBlock<;>simp
  refine⟨_,A,fun h=>if h=1 then some pl' else none,rfl,⟨⟨hon.os,hon.tape,hon.output,hon.size,fun b hb hn=>hon.block b hb (fun hm=>hn (hfoot b hm))⟩,fun _ h=>h,fun b hb=>⟨aFD (hI.lt b hb) hon.size,.inl hb⟩,fun b hb h pl1 e' hm' =>?_,fun h r hr=>?_,fun h hr=>?_,fun h h' pl1 pl2 hne ea eb=>?_,fun h pl1 e' =>?_,fun h pl1 e' g hg=>?_,fun h pl1 pl0 e' e0=>?_⟩,?_⟩
  ·split at e'
   ·injection e' with e';subst e'
    exact hI.out b hb 0 pl hp (hmem b hm')
   cases e'
  ·simp only[bF] at hr;split at hr
   ·rename_i eh;subst eh;injection hr with hr
    subst hr;refine⟨pl',by simp,m.map fun n=>[Value.int .i64 n],m.map fun _=>[],?_,rfl,?_,zF _ m⟩
    ·rw[GJ,aAb];exact howns
    simp[pl']
   cases hr
  ·simp only[bF] at hr;split at hr
   ·cases hr
   rename_i eh;exact if_neg eh
  ·split at ea
   ·split at eb
    ·rename_i x y;exact absurd (x.trans y.symm) hne
    cases eb
   cases ea
  ·split at e'
   ·injection e' with e';subst e';exact hnd'
   cases e'
  ·split at e'
   ·injection e' with e';subst e'
    have:=hmem g hg;exact⟨.inr (hfoot g this),aFD (hge g this) hon.size⟩
   cases e'
  ·split at e'
   ·rename_i eh;subst eh;rw[h1] at e0;cases e0
   cases e'
  unfold aH;intro pl1 e';simp at e';subst e';rfl
 rcases q1.2 with ⟨hvn,hz⟩ | ⟨g,cap,cur,hvv,hg0,hb,hn,hcap,hsz,htk⟩
 ·have hz' :l= []:=aDE hz;rw[hvn];refine(hn0 hz' w).mono ?_;rintro en w' ⟨rfl,rfl⟩;refine hend (.slice none 0 0) w' (oK.refl _ _) (fun b hb=>by cases hb) ?_;rw[hm0 hz'];exact⟨by simp,.inl ⟨rfl,rfl⟩⟩
 have hlt:g<w.heap.size:=(Array.getElem?_eq_some_iff.1 hb).1;have hH:Go.Sort.Holds (Value.int .i64) w g 0 l.toArray:=holds_of_blockI hb (by rw[Nat.mul_one] at htk;exact htk);rw[hvv];refine(hs g cap w hH hlt hn).mono ?_;rintro en w' ⟨rfl,n,os,z,hz,rfl⟩;have hgb:=grownBy_sortedI (w:=w) (g:=g) (n:=n) (os:=os) (m++z).toArray;have hown:=ownsRow_sortedI (n:=n) (os:=os) hz hg0 hb hn hcap hsz;refine hend _ _ ⟨hgb.os,hgb.tape,hgb.output,hgb.size,fun k hk hne=>hgb.block k hk (fun e=>hne (by injection e with e;subst e;unfold Pl.F;rw[q2,hvv];simp[Value.ownBlock]))⟩ (fun b hb' =>by rw[hvv];exact hb') ?_;rcases hown.2 with ⟨hvn,_⟩ | ⟨g',cap',cur',hv',hg',hb',hn',hcap',hsz',htk'⟩
 ·cases hvn
 simp only[Value.slice.injEq,Option.some.injEq,Addr.mk.injEq,and_true] at hv';obtain⟨rfl,_,rfl⟩:=hv';refine⟨by simp,.inr ⟨g,cap,cur',rfl,hg',hb',aGR,hcap',hsz',?_⟩⟩;rw[Nat.mul_one] at*;have h3:=congrArg (List.take m.length) htk';rw[List.take_take,Nat.min_eq_left hm,aDM,List.take_append_of_le_length (by simp)] at h3;rw[h3,aCR (by simp)]
def wH (l:Z):Z:=compactUpTo l.toArray l.toArray.size
def Q7 (l:Z):(wH l).length<=l.length:=by
 unfold wH compactUpTo;rw[aAb];have:=(List.filter_sublist (l:=List.range l.toArray.size) (p:=keeps l.toArray)).length_le;simpa using this
def NE {l:Z}:wH l= []↔l= []:=by
 constructor
 ·intro h;by_cases e:l= []
  ·exact e
  exfalso;have hp:0<l.length:=List.length_pos_iff.2 e;unfold wH compactUpTo at h;rw[List.map_eq_nil_iff,List.filter_eq_nil_iff] at h;exact h 0 (aEt.2 (by simpa using hp)) (keeps_lt_one _ 0 aGR)
 rintro rfl;rfl
def tyI:iJ Tryz.prog 3=some (false,1,8,.int .i64 0):=by kernel_rfl
def aF0 (w:World):(zeroValue 3).run Tryz.prog w= .ok (.int .i64 0) w:=(iE tyI w).2.2.1
def WV (l:Z)(hl:l.length<4611686018427387904):xB Tryz.prog 203 [.own 0] [(0,.arr 3 1 true (l.map intD))] (.own 1) [(1,.arr 3 1 true ((wH l).map intD))]:=
 TM l (wH l) (by kernel_rfl) (Q7 l) (fun h=>NE.2 h)
  (fun h w=>by
   go_enter Tryz.func203,Tryz.ntmps203
   go_wp2
   go_ret
   exact⟨rfl,rfl⟩)
  (fun blk cap w hH hblk hn=>(AnyE.slices_Compact Tryz.compInts (Value.int .i64) (fun _=>rfl) (EqlAt.intD _ _ .i64) (NeqAt.intD _ _ .i64) 0 (fun w=>aF0 w) blk 0 cap l.toArray w hH (by rw[List.size_toArray];omega) (by rw[List.size_toArray];exact hn)).mono fun e w' ⟨he,q,hw⟩=>
   ⟨by have e1:l.toArray.size=l.length:=by simp
       rw[e1] at he;unfold wH;rw[e1];exact he,q,#[],List.replicate (l.length - (wH l).length) 0,by have:=Q7 l;simp;omega,by rw[hw,Go.Sort.grow_empty];simp[wH]⟩)
end Go.Proofs.YtgamjlgfnmpcjaaGreat
namespace Go.Proofs.YtgamjlgfnmpcjaaGreat
open Go.ChangeShapes Go.WideShapes Go.ChangeAt Go.RowKit
set_option linter.all false
set_option maxRecDepth 100000
set_option maxHeartbeats 4000000
def iX (d:aU)(x:bG):Bool:=(aM d x.name).2&&((aM d x.I).2&&(eZ x.H 0 ((aM d x.name).1.l - 1)&&eZ x.B 0 ((aM d x.I).1.l - 1)))
def kA (rows:List Z)(c:Int):Z:=rows.map fun r=>r.getD c.toNat 0
def HA (d:aU)(x:bG):Z:=(kA (aM d x.name).1.rows x.H).filter fun v=> !decide (v∈kA (aM d x.I).1.rows x.B)
def AQ (d:aU)(x:bG):Z:=if iX d x=true then wH (lT (HA d x)) else []
def FC (d:aU)(x:bG)(v:Nat):Bool:=decide ((v:Int)∈kA (aM d x.name).1.rows x.H)&& !decide ((v:Int)∈kA (aM d x.I).1.rows x.B)
def rA (d:aU)(x:bG)(n:Nat):Z:=((List.range n).filter (FC d x)).map fun v:Nat=>(v:Int)
def AR (d:aU)(x:bG):Z:=if iX d x=true then rA d x 10 else []
def kS (d:aU)(x:bG):Bool:=iX d x&&decide (HA d x= [])
def WW {d:aU}{x:bG}{v:Nat}(h:FC d x v=true):rA d x (v+1)=rA d x v++[(v:Int)]:=by
 rw[rA,List.range_succ,List.filter_append,aDM];simp[rA,h]
def Q8 {d:aU}{x:bG}{v:Nat}(h:FC d x v=false):rA d x (v+1)=rA d x v:=by
 rw[rA,List.range_succ,List.filter_append,aDM];simp[rA,h]
def WX (d:aU)(x:bG)(v:Nat):(rA d x v).length<=v:=by
 rw[rA,aAb];have:=List.length_filter_le (FC d x) (List.range v)
 rwa [List.length_range] at this
def pH (rows:List Z)(c:Int){k:Nat}{r:Z}(h:rows[k]? =some r):kA (rows.take (k+1)) c=kA (rows.take k) c++[r.getD c.toNat 0]:=by rw[bW h,kA,aDM];rfl
def xY {l:Z}{v y:Int}:decide (v∈l++[y])=(decide (v∈l) || decide (v=y)):=by simp[Bool.decide_or]
def WY {t:aX}{c:Int}{v:Int}(h:aW t=true)(hc:0<=c/\c<=t.l - 1)(hv:v∈kA t.rows c):0<=v/\v<=9:=by
 obtain⟨r,hr,rfl⟩:=aE9.1 hv;have hl:=sJ h hr;have hk:=aCS.1 (sI h).1 r hr;simp only[mA,aBB,aFI] at hk;have hlt:c.toNat<r.length:=aGR
 have hm:r.getD c.toNat 0∈r:=by rw[aCz,aBP hlt];exact aGF hlt
 exact eU (aCS.1 hk.1 _ hm)
def BO {d:aU}{x:bG}(h:iX d x=true):aW (aM d x.name).1=true/\aW (aM d x.I).1=true/\(0<=x.H/\x.H<=(aM d x.name).1.l - 1)/\(0<=x.B/\x.B<=(aM d x.I).1.l - 1):=by
 simp only[iX,aBB] at h;obtain⟨h1,h2,h3,h4⟩:=h;exact⟨(qQ h1).1,(qQ h2).1,eU h3,eU h4⟩
def WZ {d:aU}{x:bG}(h:iX d x=true):decide (AQ d x= [])=decide (HA d x= []):=by
 rw[AQ,if_pos h];apply Bool.eq_iff_iff.2;rw[aFI,aFI,NE];constructor
 ·intro q;have:=xX (HA d x);rw[q] at this;exact aDE this.symm
 intro q;have:=xX (HA d x);rw[q] at this;rw[q];exact aDE this
def Wa {d:aU}{x:bG}(h:iX d x=true):decide (AR d x= [])=decide (HA d x= []):=by
 obtain⟨h1,_,h3,_⟩:=BO h;rw[AR,if_pos h];apply Bool.eq_iff_iff.2;rw[aFI,aFI,rA,List.map_eq_nil_iff,List.filter_eq_nil_iff,HA,List.filter_eq_nil_iff];constructor
 ·intro q v hv hb;have hr:=WY h1 h3 hv;refine q v.toNat (aEt.2 aGR) ?_;rw[FC,Int.toNat_of_nonneg hr.1];simp only[aBB,aFI];exact⟨hv,hb⟩
 intro q v _ hb;rw[FC,aBB,aFI] at hb;exact q _ hb.1 hb.2
abbrev aHF(x:bG):Ar:=.agg [.str x.name,.int .i64 x.H,.str x.I,.int .i64 x.B]
abbrev zG (d:aU)(x:bG):Prop:=Cn 187 [.agg [.sl 155 3 (d.a.map aP)],aHF x] (vB (iX d x)) []
def J5 (d:aU)(x:bG)(hc:cC d<=1048576):zG d x:=by
 refine cq Tryz.func187 (.call (.tup [.agg [.p none (.str ((aM d x.name).1.name)),vI ((aM d x.name).1.l),.p none (.sl 51 1 ((aM d x.name).1.rows.map aD))],vB ((aM d x.name).2)]) []<| .call (.tup [.agg [.p none (.str ((aM d x.I).1.name)),vI ((aM d x.I).1.l),.p none (.sl 51 1 ((aM d x.I).1.rows.map aD))],vB ((aM d x.I).2)]) []<| .br (.lit<| .br (.raw<| .call (vB (eZ x.H (0:Int) (IntKind.i64.wrap (((aM d x.name).1.l) - 1)))) []<| .lit<| .br (.raw<| .call (vB (eZ x.B (0:Int) (IntKind.i64.wrap (((aM d x.I).1.l) - 1)))) []<| .fin []) (.fin [])) (.fin [])) (.fin [])) (p:=Lx (d.a.map aP)<| xK Tryz.prog 117 [.agg [.sl 155 3 (d.a.map aP)],.one (.str x.name)] (.tup [.agg [.p none (.str ((aM d x.name).1.name)),vI ((aM d x.name).1.l),.p none (.sl 51 1 ((aM d x.name).1.rows.map aD))],vB ((aM d x.name).2)]) []/\xK Tryz.prog 117 [.agg [.sl 155 3 (d.a.map aP)],.one (.str x.I)] (.tup [.agg [.p none (.str ((aM d x.I).1.name)),vI ((aM d x.I).1.l),.p none (.sl 51 1 ((aM d x.I).1.rows.map aD))],vB ((aM d x.I).2)]) []/\Bb ((aM d x.name).2) (Bb ((aM d x.I).2) (fX x.H (0:Int) (IntKind.i64.wrap (((aM d x.name).1.l) - 1))/\Bb (eZ x.H (0:Int) (IntKind.i64.wrap (((aM d x.name).1.l) - 1))) (fX x.B (0:Int) (IntKind.i64.wrap (((aM d x.I).1.l) - 1))/\(eZ x.B (0:Int) (IntKind.i64.wrap (((aM d x.I).1.l) - 1)))=(iX d x)/\True) ((false)=(iX d x)/\True)) ((false)=(iX d x)/\True)) ((false)=(iX d x)/\True)) ?_;refine lx fun n0=>?_;refine⟨lV (uX _ x.name aGR) rfl,lV (uX _ x.I aGR) rfl,db (fun g24=>?_) fun g24=>?_⟩
 ·have hT:=(qQ g24).1;have hA:=cJ hT;have hw:IntKind.i64.wrap ((aM d x.name).1.l - 1)=(aM d x.name).1.l - 1:=IntWalk.i64_in _ aGS
  try rw[hw]
  apply db<;>intro g27
  ·have hT2:=(qQ g27).1;have hA2:=cJ hT2;have hw2:IntKind.i64.wrap ((aM d x.I).1.l - 1)=(aM d x.I).1.l - 1:=IntWalk.i64_in _ aGS
   try rw[hw2]
   refine⟨kP _ _ _,db (fun g35=>?_) fun g35=>?_⟩
   ·refine⟨kP _ _ _,?_,trivial⟩
    ·(simp[iX, *];done)
   ·apply et1
    ·(simp[iX, *];done)
  ·apply et1
   ·(simp[iX, *];done)
 ·apply et1
  ·(simp[iX, *];done)
abbrev zH (d:aU)(x:bG):Prop:=Cn 141 [.agg [.sl 155 3 (d.a.map aP)],aHF x] (vB (iX d x)) []
def J6 (d:aU)(x:bG)(hc:cC d<=1048576):zH d x:=by
 refine cq Tryz.func141 (.call (.tup [.agg [.p none (.str ((aM d x.name).1.name)),vI ((aM d x.name).1.l),.p none (.sl 51 1 ((aM d x.name).1.rows.map aD))],vB ((aM d x.name).2)]) []<| .call (.tup [.agg [.p none (.str ((aM d x.I).1.name)),vI ((aM d x.I).1.l),.p none (.sl 51 1 ((aM d x.I).1.rows.map aD))],vB ((aM d x.I).2)]) []<| .br (.lit<| .br (.raw<| .call (vB (eZ x.H (0:Int) (IntKind.i64.wrap (((aM d x.name).1.l) - 1)))) []<| .lit<| .br (.raw<| .call (vB (eZ x.B (0:Int) (IntKind.i64.wrap (((aM d x.I).1.l) - 1)))) []<| .fin []) (.fin [])) (.fin [])) (.fin [])) (p:=Lx (d.a.map aP)<| xK Tryz.prog 167 [.agg [.sl 155 3 (d.a.map aP)],.one (.str x.name)] (.tup [.agg [.p none (.str ((aM d x.name).1.name)),vI ((aM d x.name).1.l),.p none (.sl 51 1 ((aM d x.name).1.rows.map aD))],vB ((aM d x.name).2)]) []/\xK Tryz.prog 167 [.agg [.sl 155 3 (d.a.map aP)],.one (.str x.I)] (.tup [.agg [.p none (.str ((aM d x.I).1.name)),vI ((aM d x.I).1.l),.p none (.sl 51 1 ((aM d x.I).1.rows.map aD))],vB ((aM d x.I).2)]) []/\Bb ((aM d x.name).2) (Bb ((aM d x.I).2) (fO x.H (0:Int) (IntKind.i64.wrap (((aM d x.name).1.l) - 1))/\Bb (eZ x.H (0:Int) (IntKind.i64.wrap (((aM d x.name).1.l) - 1))) (fO x.B (0:Int) (IntKind.i64.wrap (((aM d x.I).1.l) - 1))/\(eZ x.B (0:Int) (IntKind.i64.wrap (((aM d x.I).1.l) - 1)))=(iX d x)/\True) ((false)=(iX d x)/\True)) ((false)=(iX d x)/\True)) ((false)=(iX d x)/\True)) ?_;refine lx fun n0=>?_;refine⟨lV (uY _ x.name aGR) rfl,lV (uY _ x.I aGR) rfl,db (fun g24=>?_) fun g24=>?_⟩
 ·have hT:=(qQ g24).1;have hA:=cJ hT;have hw:IntKind.i64.wrap ((aM d x.name).1.l - 1)=(aM d x.name).1.l - 1:=IntWalk.i64_in _ aGS
  try rw[hw]
  apply db<;>intro g27
  ·have hT2:=(qQ g27).1;have hA2:=cJ hT2;have hw2:IntKind.i64.wrap ((aM d x.I).1.l - 1)=(aM d x.I).1.l - 1:=IntWalk.i64_in _ aGS
   try rw[hw2]
   refine⟨jV _ _ _,db (fun g35=>?_) fun g35=>?_⟩
   ·refine⟨jV _ _ _,?_,trivial⟩
    ·(simp[iX, *];done)
   ·apply et1
    ·(simp[iX, *];done)
  ·apply et1
   ·(simp[iX, *];done)
 ·apply et1
  ·(simp[iX, *];done)
def b4 (a b c d:Bool):Int:=(if a then 1 else 0)+(if b then 2 else 0)+(if c then 4 else 0)+(if d then 8 else 0)
def m4 (p:Nat->Bool):Int:=b4 (p 0) (p 1) (p 2) (p 3)
def lt4 {P:Nat->Prop}(h0:P 0)(h1:P 1)(h2:P 2)(h3:P 3){i:Nat}(hi:i<4):P i:=by
 have h:i=0\/i=1\/i=2\/i=3:=aGR
 rcases h with rfl | rfl | rfl | rfl<;>assumption
def aE4 (a b c d:Bool):gX (b4 a b c d) 0=a/\gX (b4 a b c d) 1=b/\gX (b4 a b c d) 2=c/\gX (b4 a b c d) 3=d:=by
 cases a<;>cases b<;>cases c<;>cases d<;>decide
def aE5 {p:Nat->Bool}{v:Nat}(hv:v<4):gX (m4 p) v=p v:=by
 have h:=aE4 (p 0) (p 1) (p 2) (p 3);exact lt4 (P:=fun v=>gX (m4 p) v=p v) h.1 h.2.1 h.2.2.1 h.2.2.2 hv
def ZH (a b c d:Bool):0<=b4 a b c d/\b4 a b c d<=15:=by cases a<;>cases b<;>cases c<;>cases d<;>decide
def ZI (p:Nat->Bool):0<=m4 p/\m4 p<=15:=ZH _ _ _ _
def aF1 (a b c d:Bool):cH .or .i64 (b4 a b c d) (1*2^0)=b4 true b c d/\cH .or .i64 (b4 a b c d) (1*2^1)=b4 a true c d/\cH .or .i64 (b4 a b c d) (1*2^2)=b4 a b true d/\cH .or .i64 (b4 a b c d) (1*2^3)=b4 a b c true:=by
 cases a<;>cases b<;>cases c<;>cases d<;>decide
def ZJ {p:Nat->Bool}{v:Nat}(hv:v<4):cH .or .i64 (m4 p) ((1:Int)*2^v)=m4 (fun i=>p i || decide (i=v)):=by
 have h:=aF1 (p 0) (p 1) (p 2) (p 3);refine lt4 (P:=fun v=>cH .or .i64 (m4 p) ((1:Int)*2^v)=m4 (fun i=>p i || decide (i=v))) ?_ ?_ ?_ ?_ hv
 ·simpa [m4] using h.1
 ·simpa [m4] using h.2.1
 ·simpa [m4] using h.2.2.1
 simpa [m4] using h.2.2.2
def aCD (a b c d:Bool):decide (b4 a b c d=1*2^(4:Int).toNat - 1)=(a&&(b&&(c&&(d&&true)))):=by cases a<;>cases b<;>cases c<;>cases d<;>decide
def aCE {p:Nat->Bool}{n:Int}(hn:1<=n/\n<=4)(hp: ∀i,n.toNat<=i->p i=false):decide (m4 p=1*2^n.toNat - 1)=(List.range n.toNat).all p:=by
 have h:n=1\/n=2\/n=3\/n=4:=aGR
 rcases h with rfl | rfl | rfl | rfl
 ·have h1:=hp 1 (by decide);have h2:=hp 2 (by decide);have h3:=hp 3 (by decide);simp only[m4,h1,h2,h3];show _=(List.range 1).all p;simp only[List.range,List.range.loop,List.all_cons,List.all_nil];cases p 0<;>decide
 ·have h2:=hp 2 (by decide);have h3:=hp 3 (by decide);simp only[m4,h2,h3];show _=(List.range 2).all p;simp only[List.range,List.range.loop,List.all_cons,List.all_nil];cases p 0<;>cases p 1<;>decide
 ·have h3:=hp 3 (by decide);simp only[m4,h3];show _=(List.range 3).all p;simp only[List.range,List.range.loop,List.all_cons,List.all_nil];cases p 0<;>cases p 1<;>cases p 2<;>decide
 simp only[m4];show _=(List.range 4).all p;simp only[List.range,List.range.loop,List.all_cons,List.all_nil];exact aCD _ _ _ _
def aE6 {m:Int}{v:Nat}(h:0<=m/\m<=15)(hv:v<4):cH .and .i64 (m/2^v) 1=if gX m v=true then 1 else 0:=by
 have h1:m=0\/m=1\/m=2\/m=3\/m=4\/m=5\/m=6\/m=7\/m=8\/m=9\/m=10\/m=11\/m=12\/m=13\/m=14\/m=15:=aGR
 refine lt4 (P:=fun v=>cH .and .i64 (m/2^v) 1=if gX m v=true then 1 else 0) ?_ ?_ ?_ ?_ hv<;>rcases h1 with rfl | rfl | rfl | rfl | rfl | rfl | rfl | rfl | rfl | rfl | rfl | rfl | rfl | rfl | rfl | rfl<;>decide
def IH {m:Int}{v:Nat}(h:cH .and .i64 (m/2^v) 1=1):gX m v=true:=by rw[gX,h];rfl
def GK {m:Int}{v:Nat}(h: ¬cH .and .i64 (m/2^v) 1=1):gX m v=false:=by rw[gX];simpa using h
def ZK {m:Int}{v:Nat}(h:0<=m/\m<=15)(hv:v<4):decide (cH .and .i64 (m/2^v) 1=0)= !gX m v:=by
 rw[aE6 h hv];cases gX m v<;>rfl
def gK (p:Nat->Bool)(k:Nat):Z:=((List.range k).filter p).map fun v:Nat=>(v:Int)
def uZ {p:Nat->Bool}{k:Nat}(h:p k=true):gK p (k+1)=gK p k++[(k:Int)]:=by
 rw[gK,List.range_succ,List.filter_append,aDM];simp[gK,h]
def wI {p:Nat->Bool}{k:Nat}(h:p k=false):gK p (k+1)=gK p k:=by
 rw[gK,List.range_succ,List.filter_append,aDM];simp[gK,h]
def vA (p:Nat->Bool)(k:Nat):(gK p k).length<=k:=by
 rw[gK,aAb];have:=(List.filter_sublist (l:=List.range k) (p:=p)).length_le;rw[List.length_range] at this;exact this
def TN {p q:Nat->Bool}{k:Nat}(h: ∀v,v<k->p v=q v):gK p k=gK q k:=by
 rw[gK,gK,List.filter_congr fun v hv=>h v (aEt.1 hv)]
def Q9 {p:Nat->Bool}{k:Nat}{x:Int}:x∈gK p k↔0<=x/\x.toNat<k/\p x.toNat=true:=by
 rw[gK,aE9];constructor
 ·rintro⟨v,hv,rfl⟩;rw[aGE,aEt] at hv;exact⟨aGR,by simpa using hv.1,by simpa using hv.2⟩
 rintro⟨h0,h1,h2⟩;exact⟨x.toNat,aGE.2 ⟨aEt.2 h1,h2⟩,aGR⟩
theorem J7 {p:Nat->Bool}{n:Nat}: ∀{k:Nat},n<=k->(∀v,n<=v->v<k->p v=false)->gK p k=gK p n
 | 0,h,_=>by rw[show n=0 by omega]
 | k+1,h,hp=>by
   by_cases e:n=k+1
   ·rw[e]
   rw[wI (hp k aGR aGR),J7 aGR fun v h1 h2=>hp v h1 aGR]
def oH (n:Int)(l:Z)(k:Nat):Bool:=eZ (l.getD k 0) 0 (n - 1)&& !decide (l.getD k 0∈l.take k)
def BP (n:Int)(l:Z):Bool:=(List.range l.length).all (oH n l)
def fS (n:Int)(a:cT):Bool:=hJ a.name&&(eZ (a.vars.length:Nat) 1 3&&BP n a.vars)
def H5 (l:List cT)(v:Nat):Bool:=l.any fun a=>decide ((v:Int)∈a.vars)
def bR (q:aV):Bool:=(eZ q.g 1 4&&eZ (q.k.length:Nat) 1 4)&&(q.k.all (fS q.g)&&(List.range q.g.toNat).all (H5 q.k))
def jQ (l:List cT)(k:Nat)(a:Z)(i v:Nat):Bool:=H5 (l.take k) v || decide ((v:Int)∈a.take i)
def J8 (l:List cT)(k:Nat)(a b:Z):jQ l k a 0=jQ l k b 0:=by funext v;simp[jQ]
def J9 {l:List cT}{k i:Nat}{a:Z}{x:Int}(h:a[i]? =some x)(hx:0<=x):(fun v=>jQ l k a i v || decide (v=x.toNat))=jQ l k a (i+1):=by
 funext v;rw[jQ,jQ,bW h,xY,Bool.or_assoc]
 congr 2
 exact decide_eq_decide.2 aGR
def Wb {l:List cT}{k:Nat}{a:cT}(h:l[k]? =some a)(v:Nat):H5 (l.take (k+1)) v=(H5 (l.take k) v || decide ((v:Int)∈a.vars)):=by
 rw[H5,bW h,List.any_append];simp[H5]
def KA {l:List cT}{k i:Nat}{a:cT}(h:l[k]? =some a)(hi:a.vars.length<=i)(b:Z):jQ l k a.vars i=jQ l (k+1) b 0:=by
 funext v;rw[jQ,jQ,Wb h,aCR hi];simp
def NF {l:List cT}{k:Nat}(hk:l.length<=k)(b:Z):jQ l k b 0=H5 l:=by
 funext v;rw[jQ,aCR hk];simp
def ZL {n v:Nat}(p:Nat->Bool):((List.range n).map p).set v true=(List.range n).map fun i=>p i || decide (i=v):=by
 apply List.ext_getElem?;intro i;rw[List.getElem?_set,aGB,aGB];by_cases hi:i<n
 ·rw[List.getElem?_range hi,aAb,List.length_range];by_cases e:v=i
  ·subst e;simp[hi]
  simp[e,show ¬i=v from fun q=>e q.symm]
 rw[show (List.range n)[i]? =none from List.getElem?_eq_none (by simp;omega)];by_cases e:v=i
 ·subst e;simp[hi]
 simp[e]
def ZM {n:Nat}(p:Nat->Bool):(!decide (false∈(List.range n).map p))=(List.range n).all p:=by
 apply Bool.eq_iff_iff.2;rw[Bool.not_eq_true',decide_eq_false_iff_not,aCS];constructor
 ·intro h x hx;cases e:p x with
  | true=>rfl
  | false=>exact absurd (aE9.2 ⟨x,hx,e⟩) h
 intro h hm;obtain⟨x,hx,e⟩:=aE9.1 hm;rw[h x hx] at e;cases e
def O5 {q:aV}(h:(eZ q.g 1 4&&eZ (q.k.length:Nat) 1 4)=false):bR q=false:=by rw[bR,h];rfl
def tB {q:aV}{k:Nat}{a:cT}(h:q.k[k]? =some a)(ha:fS q.g a=false):bR q=false:=by rw[bR,eT h ha];simp
def Uz {q:aV}(h:(eZ q.g 1 4&&eZ (q.k.length:Nat) 1 4)=true)(ha:q.k.all (fS q.g)=true):bR q=(List.range q.g.toNat).all (H5 q.k):=by rw[bR,h,ha];rfl
def Wc {n:Int}{l:Z}(h:BP n l=true){x:Int}(hx:x∈l):0<=x/\x<=n - 1:=by
 obtain⟨i,hi,rfl⟩:=List.mem_iff_getElem.1 hx;have:=aCS.1 h i (aEt.2 hi);simp only[oH,aBB] at this;have:=eU this.1
 rwa [aCz,aBP hi,Option.getD_some] at this
def nQ {n:Int}{a:cT}(h:fS n a=true):hJ a.name=true/\(1<=a.vars.length/\a.vars.length<=3)/\ ∀x∈a.vars,0<=x/\x<=n - 1:=by
 simp only[fS,aBB] at h;have h2:=eU h.2.1;exact⟨h.1,aGS,fun x hx=>Wc h.2.2 hx⟩
def eJ {q:aV}(h:bR q=true):(1<=q.g/\q.g<=4)/\(1<=q.k.length/\q.k.length<=4)/\ ∀a∈q.k,fS q.g a=true:=by
 simp only[bR,aBB] at h;have h1:=eU h.1.1;have h2:=eU h.1.2;exact⟨h1,aGS,fun a ha=>aCS.1 h.2.1 a ha⟩
def ZN {n:Int}{l:List cT}(h:l.all (fS n)=true)(h0:1<=n){v:Nat}(hv:n.toNat<=v):H5 l v=false:=by
 rw[H5,List.any_eq_false];intro a ha hm;have:=(nQ (aCS.1 h a ha)).2.2 v (by simpa using hm);omega
structure Cu where
 i:Nat
 h:Int
def RA (h:Int):Int:=IntKind.i64.wrap (IntKind.i64.wrap (h*6364136223846793005)+1442695040888963407)
def aCF (h:Int):Int:=cH .and .i64 (cH .xor .i64 (h/2^33) (h/2^45)) 255
def BQ (l:Z):Nat->Int
 | 0=>10101+(l.length:Int)
 | k+1=>cH .and .i64 (IntKind.i64.wrap (IntKind.i64.wrap (IntKind.i64.wrap (BQ l k*131)+IntKind.i64.wrap (l.getD k 0))+7)) 1073741823
def gL (l:Z):Cu:=⟨0,BQ l (min l.length 4000)⟩
def bJ (l:Z)(u:Cu):Int × Cu:=if (u.i:Int)<(l.length:Int) then (cH .and .i64 (IntKind.i64.wrap (aCF (RA u.h)+IntKind.i64.wrap (l.getD u.i 0))) 255,⟨u.i+1,RA u.h⟩) else (aCF (RA u.h),⟨u.i,RA u.h⟩)
def RB (m:Int)(k:Nat)(hk:k<=9223372036854775807):0<=cH .and .i64 m (k:Int)/\cH .and .i64 m (k:Int)<=(k:Int):=by
 have e2:(BitVec.ofInt 64 (k:Int)).toNat=k:=by simp;omega
 have hle:(BitVec.ofInt 64 m).toNat&&&k<=k:=Nat.and_le_right;unfold cH;show 0<=IntKind.i64.wrap ((BitVec.ofInt 64 m&&&BitVec.ofInt 64 (k:Int)).toNat:Nat)/\IntKind.i64.wrap ((BitVec.ofInt 64 m&&&BitVec.ofInt 64 (k:Int)).toNat:Nat)<=_;rw[BitVec.toNat_and,e2,IntWalk.i64_in _ aGS];omega
def aCG {l:Z}{k:Nat}{x:Int}(h:l[k]? =some x):BQ l (k+1)=cH .and .i64 (IntKind.i64.wrap (IntKind.i64.wrap (IntKind.i64.wrap (BQ l k*131)+IntKind.i64.wrap x)+7)) 1073741823:=by rw[BQ,aCz,h];rfl
def aCH {l:Z}{u:Cu}{x:Int}(h:(u.i:Int)<(l.length:Int))(hx:l[u.i]? =some x):bJ l u=(cH .and .i64 (IntKind.i64.wrap (aCF (RA u.h)+IntKind.i64.wrap x)) 255,⟨u.i+1,RA u.h⟩):=by
 rw[bJ,if_pos h,aCz,hx];rfl
def ZO {l:Z}{u:Cu}(h: ¬(u.i:Int)<(l.length:Int)):bJ l u=(aCF (RA u.h),⟨u.i,RA u.h⟩):=by rw[bJ,if_neg h]
def tC (l:Z)(u:Cu):0<=(bJ l u).1/\(bJ l u).1<=255:=by
 unfold bJ;split
 ·exact RB _ 255 (by decide)
 exact RB _ 255 (by decide)
def aC (l:Z)(u:Cu)(n:Int):Int × Cu:=
 if n<=0 then (0,u) else if n<=256 then (Int.tmod (bJ l u).1 n,(bJ l u).2) else
  (Int.tmod ((bJ l u).1*16777216+(bJ l (bJ l u).2).1*65536+(bJ l (bJ l (bJ l u).2).2).1*256+(bJ l (bJ l (bJ l (bJ l u).2).2).2).1) n,(bJ l (bJ l (bJ l (bJ l u).2).2).2).2)
def O6 {x n:Int}(hx:0<=x)(hn:0<n):0<=Int.tmod x n/\Int.tmod x n<n:=⟨Int.tmod_nonneg n hx,Int.tmod_lt_of_pos x hn⟩
def fB (l:Z)(u:Cu){n:Int}(hn:0<n):0<=(aC l u n).1/\(aC l u n).1<n:=by
 unfold aC;rw[if_neg aGR];have h1:=tC l u;have h2:=tC l (bJ l u).2;have h3:=tC l (bJ l (bJ l u).2).2;have h4:=tC l (bJ l (bJ l (bJ l u).2).2).2;split
 ·exact O6 aGR hn
 exact O6 aGR hn
def aCI (l:Z)(u:Cu){n:Int}(h:n<=0):aC l u n=(0,u):=by rw[aC,if_pos h]
def aCJ (l:Z)(u:Cu){n:Int}(h: ¬n<=0)(h2:n<=256):aC l u n=(Int.tmod (bJ l u).1 n,(bJ l u).2):=by rw[aC,if_neg h,if_pos h2]
def aCK (l:Z)(u:Cu){n:Int}(h: ¬n<=0)(h2: ¬n<=256):aC l u n=(Int.tmod ((bJ l u).1*16777216+(bJ l (bJ l u).2).1*65536+(bJ l (bJ l (bJ l u).2).2).1*256+(bJ l (bJ l (bJ l (bJ l u).2).2).2).1) n,(bJ l (bJ l (bJ l (bJ l u).2).2).2).2):=by rw[aC,if_neg h,if_neg h2]
def Lt {σ:Type}(f:σ->σ):Nat->σ->σ
 | 0,s=>s
 | k+1,s=>f (Lt f k s)
def mX (f:Cu->Int × Cu):Nat->Cu->Z × Cu
 | 0,u=>([],u)
 | k+1,u=>((mX f k u).1++[(f (mX f k u).2).1],(f (mX f k u).2).2)
theorem KB (f:Cu->Int × Cu)(u:Cu): ∀k,(mX f k u).1.length=k
 | 0=>rfl
 | k+1=>by rw[mX,aEh,KB f u k];rfl
abbrev qR (l:Z)(u:Cu):List AV × aGJ × AV × aGJ:=([.ptr 0 0],[(0,.box 102 [.p none (.sl 5 1 (l.map bQ)),vI (u.i:Int),vI u.h])],vI ((bJ l u).1),[(0,.box 102 [.p none (.sl 5 1 (l.map bQ)),vI (((bJ l u).2.i:Nat):Int),vI ((bJ l u).2.h)])])
abbrev xZ (l:Z)(u:Cu):Prop:=Cm 110 (qR l u).1 (qR l u).2.1 (qR l u).2.2.1 (qR l u).2.2.2
def KC (l:Z)(u:Cu)(hl:l.length<=1048576):xZ l u:=by
 refine Ls Tryz.func110 (.raw<| .raw<| .len l.length<| .br (.elem _ bQ l (fun e44=> .raw<| .raw<| .fin [(0,0)])) (.fin [(0,0)])) (p:=(0<=(33:Int)/\(33:Int)<=64)/\(0<=(45:Int)/\(45:Int)<=64)/\Lm bQ l/\Br ((u.i:Int)<(l.length:Int)) (0<=(u.i:Int)/\Em bQ l u.i fun e44=>bO ((u.i:Int)+1)/\(cH .and .i64 (IntKind.i64.wrap ((cH .and .i64 (cH .xor .i64 ((IntKind.i64.wrap ((IntKind.i64.wrap (u.h*6364136223846793005))+1442695040888963407))/2^33) ((IntKind.i64.wrap ((IntKind.i64.wrap (u.h*6364136223846793005))+1442695040888963407))/2^45)) (255:Int))+(IntKind.i64.wrap e44))) (255:Int))=((bJ l u).1)/\l.map bQ=l.map bQ/\((u.i:Int)+1)=(((bJ l u).2.i:Nat):Int)/\(IntKind.i64.wrap ((IntKind.i64.wrap (u.h*6364136223846793005))+1442695040888963407))=((bJ l u).2.h)/\True) ((cH .and .i64 (cH .xor .i64 ((IntKind.i64.wrap ((IntKind.i64.wrap (u.h*6364136223846793005))+1442695040888963407))/2^33) ((IntKind.i64.wrap ((IntKind.i64.wrap (u.h*6364136223846793005))+1442695040888963407))/2^45)) (255:Int))=((bJ l u).1)/\l.map bQ=l.map bQ/\(u.i:Int)=(((bJ l u).2.i:Nat):Int)/\(IntKind.i64.wrap ((IntKind.i64.wrap (u.h*6364136223846793005))+1442695040888963407))=((bJ l u).2.h)/\True)) ?_;refine⟨aGS,aGS,aAb _,dd (fun c0=>?_) fun c0=>?_⟩
 ·refine⟨aGR,rfl,aGR,fun e44 h44=>?_⟩;refine⟨aGS,?_,rfl,?_,?_,trivial⟩<;>((rw[aCH c0 h44]<;>rfl))
 ·refine⟨?_,rfl,?_,?_,trivial⟩<;>((rw[ZO c0]<;>rfl))
abbrev dX (l:Z)(u:Cu)(n:Int):List AV × aGJ × AV × aGJ:=([.ptr 0 0,vI n],[(0,.box 102 [.p none (.sl 5 1 (l.map bQ)),vI (u.i:Int),vI u.h])],vI ((aC l u n).1),[(0,.box 102 [.p none (.sl 5 1 (l.map bQ)),vI (((aC l u n).2.i:Nat):Int),vI ((aC l u n).2.h)])])
abbrev eQ (l:Z)(u:Cu)(n:Int):Prop:=Cm 69 (dX l u n).1 (dX l u n).2.1 (dX l u n).2.2.1 (dX l u n).2.2.2
abbrev aGH(l:Z)(u v:Cu)(p:Prop):Prop:=l.map bQ=l.map bQ/\((u.i:Nat):Int)=((v.i:Nat):Int)/\u.h=v.h/\p
abbrev aGI(l:Z)(u:Cu)(p:Prop):Prop:=l.map bQ=l.map bQ/\((u.i:Nat):Int)=((u.i:Nat):Int)/\u.h=u.h/\p
def hZ (l:Z)(u:Cu)(hl:l.length<=1048576)(n:Int):eQ l u n:=by
 refine Ls Tryz.func69 (.br (.fin [(0,0)]) (.br (bH (qR l u) [(0,0)]<| .fin [(0,0)]) (bH (qR l u) [(0,0)]<| bH (qR l ((bJ l u).2)) [(0,0)]<| bH (qR l ((bJ l ((bJ l u).2)).2)) [(0,0)]<| bH (qR l ((bJ l ((bJ l ((bJ l u).2)).2)).2)) [(0,0)]<| .fin [(0,0)]))) (p:=Br (n<=0) (0=((aC l u n).1)/\aGH l u ((aC l u n).2) (True)) (Br (n<=256) (xZ l u/\aGI l u (n≠0/\(Int.tmod ((bJ l u).1) n)=((aC l u n).1)/\aGH l ((bJ l u).2) ((aC l u n).2) (True))) (xZ l u/\aGI l u (xZ l ((bJ l u).2)/\aGI l ((bJ l u).2) (xZ l ((bJ l ((bJ l u).2)).2)/\aGI l ((bJ l ((bJ l u).2)).2) (xZ l ((bJ l ((bJ l ((bJ l u).2)).2)).2)/\aGI l ((bJ l ((bJ l ((bJ l u).2)).2)).2) (bO (((bJ l u).1)*16777216)/\bO (((bJ l ((bJ l u).2)).1)*65536)/\bO ((((bJ l u).1)*16777216)+(((bJ l ((bJ l u).2)).1)*65536))/\bO (((bJ l ((bJ l ((bJ l u).2)).2)).1)*256)/\bO (((((bJ l u).1)*16777216)+(((bJ l ((bJ l u).2)).1)*65536))+(((bJ l ((bJ l ((bJ l u).2)).2)).1)*256))/\bO ((((((bJ l u).1)*16777216)+(((bJ l ((bJ l u).2)).1)*65536))+(((bJ l ((bJ l ((bJ l u).2)).2)).1)*256))+((bJ l ((bJ l ((bJ l ((bJ l u).2)).2)).2)).1))/\n≠0/\(Int.tmod ((((((bJ l u).1)*16777216)+(((bJ l ((bJ l u).2)).1)*65536))+(((bJ l ((bJ l ((bJ l u).2)).2)).1)*256))+((bJ l ((bJ l ((bJ l ((bJ l u).2)).2)).2)).1)) n)=((aC l u n).1)/\aGH l ((bJ l ((bJ l ((bJ l ((bJ l u).2)).2)).2)).2) ((aC l u n).2) (True)))))))) ?_;have w1:=tC l u;have w2:=tC l (bJ l u).2;have w3:=tC l (bJ l (bJ l u).2).2;have w4:=tC l (bJ l (bJ l (bJ l u).2).2).2;apply dd<;>intro c0
 ·refine⟨?_,rfl,?_,?_,trivial⟩<;>((rw[aCI l u c0]<;>rfl))
 ·apply dd<;>intro c1
  ·refine⟨KC l u (by assumption),rfl,rfl,rfl,aGR,?_,rfl,?_,?_,trivial⟩<;>((rw[aCJ l u c0 c1]<;>rfl))
  ·refine⟨KC l u (by assumption),rfl,rfl,rfl,KC l ((bJ l u).2) (by assumption),rfl,rfl,rfl,KC l ((bJ l ((bJ l u).2)).2) (by assumption),rfl,rfl,rfl,KC l ((bJ l ((bJ l ((bJ l u).2)).2)).2) (by assumption),rfl,rfl,rfl,aGS,aGS,aGS,aGS,aGS,aGS,aGR,?_,rfl,?_,?_,trivial⟩<;>((rw[aCK l u c0 c1]<;>rfl))
abbrev iA (l:Z)(u:Cu)(n:Int):List AV × aGJ × AV × aGJ:=([.ptr 0 0,vI n],[(0,.box 102 [.p none (.sl 5 1 (l.map bQ)),vI (u.i:Int),vI u.h])],vB (decide ((aC l u n).1=0)),[(0,.box 102 [.p none (.sl 5 1 (l.map bQ)),vI (((aC l u n).2.i:Nat):Int),vI ((aC l u n).2.h)])])
abbrev jR (l:Z)(u:Cu)(n:Int):Prop:=Cm 31 (iA l u n).1 (iA l u n).2.1 (iA l u n).2.2.1 (iA l u n).2.2.2
def pI (l:Z)(u:Cu)(hl:l.length<=1048576)(n:Int):jR l u n:=by
 refine Ls Tryz.func31 (bH (dX l u n) [(0,0)]<| .fin [(0,0)]) (p:=eQ l u n/\n=n/\aGI l u ((decide (((aC l u n).1)=0))=(decide ((aC l u n).1=0))/\aGI l ((aC l u n).2) (True))) ?_;refine⟨hZ l u (by assumption) n,rfl,rfl,rfl,rfl,?_,rfl,rfl,rfl,trivial⟩
 ·rfl
def bZ (l:Z)(u:Cu)(xs:Z):Int × Cu:=(xs.getD (aC l u xs.length).1.toNat 0,(aC l u xs.length).2)
def aCL {l:Z}{u:Cu}{xs:Z}{x:Int}(h:xs[(aC l u xs.length).1.toNat]? =some x):bZ l u xs=(x,(aC l u xs.length).2):=by rw[bZ,aCz,h];rfl
def ZP (l:Z)(u:Cu){xs:Z}(h:0<xs.length):(bZ l u xs).1∈xs:=by
 have hb:=fB l u (n:=xs.length) aGR;have hlt:(aC l u xs.length).1.toNat<xs.length:=aGR
 rw[bZ,aCz,aBP hlt];exact aGF hlt
abbrev iK (l:Z)(u:Cu)(xs:Z):List AV × aGJ × AV × aGJ:=([.ptr 0 0,.own 1],[(0,.box 102 [.p none (.sl 5 1 (l.map bQ)),vI (u.i:Int),vI u.h]),(1,.arr 3 1 true (xs.map intD))],vI ((bZ l u xs).1),[(0,.box 102 [.p none (.sl 5 1 (l.map bQ)),vI (((bZ l u xs).2.i:Nat):Int),vI ((bZ l u xs).2.h)])])
abbrev kK (l:Z)(u:Cu)(xs:Z):Prop:=Cm 71 (iK l u xs).1 (iK l u xs).2.1 (iK l u xs).2.2.1 (iK l u xs).2.2.2
def qS (l:Z)(u:Cu)(hl:l.length<=1048576)(xs:Z)(hx:0<xs.length):kK l u xs:=by
 refine Ls Tryz.func71 (.len xs.length<| bH (dX l u (xs.length:Int)) [(0,0)]<| .len xs.length<| .elem _ intD xs (fun e11=> .fin [(0,0)])) (p:=Lm intD xs/\eQ l u (xs.length:Int)/\(xs.length:Int)=(xs.length:Int)/\aGI l u (0<=((aC l u (xs.length:Int)).1)/\Lm intD xs/\((aC l u (xs.length:Int)).1)<(xs.length:Int)/\Em intD xs (((aC l u (xs.length:Int)).1).toNat) fun e11=>e11=((bZ l u xs).1)/\aGH l ((aC l u (xs.length:Int)).2) ((bZ l u xs).2) (True))) ?_;have hb:=fB l u (n:=xs.length) aGR;refine⟨aAb _,hZ l u (by assumption) (xs.length:Int),rfl,rfl,rfl,rfl,aGR,aAb _,aGR,rfl,aGR,fun e11 h11=>?_⟩;refine⟨?_,rfl,?_,?_,trivial⟩<;>(first|rfl|(rw[aCL (by assumption)]<;>rfl))
abbrev FD (l:Z):List AV × aGJ × AV × aGJ:=([.p none (.sl 5 1 (l.map bQ))],[],.ptr 0 0,[(0,.box 102 [.p none (.sl 5 1 (l.map bQ)),vI (((gL l).i:Nat):Int),vI ((gL l).h)])])
abbrev U0 (l:Z):Prop:=Cm 29 (FD l).1 (FD l).2.1 (FD l).2.2.1 (FD l).2.2.2
def aF2 (l:Z)(hl:l.length<=1048576):U0 l:=by
 refine Ls Tryz.func29 (.len l.length<| .loop Nat (Q1 Nat) ([3,4]++rg 8 20) [] (fun k=>[(4,vI (k:Int)),(3,vI (BQ l k))]) (fun k=>[]) (fun k=>k<=l.length/\k<=4000) (fun k=>4000 - k) (fun k=> .len l.length<| .br (aGQ<| .br (.raw<| .elem _ bQ l (fun e22=> .raw<| .raw<| .raw<| .back [])) (.fin [(0,3100)])) (.fin [(0,3100)]))) (p:=Lm bQ l/\(bO ((10101:Int)+(l.length:Int))/\((∃(k:Nat),0=(k:Int)/\((10101:Int)+(l.length:Int))=(BQ l k)/\k<=l.length/\k<=4000)/\ ∀(k:Nat),(k<=l.length/\k<=4000)->Lm bQ l/\Br ((k:Int)<(l.length:Int)) (Br ((k:Int)<4000) (0<=(k:Int)/\Em bQ l k fun e22=>bO ((k:Int)+1)/\ ∃(k' :Nat),((k:Int)+1)=(k' :Int)/\(cH .and .i64 (IntKind.i64.wrap ((IntKind.i64.wrap ((IntKind.i64.wrap ((BQ l k)*131))+(IntKind.i64.wrap e22)))+7)) (1073741823:Int))=(BQ l k')/\(k' <=l.length/\k' <=4000)/\4000 - k' <4000 - k) (l.map bQ=l.map bQ/\0=(((gL l).i:Nat):Int)/\(BQ l k)=((gL l).h)/\True)) (l.map bQ=l.map bQ/\0=(((gL l).i:Nat):Int)/\(BQ l k)=((gL l).h)/\True)))) ?_;refine⟨aAb _,aGS,⟨0,(by rfl),(by rfl),aBC _,aBC _⟩,fun k ⟨hk,hk2⟩=>?_⟩;refine⟨aAb _,dd (fun g12=>?_) fun g12=>?_⟩
 ·apply dd<;>intro c0
  ·refine⟨aGR,rfl,aGR,fun e22 h22=>?_⟩;refine⟨aGS,?_⟩;exact⟨k+1,(by rfl),(by (rw[aCG h22];done)),aGS,aGR⟩
  ·refine⟨rfl,?_,?_,trivial⟩<;>(first|rfl|(rw[gL,show min l.length 4000=k by omega]<;>rfl))
 ·refine⟨rfl,?_,?_,trivial⟩<;>(first|rfl|(rw[gL,show min l.length 4000=k by omega]<;>rfl))
def ZQ (x:Int):Prop:=0<=x/\x<=255
def TO {n:Int}(h:(Lit.int .u8 n).wf=true):ZQ n:=by
 simp[Lit.wf,IntKind.min,IntKind.max,IntKind.bits,IntKind.signed] at h;exact aGS
def TP (l:Z):Prop:= ∀x∈l,ZQ x
def ZR:Rd Int:=fun _ cs n=>cs= [.int .u8 n]/\ZQ n
def Wd {H:Type}{enc:TypeId × Value->H}{P:Program}{w:World}{base:Nat}{spare:Nat->Bool}{held:Bool}{t:TypeId}{fuel:Nat}{cs:List Value}{x:DataW H × List MemPlace}(ht:P.underlying t=some (.int .u8))(h:DataW.trod enc P w base spare held fuel t cs=some x): ∃n,ZR w cs n:=by
 obtain⟨n,rfl,_,hw⟩:=DataW.trod_int ht h;exact⟨n,rfl,TO hw⟩
def RByteS:Rd Z:=fun w cs l=>oL (Lv w) w [.sl 5 1 (l.map bQ)] cs/\TP l
def openByteS {H:Type}{enc:TypeId × Value->H}{w:World}{base:Nat}{spare:Nat->Bool}{held:Bool}{fuel:Nat}{cs:List Value}{x:DataW H × List MemPlace}(h:DataW.trod enc Tryz.prog w base spare held fuel 22 cs=some x): ∃l,RByteS w cs l:=by
 obtain⟨l,hl⟩:=Sg (k:=1) (R:=ZR) Tryz.underlying22 (by kernel_rfl) aGR (fun _ _ _ h=>Wd Tryz.underlying5 h) h;have hf:TP l:=hl.all_ (fun _ _ _ h=>h.2);obtain⟨A,c,rfl,_⟩:=id hl;exact⟨l,P5 (X8 (R:=ZR) (enc:=bQ) (fun cs x h=>by obtain⟨rfl,_⟩:=h;exact P5 aBO US) hl) US,hf⟩
abbrev NG (l:Z):Prop:=Cn 4 [.one (.sl 5 1 (l.map bQ))] (vB (decide (1048576<(l.length:Int)))) []
def aCM (l:Z):NG l:=by
 refine cq Tryz.func4 (.len l.length<| .fin []) (p:=Lx (l.map bQ)<| Lm bQ l/\(decide (1048576<(l.length:Int)))=(decide (1048576<(l.length:Int)))/\True) ?_;refine lx fun n0=>?_;refine⟨aAb _,?_,trivial⟩
 ·rfl
def oE (l:Z)(val:Int)(c:Cu):Int × Cu:=aC l c val
def dT (l:Z)(u:Cu)(xs:List E):E × Cu:=(xs.getD (aC l u xs.length).1.toNat ⟨#[]⟩,(aC l u xs.length).2)
def ZS {l:Z}{u:Cu}{xs:List E}{x:E}(h:xs[(aC l u xs.length).1.toNat]? =some x):dT l u xs=(x,(aC l u xs.length).2):=by rw[dT,aCz,h];rfl
def GL (l:Z)(u:Cu){xs:List E}(h:0<xs.length):(dT l u xs).1∈xs:=by
 have hb:=fB l u (n:=xs.length) aGR;have hlt:(aC l u xs.length).1.toNat<xs.length:=aGR
 rw[dT,aCz,aBP hlt];exact aGF hlt
def rS (l:Z)(u:Cu){xs:List E}{m:Nat}(h:0<xs.length)(hs: ∀x∈xs,x.size<=m):(dT l u xs).1.size<=m:=hs _ (GL l u h)
structure TS where
 rows:List Z
 cu:Cu
def TQ (l:Z)(ar:Nat)(val:Int)(s:TS):TS:=⟨mP (mX (oE l val) ar s.cu).1 s.rows,(mX (oE l val) ar s.cu).2⟩
theorem RC (l:Z)(ar:Nat)(val:Int)(s:TS): ∀j,(Lt (TQ l ar val) j s).rows.length<=s.rows.length+j
 | 0=>aFC _
 | j+1=>by
   have h:=RC l ar val s j;have h2:=Jj (row:=(mX (oE l val) ar (Lt (TQ l ar val) j s).cu).1) (xs:=(Lt (TQ l ar val) j s).rows);rw[Lt,TQ]
   dsimp only
   omega
theorem RD {l:Z}{ar m:Nat}(hm:ar<=m){val:Int}{s:TS}(hs: ∀r∈s.rows,r.length<=m): ∀j,∀r∈(Lt (TQ l ar val) j s).rows,r.length<=m
 | 0,r,hr=>hs r hr
 | j+1,r,hr=>by
   rw[Lt,TQ] at hr;rcases E7.1 hr with rfl | hr
   ·rw[KB];exact hm
   exact RD hm hs j r hr
def iL (l:Z)(u:Cu)(ar:Nat)(most val:Int)(j:Nat):TS:=Lt (TQ l ar val) j ⟨[],(aC l u (most+1)).2⟩
def aE7 (l:Z)(u:Cu)(ar:Nat)(most val:Int):TS:=iL l u ar most val (aC l u (most+1)).1.toNat
def fN (l:Z)(u:Cu)(nm:E)(ar most val:Int):aX × Cu:=(⟨nm,ar,(aE7 l u ar.toNat most val).rows⟩,(aE7 l u ar.toNat most val).cu)
def KD (l:Z)(u:Cu)(ar:Nat)(most val:Int)(j:Nat):(iL l u ar most val j).rows.length<=j:=by
 have h:=RC l ar val ⟨[],(aC l u (most+1)).2⟩ j;simpa [iL] using h
def TR (l:Z)(u:Cu){ar:Nat}(har:ar<=3)(most val:Int){j:Nat}(hj:j<=8):dG (iL l u ar most val j).rows<=32:=by
 have h1:=KD l u ar most val j;have h2:=yX (l:=(iL l u ar most val j).rows) (m:=3) (RD har (by simp) j);omega
def II (l:Z)(u:Cu)(nm:E)(ar:Int){most:Int}(h0:0<=most)(val:Int):((fN l u nm ar most val).1.rows.length:Int)<=most:=by
 have h1:=KD l u ar.toNat most val (aC l u (most+1)).1.toNat;have h2:=fB l u (n:=most+1) aGR;show ((iL l u ar.toNat most val (aC l u (most+1)).1.toNat).rows.length:Int)<=most;omega
def ZT (l:Z)(u:Cu)(nm:E){ar:Int}(har:ar<=3){most:Int}(h0:0<=most)(h8:most<=8)(val:Int):kT (fN l u nm ar most val).1<=nm.size+32:=by
 have h2:=fB l u (n:=most+1) aGR;have h3:=TR l u (ar:=ar.toNat) aGR most val (j:=(aC l u (most+1)).1.toNat) aGR;show nm.size+dG (iL l u ar.toNat most val (aC l u (most+1)).1.toNat).rows<=nm.size+32;omega
theorem yA {α:Type}{c:α->Nat}{m:Nat}: ∀{l:List α},(∀x∈l,c x<=m)->qG c l<=l.length+l.length*m
 | [],_=>by simp[qG]
 | x::l,h=>by
   have h1:=yA (l:=l) (fun y hy=>h y (aFR _ hy));have h2:=h x aFQ;simp only[qG,aDH,List.sum_cons,aEb,Nat.add_mul,Nat.one_mul] at h1 ⊢;omega
def Cb {α:Type}(c:α->Nat)(l:List α)(x:α):qG c (l++[x])=qG c l+1+c x:=by
 simp only[qG,aEh,aEb,List.length_nil,aDM,aDH,List.map_nil,List.sum_append,List.sum_cons,List.sum_nil];omega
def vC {α:Type}(l:List α)(i:Nat)(f:α->α):List α:=match l[i]? with | some e=>l.set i (f e) | none=>l
def FE {α:Type}{l:List α}{i:Nat}{f:α->α}{e:α}(h:l[i]? =some e):vC l i f=l.set i (f e):=by rw[vC,h]
def We {α:Type}(l:List α)(i:Nat)(f:α->α):(vC l i f).length=l.length:=by unfold vC;split;exact aDF;rfl
def Wf {α:Type}{l:List α}{i:Nat}{f:α->α}{p:α->Prop}(hl: ∀x∈l,p x)(hf: ∀x,p x->p (f x)): ∀x∈vC l i f,p x:=by
 unfold vC;split
 ·rename_i e he;intro x hx;rcases List.mem_or_eq_of_mem_set hx with h | rfl
  ·exact hl x h
  exact hf _ (hl _ (aBD he))
 exact hl
def GM:List E:=[⟨#[114]⟩,⟨#[115]⟩,⟨#[116]⟩,⟨#[117]⟩,⟨#[118]⟩]
def arN (n:E):Int:=if n=⟨#[118]⟩ then 1 else if n=⟨#[117]⟩ then 3 else 2
def aCN (n:E):1<=arN n/\arN n<=3:=by unfold arN;split;omega;split;omega;omega
theorem KE: ∀k,(GM.getD k ⟨#[]⟩).size<=1
 | 0 | 1 | 2 | 3 | 4=>aFC _
 | _+5=>aBC _
structure DS where
 tabs:List aX
 cu:Cu
def dbG (l:Z)(most val:Int)(n:E)(s:DS):DS:=⟨s.tabs++[(fN l s.cu n (arN n) most val).1],(fN l s.cu n (arN n) most val).2⟩
def dbP (l:Z)(most val:Int):Nat->DS->DS
 | 0,s=>s
 | k+1,s=>dbG l most val (GM.getD k ⟨#[]⟩) (dbP l most val k s)
theorem U1 (l:Z)(most val:Int)(s:DS): ∀k,(dbP l most val k s).tabs.length=s.tabs.length+k
 | 0=>rfl
 | k+1=>by
   have h:=U1 l most val s k;rw[dbP,dbG];simp only[aEh,aEb,List.length_nil];omega
theorem U2 {l:Z}{most val:Int}(h0:0<=most)(h8:most<=8){s:DS}(hs: ∀t∈s.tabs,kT t<=33/\t.rows.length<=8): ∀k,∀t∈(dbP l most val k s).tabs,kT t<=33/\t.rows.length<=8
 | 0,t,ht=>hs t ht
 | k+1,t,ht=>by
   rw[dbP,dbG] at ht;rcases aCy.1 ht with ht | ht
   ·exact U2 h0 h8 hs k t ht
   rw[aFU.1 ht];have h1:=ZT l (dbP l most val k s).cu (GM.getD k ⟨#[]⟩) (ar:=arN (GM.getD k ⟨#[]⟩)) (aCN _).2 h0 h8 val;have h2:=II l (dbP l most val k s).cu (GM.getD k ⟨#[]⟩) (arN (GM.getD k ⟨#[]⟩)) h0 val;have h3:=KE k;exact aGS
def nJ (l:Z)(u:Cu):Int × Cu:=bZ l u [2,3,4,6]
def oF (l:Z)(u:Cu):Int × Cu:=bZ l (nJ l u).2 [2,4,6,8]
def eY (l:Z)(u:Cu)(k:Nat):DS:=dbP l (oF l u).1 (nJ l u).1 k ⟨[],(oF l u).2⟩
def noR (t:aX):aX:=⟨t.name,t.l,[]⟩
def dbI (l:Z)(u:Cu):Int × Cu:=aC l (aC l (eY l u 5).cu 8).2 5
def iP (l:Z)(u:Cu):aU × Cu:=if (aC l (eY l u 5).cu 8).1=0 then (⟨vC (eY l u 5).tabs (dbI l u).1.toNat noR⟩,(dbI l u).2) else (⟨(eY l u 5).tabs⟩,(aC l (eY l u 5).cu 8).2)
def U3 (l:Z)(u:Cu):0<=(oF l u).1/\(oF l u).1<=8:=by
 have h:=ZP l (nJ l u).2 (xs:=[2,4,6,8]) (by decide);have e:(oF l u).1=(bZ l (nJ l u).2 [2,4,6,8]).1:=rfl;rw[e];simp only[aDr,List.not_mem_nil,or_false] at h;omega
def O7 (l:Z)(u:Cu)(k:Nat):(∀t∈(eY l u k).tabs,kT t<=33/\t.rows.length<=8)/\(eY l u k).tabs.length=k:=by
 have h:=U3 l u;exact⟨U2 h.1 h.2 (by simp) k,by rw[eY,U1];exact Nat.zero_add k⟩
def O8 (l:Z)(u:Cu):(∀t∈(iP l u).1.a,kT t<=33/\t.rows.length<=8)/\(iP l u).1.a.length=5:=by
 have h:=O7 l u 5;unfold iP;split
 ·refine⟨Wf h.1 fun t ht=>?_,by rw[<-h.2];exact We _ _ _⟩;have e:kT t=t.name.size+dG t.rows:=rfl;have e2:kT (noR t)=t.name.size+dG []:=rfl;have e3:dG []=0:=rfl;exact⟨aGR,aBC _⟩
 exact h
def aDC (l:Z)(u:Cu):cC (iP l u).1<=170:=by
 have h:=O8 l u;have h2:=yA (c:=kT) (fun t ht=>(h.1 t ht).1);rw[h.2] at h2;exact h2
def NH (l:Z)(u:Cu):E × Cu:=dT l u [⟨#[114]⟩,⟨#[115]⟩,⟨#[116]⟩]
def HB (l:Z)(u:Cu):Int × Cu:=aC l (NH l u).2 3
def rU (l:Z)(u:Cu):aX × Cu:=fN l (HB l u).2 (NH l u).1 (1+(HB l u).1) 6 4
def qX (l:Z)(u:Cu):Int × Cu:=aC l (rU l u).2 12
def wJ (l:Z)(u:Cu):aX × Cu:=
 if (qX l u).1=0 then (⟨(dT l (qX l u).2 [⟨#[]⟩,⟨#[82]⟩,⟨#[114,115]⟩,⟨#[122]⟩]).1,(rU l u).1.l,(rU l u).1.rows⟩,(dT l (qX l u).2 [⟨#[]⟩,⟨#[82]⟩,⟨#[114,115]⟩,⟨#[122]⟩]).2)
 else if (qX l u).1=1 then (⟨(rU l u).1.name,(bZ l (qX l u).2 [0,4,-1]).1,(rU l u).1.rows⟩,(bZ l (qX l u).2 [0,4,-1]).2)
 else if (qX l u).1=2 then (⟨(rU l u).1.name,(rU l u).1.l,(rU l u).1.rows++[[0]]⟩,(qX l u).2)
 else if (qX l u).1=3 then (⟨(rU l u).1.name,(rU l u).1.l,(rU l u).1.rows++[[9,9,10]]⟩,(qX l u).2)
 else ((rU l u).1,(qX l u).2)
def FF (l:List Z)(r:Z):dG (l++[r])=dG l+1+r.length:=by
 simp only[dG,qG,aEh,aEb,List.length_nil,aDM,aDH,List.map_nil,List.sum_append,List.sum_cons,List.sum_nil];show _+1+(_+(r.length+0))=_;omega
def aDD (l:Z)(u:Cu):(rU l u).1.name.size<=1/\dG (rU l u).1.rows<=32/\(rU l u).1.rows.length<=6:=by
 have h1:(NH l u).1.size<=1:=rS l u (by decide) (by decide);have h2:=fB l (NH l u).2 (n:=3) aGR;have h3:=fB l (HB l u).2 (n:=6+1) aGR;have h4:=TR l (HB l u).2 (ar:=(1+(HB l u).1).toNat) (by have e:(HB l u).1=(aC l (NH l u).2 3).1:=rfl;omega) 6 4 (j:=(aC l (HB l u).2 (6+1)).1.toNat) aGR;have h5:=II l (HB l u).2 (NH l u).1 (1+(HB l u).1) (most:=6) aGR 4;exact⟨h1,h4,by have e:(rU l u).1=(fN l (HB l u).2 (NH l u).1 (1+(HB l u).1) 6 4).1:=rfl;rw[e];omega⟩
def aF3 (l:Z)(u:Cu):kT (wJ l u).1<=40/\(wJ l u).1.rows.length<=8:=by
 have h:=aDD l u;have hs:(dT l (qX l u).2 [⟨#[]⟩,⟨#[82]⟩,⟨#[114,115]⟩,⟨#[122]⟩]).1.size<=2:=rS l _ (by decide) (by decide);have e: ∀t:aX,kT t=t.name.size+dG t.rows:=fun _=>rfl;unfold wJ;split
 ·rw[e];dsimp only;omega
 split
 ·rw[e];dsimp only;omega
 split
 ·rw[e];dsimp only;rw[FF,aEh];simp only[aEb,List.length_nil];omega
 split
 ·rw[e];dsimp only;rw[FF,aEh];simp only[aEb,List.length_nil];omega
 rw[e];dsimp only;omega
def azL:List E:=[⟨#[97]⟩,⟨#[119]⟩,⟨#[122]⟩]
def kV (l:Z)(u:Cu):Int × Cu:=aC l (iP l u).2 10
def Dn (l:Z)(u:Cu):aX × Cu:=wJ l (kV l u).2
def daN (l:Z)(u:Cu):E × Cu:=dT l (kV l u).2 azL
def daX (l:Z)(u:Cu):aX × Cu:=fN l (daN l u).2 (daN l u).1 2 4 3
def RE (l:Z)(u:Cu):aX × Cu:=fN l (kV l u).2 ⟨#[119]⟩ 1 2 3
def Wg (l:Z)(u:Cu):aX × Cu:=fN l (RE l u).2 ⟨#[120]⟩ 1 2 3
def yM (l:Z)(u:Cu):aU × Cu:=
 if (kV l u).1=0 then (⟨(iP l u).1.a.set (aC l (Dn l u).2 5).1.toNat (Dn l u).1⟩,(aC l (Dn l u).2 5).2)
 else if (kV l u).1=1 then (⟨(iP l u).1.a++[(daX l u).1]⟩,(daX l u).2)
 else if (kV l u).1=2 then (⟨(iP l u).1.a.drop (aC l (kV l u).2 5).1.toNat⟩,(aC l (kV l u).2 5).2)
 else if (kV l u).1=3 then (⟨(iP l u).1.a++[(RE l u).1,(Wg l u).1]⟩,(Wg l u).2)
 else ((iP l u).1,(kV l u).2)
def aCP (l:Z)(u:Cu):(∀t∈(yM l u).1.a,kT t<=40/\t.rows.length<=8)/\(yM l u).1.a.length<=7:=by
 have h:=O8 l u;have hw: ∀t∈(iP l u).1.a,kT t<=40/\t.rows.length<=8:=fun t ht=>⟨by have:=h.1 t ht;omega,(h.1 t ht).2⟩
 have hx:kT (daX l u).1<=40/\(daX l u).1.rows.length<=8:=by
  have h1:(daN l u).1.size<=1:=rS l _ (by decide) (by decide);have h2:=ZT l (daN l u).2 (daN l u).1 (ar:=2) aGR (most:=4) aGR aGR 3;have h3:=II l (daN l u).2 (daN l u).1 2 (most:=4) aGR 3;exact⟨by rw[daX];omega,by rw[daX];omega⟩
 have hy: ∀(c:Cu) (n:E),n.size<=1->kT (fN l c n 1 2 3).1<=40/\(fN l c n 1 2 3).1.rows.length<=8:=fun c n hn=>by
  have h2:=ZT l c n (ar:=1) aGR (most:=2) aGR aGR 3;have h3:=II l c n 1 (most:=2) aGR 3;exact aGS
 unfold yM;split
 ·refine⟨fun t ht=>?_,by rw[aDF];omega⟩;rcases List.mem_or_eq_of_mem_set ht with ht | rfl
  ·exact hw t ht
  exact aF3 l _
 split
 ·refine⟨fun t ht=>?_,by simp only[aEh,aEb,List.length_nil];omega⟩;rcases aCy.1 ht with ht | ht
  ·exact hw t ht
  rw[aFU.1 ht];exact hx
 split
 ·exact⟨fun t ht=>hw t (List.mem_of_mem_drop ht),by rw[aF6];omega⟩
 split
 ·refine⟨fun t ht=>?_,by simp only[aEh,aEb,List.length_nil];omega⟩;rcases aCy.1 ht with ht | ht
  ·exact hw t ht
  rcases aDr.1 ht with rfl | ht
  ·exact hy _ _ (aFC _)
  rw[aFU.1 ht];exact hy _ _ (aFC _)
 exact⟨hw,by dsimp only;omega⟩
def aF4 (l:Z)(u:Cu):cC (yM l u).1<=300:=by
 have h:=aCP l u;have h2:=yA (c:=kT) (fun t ht=>(h.1 t ht).1);show qG kT (yM l u).1.a<=300;omega
def TT:Z:=[2,2,2,3,1]
theorem FG: ∀k,TT.getD k 0<=3
 | 0 | 1 | 2 | 3 | 4=>by decide
 | _+5=>by show (0:Int)<=3;omega
def ZU (l:Z)(dt:Int)(i:Nat)(s:Z × Cu):Z × Cu:=if (i:Int)=dt then s else if (aC l s.2 2).1=0 then (s.1++[(i:Int)],(aC l s.2 2).2) else (s.1,(aC l s.2 2).2)
def cX (l:Z)(dt:Int):Nat->Z × Cu->Z × Cu
 | 0,s=>s
 | i+1,s=>ZU l dt i (cX l dt i s)
theorem KF (l:Z)(dt:Int)(s:Z × Cu): ∀i,(cX l dt i s).1.length<=s.1.length+i
 | 0=>aFC _
 | i+1=>by
   have h:=KF l dt s i;rw[cX,ZU];split
   ·omega
   split
   ·simp only[aEh,aEb,List.length_nil];omega
   dsimp only;omega
def cW (l:Z)(u:Cu):Int × Cu:=aC l u 5
def deM (l:Z)(u:Cu):Int:=TT.getD (cW l u).1.toNat 0
def ZV (l:Z)(u:Cu):Int × Cu:=aC l (cW l u).2 (deM l u)
def deL (l:Z)(u:Cu):Z × Cu:=cX l (ZV l u).1 (deM l u).toNat ([],(ZV l u).2)
def KG (l:Z)(u:Cu):Int × Cu:=aC l (deL l u).2 14
def ZW (l:Z)(u:Cu):Int × Cu:=if (KG l u).1=0 then bZ l (KG l u).2 [-1,3,0] else ((ZV l u).1,(KG l u).2)
def deQ (l:Z)(u:Cu):Int × Cu:=aC l (ZW l u).2 16
def deN (l:Z)(u:Cu):E:=GM.getD (cW l u).1.toNat ⟨#[]⟩
def fJ (l:Z)(u:Cu):bB × Cu:=
 if (deQ l u).1=0 then (⟨deN l u,(deL l u).1++[(bZ l (deQ l u).2 [-1,0,3,9223372036854775807]).1],(ZW l u).1⟩,(bZ l (deQ l u).2 [-1,0,3,9223372036854775807]).2)
 else (⟨deN l u,(deL l u).1,(ZW l u).1⟩,(deQ l u).2)
def TU (l:Z)(u:Cu):jY (fJ l u).1<=5:=by
 have h:=KF l (ZV l u).1 ([],(ZV l u).2) (deM l u).toNat;have h2:=FG (cW l u).1.toNat;have h3:(deN l u).size<=1:=KE _;have e: ∀f:bB,jY f=f.name.size+f.src.length:=fun _=>rfl;have e2:deM l u=TT.getD (cW l u).1.toNat 0:=rfl;have e3:(deL l u).1=(cX l (ZV l u).1 (deM l u).toNat ([],(ZV l u).2)).1:=rfl;simp only[List.length_nil] at h;unfold fJ;split
 ·rw[e];dsimp only;simp only[aEh,aEb,List.length_nil];rw[e3];omega
 rw[e];dsimp only;rw[e3];omega
def IJ (l:Z)(u:Cu):E × Cu:=dT l u GM
def Xi (l:Z)(u:Cu):Int × Cu:=aC l (IJ l u).2 2
def GN (l:Z)(u:Cu):E × Cu:=dT l (Xi l u).2 GM
def Ab (l:Z)(u:Cu):Int × Cu:=aC l (GN l u).2 2
def gV (l:Z)(u:Cu):Int × Cu:=aC l (Ab l u).2 14
def DC (n:E)(x:Int):Int:=if n=⟨#[118]⟩ then 0 else x
def eD (l:Z)(u:Cu):bG × Cu:=
 if (gV l u).1=0 then (⟨(IJ l u).1,(bZ l (gV l u).2 [-1,3]).1,(GN l u).1,DC (GN l u).1 (Ab l u).1⟩,(bZ l (gV l u).2 [-1,3]).2)
 else (⟨(IJ l u).1,DC (IJ l u).1 (Xi l u).1,(GN l u).1,DC (GN l u).1 (Ab l u).1⟩,(gV l u).2)
def TV (l:Z)(u:Cu):nN (eD l u).1<=2:=by
 have h1:(IJ l u).1.size<=1:=rS l u (by decide) (by decide);have h2:(GN l u).1.size<=1:=rS l _ (by decide) (by decide);have e: ∀x:bG,nN x=x.name.size+x.I.size:=fun _=>rfl;unfold eD;split
 ·rw[e];dsimp only;omega
 rw[e];dsimp only;omega
structure CS where
 out:List E
 fr:Nat
def mB (c:Int)(s:E):Nat->CS
 | 0=>⟨[],0⟩
 | i+1=>if rH s i=c then ⟨(mB c s i).out++[s.extract (mB c s i).fr i],i+1⟩ else mB c s i
def bI (c:Int)(s:E):List E:=(mB c s s.size).out++[s.extract (mB c s s.size).fr s.size]
def ZX {c:Int}{s:E}{i:Nat}(h:rH s i=c):mB c s (i+1)=⟨(mB c s i).out++[s.extract (mB c s i).fr i],i+1⟩:=by rw[mB,if_pos h]
def ZY {c:Int}{s:E}{i:Nat}(h: ¬rH s i=c):mB c s (i+1)=mB c s i:=by rw[mB,if_neg h]
theorem KH (c:Int)(s:E): ∀i,(mB c s i).fr<=i/\(mB c s i).out.length<=i
 | 0=>⟨aFC _,aFC _⟩
 | i+1=>by
   have h:=KH c s i;rw[mB];split
   ·simp only[aEh,aEb,List.length_nil];omega
   omega
def ZZ (c:Int)(s:E):(bI c s).length<=s.size+1:=by
 have h:=(KH c s s.size).2;rw[bI,aEh];simp only[aEb,List.length_nil];omega
def RF (v:Int):E:=if eZ v 0 3=true then (⟨#[88,89,90,85]⟩:E).extract (Int.toNat v) (Int.toNat (v+1)) else ⟨#[]⟩
def U4 {v:Int}(h:eZ v 0 3=true):RF v=(⟨#[88,89,90,85]⟩:E).extract (Int.toNat v) (Int.toNat (v+1)):=by rw[RF,if_pos h]
def Za {v:Int}(h:eZ v 0 3=false):RF v=⟨#[]⟩:=by rw[RF,if_neg (by rw[h];decide)]
def RG (v:Int):(RF v).size<=1:=by
 cases h:eZ v 0 3 with
 | false=>rw[Za h];exact aBC _
 | true=>
   rw[U4 h];have:=eU h;rw[ByteArray.size_extract];omega
def vD (l:Z):Nat->E
 | 0=>⟨#[]⟩
 | i+1=>vD l i++RF (l.getD i 0)
theorem yB (l:Z): ∀k,(vD l k).size<=k
 | 0=>aFC _
 | k+1=>by
   have h1:=yB l k;have h2:=RG (l.getD k 0);rw[vD,ByteArray.size_append];omega
def pJ (q:aV):Nat->E
 | 0=>⟨#[]⟩
 | i+1=>(if 0<i then pJ q i++(⟨#[32]⟩:E) else pJ q i)++(q.k.getD i oG).name++(⟨#[40]⟩:E)++vD (q.k.getD i oG).vars (q.k.getD i oG).vars.length++(⟨#[41]⟩:E)
def aDI {q:aV}{i:Nat}{a:cT}(h:q.k[i]? =some a)(h2:(0:Int)<(i:Int)):pJ q (i+1)=pJ q i++(⟨#[32]⟩:E)++a.name++(⟨#[40]⟩:E)++vD a.vars a.vars.length++(⟨#[41]⟩:E):=by rw[pJ,bK h,if_pos aGR]
def aDJ {q:aV}{i:Nat}{a:cT}(h:q.k[i]? =some a)(h2: ¬0<(i:Int)):pJ q (i+1)=pJ q i++a.name++(⟨#[40]⟩:E)++vD a.vars a.vars.length++(⟨#[41]⟩:E):=by rw[pJ,bK h,if_neg aGR]
def C2 (q:aV):E:=if bR q=true then pJ q q.k.length else ⟨#[]⟩
def aCQ {q:aV}{i:Nat}(hi:i<=q.k.length)(hv:i=0\/bR q=true)(h: ¬(i:Int)<(q.k.length:Int)):pJ q i=C2 q:=by
 have e:i=q.k.length:=aGR
 rw[C2];split
 ·rw[e]
 rcases hv with hv | hv
 ·rw[hv];rfl
 contradiction
def Zb {q:aV}{i:Nat}(hv:i=0\/bR q=true)(h:bR q=false):pJ q i=C2 q:=by
 rw[C2,if_neg (by rw[h];decide)];rcases hv with hv | hv
 ·rw[hv];rfl
 rw[h] at hv;cases hv
def wK {s:E}(h:hJ s=true):s.size=1:=by
 simp only[hJ,aBB,aFI] at h;omega
theorem NI {q:aV}(h:bR q=true): ∀i,i<=q.k.length->(pJ q i).size<=7*i
 | 0,_=>aFC _
 | i+1,hi=>by
   have h1:=NI h i aGR;obtain⟨a,ha⟩:=fK (l:=q.k) (k:=i) aGR;obtain⟨p1,p2,_⟩:=nQ ((eJ h).2.2 a (aBD ha));have p3:=wK p1;have p4:=yB a.vars a.vars.length;have k1:(⟨#[32]⟩:E).size=1:=rfl;have k2:(⟨#[40]⟩:E).size=1:=rfl;have k3:(⟨#[41]⟩:E).size=1:=rfl;by_cases h0:(0:Int)<(i:Int)
   ·rw[aDI ha h0];simp only[ByteArray.size_append];omega
   rw[aDJ ha h0];simp only[ByteArray.size_append];omega
def Wh (a b:Int):Int:=if a<b then b else a
structure AS where
 vars:Z
 vc:Int
def DD (w:E)(k:Nat)(s:AS):Nat->AS
 | 0=>s
 | v+1=>if ((RF (v:Int)).toList==(w.extract k (k+1)).toList)=true then ⟨(DD w k s v).vars++[(v:Int)],Wh (DD w k s v).vc ((v:Int)+1)⟩ else DD w k s v
def AU (w:E)(s:AS):Nat->AS
 | 0=>s
 | j+1=>DD w (j+2) (AU w s j) 4
def aDK {w:E}{k v:Nat}{s:AS}(h:((RF (v:Int)).toList==(w.extract k (k+1)).toList)=true):DD w k s (v+1)=⟨(DD w k s v).vars++[(v:Int)],Wh (DD w k s v).vc ((v:Int)+1)⟩:=by rw[DD,if_pos h]
def aDL {w:E}{k v:Nat}{s:AS}(h:((RF (v:Int)).toList==(w.extract k (k+1)).toList)=false):DD w k s (v+1)=DD w k s v:=by rw[DD,if_neg (by rw[h];decide)]
def RH {a b m:Int}(h0:0<=a)(ha:a<=m)(hb:b<=m):0<=Wh a b/\Wh a b<=m:=by unfold Wh;split<;>omega
theorem O9 {w:E}{k n:Nat}{s:AS}(h:s.vars.length<=n/\0<=s.vc/\s.vc<=4): ∀v,v<=4->(DD w k s v).vars.length<=n+v/\0<=(DD w k s v).vc/\(DD w k s v).vc<=4
 | 0,_=>h
 | v+1,hv=>by
   obtain⟨q1,q2,q3⟩:=O9 (w:=w) (k:=k) h v aGR;rw[DD];split
   ·refine⟨by simp only[aEh,aEb,List.length_nil];omega,RH q2 q3 aGR⟩
   exact⟨aGR,q2,q3⟩
theorem PA {w:E}{n:Nat}{s:AS}(h:s.vars.length<=n/\0<=s.vc/\s.vc<=4): ∀j,(AU w s j).vars.length<=n+4*j/\0<=(AU w s j).vc/\(AU w s j).vc<=4
 | 0=>h
 | j+1=>by
   have q:=O9 (w:=w) (k:=j+2) (PA (w:=w) h j) 4 (aFC _);rw[AU];exact⟨aGR,q.2⟩
structure BS where
 k:List cT
 vc:Int
def qT (w:E):Bool:=decide (4<=w.size/\w.size<=6)
def jG (ws:List E):Nat->BS
 | 0=>⟨[],0⟩
 | i+1=>⟨(jG ws i).k++[⟨(ws.getD i ⟨#[]⟩).extract 0 1,(AU (ws.getD i ⟨#[]⟩) ⟨[],(jG ws i).vc⟩ ((ws.getD i ⟨#[]⟩).size - 3)).vars⟩],(AU (ws.getD i ⟨#[]⟩) ⟨[],(jG ws i).vc⟩ ((ws.getD i ⟨#[]⟩).size - 3)).vc⟩
theorem U5 (ws:List E): ∀i,0<=(jG ws i).vc/\(jG ws i).vc<=4/\(jG ws i).k.length=i
 | 0=>⟨Int.le_refl _,by show (0:Int)<=4;omega,rfl⟩
 | i+1=>by
   obtain⟨q1,q2,q3⟩:=U5 ws i;have h:=PA (w:=ws.getD i ⟨#[]⟩) (n:=0) (s:=⟨[],(jG ws i).vc⟩) ⟨aFC _,q1,q2⟩ ((ws.getD i ⟨#[]⟩).size - 3);rw[jG];exact⟨h.2.1,h.2.2,by simp only[aEh,aEb,List.length_nil];omega⟩
def Sb (s:E):Nat:=min (bI 32 s).length 5
def Lu (s:E):aV:=⟨(jG (bI 32 s) (Sb s)).vc,(jG (bI 32 s) (Sb s)).k⟩
def lE (s:E):aV × Bool:=if (((bI 32 s).take (Sb s)).all qT&&(bR (Lu s)&&((C2 (Lu s)).toList==s.toList)))=true then (Lu s,true) else (DY,false)
def KI {s:E}(h:(((bI 32 s).take (Sb s)).all qT&&(bR (Lu s)&&((C2 (Lu s)).toList==s.toList)))=false):lE s=(DY,false):=by rw[lE,if_neg (by rw[h];decide)]
def U6 {s:E}(h:(((bI 32 s).take (Sb s)).all qT&&(bR (Lu s)&&((C2 (Lu s)).toList==s.toList)))=true):lE s=(Lu s,true):=by rw[lE,if_pos h]
def RI {s w:E}{i:Nat}(hi:i<Sb s)(hw:(bI 32 s)[i]? =some w)(h:qT w=false):lE s=(DY,false):=by
 refine KI ?_;have:((bI 32 s).take (Sb s)).all qT=false:=eT (k:=i) (x:=w) (by rw[List.getElem?_take_of_lt hi];exact hw) h;rw[this];rfl
abbrev mC (l:Z)(u:Cu)(xs:List E):List AV × aGJ × AV × aGJ:=([.ptr 0 0,.own 1],[(0,.box 102 [.p none (.sl 5 1 (l.map bQ)),vI (u.i:Int),vI u.h]),(1,.arr 9 1 true (xs.map iG))],.p none (.str ((dT l u xs).1)),[(0,.box 102 [.p none (.sl 5 1 (l.map bQ)),vI (((dT l u xs).2.i:Nat):Int),vI ((dT l u xs).2.h)])])
abbrev pX (l:Z)(u:Cu)(xs:List E):Prop:=Cm 108 (mC l u xs).1 (mC l u xs).2.1 (mC l u xs).2.2.1 (mC l u xs).2.2.2
def zI (l:Z)(u:Cu)(hl:l.length<=1048576)(xs:List E)(hx:0<xs.length):pX l u xs:=by
 refine Ls Tryz.func108 (.len xs.length<| bH (dX l u (xs.length:Int)) [(0,0)]<| .len xs.length<| .elem _ iG xs (fun e11=> .fin [(0,0)])) (p:=Lm iG xs/\eQ l u (xs.length:Int)/\(xs.length:Int)=(xs.length:Int)/\aGI l u (0<=((aC l u (xs.length:Int)).1)/\Lm iG xs/\((aC l u (xs.length:Int)).1)<(xs.length:Int)/\Em iG xs (((aC l u (xs.length:Int)).1).toNat) fun e11=>e11=((dT l u xs).1)/\aGH l ((aC l u (xs.length:Int)).2) ((dT l u xs).2) (True))) ?_;have hb:=fB l u (n:=xs.length) aGR;refine⟨aAb _,hZ l u (by assumption) (xs.length:Int),rfl,rfl,rfl,rfl,aGR,aAb _,aGR,rfl,aGR,fun e11 h11=>?_⟩;refine⟨?_,rfl,?_,?_,trivial⟩<;>(first|rfl|(rw[ZS (by assumption)]<;>rfl))
abbrev oX (l:Z)(u:Cu)(nm:E)(ar:Int)(most:Int)(val:Int):List AV × aGJ × AV × aGJ:=([.ptr 0 0,.p none (.str nm),vI ar,vI most,vI val],[(0,.box 102 [.p none (.sl 5 1 (l.map bQ)),vI (u.i:Int),vI u.h])],.agg [.p none (.str ((fN l u nm ar most val).1.name)),vI ((fN l u nm ar most val).1.l),.own 1],[(0,.box 102 [.p none (.sl 5 1 (l.map bQ)),vI (((fN l u nm ar most val).2.i:Nat):Int),vI ((fN l u nm ar most val).2.h)]),(1,.arr 51 1 true ((fN l u nm ar most val).1.rows.map aD))])
abbrev tQ (l:Z)(u:Cu)(nm:E)(ar:Int)(most:Int)(val:Int):Prop:=Cm 138 (oX l u nm ar most val).1 (oX l u nm ar most val).2.1 (oX l u nm ar most val).2.2.1 (oX l u nm ar most val).2.2.2
def HF (l:Z)(u:Cu)(hl:l.length<=1048576)(nm:E)(ar most val:Int)(har:0<=ar/\ar<=3)(hm:0<=most/\most<=8):tQ l u nm ar most val:=by
 refine Ls Tryz.func138 (bH (dX l u (most+1)) [(0,0)]<| .loop Nat (Q1 Nat) ([12,13,14]++rg 22 21) [0,1100,2600,3600,3700,4100,9001] (fun j=>[(12,vI ((aC l u (most+1)).1 - (j:Int)))]) (fun j=>[(1100,some (.box 155 [.p none (.str nm),vI ar,.own 9001])),(9001,some (.arr 51 1 true ((iL l u ar.toNat most val j).rows.map aD))),(0,some (.box 102 [.p none (.sl 5 1 (l.map bQ)),vI (((iL l u ar.toNat most val j).cu.i:Nat):Int),vI ((iL l u ar.toNat most val j).cu.h)]))]) (fun j=>(j:Int)<=(aC l u (most+1)).1) (fun j=>((aC l u (most+1)).1 - j).toNat) (fun j=> .br (.loop Nat (Q1 Nat) ([13,14]++rg 26 12) [0,2600,3600,3700] (fun i=>[(14,vI (i:Int)),(13,.own 2600)]) (fun i=>[(2600,some (.arr 3 1 true ((mX (oE l val) i (iL l u ar.toNat most val j).cu).1.map intD))),(0,some (.box 102 [.p none (.sl 5 1 (l.map bQ)),vI (((mX (oE l val) i (iL l u ar.toNat most val j).cu).2.i:Nat):Int),vI ((mX (oE l val) i (iL l u ar.toNat most val j).cu).2.h)]))]) (fun i=>(i:Int)<=ar) (fun i=>(ar - i).toNat) (fun i=> .br (bH (dX l ((mX (oE l val) i (iL l u ar.toNat most val j).cu).2) val) [(0,0)]<| .app Int intD ((mX (oE l val) i (iL l u ar.toNat most val j).cu).1) ([(aC l ((mX (oE l val) i (iL l u ar.toNat most val j).cu).2) val).1]:Z)<| .back [(0,0),(2600,3700)]) (bN (uV ((iL l u ar.toNat most val j).rows) ((mX (oE l val) i (iL l u ar.toNat most val j).cu).1))<| .back [(0,0),(1100,1100),(9001,4100)]))) (.fin [(0,0),(1,9001)]))) (p:=bO (most+1)/\(eQ l u (most+1)/\(most+1)=(most+1)/\aGI l u (((∃(j:Nat),((aC l u (most+1)).1)=((aC l u (most+1)).1 - (j:Int))/\nm=nm/\ar=ar/\[]=(iL l u ar.toNat most val j).rows.map aD/\aGH l ((aC l u (most+1)).2) ((iL l u ar.toNat most val j).cu) ((j:Int)<=(aC l u (most+1)).1))/\ ∀(j:Nat),(j:Int)<=(aC l u (most+1)).1->Br (0<((aC l u (most+1)).1 - (j:Int))) ((∃(i:Nat),0=(i:Int)/\[]=(mX (oE l val) i (iL l u ar.toNat most val j).cu).1.map intD/\aGH l ((iL l u ar.toNat most val j).cu) ((mX (oE l val) i (iL l u ar.toNat most val j).cu).2) ((i:Int)<=ar))/\ ∀(i:Nat),(i:Int)<=ar->Br ((i:Int)<ar) (eQ l ((mX (oE l val) i (iL l u ar.toNat most val j).cu).2) val/\val=val/\aGI l ((mX (oE l val) i (iL l u ar.toNat most val j).cu).2) (Ap intD ((mX (oE l val) i (iL l u ar.toNat most val j).cu).1) ([(aC l ((mX (oE l val) i (iL l u ar.toNat most val j).cu).2) val).1]:Z) 8 (bO ((i:Int)+1)/\ ∃(i' :Nat),((i:Int)+1)=(i' :Int)/\(((mX (oE l val) i (iL l u ar.toNat most val j).cu).1)++[(aC l ((mX (oE l val) i (iL l u ar.toNat most val j).cu).2) val).1]).map intD=(mX (oE l val) i' (iL l u ar.toNat most val j).cu).1.map intD/\aGH l ((aC l ((mX (oE l val) i (iL l u ar.toNat most val j).cu).2) val).2) ((mX (oE l val) i' (iL l u ar.toNat most val j).cu).2) ((i' :Int)<=ar/\(ar - i').toNat<(ar - i).toNat)))) (yZ ((iL l u ar.toNat most val j).rows) ((mX (oE l val) i (iL l u ar.toNat most val j).cu).1)/\bO (((aC l u (most+1)).1 - (j:Int)) - 1)/\ ∃(j' :Nat),(((aC l u (most+1)).1 - (j:Int)) - 1)=((aC l u (most+1)).1 - ((j' :Nat):Int))/\nm=nm/\ar=ar/\(mP ((mX (oE l val) i (iL l u ar.toNat most val j).cu).1) ((iL l u ar.toNat most val j).rows)).map aD=(iL l u ar.toNat most val j').rows.map aD/\aGH l ((mX (oE l val) i (iL l u ar.toNat most val j).cu).2) ((iL l u ar.toNat most val j').cu) ((j' :Int)<=(aC l u (most+1)).1/\((aC l u (most+1)).1 - j').toNat<((aC l u (most+1)).1 - j).toNat))) (nm=((fN l u nm ar most val).1.name)/\ar=((fN l u nm ar most val).1.l)/\aGH l ((iL l u ar.toNat most val j).cu) ((fN l u nm ar most val).2) ((iL l u ar.toNat most val j).rows.map aD=(fN l u nm ar most val).1.rows.map aD/\True)))))) ?_;have w1:=fB l u (n:=most+1) aGR;refine⟨aGS,hZ l u (by assumption) (most+1),rfl,rfl,rfl,rfl,⟨0,(by omega),(by rfl),(by rfl),(by rfl),(by rfl),(by rfl),(by rfl),aGR⟩,fun j hj=>?_⟩;have hz0:=KD l u ar.toNat most val j;have hzc:=TR l u (ar:=ar.toNat) aGR most val (j:=j) aGR;apply dd<;>intro c0
 ·refine⟨⟨0,rfl,rfl,rfl,rfl,rfl,aGR⟩,fun i hi=>?_⟩;have hz1:=KB (oE l val) (iL l u ar.toNat most val j).cu i;apply dd<;>intro c1
  ·refine⟨hZ l ((mX (oE l val) i (iL l u ar.toNat most val j).cu).2) (by assumption) val,rfl,rfl,rfl,rfl,?_⟩;refine ap ?_ (fun _=>rfl) (by (simp;omega));refine⟨aGS,?_⟩;exact⟨i+1,rfl,rfl,rfl,rfl,rfl,aGR,aGR⟩
  ·have ei:ar.toNat=i:=aGR
   refine⟨Jh ((iL l u ar.toNat most val j).rows) ((mX (oE l val) i (iL l u ar.toNat most val j).cu).1) aGR aGR aGR,aGS,?_⟩;exact⟨j+1,(by omega),(by rfl),(by rfl),(by (rw[<-ei];rfl)),(by rfl),(by (rw[<-ei];rfl)),(by (rw[<-ei];rfl)),aGR,aGR⟩
 ·have ej:(aC l u (most+1)).1.toNat=j:=aGR
  refine⟨?_,?_,rfl,?_,?_,?_,trivial⟩<;>(first|rfl|(simp only[fN,aE7,ej];done))
def knL:List E:=[⟨#[114,40,88,89,41]⟩,⟨#[114,40,88,89,41,32,115,40,89,90,41]⟩,⟨#[114,40,88,89,41,32,115,40,89,90,41,32,116,40,90,85,41]⟩,⟨#[114,40,88,89,41,32,115,40,89,90,41,32,116,40,90,88,41]⟩,⟨#[114,40,88,89,41,32,115,40,88,90,41,32,116,40,88,85,41]⟩,⟨#[114,40,88,89,41,32,115,40,89,90,41,32,118,40,89,41]⟩,⟨#[117,40,88,89,90,41,32,115,40,90,85,41]⟩,⟨#[117,40,88,89,90,41,32,114,40,88,89,41,32,118,40,90,41]⟩,⟨#[114,40,88,89,41,32,115,40,89,90,41,32,116,40,90,85,41,32,118,40,88,41]⟩,⟨#[114,40,88,89,41,32,114,40,89,90,41]⟩,⟨#[114,40,88,89,41,32,115,40,89,88,41]⟩,⟨#[118,40,88,41,32,114,40,88,89,41,32,115,40,89,90,41,32,116,40,90,85,41]⟩,⟨#[114,40,88,89,41,32,115,40,89,90,41,32,116,40,90,85,41,32,115,40,85,88,41]⟩]
def RJ (l:Z)(u:Cu):E × Cu:=dT l u knL
def RK (l:Z)(u:Cu):Int × Cu:=aC l (RJ l u).2 4
def Lw (l:Z)(u:Cu):Int × Cu:=aC l (RK l u).2 4
def qy0 (l:Z)(u:Cu):aV:=(lE (RJ l u).1).1
def BR (v0:Int):Nat->Z × Int
 | 0=>([],v0)
 | i+1=>((BR v0 i).1++[(BR v0 i).2],Int.tmod ((BR v0 i).2+1) 4)
def H6 (c0 v0:Int):Nat->Int
 | 0=>c0
 | i+1=>Wh (H6 c0 v0 i) ((BR v0 i).2+1)
theorem IK {v0:Int}(h:0<=v0/\v0<4): ∀i,(BR v0 i).1.length=i/\0<=(BR v0 i).2/\(BR v0 i).2<4
 | 0=>⟨rfl,h⟩
 | i+1=>by
   obtain⟨q1,q2⟩:=IK h i;have:=O6 (x:=(BR v0 i).2+1) (n:=4) aGR aGR;rw[BR];exact⟨by simp only[aEh,aEb,List.length_nil];omega,this⟩
theorem FH {c0 v0:Int}(h:0<=v0/\v0<4)(hc:0<=c0/\c0<=4): ∀i,0<=H6 c0 v0 i/\H6 c0 v0 i<=4
 | 0=>hc
 | i+1=>by
   have q:=FH h hc i;have q2:=(IK h i).2;rw[H6];exact RH q.1 q.2 aGR
structure QS where
 k:List cT
 vc:Int
 cu:Cu
def qsK (l:Z)(c:Cu):Int × Cu:=aC l c 5
def yN (l:Z)(c:Cu):Int × Cu:=aC l (qsK l c).2 4
def qsM (l:Z)(c:Cu):Int:=TT.getD (qsK l c).1.toNat 0
def qsN (l:Z)(c:Cu):E:=GM.getD (qsK l c).1.toNat ⟨#[]⟩
def qsF (l:Z)(s:QS):QS:=⟨s.k++[⟨qsN l s.cu,(BR (yN l s.cu).1 (qsM l s.cu).toNat).1⟩],H6 s.vc (yN l s.cu).1 (qsM l s.cu).toNat,(yN l s.cu).2⟩
def gH (l:Z)(u:Cu)(j:Nat):QS:=Lt (qsF l) j ⟨[],0,(Lw l u).2⟩
def qyE (l:Z)(u:Cu):QS:=gH l u (1+(Lw l u).1).toNat
def qyX (l:Z)(u:Cu):aV:=⟨(qyE l u).vc,(qyE l u).k⟩
def dO (l:Z)(u:Cu):aV × Cu:=if (RK l u).1=0 then (if bR (qyX l u)=true then qyX l u else qy0 l u,(qyE l u).cu) else (qy0 l u,(RK l u).2)
def KJ {l:Z}{u:Cu}{j i:Nat}{n:E}{m:Int}(hn:qsN l (gH l u j).cu=n)(hm:qsM l (gH l u j).cu=m)(ei:m.toNat=i):gH l u (j+1)=⟨(gH l u j).k++[⟨n,(BR (yN l (gH l u j).cu).1 i).1⟩],H6 (gH l u j).vc (yN l (gH l u j).cu).1 i,(yN l (gH l u j).cu).2⟩:=by
 subst hn;subst hm;subst ei;rfl
theorem U7 (l:Z)(u:Cu): ∀j,(gH l u j).k.length=j/\0<=(gH l u j).vc/\(gH l u j).vc<=4/\jT (gH l u j).k<=j*5
 | 0=>⟨rfl,Int.le_refl _,by show (0:Int)<=4;omega,aFC _⟩
 | j+1=>by
   obtain⟨q1,q2,q3,q4⟩:=U7 l u j;have hv:0<=(yN l (gH l u j).cu).1/\(yN l (gH l u j).cu).1<4:=fB l _ aGR;have hm:=FG (qsK l (gH l u j).cu).1.toNat;have hl:=(IK hv (qsM l (gH l u j).cu).toNat).1;have hs:(qsN l (gH l u j).cu).size<=1:=KE _;have e: ∀a:cT,pS a=a.name.size+a.vars.length:=fun _=>rfl;have em:qsM l (gH l u j).cu=TT.getD (qsK l (gH l u j).cu).1.toNat 0:=rfl;rw[KJ rfl rfl rfl];have e2:jT ((gH l u j).k++[⟨qsN l (gH l u j).cu,(BR (yN l (gH l u j).cu).1 (qsM l (gH l u j).cu).toNat).1⟩])=jT (gH l u j).k+1+pS ⟨qsN l (gH l u j).cu,(BR (yN l (gH l u j).cu).1 (qsM l (gH l u j).cu).toNat).1⟩:=Cb _ _ _;refine⟨by simp only[aEh,aEb,List.length_nil];omega,(FH hv ⟨q2,q3⟩ _).1,(FH hv ⟨q2,q3⟩ _).2,?_⟩
   dsimp only
   rw[e2,e]
   dsimp only
   omega
def aF7 {l:Z}{u:Cu}(h: ¬(RK l u).1=0):dO l u=(qy0 l u,(RK l u).2):=by rw[dO,if_neg h]
def aDN {l:Z}{u:Cu}(h:(RK l u).1=0)(h2:bR (qyX l u)=true):dO l u=(qyX l u,(qyE l u).cu):=by rw[dO,if_pos h,if_pos h2]
def aF8 {l:Z}{u:Cu}(h:(RK l u).1=0)(h2:bR (qyX l u)=false):dO l u=(qy0 l u,(qyE l u).cu):=by rw[dO,if_pos h,if_neg (by rw[h2];decide)]
def aF9: ∀s∈knL,bR (lE s).1=true:=by decide+kernel
def aCT: ∀s∈knL,s.size<=100:=by decide+kernel
def PB (l:Z)(u:Cu):bR (dO l u).1=true:=by
 have h0:bR (qy0 l u)=true:=aF9 _ (GL l u (xs:=knL) (by decide));unfold dO;split
 ·dsimp only
  split
  ·assumption
  exact h0
 exact h0
def aDO {q:aV}(h:bR q=true):iN q<=20:=by
 obtain⟨_,h2,h3⟩:=eJ h;have e:iN q=jT q.k:=rfl;have e1: ∀a:cT,pS a=a.name.size+a.vars.length:=fun _=>rfl
 have hb: ∀a∈q.k,pS a<=4:=fun a ha=>by
  obtain⟨p1,p2,_⟩:=nQ (h3 a ha);have:=wK p1;rw[e1];omega
 have:=yA (c:=pS) hb;have e3:jT q.k=qG pS q.k:=rfl;omega
def zJ (q:aV)(m:Int)(i v:Nat):Bool:=(List.range i).any fun j=>gX m j&&decide ((v:Int)∈(q.k.getD j oG).vars)
def MH (q:aV)(m:Int)(v:Nat):Bool:=zJ q m q.k.length v
def HG (q:aV)(m:Int):Z:=gK (MH q m) q.g.toNat
def lQ (q:aV)(m:Int):Bool:=bR q&&eZ m 0 ((1:Int)*2^q.k.length - 1)
def cN (q:aV)(m:Int):Z:=if lQ q m=true then HG q m else []
def gM (m:Int):Z:=if eZ m 0 15=true then gK (gX m) 4 else []
def nR (q:aV):Int:=if bR q=true then (1:Int)*2^q.k.length - 1 else 0
def NJ {q:aV}{m:Int}(h:lQ q m=true):cN q m=HG q m:=by rw[cN,if_pos h]
def RL {q:aV}{m:Int}(h:lQ q m=false):cN q m= []:=by rw[cN,if_neg (by rw[h];decide)]
def GO {m:Int}(h:eZ m 0 15=true):gM m=gK (gX m) 4:=by rw[gM,if_pos h]
def RM {m:Int}(h:eZ m 0 15=false):gM m= []:=by rw[gM,if_neg (by rw[h];decide)]
def GP {q:aV}(h:bR q=true):nR q=1*2^q.k.length - 1:=by rw[nR,if_pos h]
def RN {q:aV}(h:bR q=false):nR q=0:=by rw[nR,if_neg (by rw[h];decide)]
def Cc (q:aV)(m:Int)(i v:Nat):zJ q m (i+1) v=(zJ q m i v || (gX m i&&decide ((v:Int)∈(q.k.getD i oG).vars))):=by
 rw[zJ,List.range_succ,List.any_append];simp[zJ]
theorem RO {q:aV}(h:bR q=true)(m:Int){v:Nat}(hv:q.g.toNat<=v): ∀{i},i<=q.k.length->zJ q m i v=false
 | 0,_=>rfl
 | i+1,hi=>by
   obtain⟨h1,_,h2⟩:=eJ h;obtain⟨a,ha⟩:=fK (l:=q.k) (k:=i) aGR;have ht:=(nQ (h2 a (aBD ha))).2.2;rw[Cc,RO h m hv aGR,bK ha];have: ¬(v:Int)∈a.vars:=fun q=>by have:=ht _ q;omega
   simp[this]
def aCU {q:aV}(h:bR q=true)(m:Int){v:Nat}(hv:q.g.toNat<=v):MH q m v=false:=RO h m hv (aFC _)
def H7 (q:aV)(m:Int)(a:cT)(i k v:Nat):Bool:=zJ q m i v || (gX m i&&decide ((v:Int)∈a.vars.take k))
def Wi (q:aV)(m:Int)(a:cT)(i:Nat):H7 q m a i 0=zJ q m i:=by funext v;simp[H7]
def Wj {q:aV}{m:Int}{a:cT}{i k:Nat}{x:Int}(hb:gX m i=true)(h:a.vars[k]? =some x)(hx:0<=x):(fun v=>H7 q m a i k v || decide (v=x.toNat))=H7 q m a i (k+1):=by
 funext v;rw[H7,H7,bW h,xY,hb,Bool.true_and,Bool.true_and,Bool.or_assoc]
 congr 2
 exact decide_eq_decide.2 aGR
def NK {q:aV}{m:Int}{a:cT}{i k:Nat}(h:q.k[i]? =some a)(hk:gX m i=false\/a.vars.length<=k):H7 q m a i k=zJ q m (i+1):=by
 funext v;rw[H7,Cc,bK h];rcases hk with hk | hk
 ·rw[hk];rfl
 rw[aCR hk]
def TW {q:aV}(h:bR q=true)(m:Int):gK (gX (m4 (MH q m))) 4=HG q m:=by
 obtain⟨h1,_,_⟩:=eJ h;rw[HG,TN (q:=MH q m) fun v hv=>aE5 hv];exact J7 aGR fun v hv _=>aCU h m hv
def aCV {q:aV}{m:Int}{i v:Nat}{a:cT}(h:q.k[i]? =some a)(hb:gX m i=true)(hv:decide ((v:Int)∈a.vars)=true):MH q m v=true:=
 List.any_eq_true.2 ⟨i,aEt.2 (aCO.1 h).1,by rw[hb,bK h,hv];rfl⟩
def pK {n:Nat}(h:1<=n/\n<=4):1<=(1:Int)*2^n - 1/\(1:Int)*2^n - 1<=15:=by
 have:n=1\/n=2\/n=3\/n=4:=aGR
 rcases this with rfl | rfl | rfl | rfl<;>decide
def zK {q:aV}{m:Int}(h:lQ q m=true):bR q=true/\0<=m/\m<=15/\m<=1*2^q.k.length - 1:=by
 simp only[lQ,aBB] at h;have h1:=eU h.2;have h2:=pK (eJ h.1).2.1;exact⟨h.1,aGR,aGR,aGR⟩
def Zc {m:Int}{n i:Nat}(h:0<=m/\m<=1*2^n - 1)(hi:n<=i)(h4:i<4):gX m i=false:=by
 have hn:n=0\/n=1\/n=2\/n=3:=aGR
 have hi4:i=0\/i=1\/i=2\/i=3:=aGR
 have key:m/2^i=0:=by
  rcases hn with rfl | rfl | rfl | rfl<;>rcases hi4 with rfl | rfl | rfl | rfl<;>omega
 rw[gX,key];decide
def Zd {m:Int}{n:Nat}(h:0<=m/\m<=1*2^n - 1)(hn:n<=4):gM m=gK (gX m) n:=by
 have h15:m<=15:=by
  have:n=0\/n=1\/n=2\/n=3\/n=4:=aGR
  rcases this with rfl | rfl | rfl | rfl | rfl<;>simp at h<;>omega
 rw[GO (qF h.1 h15)];exact J7 hn fun v h1 h2=>Zc h h1 h2
end Go.Proofs.YtgamjlgfnmpcjaaGreat
namespace Go.Proofs
open Go.Shelf
namespace YtgamjlgfnmpcjaaGreat
def Tryz.revInts_ren:Go.Shelf.Ren:=⟨fun | 35=>204 | n=>n,fun | 22=>51 | 23=>3 | 3=>3 | 4=>4 | 0=>0 | n=>n,fun | n=>n⟩
theorem Tryz.revInts:Go.Proofs.SlLaysE.n35 Tryz.prog Tryz.revInts_ren:={
 mixed:=by kernel_rfl
 f35:=⟨Tryz.f204.name,by decide,Tryz.func204.trans (congrArg some (by kernel_rfl))⟩
 t0:=Tryz.underlying0
 a0:=Tryz.isAgg0
 z0:=Tryz.sizeOf0
 v0:=Tryz.zeroValue0
 t3:=Tryz.underlying3
 a3:=Tryz.isAgg3
 z3:=Tryz.sizeOf3
 v3:=Tryz.zeroValue3
 t4:=Tryz.underlying4
 a4:=Tryz.isAgg4
 z4:=Tryz.sizeOf4
 v4:=Tryz.zeroValue4
 t22:=Tryz.underlying51
 a22:=Tryz.isAgg51
 z22:=Tryz.sizeOf51
 v22:=Tryz.zeroValue51
 a23:=Tryz.isAgg3
 z23:=Tryz.sizeOf3 }
end YtgamjlgfnmpcjaaGreat
end Go.Proofs
namespace Go.Proofs.YtgamjlgfnmpcjaaGreat
open Go.ChangeShapes Go.WideShapes Go.ChangeAt Go.RowKit
set_option linter.unusedVariables false
theorem Ze (l:Z)(hl:l.length<4611686018427387904):xB Tryz.prog 204 [.own 0] [(0,.arr 3 1 true (l.map intD))] (.tup []) [(0,.arr 3 1 true (l.reverse.map intD))]:=
 NC l l.reverse (by kernel_rfl) List.length_reverse
  (fun h w=>AnyE.slices_Reverse_empty Tryz.revInts none 0 w)
  (fun blk cap w hH hblk hn=>(AnyE.slices_Reverse Tryz.revInts (Value.int .i64) (fun _=>rfl) blk 0 cap l w hH aGR).mono fun e w' ⟨he,q,hw⟩=>⟨he,q,#[],by rw[hw,Go.Sort.grow_empty]⟩)
set_option linter.all false
set_option maxRecDepth 100000
set_option maxHeartbeats 4000000
abbrev DE (l:Z):Prop:=l.Pairwise fun a b=>b<=a
def oI (l:Z):Z:=(lT l).reverse
def Do (l:Z):(oI l).Perm l:=(List.reverse_perm _).trans (J4 l)
def Wk (l:Z):(oI l).length=l.length:=(Do l).length_eq
def TX (l:Z):DE (oI l):=List.pairwise_reverse.2 (TL l)
def RP {l m:Z}(hp:l.Perm m)(h1:DE l)(h2:DE m):l=m:=
 List.Perm.eq_of_pairwise (le:=fun a b:Int=>b<=a) (fun a b _ _ h1 h2=>aGR) h1 h2 hp
def RQ {l out:Z}{k j:Nat}{x:Int}(hp:out.Perm (l.take k))(hx:l[k]? =some x):((([]:Z)++out.take j)++[x]++out.drop j).Perm (l.take (k+1)):=by
 rw[bW hx,aFy]
 have h1:(out.take j++[x]++out.drop j).Perm (out.take j++out.drop j++[x]):=by
  rw[aD2,aD2];exact List.Perm.append_left _ List.perm_append_comm
 rw[List.take_append_drop] at h1;exact h1.trans (hp.append_right _)
def RR {out:Z}{j:Nat}{x:Int}(hd:DE out)(hj:j<=out.length)(hs: ∀i,j<=i->i<out.length->out.getD i 0<x)(hx:j=0\/ ¬out.getD (j - 1) 0<x):DE ((([]:Z)++out.take j)++[x]++out.drop j):=by
 rw[aFy,aD2];have hd' :=hd;rw[<-List.take_append_drop j out] at hd';obtain⟨d1,d2,d3⟩:=List.pairwise_append.1 hd'
 have hlo: ∀a∈out.drop j,a<=x:=fun a ha=>by
  obtain⟨i,hi,rfl⟩:=List.mem_iff_getElem.1 ha;have hi' :i<out.length - j:=by simpa using hi
  have:=hs (j+i) aGR aGR;rw[List.getElem_drop];rw[aCz,aBP aGR] at this;simp only[Option.getD_some] at this;omega
 have hhi: ∀a∈out.take j,x<=a:=fun a ha=>by
  obtain⟨i,hi,rfl⟩:=List.mem_iff_getElem.1 ha
  have hi' :i<j:=by
   have:=hi;rw[aF5] at this;omega
  rcases hx with h | h
  ·omega
  have hp:=List.pairwise_iff_getElem.1 hd;rw[aCz,aBP aGR] at h;simp only[Option.getD_some] at h;rw[List.getElem_take];by_cases e:i=j - 1
  ·subst e;omega
  have:=hp i (j - 1) aGR aGR aGR;omega
 refine List.pairwise_append.2 ⟨d1,List.pairwise_append.2 ⟨List.pairwise_singleton _ _,d2,fun a ha b hb=>?_⟩,fun a ha b hb=>?_⟩
 ·rw[aFU] at ha;subst ha;exact hlo b hb
 rcases aCy.1 hb with q | q
 ·rw[aFU] at q;subst q;exact hhi a ha
 exact d3 a ha b q
def Wl {out:Z}{j:Nat}{x e:Int}(h:out[j - 1]? =some e)(hc:e<x)(hs: ∀i,j<=i->i<out.length->out.getD i 0<x): ∀i,j - 1<=i->i<out.length->out.getD i 0<x:=fun i h1 h2=>by
 by_cases q:i=j - 1
 ·rw[q,bK h];exact hc
 exact hs i aGR h2
abbrev Dp (t:aX)(cols:Z):AV × aGJ:=(.own 0,[(0,.arr 3 1 true ((oI (eV t cols).2).map intD))])
abbrev KK (t:aX)(cols:Z):Prop:=Cn 190 [aGz t,.one (.sl 3 1 (cols.map intD))] (Dp t cols).1 (Dp t cols).2
def Zf (t:aX)(cols:Z)(hl:cols.length<=1048576):KK t cols:=by
 refine cq Tryz.func190 (bN (yY t cols)<| bN (Gy ((eV t cols).2))<| .callx [.own 0] [(0,.arr 3 1 true ((eV t cols).2.map intD))] [(0,1500)] (.tup []) [(0,.arr 3 1 true ((lT ((eV t cols).2)).map intD))]<| .callx [.own 0] [(0,.arr 3 1 true ((lT ((eV t cols).2)).map intD))] [(0,1500)] (.tup []) [(0,.arr 3 1 true (((lT ((eV t cols).2)).reverse).map intD))]<| .fin [(0,1500)]) (p:=Lx (t.rows.map aD)<| Lx (cols.map intD)<| Dd t cols/\Jb ((eV t cols).2)/\xB Tryz.prog 202 [.own 0] [(0,.arr 3 1 true ((eV t cols).2.map intD))] (.tup []) [(0,.arr 3 1 true ((lT ((eV t cols).2)).map intD))]/\(eV t cols).2.map intD=(eV t cols).2.map intD/\xB Tryz.prog 204 [.own 0] [(0,.arr 3 1 true ((lT ((eV t cols).2)).map intD))] (.tup []) [(0,.arr 3 1 true (((lT ((eV t cols).2)).reverse).map intD))]/\(lT ((eV t cols).2)).map intD=(lT ((eV t cols).2)).map intD/\((lT ((eV t cols).2)).reverse).map intD=(oI (eV t cols).2).map intD/\True) ?_;refine lx fun n0=>lx fun n1=>?_;have hg:=NA t cols;refine⟨Qj t cols aGR,cpI _ aGR,ND ((eV t cols).2) aGR,rfl,Ze (lT ((eV t cols).2)) (by (rw[xX];omega)),rfl,?_,trivial⟩
 ·rfl
abbrev HI (l:Z):Prop:=Cn 206 [.one (.sl 3 1 (l.map intD))] (.p none (.sl 3 1 ((oI l).map intD))) []
def Wm (l:Z)(hc:l.length<=1048576):HI l:=by
 refine cq Tryz.func206 (.stl 3<| .loop (Nat × Z) (Q2 Nat Z) ([3,4,5]++rg 7 39) [3100,3500,4000,4100,4500] (fun yy0=>[(4,vI (yy0.1:Int)),(3,.p none (.sl 3 1 (yy0.2.map intD)))]) (fun yy0=>[]) (fun yy0=>yy0.1<=l.length/\yy0.2.Perm (l.take yy0.1)/\DE yy0.2) (fun yy0=>l.length - yy0.1) (fun yy0=> .len l.length<| .br (.len yy0.2.length<| .loop Nat (Q1 Nat) ([5]++rg 15 16) [] (fun j=>[(5,vI (j:Int))]) (fun j=>[]) (fun j=>j<=yy0.2.length/\(∀i,j<=i->i<yy0.2.length->yy0.2.getD i 0<l.getD yy0.1 0)) (fun j=>j) (fun j=> .br (.elem _ intD yy0.2 (fun e21=> .elem _ intD l (fun e25=> aGP<| .br (.back []) (.sub Int intD yy0.2<| .app Int intD ([]:Z) (yy0.2.take j)<| .elem _ intD l (fun e38=> .app Int intD (([]:Z)++(yy0.2.take j)) ([e38]:Z)<| .sub Int intD yy0.2<| .app Int intD ((([]:Z)++(yy0.2.take j))++[e38]) (yy0.2.drop j)<| .stl 3<| .back []))))) (.sub Int intD yy0.2<| .app Int intD ([]:Z) (yy0.2.take j)<| .elem _ intD l (fun e38=> .app Int intD (([]:Z)++(yy0.2.take j)) ([e38]:Z)<| .sub Int intD yy0.2<| .app Int intD ((([]:Z)++(yy0.2.take j))++[e38]) (yy0.2.drop j)<| .stl 3<| .back [])))) (.fin []))) (p:=Lx (l.map intD)<| (∃(k:Nat) (out:Z),0=(k:Int)/\[]=out.map intD/\k<=l.length/\out.Perm (l.take k)/\DE out)/\ ∀(k:Nat) (out:Z),(k<=l.length/\out.Perm (l.take k)/\DE out)->Lm intD l/\Br ((k:Int)<(l.length:Int)) (Lm intD out/\((∃(j:Nat),(out.length:Int)=(j:Int)/\j<=out.length/\(∀i,j<=i->i<out.length->out.getD i 0<l.getD k 0))/\ ∀(j:Nat),(j<=out.length/\(∀i,j<=i->i<out.length->out.getD i 0<l.getD k 0))->Br (0<(j:Int)) (bO ((j:Int) - 1)/\(0<=((j:Int) - 1)/\Em intD out (((j:Int) - 1).toNat) fun e21=>0<=(k:Int)/\Em intD l k fun e25=>Br (e21<e25) (bO ((j:Int) - 1)/\ ∃(j' :Nat),((j:Int) - 1)=(j' :Int)/\(j' <=out.length/\(∀i,j' <=i->i<out.length->out.getD i 0<l.getD k 0))/\j' <j) (out.map intD=out.map intD/\0<=(j:Int)/\(j:Int)<=(out.length:Int)/\Ap intD ([]:Z) (out.take j) 8 (0<=(k:Int)/\Em intD l k fun e38=>Ap intD (([]:Z)++(out.take j)) ([e38]:Z) 8 (out.map intD=out.map intD/\0<=(j:Int)/\(j:Int)<=(out.length:Int)/\Ap intD ((([]:Z)++(out.take j))++[e38]) (out.drop j) 8 (bO ((k:Int)+1)/\ ∃(k' :Nat) (out' :Z),((k:Int)+1)=(k' :Int)/\(((([]:Z)++(out.take j))++[e38])++(out.drop j)).map intD=out'.map intD/\(k' <=l.length/\out'.Perm (l.take k')/\DE out')/\l.length - k' <l.length - k)))))) (out.map intD=out.map intD/\0<=(j:Int)/\(j:Int)<=(out.length:Int)/\Ap intD ([]:Z) (out.take j) 8 (0<=(k:Int)/\Em intD l k fun e38=>Ap intD (([]:Z)++(out.take j)) ([e38]:Z) 8 (out.map intD=out.map intD/\0<=(j:Int)/\(j:Int)<=(out.length:Int)/\Ap intD ((([]:Z)++(out.take j))++[e38]) (out.drop j) 8 (bO ((k:Int)+1)/\ ∃(k' :Nat) (out' :Z),((k:Int)+1)=(k' :Int)/\(((([]:Z)++(out.take j))++[e38])++(out.drop j)).map intD=out'.map intD/\(k' <=l.length/\out'.Perm (l.take k')/\DE out')/\l.length - k' <l.length - k)))))) (out.map intD=(oI l).map intD/\True)) ?_;refine lx fun n0=>?_;refine⟨⟨0,([]:Z),rfl,rfl,aBC _,List.Perm.refl _,List.Pairwise.nil⟩,fun k out ⟨hk,hp,hd⟩=>?_⟩;have hpl:=hp.length_eq;rw[aF5] at hpl;refine⟨aAb _,dd (fun c0=>?_) fun c0=>?_⟩
 ·refine⟨aAb _,⟨out.length,(by rfl),aFC _,fun i h1 h2=>aGR⟩,fun j ⟨hj,hs⟩=>?_⟩;apply dd<;>intro g17
  ·refine⟨aGS,aGR,rfl,aGR,fun e21 h21=>?_⟩;have i21:out[j - 1]? =some e21:=by rw[<-h21];congr 1;omega
   refine⟨aGR,rfl,aGR,fun e25 h25=>?_⟩;apply dd<;>intro c1
   ·have hlt:=Wl i21 (by rw[bK h25];exact c1:e21<l.getD k 0) hs;refine⟨aGS,?_⟩;exact⟨j - 1,(by omega),⟨aGR,hlt⟩,aGR⟩
   ·have hx:j=0\/ ¬out.getD (j - 1) 0<l.getD k 0:=by (right;rw[bK i21,bK h25];exact c1)
    refine⟨rfl,aGR,aGR,?_⟩;refine ap ?_ (fun _=>rfl) (by (simp;omega));refine⟨aGR,rfl,aGR,fun e38 h38=>?_⟩;rw[bK h38] at hx hs;refine ap ?_ (fun _=>rfl) (by (simp;omega));refine⟨rfl,aGR,aGR,?_⟩;refine ap ?_ (fun _=>rfl) (by (simp;omega));refine⟨aGS,?_⟩;exact⟨k+1,((([]:Z)++(out.take j))++[e38])++(out.drop j),rfl,rfl,⟨aGR,RQ hp h38,RR hd hj hs hx⟩,aGR⟩
  ·have hx:j=0\/ ¬out.getD (j - 1) 0<l.getD k 0:=by (left;omega)
   refine⟨rfl,aGR,aGR,?_⟩;refine ap ?_ (fun _=>rfl) (by (simp;omega));refine⟨aGR,rfl,aGR,fun e38 h38=>?_⟩;rw[bK h38] at hx hs;refine ap ?_ (fun _=>rfl) (by (simp;omega));refine⟨rfl,aGR,aGR,?_⟩;refine ap ?_ (fun _=>rfl) (by (simp;omega));refine⟨aGS,?_⟩;exact⟨k+1,((([]:Z)++(out.take j))++[e38])++(out.drop j),rfl,rfl,⟨aGR,RQ hp h38,RR hd hj hs hx⟩,aGR⟩
 ·have hE:out=oI l:=RP ((by rw[aCR aGR] at hp;exact hp:out.Perm l).trans (Do l).symm) hd (TX l);apply et1
  ·rw[hE]
abbrev BT (name:E)(arity:Int)(rows:List Z):AV × aGJ:=(.tup [.agg [.p none (.str ((qE name arity rows).1.name)),vI ((qE name arity rows).1.l),.own 0],vB ((qE name arity rows).2)],[(0,.arr 51 1 true ((qE name arity rows).1.rows.map aD))])
abbrev HJ (name:E)(arity:Int)(rows:List Z):Prop:=Cn 191 [.one (.str name),.one (.int .i64 arity),.one (.sl 51 1 (rows.map aD))] (BT name arity rows).1 (BT name arity rows).2
def Wn (name:E)(arity:Int)(rows:List Z)(hc:dG rows<=1048576):HJ name arity rows:=by
 refine cq Tryz.func191 (.loop (Nat × (List Z)) (Q2 Nat (List Z)) ([9]++rg 13 20) [800,3100,9000] (fun yy0=>[(9,vI (yy0.1:Int))]) (fun yy0=>[(800,some (.box 155 [.p none (.str name),vI arity,.own 9000])),(9000,some (.arr 51 1 true (yy0.2.map aD)))]) (fun yy0=>yy0.1<=rows.length/\yy0.2=cR (rows.take yy0.1)) (fun yy0=>rows.length - yy0.1) (fun yy0=> .len rows.length<| .br (.len yy0.2.length<| aGQ<| .br (.elem _ aD rows (fun e29=>bN (uV yy0.2 e29)<| .back [(800,800),(9000,3100)])) (.call (vB (aW (⟨name,arity,yy0.2⟩:aX))) []<| .br (.fin []) (.fin [(0,9000)]))) (.call (vB (aW (⟨name,arity,yy0.2⟩:aX))) []<| .br (.fin []) (.fin [(0,9000)])))) (p:=Lx (rows.map aD)<| (∃(k:Nat) (acc:List Z),0=(k:Int)/\name=name/\arity=arity/\[]=acc.map aD/\k<=rows.length/\acc=cR (rows.take k))/\ ∀(k:Nat) (acc:List Z),(k<=rows.length/\acc=cR (rows.take k))->Lm aD rows/\Br ((k:Int)<(rows.length:Int)) (Lm aD acc/\Br ((acc.length:Int)<=8) (0<=(k:Int)/\Em aD rows k fun e29=>yZ acc e29/\bO ((k:Int)+1)/\ ∃(k' :Nat) (acc' :List Z),((k:Int)+1)=(k' :Int)/\name=name/\arity=arity/\(mP e29 acc).map aD=acc'.map aD/\(k' <=rows.length/\acc' =cR (rows.take k'))/\rows.length - k' <rows.length - k) (rO (⟨name,arity,acc⟩:aX)/\Nr (aW (⟨name,arity,acc⟩:aX)) (ByteArray.empty=((qE name arity rows).1.name)/\0=((qE name arity rows).1.l)/\(false)=((qE name arity rows).2)/\[]=(qE name arity rows).1.rows.map aD/\True) (name=((qE name arity rows).1.name)/\arity=((qE name arity rows).1.l)/\(true)=((qE name arity rows).2)/\acc.map aD=(qE name arity rows).1.rows.map aD/\True))) (rO (⟨name,arity,acc⟩:aX)/\Nr (aW (⟨name,arity,acc⟩:aX)) (ByteArray.empty=((qE name arity rows).1.name)/\0=((qE name arity rows).1.l)/\(false)=((qE name arity rows).2)/\[]=(qE name arity rows).1.rows.map aD/\True) (name=((qE name arity rows).1.name)/\arity=((qE name arity rows).1.l)/\(true)=((qE name arity rows).2)/\acc.map aD=(qE name arity rows).1.rows.map aD/\True))) ?_;refine lx fun n0=>?_;have hlen:=gP rows;refine⟨⟨0,([]:List Z),rfl,rfl,rfl,rfl,aBC _,rfl⟩,fun k acc ⟨hk,ha⟩=>?_⟩;refine⟨aAb _,dd (fun g17=>?_) fun g17=>?_⟩
 ·refine⟨aAb _,dd (fun c0=>?_) fun c0=>?_⟩
  ·have hp:=Qt rows k;rw[<-ha] at hp;refine⟨aGR,rfl,aGR,fun e29 h29=>?_⟩;have hp3:=CW h29;refine⟨Jh acc e29 aGR aGR aGR,aGS,?_⟩;exact⟨k+1,_,rfl,rfl,rfl,rfl,⟨aGR,by rw[ha,bW h29,E8]⟩,aGR⟩
  ·have hend:=Qu (name:=name) (arity:=arity) ha aGR;refine⟨BF (⟨name,arity,acc⟩:aX),dm (fun c1=>?_) fun c1=>?_⟩
   ·have hbad:aW ⟨name,arity,cR rows⟩=false:=by rw[<-hend.1];simpa using c1
    apply et4<;>((rw[Oz hbad]<;>rfl))
   ·have hok0:aW ⟨name,arity,acc⟩=true:=by simpa using c1
    have hok:aW ⟨name,arity,cR rows⟩=true:=by rw[<-hend.1];exact hok0
    have hacc:=hend.2 hok0;apply et4<;>(first|(rw[xU hok]<;>rfl)|(rw[xU hok];exact congrArg (List.map aD) hacc))
 ·have hend:=Qu (name:=name) (arity:=arity) ha aGR;refine⟨BF (⟨name,arity,acc⟩:aX),dm (fun c1=>?_) fun c1=>?_⟩
  ·have hbad:aW ⟨name,arity,cR rows⟩=false:=by rw[<-hend.1];simpa using c1
   apply et4<;>((rw[Oz hbad]<;>rfl))
  ·have hok0:aW ⟨name,arity,acc⟩=true:=by simpa using c1
   have hok:aW ⟨name,arity,cR rows⟩=true:=by rw[<-hend.1];exact hok0
   have hacc:=hend.2 hok0;apply et4<;>(first|(rw[xU hok]<;>rfl)|(rw[xU hok];exact congrArg (List.map aD) hacc))
abbrev BU (x:aQ):AV × aGJ:=(.tup [.agg [.p none (.str ((qP x).1.name)),vI ((qP x).1.l),.own 0],vB ((qP x).2)],[(0,.arr 51 1 true ((qP x).1.rows.map aD))])
abbrev HK (x:aQ):Prop:=Cn 168 [aGZ x] (BU x).1 (BU x).2
def Wo (x:aQ)(hc:cP x<=1048576):HK x:=by
 refine cq Tryz.func168 (.len x.t.length<| .br (.fin []) (.len x.t.length<| .elem _ aL x.t (fun e22=>bN (BT x.name x.l e22.values)<| .fin [(0,2500)]))) (p:=Lx (x.t.map aL)<| Lm aL x.t/\Br ((x.t.length:Int)=0) (ByteArray.empty=((qP x).1.name)/\0=((qP x).1.l)/\(false)=((qP x).2)/\[]=(qP x).1.rows.map aD/\True) (Lm aL x.t/\bO ((x.t.length:Int) - 1)/\0<=((x.t.length:Int) - 1)/\Em aL x.t (((x.t.length:Int) - 1).toNat) fun e22=>HJ x.name x.l e22.values/\((qE x.name x.l e22.values).1.name)=((qP x).1.name)/\((qE x.name x.l e22.values).1.l)=((qP x).1.l)/\((qE x.name x.l e22.values).2)=((qP x).2)/\(qE x.name x.l e22.values).1.rows.map aD=(qP x).1.rows.map aD/\True)) ?_;refine lx fun n0=>?_;have q2:cP x=x.name.size+jU x.t:=rfl;have q5:=lY x.t;refine⟨aAb _,dd (fun c0=>?_) fun c0=>?_⟩
 ·have hT:qP x=(rM,false):=by rw[qP,if_pos aGR]
  apply et4<;>((rw[hT]<;>rfl))
 ·have hT:qP x=qE x.name x.l (nG x):=by rw[qP,if_neg aGR]
  refine⟨aAb _,aGS,aGR,rfl,aGR,fun e22 h22=>?_⟩;have i22:x.t[x.t.length - 1]? =some e22:=by rw[<-h22];congr 1;omega
  have hL:nG x=e22.values:=Qm i22;rw[hL] at hT;have q1:=kY i22;have q3:iV e22=eL e22.C+dG e22.values+eL e22.counts:=rfl;have q6:eL e22.C=e22.C.length:=rfl;have q7:eL e22.counts=e22.counts.length:=rfl;have q8:=gP e22.values;refine⟨Wn _ _ _ aGR,?_,?_,?_,?_,trivial⟩<;>((rw[hT]<;>rfl))
abbrev zL (x:aQ):Prop:=Cn 130 [aGZ x] (vB (cS x)) []
def KL (x:aQ)(hc:cP x<=1048576):zL x:=by
 refine cq Tryz.func130 (bN (BU x)<| .br (bN (CY ((qP x).1))<| .call (vB (decide ((bM ((qP x).1))=x))) []<| .fin []) (.fin [])) (p:=Lx (x.t.map aL)<| HK x/\Bb ((qP x).2) (GF ((qP x).1)/\uP (bM ((qP x).1)) x/\(decide ((bM ((qP x).1))=x))=(cS x)/\True) ((false)=(cS x)/\True)) ?_;refine lx fun n0=>?_;have hst:=G8 (qP x).1;have hsame:=WT x;refine⟨Wo x aGR,db (fun g11=>?_) fun g11=>?_⟩
 ·refine⟨Uu ((qP x).1),Eu _ _ aGR,?_,trivial⟩
  ·(rw[<-hsame,g11];simp;done)
 ·apply et1
  ·(rw[<-hsame,g11];simp;done)
def NL:oI []= []:=aDE (Wk [])
def Wp (a:Int):oI [a]= [a]:=List.perm_singleton.1 (Do [a])
def kL (x:aQ)(cols:Z):Z:=if cS x=true then oI (eV (eM x) cols).2 else []
def RS {x:aQ}{cols:Z}(h:cS x=true):kL x cols=oI (eV (eM x) cols).2:=by rw[kL,if_pos h]
def U8 {x:aQ}{cols:Z}(h:cS x=false):kL x cols= []:=by rw[kL,if_neg (by rw[h];decide)]
def Wq {x:aQ}{cols:Z}{k:Nat}{g:aY}(h:cS x=true)(hg:x.t[k]? =some g)(hc:g.C=cols):g.counts=(eV (eM x) cols).2:=by
 rw[Jq h,aGB] at hg;cases e:(cD x.l)[k]? with
 | none=>rw[e] at hg;simp at hg
 | some c=>
   rw[e] at hg;simp only[Option.map_some,Option.some.injEq] at hg;subst hg;rw[show c=cols from hc];rfl
def Zg {n:Int}(hn:1<=n/\n<=3){cols:Z}(h:eP (n - 1) cols=true)(hne:cols≠[]):cols∈cD n:=by
 have hl:=E2 h aGR;have hlow:=Jf h;have hn3:n=1\/n=2\/n=3:=aGR
 match cols,hl with
 | [],_=>exact absurd rfl hne
 | [a],_=>
   have h0:=hlow 0 (by simp);simp at h0;have ha:a=0\/a=1\/a=2:=aGR
   rcases hn3 with rfl|rfl|rfl<;>rcases ha with rfl|rfl|rfl<;>first|decide|(exfalso;omega)
 | [a,b],_=>
   have h0:=hlow 0 (by simp);have h1:=hlow 1 (by simp);have h2:=aCS.1 h 1 (by simp);simp[kI] at h0 h1 h2;have ha:(a=0/\b=1)\/(a=0/\b=2)\/(a=1/\b=2):=aGR
   rcases hn3 with rfl|rfl|rfl<;>rcases ha with ⟨rfl,rfl⟩ | ⟨rfl,rfl⟩ | ⟨rfl,rfl⟩<;>first|decide|(exfalso;omega)
 | [a,b,c],_=>
   have h0:=hlow 0 (by simp);have h1:=hlow 1 (by simp);have h2:=hlow 2 (by simp);have h3:=aCS.1 h 1 (by simp);have h4:=aCS.1 h 2 (by simp);simp[kI] at h0 h1 h2 h3 h4;obtain⟨rfl,rfl,rfl⟩:a=0/\b=1/\c=2:=aGR
   rcases hn3 with rfl|rfl|rfl<;>first|decide|(exfalso;omega)
 | _::_::_::_::_,hl=>simp at hl
def Zh {x:aQ}{cols:Z}(h:cS x=true)(hall:x.t.all (fun g=> !decide (g.C=cols))=true)(hne: ¬(cols.length:Int)=0):(eV (eM x) cols).2= []:=by
 obtain⟨h1,h2⟩:=xV h;cases hc:eP ((eM x).l - 1) cols with
 | false=>rw[E1 (by simp[hc])]
 | true=>
   exfalso;have hm:=Zg (n:=x.l) (CZ h) hc (fun e=>hne (by rw[e];rfl));rw[Jq h] at hall;have:=aCS.1 hall _ (List.mem_map_of_mem hm);simp[xT] at this
def U9 {x:aQ}(h:cS x=true):(x.A=0->(eV (eM x) []).2= [])/\(¬x.A=0->(eV (eM x) []).2= [x.A]):=by
 obtain⟨h1,h2⟩:=xV h;have hc:=WU h;have hrows:(eM x).rows=nG x:=rfl;rw[uU (t:=eM x) (cols:=[]) (by rw[h1];rfl)];have e:mV (eM x) []=List.replicate (nG x).length []:=by simp[mV,gT,QX,hrows,List.map_const']
 have ev:TE (eM x) []=cR (List.replicate (nG x).length []):=by rw[TE,e,wE]
 show (x.A=0->Qi (eM x) []= [])/\(¬x.A=0->Qi (eM x) []= [x.A]);rw[Qi,ev,e];constructor
 ·intro h0;rw[show (nG x).length=0 by omega];rfl
 intro h0;have hpos:(nG x).length≠0:=aGR
 have hf:cR (List.replicate (nG x).length ([]:Z))= [[]]:=by
  obtain⟨p1,p2,_⟩:=wD (List.replicate (nG x).length ([]:Z)) [] List.Pairwise.nil;refine IF p1 (List.pairwise_singleton _ _) fun y=>?_;have:=p2 y;rw[cR,this];simp[List.mem_replicate,hpos]
 rw[hf,hc];simp[kJ]
abbrev DF (x:aQ)(cols:Z):Prop:=Cn 195 [aGZ x,.one (.sl 3 1 (cols.map intD))] (.p none (.sl 3 1 ((oI (eV (eM x) cols).2).map intD))) []
def RT (x:aQ)(cols:Z)(hc:cP x<=1048576)(hok:cS x=true):DF x cols:=by
 refine cq Tryz.func195 (.stl 4<| .len cols.length<| .br (.br (.stl 4<| .fin []) (.stl 4<| .fin [])) (.loop Nat (Q1 Nat) ([5]++rg 16 16) [] (fun k=>[(5,vI (k:Int))]) (fun k=>[]) (fun k=>k<=x.t.length/\(x.t.take k).all (fun g=> !decide (g.C=cols))=true) (fun k=>x.t.length - k) (fun k=> .len x.t.length<| .br (.elem _ aL x.t (fun e26=> .call (vI (cO e26.C cols)) []<| .br (.elem _ aL x.t (fun e35=> .call (.p none (.sl 3 1 ((oI e35.counts).map intD))) []<| .stl 4<| .fin [])) (.back []))) (.stl 4<| .fin [])))) (p:=Lx (x.t.map aL)<| Lx (cols.map intD)<| Lm intD cols/\Br ((cols.length:Int)=0) (Br (x.A=0) ([]=(oI (eV (eM x) cols).2).map intD/\True) ([[.int .i64 x.A]]=(oI (eV (eM x) cols).2).map intD/\True)) ((∃(k:Nat),0=(k:Int)/\k<=x.t.length/\(x.t.take k).all (fun g=> !decide (g.C=cols))=true)/\ ∀(k:Nat),(k<=x.t.length/\(x.t.take k).all (fun g=> !decide (g.C=cols))=true)->Lm aL x.t/\Br ((k:Int)<(x.t.length:Int)) (0<=(k:Int)/\Em aL x.t k fun e26=>gZ e26.C cols/\Br ((cO e26.C cols)=0) (0<=(k:Int)/\Em aL x.t k fun e35=>HI e35.counts/\(oI e35.counts).map intD=(oI (eV (eM x) cols).2).map intD/\True) (bO ((k:Int)+1)/\ ∃(k' :Nat),((k:Int)+1)=(k' :Int)/\(k' <=x.t.length/\(x.t.take k').all (fun g=> !decide (g.C=cols))=true)/\x.t.length - k' <x.t.length - k)) ([]=(oI (eV (eM x) cols).2).map intD/\True))) ?_;refine lx fun n0=>lx fun n1=>?_;have q2:cP x=x.name.size+jU x.t:=rfl;have q5:=lY x.t;refine⟨aAb _,dd (fun c0=>?_) fun c0=>?_⟩
 ·have hcz:cols= []:=aDE aGR;apply dd<;>intro c1
  ·have hE:(eV (eM x) cols).2= []:=by rw[hcz];exact(U9 hok).1 c1
   apply et1
   ·(rw[hE,NL]<;>rfl)
  ·have hE:(eV (eM x) cols).2= [x.A]:=by rw[hcz];exact(U9 hok).2 c1
   apply et1
   ·(rw[hE,Wp]<;>rfl)
 ·refine⟨⟨0,rfl,aBC _,rfl⟩,fun k ⟨hk,ha⟩=>?_⟩;refine⟨aAb _,dd (fun c2=>?_) fun c2=>?_⟩
  ·refine⟨aGR,rfl,aGR,fun e26 h26=>?_⟩
   try (obtain rfl:=(bE h26 h26).symm)
   have q1:=kY h26;have q3:iV e26=eL e26.C+dG e26.values+eL e26.counts:=rfl;have q6:eL e26.C=e26.C.length:=rfl;have q7:eL e26.counts=e26.counts.length:=rfl;have q8:=gP e26.values;refine⟨lC _ _,dd (fun c3=>?_) fun c3=>?_⟩
   ·have hE:=Wq hok h26 (fW.1 c3);refine⟨aGR,rfl,aGR,fun e35 h35=>?_⟩
    try (obtain rfl:=(bE h26 h35).symm)
    refine⟨Wm _ aGR,?_,trivial⟩
    ·(rw[hE];done)
   ·refine⟨aGS,?_⟩;exact⟨k+1,rfl,⟨aGR,cL h26 ha (by simpa using fun q=>c3 (fW.2 q))⟩,aGR⟩
  ·have hE:=Zh hok (dD aGR ha) c0;apply et1
   ·(rw[hE,NL]<;>rfl)
abbrev KM (x:aQ)(cols:Z):Prop:=Cn 171 [aGZ x,.one (.sl 3 1 (cols.map intD))] (.p none (.sl 3 1 ((kL x cols).map intD))) []
def Zi (x:aQ)(cols:Z)(hc:cP x<=1048576)(hl:cols.length<=1048576):KM x cols:=by
 refine cq Tryz.func171 (.stl 4<| .call (vB (cS x)) []<| .br (.stl 4<| .fin []) (.call (.p none (.sl 3 1 ((oI (eV (eM x) cols).2).map intD))) []<| .stl 4<| .fin [])) (p:=Lx (x.t.map aL)<| Lx (cols.map intD)<| zL x/\Nr (cS x) ([]=(kL x cols).map intD/\True) (DF x cols/\(oI (eV (eM x) cols).2).map intD=(kL x cols).map intD/\True)) ?_;refine lx fun n0=>lx fun n1=>?_;refine⟨KL _ aGR,dm (fun c0=>?_) fun c0=>?_⟩
 ·have hE:kL x cols= []:=U8 (by simpa using c0);apply et1
  ·(rw[hE]<;>rfl)
 ·have hE:=RS (cols:=cols) (by simpa using c0:cS x=true);refine⟨RT _ _ aGR (by assumption),?_,trivial⟩
  ·(rw[hE]<;>rfl)
abbrev Dq (x:aQ)(cols:Z):AV × aGJ:=(.own 0,[(0,.arr 3 1 true ((kL x cols).map intD))])
abbrev KN (x:aQ)(cols:Z):Prop:=Cn 164 [aGZ x,.one (.sl 3 1 (cols.map intD))] (Dq x cols).1 (Dq x cols).2
def Zj (x:aQ)(cols:Z)(hc:cP x<=1048576)(hl:cols.length<=1048576):KN x cols:=by
 refine cq Tryz.func164 (bN (tP x)<| .br (.fin []) (bN (Dp (eM x) cols)<| .fin [(0,1600)])) (p:=Lx (x.t.map aL)<| Lx (cols.map intD)<| zA x/\Nr (cS x) ([]=(kL x cols).map intD/\True) (KK (eM x) cols/\(oI (eV (eM x) cols).2).map intD=(kL x cols).map intD/\True)) ?_;refine lx fun n0=>lx fun n1=>?_;refine⟨Jp x aGR,dm (fun c0=>?_) fun c0=>?_⟩
 ·have hE:kL x cols= []:=U8 (by simpa using c0);apply et1
  ·(rw[hE]<;>rfl)
 ·have hE:=RS (cols:=cols) (by simpa using c0:cS x=true);refine⟨Zf (eM x) _ aGR,?_,trivial⟩
  ·(rw[hE]<;>rfl)
abbrev HM (x:aQ)(cols:Z):Prop:=Cn 134 [aGZ x,.one (.sl 3 1 (cols.map intD))] (vI ((kL x cols).getD 0 0)) []
def Wr (x:aQ)(cols:Z)(hc:cP x<=1048576)(hl:cols.length<=1048576):HM x cols:=by
 refine cq Tryz.func134 (.call (.p none (.sl 3 1 ((kL x cols).map intD))) []<| .len ((kL x cols).length)<| .br (.fin []) (.elem _ intD (kL x cols) (fun e13=> .fin []))) (p:=Lx (x.t.map aL)<| Lx (cols.map intD)<| KM x cols/\Lm intD (kL x cols)/\Br ((((kL x cols).length:Nat):Int)=0) (0=((kL x cols).getD 0 0)/\True) (0<=(0:Int)/\Em intD (kL x cols) 0 fun e13=>e13=((kL x cols).getD 0 0)/\True)) ?_;refine lx fun n0=>lx fun n1=>?_;refine⟨Zi _ _ aGR aGR,aAb _,dd (fun c0=>?_) fun c0=>?_⟩
 ·have hz:kL x cols= []:=aDE aGR;apply et1
  ·(rw[hz]<;>rfl)
 ·refine⟨aGR,rfl,aGR,fun e13 h13=>?_⟩;apply et1
  ·(rw[bK h13])
abbrev HN (x:aQ)(cols:Z):Prop:=Cn 124 [aGZ x,.one (.sl 3 1 (cols.map intD))] (vI ((kL x cols).getD 0 0)) []
def Ws (x:aQ)(cols:Z)(hc:cP x<=1048576)(hl:cols.length<=1048576):HN x cols:=by
 refine cq Tryz.func124 (bN (Dq x cols)<| .len ((kL x cols).length)<| .br (.fin []) (.len ((kL x cols).length)<| .elem _ intD (kL x cols) (fun e14=> .fin []))) (p:=Lx (x.t.map aL)<| Lx (cols.map intD)<| KN x cols/\Lm intD (kL x cols)/\Br ((((kL x cols).length:Nat):Int)=0) (0=((kL x cols).getD 0 0)/\True) (0<=(0:Int)/\Lm intD (kL x cols)/\0<(((kL x cols).length:Nat):Int)/\Em intD (kL x cols) 0 fun e14=>e14=((kL x cols).getD 0 0)/\True)) ?_;refine lx fun n0=>lx fun n1=>?_;refine⟨Zj _ _ aGR aGR,aAb _,dd (fun c0=>?_) fun c0=>?_⟩
 ·have hz:kL x cols= []:=aDE aGR;apply et1
  ·(rw[hz]<;>rfl)
 ·refine⟨aGR,aAb _,aGR,rfl,aGR,fun e14 h14=>?_⟩;apply et1
  ·(rw[bK h14])
def TY (m x:Int):Int:=if eZ x 0 3=true then cH .or .i64 m ((1:Int)*2^x.toNat) else m
def kB (l:Z):Int:=l.foldl TY 0
def vE (l:Z)(x:Int):kB (l++[x])=TY (kB l) x:=by simp[kB]
def RU {m x:Int}(h:eZ x 0 3=true):TY m x=cH .or .i64 m ((1:Int)*2^x.toNat):=by rw[TY,if_pos h]
def VA {m x:Int}(h:eZ x 0 3=false):TY m x=m:=by rw[TY,if_neg (by rw[h];decide)]
def GQ {x:Int}(h:eZ x 0 3=true):bO ((1:Int)*2^x.toNat)/\0<=x/\x<=64:=by
 have h2:=eU h;have h1:x=0\/x=1\/x=2\/x=3:=aGR
 refine⟨?_,aGR,aGR⟩;unfold bO;rcases h1 with rfl | rfl | rfl | rfl<;>exact⟨by decide,by decide⟩
def Dr (m:Int)(l:Z):Nat->Int
 | 0=>0
 | k+1=>if (decide (cH .and .i64 (m/2^k) 1=1)&&eZ (l.getD k 0) 0 3)=true then cH .or .i64 (Dr m l k) ((1:Int)*2^(l.getD k 0).toNat) else Dr m l k
def aCW {m:Int}{l:Z}{k:Nat}{x:Int}(hx:l[k]? =some x)(h1:cH .and .i64 (m/2^k) 1=1)(h2:eZ x 0 3=true):Dr m l (k+1)=cH .or .i64 (Dr m l k) ((1:Int)*2^x.toNat):=by
 rw[Dr,bK hx,if_pos (by simp[h1,h2])]
def Zk {m:Int}{l:Z}{k:Nat}{x:Int}(hx:l[k]? =some x)(h:(decide (cH .and .i64 (m/2^k) 1=1)&&eZ x 0 3)=false):Dr m l (k+1)=Dr m l k:=by
 rw[Dr,bK hx,if_neg (by rw[h];decide)]
theorem KO (m:Int)(l:Z): ∀k,kB ((nO m k).map (wC l))=Dr m l k
 | 0=>rfl
 | k+1=>by
   by_cases h:cH .and .i64 (m/2^k) 1=1
   ·rw[GC h,aDM,aDH,List.map_nil,vE,KO m l k];have e:wC l (k:Int)=l.getD k 0:=by simp[wC]
    rw[e,Dr,TY];simp[h]
   rw[Jm h,KO m l k,Dr,if_neg (by simp[h])]
def KP {m:Int}{l:Z}{k:Nat}(h:m/2^k=0):Dr m l (k+1)=Dr m l k:=by
 rw[Dr,if_neg (by rw[h];simp[show ¬cH .and .i64 0 1=1 by decide])]
def NM {m:Int}{l:Z}{n:Int}(hn:1<=n/\n<=3)(hl:(l.length:Int)=n)(h0:0<=m)(h1:m<2^n.toNat - 1):Dr m l (min l.length 3)=Dr m l 3:=by
 have h:n=1\/n=2\/n=3:=aGR
 rcases h with rfl | rfl | rfl
 ·have hm:m=0:=by simp at h1;omega
  subst hm;rw[show min l.length 3=1 by omega,KP (k:=2) (by decide),KP (k:=1) (by decide)]
 ·have hm:m<4:=by simp at h1;omega
  rw[show min l.length 3=2 by omega,KP (k:=2) aGR]
 rw[show min l.length 3=3 by omega]
def RV {m:Int}{l:Z}{n:Int}(hn:1<=n/\n<=3)(hl:(l.length:Int)=n)(h0:0<=m)(h1:m<2^n.toNat - 1):kB (gT l (fZ m)).1=Dr m l 3:=by
 have hs:QX l.length (fZ m)=true:=by
  rw[hl];have h:n=1\/n=2\/n=3:=aGR
  rcases h with rfl | rfl | rfl
  ·have hm:m=0:=by simp at h1;omega
   subst hm;decide
  ·have hm:m=0\/m=1\/m=2:=by simp at h1;omega
   rcases hm with rfl | rfl | rfl<;>decide
  have hm:m=0\/m=1\/m=2\/m=3\/m=4\/m=5\/m=6:=by simp at h1;omega
  rcases hm with rfl | rfl | rfl | rfl | rfl | rfl | rfl<;>decide
 rw[gT,if_pos hs];exact KO m l 3
def mD:Nat->Nat->Int->Int
 | 0,b,_=>b
 | f+1,b,n=>if (2:Int)^b<n then mD f (b+1) n else b
def vR (n:Int):Int:=if eZ n 1 4096=true then mD 12 0 n else -1
def KQ {b:Nat}{n:Int}(h2:n<=4096)(hb:b<=12)(h:(2:Int)^b<n):b<12/\mD (12 - (b+1)) (b+1) n=mD (12 - b) b n:=by
 have hlt:b<12:=by
  rcases Nat.lt_or_ge b 12 with h' | h'
  ·exact h'
  obtain rfl:b=12:=aGR
  exact absurd h (by have:(2:Int)^12=4096:=by decide
                     omega)
 refine⟨hlt,?_⟩;obtain⟨f,hf⟩: ∃f,12 - b=f+1:=⟨11 - b,aGR⟩;rw[hf,show 12 - (b+1)=f by omega,mD,if_pos h]
theorem KR {b:Nat}{n:Int}(h:n<=2^b): ∀f,mD f b n=b
 | 0=>rfl
 | f+1=>by rw[mD,if_neg aGR]
def Xj (x:aQ)(a:cT)(m:Nat):aI:=⟨Dr (m:Int) a.vars 3,kB a.vars,vR ((kL x (fZ (m:Int))).getD 0 0)⟩
def vS (x:aQ)(a:cT):Bool:=cS x&&(!decide (x.A=0)&&decide ((a.vars.length:Int)=x.l))
def pL (x:aQ)(a:cT):List aI:=if vS x a=true then (List.range ((2:Int)^x.l.toNat - 1).toNat).map (Xj x a) else []
def KS {x:aQ}{a:cT}(h:vS x a=true):pL x a=(List.range ((2:Int)^x.l.toNat - 1).toNat).map (Xj x a):=by rw[pL,if_pos h]
def zM {x:aQ}{a:cT}(h:vS x a=false):pL x a= []:=by rw[pL,if_neg (by rw[h];decide)]
def Ds {x:aQ}{a:cT}(h:vS x a=true):cS x=true/\(a.vars.length:Int)=x.l:=by
 simp only[vS,aBB,aFI] at h;exact⟨h.1,h.2.2⟩
def KT (x:aQ)(a:cT):(pL x a).length<=7:=by
 cases h:vS x a with
 | false=>rw[zM h];exact aBC _
 | true=>
   have:=uA (CZ (Ds h).1);rw[KS h,aAb,List.length_range];omega
abbrev BV (l:Z):Prop:=Cn 122 [.one (.sl 3 1 (l.map intD))] (vI (kB l)) []
def NN (l:Z):BV l:=by
 refine cq Tryz.func122 (.len l.length<| .loop (Nat × Int) (Q2 Nat Int) ([3,5]++rg 8 11) [] (fun yy0=>[(8,vI (yy0.1:Int)),(3,vI yy0.2)]) (fun yy0=>[]) (fun yy0=>yy0.1<=l.length/\yy0.2=kB (l.take yy0.1)) (fun yy0=>l.length - yy0.1) (fun yy0=> .br (.elem _ intD l (fun e10=> .call (vB (eZ e10 (0:Int) (3:Int))) []<| .br (.back []) (.back []))) (.fin []))) (p:=Lx (l.map intD)<| Lm intD l/\((∃(k:Nat) (o:Int),0=(k:Int)/\0=o/\k<=l.length/\o=kB (l.take k))/\ ∀(k:Nat) (o:Int),(k<=l.length/\o=kB (l.take k))->Br ((k:Int)<(l.length:Int)) (0<=(k:Int)/\Em intD l k fun e10=>fX e10 (0:Int) (3:Int)/\Bb (eZ e10 (0:Int) (3:Int)) ((0<=e10/\e10<=64)/\bO ((1:Int)*2^(Int.toNat e10))/\bO ((k:Int)+1)/\ ∃(k' :Nat) (o' :Int),((k:Int)+1)=(k' :Int)/\(cH .or .i64 o ((1:Int)*2^(Int.toNat e10)))=o' /\(k' <=l.length/\o' =kB (l.take k'))/\l.length - k' <l.length - k) (bO ((k:Int)+1)/\ ∃(k' :Nat) (o' :Int),((k:Int)+1)=(k' :Int)/\o=o' /\(k' <=l.length/\o' =kB (l.take k'))/\l.length - k' <l.length - k)) (o=(kB l)/\True))) ?_;refine lx fun n0=>?_;refine⟨aAb _,⟨0,0,rfl,rfl,aBC _,rfl⟩,fun k o ⟨hk,hv⟩=>?_⟩;apply dd<;>intro c0
 ·refine⟨aGR,rfl,aGR,fun e10 h10=>?_⟩
  try (obtain rfl:=(bE h10 h10).symm)
  refine⟨kP _ _ _,db (fun c1=>?_) fun c1=>?_⟩
  ·obtain⟨w1,w2,w3⟩:=GQ c1;refine⟨aGS,by exact w1,by exact aGS,?_⟩;exact⟨k+1,_,rfl,rfl,⟨aGR,by (rw[bW h10,vE,RU c1,hv];done)⟩,aGR⟩
  ·refine⟨by exact aGS,?_⟩;exact⟨k+1,_,rfl,rfl,⟨aGR,by (rw[bW h10,vE,VA c1,hv];done)⟩,aGR⟩
 ·apply et1
  ·rw[hv,aCR aGR]
abbrev HO (l:Z):Prop:=Cn 132 [.one (.sl 3 1 (l.map intD))] (vI (kB l)) []
def Wt (l:Z):HO l:=by
 refine cq Tryz.func132 (.loop (Nat × Int) (Q2 Nat Int) (rg 3 20) [] (fun yy0=>[(4,vI (yy0.1:Int)),(3,vI yy0.2)]) (fun yy0=>[]) (fun yy0=>yy0.1<=l.length/\yy0.2=kB (l.take yy0.1)) (fun yy0=>l.length - yy0.1) (fun yy0=> .len l.length<| .br (.elem _ intD l (fun e13=> .call (vB (eZ e13 (0:Int) (3:Int))) []<| .br (.elem _ intD l (fun e19=> .back [])) (.back []))) (.fin []))) (p:=Lx (l.map intD)<| (∃(k:Nat) (o:Int),0=(k:Int)/\0=o/\k<=l.length/\o=kB (l.take k))/\ ∀(k:Nat) (o:Int),(k<=l.length/\o=kB (l.take k))->Lm intD l/\Br ((k:Int)<(l.length:Int)) (0<=(k:Int)/\Em intD l k fun e13=>fO e13 (0:Int) (3:Int)/\Bb (eZ e13 (0:Int) (3:Int)) (0<=(k:Int)/\Em intD l k fun e19=>(0<=e19/\e19<=64)/\bO ((1:Int)*2^(Int.toNat e19))/\bO ((k:Int)+1)/\ ∃(k' :Nat) (o' :Int),((k:Int)+1)=(k' :Int)/\(cH .or .i64 o ((1:Int)*2^(Int.toNat e19)))=o' /\(k' <=l.length/\o' =kB (l.take k'))/\l.length - k' <l.length - k) (bO ((k:Int)+1)/\ ∃(k' :Nat) (o' :Int),((k:Int)+1)=(k' :Int)/\o=o' /\(k' <=l.length/\o' =kB (l.take k'))/\l.length - k' <l.length - k)) (o=(kB l)/\True)) ?_;refine lx fun n0=>?_;refine⟨⟨0,0,rfl,rfl,aBC _,rfl⟩,fun k o ⟨hk,hv⟩=>?_⟩;refine⟨aAb _,dd (fun c0=>?_) fun c0=>?_⟩
 ·refine⟨aGR,rfl,aGR,fun e13 h13=>?_⟩
  try (obtain rfl:=(bE h13 h13).symm)
  refine⟨jV _ _ _,db (fun c1=>?_) fun c1=>?_⟩
  ·obtain⟨w1,w2,w3⟩:=GQ c1;refine⟨aGR,rfl,aGR,fun e19 h19=>?_⟩
   try (obtain rfl:=(bE h13 h19).symm)
   refine⟨aGS,by exact w1,by exact aGS,?_⟩;exact⟨k+1,_,rfl,rfl,⟨aGR,by (rw[bW h13,vE,RU c1,hv];done)⟩,aGR⟩
  ·refine⟨by exact aGS,?_⟩;exact⟨k+1,_,rfl,rfl,⟨aGR,by (rw[bW h13,vE,VA c1,hv];done)⟩,aGR⟩
 ·apply et1
  ·rw[hv,aCR aGR]
abbrev HP (n:Int):Prop:=Cn 123 [.one (.int .i64 n)] (vI (vR n)) []
def Wu (n:Int):HP n:=by
 refine cq Tryz.func123 (.call (vB (eZ n (1:Int) (4096:Int))) []<| .br (.fin []) (.loop Nat (Q1 Nat) [3,7,8,9,10,11,12] [] (fun b=>[(3,vI (b:Int))]) (fun b=>[]) (fun b=>b<=12/\mD (12 - b) b n=mD 12 0 n) (fun b=>12 - b) (fun b=> .br (.back []) (.fin [])))) (p:=fX n (1:Int) (4096:Int)/\Nr (eZ n (1:Int) (4096:Int)) ((-1:Int)=(vR n)/\True) ((∃(b:Nat),0=(b:Int)/\b<=12/\mD (12 - b) b n=mD 12 0 n)/\ ∀(b:Nat),(b<=12/\mD (12 - b) b n=mD 12 0 n)->(0<=(b:Int)/\(b:Int)<=64)/\bO ((1:Int)*2^b)/\Br (((1:Int)*2^b)<n) (bO ((b:Int)+1)/\ ∃(b' :Nat),((b:Int)+1)=(b' :Int)/\(b' <=12/\mD (12 - b') b' n=mD 12 0 n)/\12 - b' <12 - b) ((b:Int)=(vR n)/\True))) ?_;refine⟨kP _ _ _,dm (fun c0=>?_) fun c0=>?_⟩
 ·have hn:eZ n 1 4096=false:=by simpa using c0
  apply et1
  ·(rw[vR,if_neg (by rw[hn];decide)];done)
 ·have hn:eZ n 1 4096=true:=by simpa using c0
  obtain⟨w1,w2⟩:=eU hn;refine⟨⟨0,rfl,aGR,rfl⟩,fun b ⟨hb,hr⟩=>?_⟩;refine⟨aGS,by (have hp:=UJ b hb;exact aGS),dd (fun c1=>?_) fun c1=>?_⟩
  ·obtain⟨w3,w4⟩:=KQ w2 hb aGR;refine⟨by exact aGS,?_⟩;exact⟨b+1,rfl,⟨aGR,by rw[w4];exact hr⟩,aGR⟩
  ·have w5:=KR (b:=b) (n:=n) aGR (12 - b);apply et1
   ·(rw[vR,if_pos hn,<-hr,w5])
abbrev HQ (n:Int):Prop:=Cn 133 [.one (.int .i64 n)] (vI (vR n)) []
def Wv (n:Int):HQ n:=by
 refine cq Tryz.func133 (.call (vB (eZ n (1:Int) (4096:Int))) []<| .br (.fin []) (.loop Nat (Q1 Nat) [3,7,8,9,10,11,12] [] (fun b=>[(3,vI (b:Int))]) (fun b=>[]) (fun b=>b<=12/\mD (12 - b) b n=mD 12 0 n) (fun b=>12 - b) (fun b=> .br (.back []) (.fin [])))) (p:=fO n (1:Int) (4096:Int)/\Nr (eZ n (1:Int) (4096:Int)) ((-1:Int)=(vR n)/\True) ((∃(b:Nat),0=(b:Int)/\b<=12/\mD (12 - b) b n=mD 12 0 n)/\ ∀(b:Nat),(b<=12/\mD (12 - b) b n=mD 12 0 n)->(0<=(b:Int)/\(b:Int)<=64)/\bO ((1:Int)*2^b)/\Br (((1:Int)*2^b)<n) (bO ((b:Int)+1)/\ ∃(b' :Nat),((b:Int)+1)=(b' :Int)/\(b' <=12/\mD (12 - b') b' n=mD 12 0 n)/\12 - b' <12 - b) ((b:Int)=(vR n)/\True))) ?_;refine⟨jV _ _ _,dm (fun c0=>?_) fun c0=>?_⟩
 ·have hn:eZ n 1 4096=false:=by simpa using c0
  apply et1
  ·(rw[vR,if_neg (by rw[hn];decide)];done)
 ·have hn:eZ n 1 4096=true:=by simpa using c0
  obtain⟨w1,w2⟩:=eU hn;refine⟨⟨0,rfl,aGR,rfl⟩,fun b ⟨hb,hr⟩=>?_⟩;refine⟨aGS,by (have hp:=UJ b hb;exact aGS),dd (fun c1=>?_) fun c1=>?_⟩
  ·obtain⟨w3,w4⟩:=KQ w2 hb aGR;refine⟨by exact aGS,?_⟩;exact⟨b+1,rfl,⟨aGR,by rw[w4];exact hr⟩,aGR⟩
  ·have w5:=KR (b:=b) (n:=n) aGR (12 - b);apply et1
   ·(rw[vR,if_pos hn,<-hr,w5])
def aEa (l:List cT)(a:Z):(0:Int)=m4 (jQ l 0 a 0):=by simp[m4,b4,jQ,H5]
def Zl (n:Nat)(l:List cT)(a:Z):List.replicate n false=(List.range n).map (jQ l 0 a 0):=by
 apply List.ext_getElem?;intro i;rw[aGB,List.getElem?_replicate];by_cases hi:i<n
 ·rw[if_pos hi,List.getElem?_range hi];simp[jQ,H5]
 rw[if_neg hi,show (List.range n)[i]? =none from List.getElem?_eq_none (by simp;omega)];rfl
def Zm {l:List Bool}{v:Bool}:decide (0<=nC (fun y=>v==y) l)=decide (v∈l):=by
 apply Bool.eq_iff_iff.2;rw[aFI,aFI];constructor
 ·intro h;obtain⟨k,x,_,hx,hf⟩:=uC.2 h;have h1:=List.find?_some hf;have:v=x:=by simpa using h1
  rw[this];exact aBD hx
 intro h;rcases Int.lt_or_le (nC (fun y=>v==y) l) 0 with q | q
 ·have:=uC.1 q;rw[List.find?_eq_none] at this;exact absurd (this v h) (by simp)
 exact q
abbrev aDP (l:List Bool)(v:Bool):Prop:=Cn 189 [.one (.sl 4 1 (l.map lS)),.one (.bool v)] (vI (nC (fun y=>v==y) l)) []
def ixB (l:List Bool)(v:Bool):aDP l v:=by
 refine cq Tryz.func189 (.len l.length<| .loop Nat (Q1 Nat) ([5]++rg 8 9++[18]) [] (fun k=>[(8,vI (k:Int))]) (fun k=>[]) (fun k=>k<=l.length/\(l.take k).all (fun y=> !(v==y))=true) (fun k=>l.length - k) (fun k=> .br (.elem _ lS l (fun e14=> .br (.fin []) (.back []))) (.fin []))) (p:=Lx (l.map lS)<| Lm lS l/\((∃(k:Nat),0=(k:Int)/\k<=l.length/\(l.take k).all (fun y=> !(v==y))=true)/\ ∀(k:Nat),(k<=l.length/\(l.take k).all (fun y=> !(v==y))=true)->Br ((k:Int)<(l.length:Int)) (0<=(k:Int)/\Em lS l k fun e14=>Bb (v==e14) ((k:Int)=(nC (fun y=>v==y) l)/\True) (bO ((k:Int)+1)/\ ∃(k' :Nat),((k:Int)+1)=(k' :Int)/\(k' <=l.length/\(l.take k').all (fun y=> !(v==y))=true)/\l.length - k' <l.length - k)) ((-1:Int)=(nC (fun y=>v==y) l)/\True))) ?_;refine lx fun n0=>?_;refine⟨aAb _,⟨0,rfl,aBC _,rfl⟩,fun k ⟨hk,ha⟩=>?_⟩;apply dd<;>intro c0
 ·refine⟨aGR,rfl,aGR,fun e14 h14=>?_⟩;apply db<;>intro c1
  ·apply et1
   ·(rw[O4 h14 ha c1];done)
  ·refine⟨aGS,?_⟩;exact⟨k+1,rfl,⟨aGR,cL h14 ha (by rw[c1];rfl)⟩,aGR⟩
 ·apply et1
  ·(rw[IG (dD aGR ha)];done)
abbrev aDQ (l:List Bool)(v:Bool):Prop:=Cn 158 [.one (.sl 4 1 (l.map lS)),.one (.bool v)] (vB (decide (v∈l))) []
def ctB (l:List Bool)(v:Bool):aDQ l v:=by
 refine cq Tryz.func158 (.call (vI (nC (fun y=>v==y) l)) []<| .fin []) (p:=Lx (l.map lS)<| aDP l v/\(decide (0<=(nC (fun y=>v==y) l)))=(decide (v∈l))/\True) ?_;refine lx fun n0=>?_;refine⟨ixB _ _,?_,trivial⟩
 ·exact Zm
abbrev aGr(x:aV):Ar:=.agg [.int .i64 x.g,.sl 116 2 (x.k.map bA)]
abbrev zN (q:aV):Prop:=Cn 116 [aGr q] (vB (bR q)) []
def KU (q:aV):zN q:=by
 refine cq Tryz.func116 (.call (vB (eZ q.g (1:Int) (4:Int))) []<| .br (.fin []) (.len q.k.length<| .call (vB (eZ (q.k.length:Int) (1:Int) (4:Int))) []<| aGQ<| .br (.fin []) (.mk ((q.g).toNat) [.bool false] ((List.replicate ((q.g).toNat) false).map lS)<| .len q.k.length<| .loop (Nat × (List Bool)) (Q2 Nat (List Bool)) ([5,6,7]++rg 25 42) [500,2100] (fun yy0=>[(25,vI (yy0.1:Int))]) (fun yy0=>[(2100,some (.arr 4 1 true (yy0.2.map lS)))]) (fun yy0=>yy0.1<=q.k.length/\yy0.2=(List.range q.g.toNat).map (jQ q.k yy0.1 [] 0)/\(q.k.take yy0.1).all (fS q.g)=true) (fun yy0=>q.k.length - yy0.1) (fun yy0=> .br (.elem _ bA q.k (fun e27=> .call (vB (hJ e27.name)) []<| .br (.fin []) (.len e27.vars.length<| .call (vB (eZ (e27.vars.length:Int) (1:Int) (3:Int))) []<| aGQ<| .br (.fin []) (.len e27.vars.length<| .loop (Nat × (List Bool)) (Q2 Nat (List Bool)) ([6,7]++rg 43 23) [2100] (fun yy1=>[(43,vI (yy1.1:Int))]) (fun yy1=>[(2100,some (.arr 4 1 true (yy1.2.map lS)))]) (fun yy1=>yy1.1<=e27.vars.length/\yy1.2=(List.range q.g.toNat).map (jQ q.k yy0.1 e27.vars yy1.1)/\(List.range yy1.1).all (oH q.g e27.vars)=true) (fun yy1=>e27.vars.length - yy1.1) (fun yy1=> .br (.elem _ intD e27.vars (fun e46=> .call (vB (eZ e46 (0:Int) (q.g - 1))) []<| .br (.fin []) (.sub Int intD e27.vars<| .call (vB (decide (e46∈(e27.vars.take yy1.1)))) []<| .lit<| .br (.fin []) (.len yy1.2.length<| .set Bool lS yy1.2 (fun s14_3=>true) (fun s14_3=> .back [(2100,2100)]))))) (.back [(2100,2100)])))))) (.call (vB (decide (false∈yy0.2))) []<| .fin []))))) (p:=Lx (q.k.map bA)<| fX q.g (1:Int) (4:Int)/\Nr (eZ q.g (1:Int) (4:Int)) ((false)=(bR q)/\True) (Lm bA q.k/\(fX (q.k.length:Int) (1:Int) (4:Int)/\Nr (eZ (q.k.length:Int) (1:Int) (4:Int)) ((false)=(bR q)/\True) (q.g=(((q.g).toNat:Nat):Int)/\q.g=(((q.g).toNat:Nat):Int)/\1*((q.g).toNat)<=281474976710656/\((q.g).toNat)<=9223372036854775807/\List.replicate ((q.g).toNat) [.bool false]=(List.replicate ((q.g).toNat) false).map lS/\(Lm bA q.k/\((∃(k:Nat) (sn:List Bool),0=(k:Int)/\(List.replicate ((q.g).toNat) false).map lS=sn.map lS/\k<=q.k.length/\sn=(List.range q.g.toNat).map (jQ q.k k [] 0)/\(q.k.take k).all (fS q.g)=true)/\ ∀(k:Nat) (sn:List Bool),(k<=q.k.length/\sn=(List.range q.g.toNat).map (jQ q.k k [] 0)/\(q.k.take k).all (fS q.g)=true)->Br ((k:Int)<(q.k.length:Int)) (0<=(k:Int)/\Em bA q.k k fun e27=>BB e27.name/\Nr (hJ e27.name) ((false)=(bR q)/\True) (Lm intD e27.vars/\(fX (e27.vars.length:Int) (1:Int) (3:Int)/\Nr (eZ (e27.vars.length:Int) (1:Int) (3:Int)) ((false)=(bR q)/\True) (Lm intD e27.vars/\((∃(i:Nat) (sm:List Bool),0=(i:Int)/\sn.map lS=sm.map lS/\i<=e27.vars.length/\sm=(List.range q.g.toNat).map (jQ q.k k e27.vars i)/\(List.range i).all (oH q.g e27.vars)=true)/\ ∀(i:Nat) (sm:List Bool),(i<=e27.vars.length/\sm=(List.range q.g.toNat).map (jQ q.k k e27.vars i)/\(List.range i).all (oH q.g e27.vars)=true)->Br ((i:Int)<(e27.vars.length:Int)) (0<=(i:Int)/\Em intD e27.vars i fun e46=>bO (q.g - 1)/\(fX e46 (0:Int) (q.g - 1)/\Nr (eZ e46 (0:Int) (q.g - 1)) ((false)=(bR q)/\True) (e27.vars.map intD=e27.vars.map intD/\0<=(i:Int)/\(i:Int)<=(e27.vars.length:Int)/\(Q5 (e27.vars.take i) e46/\Bb (decide (e46∈(e27.vars.take i))) ((false)=(bR q)/\True) (0<=e46/\Lm lS sm/\e46<(sm.length:Int)/\(sm.map lS=sm.map lS/\(e46).toNat<sm.length/\ ∀s14_3,sm[(e46).toNat]? =some s14_3->iU (lS s14_3)=true/\0+1<=(lS s14_3).length/\(lS s14_3).take 0++[.bool true]++(lS s14_3).drop (0+1)=lS true/\bO ((i:Int)+1)/\ ∃(i' :Nat) (sm' :List Bool),((i:Int)+1)=(i' :Int)/\(sm.set ((e46).toNat) true).map lS=sm'.map lS/\(i' <=e27.vars.length/\sm' =(List.range q.g.toNat).map (jQ q.k k e27.vars i')/\(List.range i').all (oH q.g e27.vars)=true)/\e27.vars.length - i' <e27.vars.length - i)))))) (bO ((k:Int)+1)/\ ∃(k' :Nat) (sn' :List Bool),((k:Int)+1)=(k' :Int)/\sm.map lS=sn'.map lS/\(k' <=q.k.length/\sn' =(List.range q.g.toNat).map (jQ q.k k' [] 0)/\(q.k.take k').all (fS q.g)=true)/\q.k.length - k' <q.k.length - k)))))) (aDQ sn false/\(!(decide (false∈sn)))=(bR q)/\True))))))) ?_;refine lx fun n0=>?_;refine⟨kP _ _ _,dm (fun g12=>?_) fun g12=>?_⟩
 ·have hbad:(eZ q.g 1 4&&eZ (q.k.length:Nat) 1 4)=false:=by (rw[g12];rfl)
  apply et1
  ·(exact(O5 hbad).symm)
 ·refine⟨aAb _,kP _ _ _,dm (fun c0=>?_) fun c0=>?_⟩
  ·have hbad:(eZ q.g 1 4&&eZ (q.k.length:Nat) 1 4)=false:=by (rw[g12,c0];rfl)
   apply et1
   ·(exact(O5 hbad).symm)
  ·have hpar:(eZ q.g 1 4&&eZ (q.k.length:Nat) 1 4)=true:=by rw[g12,c0];rfl
   have hn:=eU g12;refine⟨aGR,aGR,aGR,aGR,by (rw[aFE];rfl),aAb _,⟨0,List.replicate ((q.g).toNat) false,rfl,rfl,aBC _,Zl _ _ _,rfl⟩,fun k sn ⟨hk,hs,ha⟩=>?_⟩;apply dd<;>intro c1
   ·refine⟨aGR,rfl,aGR,fun e27 h27=>?_⟩;refine⟨Mw _,dm (fun g33=>?_) fun g33=>?_⟩
    ·have hA:fS q.g e27=false:=by (rw[fS,g33];rfl)
     apply et1
     ·(exact(tB h27 hA).symm)
    ·refine⟨aAb _,kP _ _ _,dm (fun c2=>?_) fun c2=>?_⟩
     ·have hA:fS q.g e27=false:=by (rw[fS,g33,c2];rfl)
      apply et1
      ·(exact(tB h27 hA).symm)
     ·have w9:=eU c2;refine⟨aAb _,⟨0,sn,rfl,rfl,aBC _,by rw[hs,J8],rfl⟩,fun i sm ⟨hi,hm,hv⟩=>?_⟩;have hml:sm.length=q.g.toNat:=by rw[hm];simp
      apply dd<;>intro c3
      ·refine⟨aGR,rfl,aGR,fun e46 h46=>?_⟩;have hx:=aBD h46;refine⟨by exact aGS,kP _ _ _,dm (fun g54=>?_) fun g54=>?_⟩
       ·have hp:oH q.g e27.vars i=false:=by (rw[oH,bK h46,g54];rfl)
        have hA:fS q.g e27=false:=by rw[fS,BP,jL aGR hp];simp
        apply et1
        ·(exact(tB h27 hA).symm)
       ·refine⟨rfl,aGR,aGR,ctI _ _,db (fun c4=>?_) fun c4=>?_⟩
        ·have hp:oH q.g e27.vars i=false:=by (rw[oH,bK h46,g54,c4];rfl)
         have hA:fS q.g e27=false:=by rw[fS,BP,jL aGR hp];simp
         apply et1
         ·(exact(tB h27 hA).symm)
        ·have hp:oH q.g e27.vars i=true:=by rw[oH,bK h46,g54,c4];rfl
         have hb:=eU g54;refine⟨aGR,aAb _,aGR,rfl,aGR,fun s14_3 hs14_3=>⟨rfl,aBF rfl,rfl,?_⟩⟩;refine⟨by exact aGS,?_⟩;exact⟨i+1,_,rfl,rfl,⟨aGR,by rw[hm,ZL,J9 h46 aGR],lP hv hp⟩,aGR⟩
      ·have hA:fS q.g e27=true:=by rw[fS,g33,c2,BP,show e27.vars.length=i by omega,hv];rfl
       refine⟨by exact aGS,?_⟩;exact⟨k+1,_,rfl,rfl,⟨aGR,by rw[hm,KA h27 aGR []],cL h27 ha hA⟩,aGR⟩
   ·have hall:=dD aGR ha;refine⟨ctB _ _,?_,trivial⟩
    ·(rw[Uz hpar hall,hs,NF aGR,ZM])
abbrev nS (q:aV):Prop:=Cn 70 [aGr q] (vB (bR q)) []
def vF (q:aV):nS q:=by
 refine cq Tryz.func70 (.call (vB (eZ q.g (1:Int) (4:Int))) []<| .br (.fin []) (.len q.k.length<| .call (vB (eZ (q.k.length:Int) (1:Int) (4:Int))) []<| aGQ<| .br (.fin []) (.loop (Nat × Int) (Q2 Nat Int) ([3,4,5,6]++rg 18 60) [500] (fun yy0=>[(4,vI (yy0.1:Int)),(3,vI yy0.2)]) (fun yy0=>[]) (fun yy0=>yy0.1<=q.k.length/\yy0.2=m4 (jQ q.k yy0.1 [] 0)/\(q.k.take yy0.1).all (fS q.g)=true) (fun yy0=>q.k.length - yy0.1) (fun yy0=> .len q.k.length<| .br (.elem _ bA q.k (fun e28=> .call (vB (hJ e28.name)) []<| .br (.fin []) (.len e28.vars.length<| .call (vB (eZ (e28.vars.length:Int) (1:Int) (3:Int))) []<| aGQ<| .br (.fin []) (.loop (Nat × Int) (Q2 Nat Int) ([3,6]++rg 41 37) [] (fun yy1=>[(6,vI (yy1.1:Int)),(3,vI yy1.2)]) (fun yy1=>[]) (fun yy1=>yy1.1<=e28.vars.length/\yy1.2=m4 (jQ q.k yy0.1 e28.vars yy1.1)/\(List.range yy1.1).all (oH q.g e28.vars)=true) (fun yy1=>e28.vars.length - yy1.1) (fun yy1=> .len e28.vars.length<| .br (.elem _ intD e28.vars (fun e51=> .call (vB (eZ e51 (0:Int) (q.g - 1))) []<| .br (.fin []) (.sub Int intD e28.vars<| .elem _ intD e28.vars (fun e66=> .call (vB (decide (e66∈(e28.vars.take yy1.1)))) []<| .lit<| .br (.fin []) (.elem _ intD e28.vars (fun e74=> .back [])))))) (.back [])))))) (.fin []))))) (p:=Lx (q.k.map bA)<| fO q.g (1:Int) (4:Int)/\Nr (eZ q.g (1:Int) (4:Int)) ((false)=(bR q)/\True) (Lm bA q.k/\(fO (q.k.length:Int) (1:Int) (4:Int)/\Nr (eZ (q.k.length:Int) (1:Int) (4:Int)) ((false)=(bR q)/\True) ((∃(k:Nat) (o:Int),0=(k:Int)/\0=o/\k<=q.k.length/\o=m4 (jQ q.k k [] 0)/\(q.k.take k).all (fS q.g)=true)/\ ∀(k:Nat) (o:Int),(k<=q.k.length/\o=m4 (jQ q.k k [] 0)/\(q.k.take k).all (fS q.g)=true)->Lm bA q.k/\Br ((k:Int)<(q.k.length:Int)) (0<=(k:Int)/\Em bA q.k k fun e28=>BC e28.name/\Nr (hJ e28.name) ((false)=(bR q)/\True) (Lm intD e28.vars/\(fO (e28.vars.length:Int) (1:Int) (3:Int)/\Nr (eZ (e28.vars.length:Int) (1:Int) (3:Int)) ((false)=(bR q)/\True) ((∃(i:Nat) (p:Int),0=(i:Int)/\o=p/\i<=e28.vars.length/\p=m4 (jQ q.k k e28.vars i)/\(List.range i).all (oH q.g e28.vars)=true)/\ ∀(i:Nat) (p:Int),(i<=e28.vars.length/\p=m4 (jQ q.k k e28.vars i)/\(List.range i).all (oH q.g e28.vars)=true)->Lm intD e28.vars/\Br ((i:Int)<(e28.vars.length:Int)) (0<=(i:Int)/\Em intD e28.vars i fun e51=>bO (q.g - 1)/\fO e51 (0:Int) (q.g - 1)/\Nr (eZ e51 (0:Int) (q.g - 1)) ((false)=(bR q)/\True) (e28.vars.map intD=e28.vars.map intD/\0<=(i:Int)/\(i:Int)<=(e28.vars.length:Int)/\0<=(i:Int)/\Em intD e28.vars i fun e66=>ZG (e28.vars.take i) e66/\Bb (decide (e66∈(e28.vars.take i))) ((false)=(bR q)/\True) (0<=(i:Int)/\Em intD e28.vars i fun e74=>(0<=e74/\e74<=64)/\bO ((1:Int)*2^(Int.toNat e74))/\bO ((i:Int)+1)/\ ∃(i' :Nat) (p' :Int),((i:Int)+1)=(i' :Int)/\(cH .or .i64 p ((1:Int)*2^(Int.toNat e74)))=p' /\(i' <=e28.vars.length/\p' =m4 (jQ q.k k e28.vars i')/\(List.range i').all (oH q.g e28.vars)=true)/\e28.vars.length - i' <e28.vars.length - i))) (bO ((k:Int)+1)/\ ∃(k' :Nat) (o' :Int),((k:Int)+1)=(k' :Int)/\p=o' /\(k' <=q.k.length/\o' =m4 (jQ q.k k' [] 0)/\(q.k.take k').all (fS q.g)=true)/\q.k.length - k' <q.k.length - k))))) ((0<=q.g/\q.g<=64)/\bO ((1:Int)*2^(Int.toNat q.g))/\bO (((1:Int)*2^(Int.toNat q.g)) - 1)/\(decide (o=(((1:Int)*2^(Int.toNat q.g)) - 1)))=(bR q)/\True))))) ?_;refine lx fun n0=>?_;refine⟨jV _ _ _,dm (fun g11=>?_) fun g11=>?_⟩
 ·have hbad:(eZ q.g 1 4&&eZ (q.k.length:Nat) 1 4)=false:=by (rw[g11];rfl)
  apply et1
  ·(exact(O5 hbad).symm)
 ·refine⟨aAb _,jV _ _ _,dm (fun c0=>?_) fun c0=>?_⟩
  ·have hbad:(eZ q.g 1 4&&eZ (q.k.length:Nat) 1 4)=false:=by (rw[g11,c0];rfl)
   apply et1
   ·(exact(O5 hbad).symm)
  ·have hpar:(eZ q.g 1 4&&eZ (q.k.length:Nat) 1 4)=true:=by rw[g11,c0];rfl
   have hn:=eU g11;refine⟨⟨0,(0:Int),rfl,rfl,aBC _,aEa _ _,rfl⟩,fun k o ⟨hk,hs,ha⟩=>?_⟩;refine⟨aAb _,dd (fun c1=>?_) fun c1=>?_⟩
   ·refine⟨aGR,rfl,aGR,fun e28 h28=>?_⟩;refine⟨Mx _,dm (fun g34=>?_) fun g34=>?_⟩
    ·have hA:fS q.g e28=false:=by (rw[fS,g34];rfl)
     apply et1
     ·(exact(tB h28 hA).symm)
    ·refine⟨aAb _,jV _ _ _,dm (fun c2=>?_) fun c2=>?_⟩
     ·have hA:fS q.g e28=false:=by (rw[fS,g34,c2];rfl)
      apply et1
      ·(exact(tB h28 hA).symm)
     ·have w9:=eU c2;refine⟨⟨0,o,rfl,rfl,aBC _,by rw[hs,J8],rfl⟩,fun i p ⟨hi,hm,hv⟩=>?_⟩;refine⟨aAb _,dd (fun c3=>?_) fun c3=>?_⟩
      ·refine⟨aGR,rfl,aGR,fun e51 h51=>?_⟩;have hx:=aBD h51;refine⟨by exact aGS,jV _ _ _,dm (fun g58=>?_) fun g58=>?_⟩
       ·have hp:oH q.g e28.vars i=false:=by (rw[oH,bK h51,g58];rfl)
        have hA:fS q.g e28=false:=by rw[fS,BP,jL aGR hp];simp
        apply et1
        ·(exact(tB h28 hA).symm)
       ·refine⟨rfl,aGR,aGR,aGR,rfl,aGR,fun e66 h66=>?_⟩;obtain rfl:=(bE h51 h66).symm;refine⟨hsI _ _,db (fun c4=>?_) fun c4=>?_⟩
        ·have hp:oH q.g e28.vars i=false:=by (rw[oH,bK h51,g58,c4];rfl)
         have hA:fS q.g e28=false:=by rw[fS,BP,jL aGR hp];simp
         apply et1
         ·(exact(tB h28 hA).symm)
        ·have hp:oH q.g e28.vars i=true:=by rw[oH,bK h51,g58,c4];rfl
         have hb:=eU g58;obtain⟨w1,w2,w3⟩:=GQ (x:=e51) (qF aGR aGR);refine⟨aGR,rfl,aGR,fun e74 h74=>?_⟩;obtain rfl:=(bE h51 h74).symm;refine⟨aGS,by exact w1,by exact aGS,?_⟩;exact⟨i+1,_,rfl,rfl,⟨aGR,by rw[hm,ZJ aGR,J9 h51 aGR],lP hv hp⟩,aGR⟩
      ·have hA:fS q.g e28=true:=by rw[fS,g34,c2,BP,show e28.vars.length=i by omega,hv];rfl
       refine⟨by exact aGS,?_⟩;exact⟨k+1,_,rfl,rfl,⟨aGR,by rw[hm,KA h28 aGR []],cL h28 ha hA⟩,aGR⟩
   ·have hall:=dD aGR ha;obtain⟨w1,w2,w3⟩:=GQ (x:=q.g - 1) (qF aGR aGR);have w4:=pK (n:=q.g.toNat) aGS;refine⟨aGS,by exact aGS,by exact aGS,?_,trivial⟩
    ·(rw[Uz hpar hall,hs,NF aGR];exact aCE hn fun v hv=>ZN hall hn.1 hv)
abbrev Dt (v:Int):Prop:=Cn 148 [.one (.int .i64 v)] (.p none (.str (RF v))) []
def RW (v:Int):Dt v:=by
 refine cq Tryz.func148 (.call (vB (eZ v (0:Int) (3:Int))) []<| .br (.fin []) (.fin [])) (p:=fO v (0:Int) (3:Int)/\Nr (eZ v (0:Int) (3:Int)) ((⟨#[]⟩:E)=(RF v)/\True) (bO (v+1)/\0<=v/\v<=(v+1)/\(v+1)<=(((⟨#[88,89,90,85]⟩:E).size:Nat):Int)/\((⟨#[88,89,90,85]⟩:E).extract (Int.toNat v) (Int.toNat (v+1)))=(RF v)/\True)) ?_;refine⟨jV _ _ _,dm (fun c0=>?_) fun c0=>?_⟩
 ·apply et1
  ·(rw[Za c0];done)
 ·have hb:=eU c0;refine⟨aGS,aGR,aGR,by (show (v+1:Int)<=4;omega),?_,trivial⟩
  ·(rw[U4 c0];done)
abbrev Du (s:E)(c:Int):AV × aGJ:=(.own 0,[(0,.arr 9 1 true ((bI c s).map iG))])
abbrev KV (s:E)(c:Int):Prop:=Cn 147 [.one (.str s),.one (.int .u8 c)] (Du s c).1 (Du s c).2
def Zn (s:E)(c:Int)(hs:s.size<=1048576):KV s c:=by
 refine cq Tryz.func147 (.loop Nat (Q1 Nat) (rg 5 24) [800,2500,2600] (fun i=>[(7,vI (i:Int)),(6,vI (((mB c s i).fr:Nat):Int)),(5,.own 800)]) (fun i=>[(800,some (.arr 9 1 true ((mB c s i).out.map iG)))]) (fun i=>i<=s.size) (fun i=>s.size - i) (fun i=> .br (.br (.app E iG ((mB c s i).out) ([s.extract ((mB c s i).fr) i]:List E)<| .back [(800,2600)]) (.back [(800,800)])) (.app E iG ((mB c s i).out) ([s.extract ((mB c s i).fr) s.size]:List E)<| .fin [(0,3400)]))) (p:=(∃(i:Nat),0=(i:Int)/\0=(((mB c s i).fr:Nat):Int)/\[]=(mB c s i).out.map iG/\i<=s.size)/\ ∀(i:Nat),i<=s.size->Br ((i:Int)<(s.size:Int)) (0<=(i:Int)/\(i:Int)<(s.size:Int)/\Br ((rH s i)=c) (0<=(((mB c s i).fr:Nat):Int)/\(((mB c s i).fr:Nat):Int)<=(i:Int)/\(i:Int)<=(s.size:Int)/\Ap iG ((mB c s i).out) ([s.extract ((mB c s i).fr) i]:List E) 16 (bO ((i:Int)+1)/\bO ((i:Int)+1)/\ ∃(i' :Nat),((i:Int)+1)=(i' :Int)/\((i:Int)+1)=(((mB c s i').fr:Nat):Int)/\(((mB c s i).out)++[s.extract ((mB c s i).fr) i]).map iG=(mB c s i').out.map iG/\i' <=s.size/\s.size - i' <s.size - i)) (bO ((i:Int)+1)/\ ∃(i' :Nat),((i:Int)+1)=(i' :Int)/\(((mB c s i).fr:Nat):Int)=(((mB c s i').fr:Nat):Int)/\(mB c s i).out.map iG=(mB c s i').out.map iG/\i' <=s.size/\s.size - i' <s.size - i)) (0<=(((mB c s i).fr:Nat):Int)/\(((mB c s i).fr:Nat):Int)<=(s.size:Int)/\Ap iG ((mB c s i).out) ([s.extract ((mB c s i).fr) s.size]:List E) 16 ((((mB c s i).out)++[s.extract ((mB c s i).fr) s.size]).map iG=(bI c s).map iG/\True))) ?_;refine⟨⟨0,(by rfl),(by rfl),(by rfl),aBC _⟩,fun i hi=>?_⟩;have hz:=KH c s i;apply dd<;>intro c0
 ·refine⟨aGR,aGR,dd (fun c1=>?_) fun c1=>?_⟩
  ·refine⟨aGR,aGR,aGR,?_⟩;refine ap ?_ (fun _=>rfl) (by (simp only[aEb,List.length_nil];omega));refine⟨aGS,aGS,?_⟩;exact⟨i+1,(by rfl),(by (rw[ZX c1]<;>rfl)),(by (rw[ZX c1]<;>rfl)),aGR,aGR⟩
  ·refine⟨aGS,?_⟩;exact⟨i+1,(by rfl),(by (rw[ZY c1]<;>rfl)),(by (rw[ZY c1]<;>rfl)),aGR,aGR⟩
 ·have ei:i=s.size:=aGR
  refine⟨aGR,aGR,?_⟩;refine ap ?_ (fun _=>rfl) (by (simp only[aEb,List.length_nil];omega));apply et1
  ·(subst ei;rfl)
abbrev Dv (l:Z):Prop:=Cn 179 [.one (.sl 3 1 (l.map intD))] (.p none (.str (vD l l.length))) []
def RX (l:Z)(hl:l.length<=1048576):Dv l:=by
 refine cq Tryz.func179 (.loop Nat (Q1 Nat) (rg 3 15) [] (fun k=>[(4,vI (k:Int)),(3,.p none (.str (vD l k)))]) (fun k=>[]) (fun k=>k<=l.length) (fun k=>l.length - k) (fun k=> .len l.length<| .br (.elem _ intD l (fun e14=> .call (.p none (.str (RF e14))) []<| .back [])) (.fin []))) (p:=Lx (l.map intD)<| (∃(k:Nat),0=(k:Int)/\(⟨#[]⟩:E)=(vD l k)/\k<=l.length)/\ ∀(k:Nat),k<=l.length->Lm intD l/\Br ((k:Int)<(l.length:Int)) (0<=(k:Int)/\Em intD l k fun e14=>Dt e14/\(vD l k).size+(RF e14).size<=9223372036854775807/\bO ((k:Int)+1)/\ ∃(k' :Nat),((k:Int)+1)=(k' :Int)/\((vD l k)++(RF e14))=(vD l k')/\k' <=l.length/\l.length - k' <l.length - k) ((vD l k)=(vD l l.length)/\True)) ?_;refine lx fun n0=>?_;refine⟨⟨0,(by rfl),(by rfl),aBC _⟩,fun k hk=>?_⟩;have hz:=yB l k;refine⟨aAb _,dd (fun c0=>?_) fun c0=>?_⟩
 ·refine⟨aGR,rfl,aGR,fun e14 h14=>?_⟩;have hv:=RG e14;refine⟨RW e14,aGR,aGS,?_⟩;exact⟨k+1,(by rfl),(by (rw[vD,bK h14];done)),aGR,aGR⟩
 ·apply et1
  ·(rw[show l.length=k by omega];done)
abbrev Dw (q:aV):Prop:=Cn 149 [aGr q] (.p none (.str (C2 q))) []
def RY (q:aV):Dw q:=by
 refine cq Tryz.func149 (.loop Nat (Q1 Nat) (rg 3 35) [] (fun i=>[(4,vI (i:Int)),(3,.p none (.str (pJ q i)))]) (fun i=>[]) (fun i=>i<=q.k.length/\(i=0\/bR q=true)) (fun i=>q.k.length - i) (fun i=> .len q.k.length<| .br (.call (vB (bR q)) []<| .lit<| .br (.br (.elem _ bA q.k (fun e24=> .elem _ bA q.k (fun e32=> .call (.p none (.str (vD e32.vars e32.vars.length))) []<| .back []))) (.elem _ bA q.k (fun e24=> .elem _ bA q.k (fun e32=> .call (.p none (.str (vD e32.vars e32.vars.length))) []<| .back [])))) (.fin [])) (.fin []))) (p:=Lx (q.k.map bA)<| (∃(i:Nat),0=(i:Int)/\(⟨#[]⟩:E)=(pJ q i)/\i<=q.k.length/\(i=0\/bR q=true))/\ ∀(i:Nat),(i<=q.k.length/\(i=0\/bR q=true))->Lm bA q.k/\Br ((i:Int)<(q.k.length:Int)) (nS q/\Bb (bR q) (Br (0<(i:Int)) ((pJ q i).size+(⟨#[32]⟩:E).size<=9223372036854775807/\0<=(i:Int)/\Em bA q.k i fun e24=>((pJ q i)++(⟨#[32]⟩:E)).size+e24.name.size<=9223372036854775807/\(((pJ q i)++(⟨#[32]⟩:E))++e24.name).size+(⟨#[40]⟩:E).size<=9223372036854775807/\0<=(i:Int)/\Em bA q.k i fun e32=>Dv e32.vars/\((((pJ q i)++(⟨#[32]⟩:E))++e24.name)++(⟨#[40]⟩:E)).size+(vD e32.vars e32.vars.length).size<=9223372036854775807/\(((((pJ q i)++(⟨#[32]⟩:E))++e24.name)++(⟨#[40]⟩:E))++(vD e32.vars e32.vars.length)).size+(⟨#[41]⟩:E).size<=9223372036854775807/\bO ((i:Int)+1)/\ ∃(i' :Nat),((i:Int)+1)=(i' :Int)/\((((((pJ q i)++(⟨#[32]⟩:E))++e24.name)++(⟨#[40]⟩:E))++(vD e32.vars e32.vars.length))++(⟨#[41]⟩:E))=(pJ q i')/\(i' <=q.k.length/\(i' =0\/bR q=true))/\q.k.length - i' <q.k.length - i) (0<=(i:Int)/\Em bA q.k i fun e24=>(pJ q i).size+e24.name.size<=9223372036854775807/\((pJ q i)++e24.name).size+(⟨#[40]⟩:E).size<=9223372036854775807/\0<=(i:Int)/\Em bA q.k i fun e32=>Dv e32.vars/\(((pJ q i)++e24.name)++(⟨#[40]⟩:E)).size+(vD e32.vars e32.vars.length).size<=9223372036854775807/\((((pJ q i)++e24.name)++(⟨#[40]⟩:E))++(vD e32.vars e32.vars.length)).size+(⟨#[41]⟩:E).size<=9223372036854775807/\bO ((i:Int)+1)/\ ∃(i' :Nat),((i:Int)+1)=(i' :Int)/\(((((pJ q i)++e24.name)++(⟨#[40]⟩:E))++(vD e32.vars e32.vars.length))++(⟨#[41]⟩:E))=(pJ q i')/\(i' <=q.k.length/\(i' =0\/bR q=true))/\q.k.length - i' <q.k.length - i)) ((pJ q i)=(C2 q)/\True)) ((pJ q i)=(C2 q)/\True)) ?_;refine lx fun n0=>?_;have k1:(⟨#[32]⟩:E).size=1:=rfl;have k2:(⟨#[40]⟩:E).size=1:=rfl;have k3:(⟨#[41]⟩:E).size=1:=rfl;refine⟨⟨0,(by rfl),(by rfl),aBC _,.inl rfl⟩,fun i ⟨hi,hv⟩=>?_⟩;refine⟨aAb _,dd (fun g10=>?_) fun g10=>?_⟩
 ·refine⟨vF q,db (fun c0=>?_) fun c0=>?_⟩
  ·have hz:=NI c0 i hi;have h4:=(eJ c0).2.1;apply dd<;>intro c1
   ·refine⟨aGR,aGR,rfl,aGR,fun e24 h24=>?_⟩;obtain⟨p1,p2,_⟩:=nQ ((eJ c0).2.2 e24 (aBD h24));have p3:=wK p1;refine⟨by (simp only[ByteArray.size_append];omega),by (simp only[ByteArray.size_append];omega),aGR,rfl,aGR,fun e32 h32=>?_⟩;have he:e32=e24:=bE h24 h32;have p4:=yB e32.vars e32.vars.length;have p5:e32.vars.length<=3:=by rw[he];omega
    refine⟨RX e32.vars aGR,by (simp only[ByteArray.size_append];omega),by (simp only[ByteArray.size_append];omega),aGS,?_⟩;exact⟨i+1,(by rfl),(by (rw[aDI h24 c1,he];done)),⟨aGR,.inr c0⟩,aGR⟩
   ·refine⟨aGR,rfl,aGR,fun e24 h24=>?_⟩;obtain⟨p1,p2,_⟩:=nQ ((eJ c0).2.2 e24 (aBD h24));have p3:=wK p1;refine⟨aGR,by (simp only[ByteArray.size_append];omega),aGR,rfl,aGR,fun e32 h32=>?_⟩;have he:e32=e24:=bE h24 h32;have p4:=yB e32.vars e32.vars.length;have p5:e32.vars.length<=3:=by rw[he];omega
    refine⟨RX e32.vars aGR,by (simp only[ByteArray.size_append];omega),by (simp only[ByteArray.size_append];omega),aGS,?_⟩;exact⟨i+1,(by rfl),(by (rw[aDJ h24 c1,he];done)),⟨aGR,.inr c0⟩,aGR⟩
  ·have hE:pJ q i=C2 q:=Zb hv c0;apply et1
   ·exact hE
 ·have hE:pJ q i=C2 q:=aCQ hi hv g10;apply et1
  ·exact hE
abbrev Dx (s:E):AV × aGJ:=(.tup [.agg [vI ((lE s).1.g),.own 0],vB ((lE s).2)],[(0,.arr 116 2 true ((lE s).1.k.map bA))])
abbrev KW (s:E):Prop:=Cn 107 [.one (.str s)] (Dx s).1 (Dx s).2
def Zo (s:E)(hs:s.size<=100):KW s:=by
 refine cq Tryz.func107 (bN (Du s (32:Int))<| .loop Nat (Q1 Nat) ([6,7,8,9]++rg 13 24++rg 38 49) [400,700,7200,7300,8400,8500,9001,9002] (fun i=>[(6,vI (i:Int))]) (fun i=>[(400,some (.box 36 [vI ((jG (bI (32:Int) s) i).vc),.own 9001])),(9001,some (.arr 116 2 true (((jG (bI (32:Int) s) i).k).map bA)))]) (fun i=>i<=Sb s/\((bI (32:Int) s).take i).all qT=true) (fun i=>(bI (32:Int) s).length - i) (fun i=> .len ((bI (32:Int) s).length)<| .br (aGQ<| .br (.len ((bI (32:Int) s).length)<| .elem _ iG (bI (32:Int) s) (fun e26=> .br (.fin []) (.len ((bI (32:Int) s).length)<| .elem _ iG (bI (32:Int) s) (fun e33=> aGP<| .br (.fin []) (.len ((bI (32:Int) s).length)<| .elem _ iG (bI (32:Int) s) (fun e41=> .loop Nat (Q1 Nat) ([8,9]++rg 44 37) [400,700,7200,7300,9002] (fun j=>[(8,vI ((j+2:Nat):Int))]) (fun j=>[(400,some (.box 36 [vI ((AU ((bI (32:Int) s).getD i ⟨#[]⟩) ⟨[],(jG (bI (32:Int) s) i).vc⟩ j).vc),.own 9001])),(700,some (.box 116 [.p none (.str (((bI (32:Int) s).getD i ⟨#[]⟩).extract 0 1)),.own 9002])),(9002,some (.arr 3 1 true (((AU ((bI (32:Int) s).getD i ⟨#[]⟩) ⟨[],(jG (bI (32:Int) s) i).vc⟩ j).vars).map intD)))]) (fun j=>j+3<=((bI (32:Int) s).getD i ⟨#[]⟩).size) (fun j=>((bI (32:Int) s).getD i ⟨#[]⟩).size - j) (fun j=> .len ((bI (32:Int) s).length)<| .elem _ iG (bI (32:Int) s) (fun e48=> .br (.loop Nat (Q1 Nat) ([9]++rg 54 27) [400,700,7200,7300,9002] (fun v=>[(9,vI (v:Int))]) (fun v=>[(400,some (.box 36 [vI ((DD ((bI (32:Int) s).getD i ⟨#[]⟩) (j+2) (AU ((bI (32:Int) s).getD i ⟨#[]⟩) ⟨[],(jG (bI (32:Int) s) i).vc⟩ j) v).vc),.own 9001])),(700,some (.box 116 [.p none (.str (((bI (32:Int) s).getD i ⟨#[]⟩).extract 0 1)),.own 9002])),(9002,some (.arr 3 1 true (((DD ((bI (32:Int) s).getD i ⟨#[]⟩) (j+2) (AU ((bI (32:Int) s).getD i ⟨#[]⟩) ⟨[],(jG (bI (32:Int) s) i).vc⟩ j) v).vars).map intD)))]) (fun v=>v<=4) (fun v=>4 - v) (fun v=> .br (.call (.p none (.str (RF (v:Int)))) []<| .len ((bI (32:Int) s).length)<| .elem _ iG (bI (32:Int) s) (fun e63=> .br (.app Int intD ((DD ((bI (32:Int) s).getD i ⟨#[]⟩) (j+2) (AU ((bI (32:Int) s).getD i ⟨#[]⟩) ⟨[],(jG (bI (32:Int) s) i).vc⟩ j) v).vars) ([(v:Int)]:Z)<| .back [(400,400),(700,700),(9002,7300)]) (.back [(400,400),(700,700),(9002,9002)]))) (.back [(400,400),(700,700),(9002,9002)]))) (.appx cT bA ((jG (bI (32:Int) s) i).k) (⟨((bI (32:Int) s).getD i ⟨#[]⟩).extract 0 1,(AU ((bI (32:Int) s).getD i ⟨#[]⟩) ⟨[],(jG (bI (32:Int) s) i).vc⟩ j).vars⟩:cT)<| .back [(400,400),(9001,8500)]))))))))) (.call (vB (bR (⟨(jG (bI (32:Int) s) i).vc,(jG (bI (32:Int) s) i).k⟩:aV))) []<| .br (.fin []) (.call (.p none (.str (C2 (⟨(jG (bI (32:Int) s) i).vc,(jG (bI (32:Int) s) i).k⟩:aV)))) []<| aGP<| .br (.fin []) (.fin [(0,9001)])))) (.call (vB (bR (⟨(jG (bI (32:Int) s) i).vc,(jG (bI (32:Int) s) i).k⟩:aV))) []<| .br (.fin []) (.call (.p none (.str (C2 (⟨(jG (bI (32:Int) s) i).vc,(jG (bI (32:Int) s) i).k⟩:aV)))) []<| aGP<| .br (.fin []) (.fin [(0,9001)]))))) (p:=KV s (32:Int)/\((∃(i:Nat),0=(i:Int)/\0=((jG (bI (32:Int) s) i).vc)/\[]=((jG (bI (32:Int) s) i).k).map bA/\i<=Sb s/\((bI (32:Int) s).take i).all qT=true)/\ ∀(i:Nat),(i<=Sb s/\((bI (32:Int) s).take i).all qT=true)->Lm iG (bI (32:Int) s)/\Br ((i:Int)<(((bI (32:Int) s).length:Nat):Int)) (Br ((i:Int)<=4) (0<=(i:Int)/\Lm iG (bI (32:Int) s)/\(i:Int)<(((bI (32:Int) s).length:Nat):Int)/\Em iG (bI (32:Int) s) i fun e26=>Br ((e26.size:Int)<4) (0=((lE s).1.g)/\(false)=((lE s).2)/\[]=(lE s).1.k.map bA/\True) (0<=(i:Int)/\Lm iG (bI (32:Int) s)/\(i:Int)<(((bI (32:Int) s).length:Nat):Int)/\Em iG (bI (32:Int) s) i fun e33=>Br (6<(e33.size:Int)) (0=((lE s).1.g)/\(false)=((lE s).2)/\[]=(lE s).1.k.map bA/\True) (0<=(i:Int)/\Lm iG (bI (32:Int) s)/\(i:Int)<(((bI (32:Int) s).length:Nat):Int)/\Em iG (bI (32:Int) s) i fun e41=>0<=(1:Int)/\1<=(e41.size:Int)/\((∃(j:Nat),2=((j+2:Nat):Int)/\((jG (bI (32:Int) s) i).vc)=((AU ((bI (32:Int) s).getD i ⟨#[]⟩) ⟨[],(jG (bI (32:Int) s) i).vc⟩ j).vc)/\(e41.extract 0 1)=(((bI (32:Int) s).getD i ⟨#[]⟩).extract 0 1)/\[]=((AU ((bI (32:Int) s).getD i ⟨#[]⟩) ⟨[],(jG (bI (32:Int) s) i).vc⟩ j).vars).map intD/\j+3<=((bI (32:Int) s).getD i ⟨#[]⟩).size)/\ ∀(j:Nat),j+3<=((bI (32:Int) s).getD i ⟨#[]⟩).size->0<=(i:Int)/\Lm iG (bI (32:Int) s)/\(i:Int)<(((bI (32:Int) s).length:Nat):Int)/\Em iG (bI (32:Int) s) i fun e48=>bO ((e48.size:Int) - 1)/\Br (((j+2:Nat):Int)<((e48.size:Int) - 1)) ((∃(v:Nat),0=(v:Int)/\((AU ((bI (32:Int) s).getD i ⟨#[]⟩) ⟨[],(jG (bI (32:Int) s) i).vc⟩ j).vc)=((DD ((bI (32:Int) s).getD i ⟨#[]⟩) (j+2) (AU ((bI (32:Int) s).getD i ⟨#[]⟩) ⟨[],(jG (bI (32:Int) s) i).vc⟩ j) v).vc)/\(((bI (32:Int) s).getD i ⟨#[]⟩).extract 0 1)=(((bI (32:Int) s).getD i ⟨#[]⟩).extract 0 1)/\((AU ((bI (32:Int) s).getD i ⟨#[]⟩) ⟨[],(jG (bI (32:Int) s) i).vc⟩ j).vars).map intD=((DD ((bI (32:Int) s).getD i ⟨#[]⟩) (j+2) (AU ((bI (32:Int) s).getD i ⟨#[]⟩) ⟨[],(jG (bI (32:Int) s) i).vc⟩ j) v).vars).map intD/\v<=4)/\ ∀(v:Nat),v<=4->Br ((v:Int)<4) (Dt (v:Int)/\0<=(i:Int)/\Lm iG (bI (32:Int) s)/\(i:Int)<(((bI (32:Int) s).length:Nat):Int)/\Em iG (bI (32:Int) s) i fun e63=>bO (((j+2:Nat):Int)+1)/\0<=((j+2:Nat):Int)/\((j+2:Nat):Int)<=(((j+2:Nat):Int)+1)/\(((j+2:Nat):Int)+1)<=(e63.size:Int)/\Bb ((RF (v:Int)).toList==(e63.extract (j+2) ((j+2)+1)).toList) (Ap intD ((DD ((bI (32:Int) s).getD i ⟨#[]⟩) (j+2) (AU ((bI (32:Int) s).getD i ⟨#[]⟩) ⟨[],(jG (bI (32:Int) s) i).vc⟩ j) v).vars) ([(v:Int)]:Z) 8 (bO ((v:Int)+1)/\bO ((v:Int)+1)/\ ∃(v' :Nat),((v:Int)+1)=(v' :Int)/\(if ((DD ((bI (32:Int) s).getD i ⟨#[]⟩) (j+2) (AU ((bI (32:Int) s).getD i ⟨#[]⟩) ⟨[],(jG (bI (32:Int) s) i).vc⟩ j) v).vc)<((v:Int)+1) then ((v:Int)+1) else ((DD ((bI (32:Int) s).getD i ⟨#[]⟩) (j+2) (AU ((bI (32:Int) s).getD i ⟨#[]⟩) ⟨[],(jG (bI (32:Int) s) i).vc⟩ j) v).vc))=((DD ((bI (32:Int) s).getD i ⟨#[]⟩) (j+2) (AU ((bI (32:Int) s).getD i ⟨#[]⟩) ⟨[],(jG (bI (32:Int) s) i).vc⟩ j) v').vc)/\(((bI (32:Int) s).getD i ⟨#[]⟩).extract 0 1)=(((bI (32:Int) s).getD i ⟨#[]⟩).extract 0 1)/\(((DD ((bI (32:Int) s).getD i ⟨#[]⟩) (j+2) (AU ((bI (32:Int) s).getD i ⟨#[]⟩) ⟨[],(jG (bI (32:Int) s) i).vc⟩ j) v).vars)++[(v:Int)]).map intD=((DD ((bI (32:Int) s).getD i ⟨#[]⟩) (j+2) (AU ((bI (32:Int) s).getD i ⟨#[]⟩) ⟨[],(jG (bI (32:Int) s) i).vc⟩ j) v').vars).map intD/\v' <=4/\4 - v' <4 - v)) (bO ((v:Int)+1)/\ ∃(v' :Nat),((v:Int)+1)=(v' :Int)/\((DD ((bI (32:Int) s).getD i ⟨#[]⟩) (j+2) (AU ((bI (32:Int) s).getD i ⟨#[]⟩) ⟨[],(jG (bI (32:Int) s) i).vc⟩ j) v).vc)=((DD ((bI (32:Int) s).getD i ⟨#[]⟩) (j+2) (AU ((bI (32:Int) s).getD i ⟨#[]⟩) ⟨[],(jG (bI (32:Int) s) i).vc⟩ j) v').vc)/\(((bI (32:Int) s).getD i ⟨#[]⟩).extract 0 1)=(((bI (32:Int) s).getD i ⟨#[]⟩).extract 0 1)/\((DD ((bI (32:Int) s).getD i ⟨#[]⟩) (j+2) (AU ((bI (32:Int) s).getD i ⟨#[]⟩) ⟨[],(jG (bI (32:Int) s) i).vc⟩ j) v).vars).map intD=((DD ((bI (32:Int) s).getD i ⟨#[]⟩) (j+2) (AU ((bI (32:Int) s).getD i ⟨#[]⟩) ⟨[],(jG (bI (32:Int) s) i).vc⟩ j) v').vars).map intD/\v' <=4/\4 - v' <4 - v)) (bO (((j+2:Nat):Int)+1)/\ ∃(j' :Nat),(((j+2:Nat):Int)+1)=((j' +2:Nat):Int)/\((DD ((bI (32:Int) s).getD i ⟨#[]⟩) (j+2) (AU ((bI (32:Int) s).getD i ⟨#[]⟩) ⟨[],(jG (bI (32:Int) s) i).vc⟩ j) v).vc)=((AU ((bI (32:Int) s).getD i ⟨#[]⟩) ⟨[],(jG (bI (32:Int) s) i).vc⟩ j').vc)/\(((bI (32:Int) s).getD i ⟨#[]⟩).extract 0 1)=(((bI (32:Int) s).getD i ⟨#[]⟩).extract 0 1)/\((DD ((bI (32:Int) s).getD i ⟨#[]⟩) (j+2) (AU ((bI (32:Int) s).getD i ⟨#[]⟩) ⟨[],(jG (bI (32:Int) s) i).vc⟩ j) v).vars).map intD=((AU ((bI (32:Int) s).getD i ⟨#[]⟩) ⟨[],(jG (bI (32:Int) s) i).vc⟩ j').vars).map intD/\j' +3<=((bI (32:Int) s).getD i ⟨#[]⟩).size/\((bI (32:Int) s).getD i ⟨#[]⟩).size - j' <((bI (32:Int) s).getD i ⟨#[]⟩).size - j)) (((jG (bI (32:Int) s) i).k).map bA=((jG (bI (32:Int) s) i).k).map bA/\(((bI (32:Int) s).getD i ⟨#[]⟩).extract 0 1)=((⟨((bI (32:Int) s).getD i ⟨#[]⟩).extract 0 1,(AU ((bI (32:Int) s).getD i ⟨#[]⟩) ⟨[],(jG (bI (32:Int) s) i).vc⟩ j).vars⟩:cT).name)/\((AU ((bI (32:Int) s).getD i ⟨#[]⟩) ⟨[],(jG (bI (32:Int) s) i).vc⟩ j).vars).map intD=((⟨((bI (32:Int) s).getD i ⟨#[]⟩).extract 0 1,(AU ((bI (32:Int) s).getD i ⟨#[]⟩) ⟨[],(jG (bI (32:Int) s) i).vc⟩ j).vars⟩:cT).vars).map intD/\(((jG (bI (32:Int) s) i).k).length+1)*40<=140737488355328/\bO ((i:Int)+1)/\ ∃(i' :Nat),((i:Int)+1)=(i' :Int)/\((AU ((bI (32:Int) s).getD i ⟨#[]⟩) ⟨[],(jG (bI (32:Int) s) i).vc⟩ j).vc)=((jG (bI (32:Int) s) i').vc)/\(((jG (bI (32:Int) s) i).k)++[(⟨((bI (32:Int) s).getD i ⟨#[]⟩).extract 0 1,(AU ((bI (32:Int) s).getD i ⟨#[]⟩) ⟨[],(jG (bI (32:Int) s) i).vc⟩ j).vars⟩:cT)]).map bA=((jG (bI (32:Int) s) i').k).map bA/\(i' <=Sb s/\((bI (32:Int) s).take i').all qT=true)/\(bI (32:Int) s).length - i' <(bI (32:Int) s).length - i))))) (nS (⟨(jG (bI (32:Int) s) i).vc,(jG (bI (32:Int) s) i).k⟩:aV)/\Nr (bR (⟨(jG (bI (32:Int) s) i).vc,(jG (bI (32:Int) s) i).k⟩:aV)) (0=((lE s).1.g)/\(false)=((lE s).2)/\[]=(lE s).1.k.map bA/\True) (Dw (⟨(jG (bI (32:Int) s) i).vc,(jG (bI (32:Int) s) i).k⟩:aV)/\Nr ((C2 (⟨(jG (bI (32:Int) s) i).vc,(jG (bI (32:Int) s) i).k⟩:aV)).toList==s.toList) (0=((lE s).1.g)/\(false)=((lE s).2)/\[]=(lE s).1.k.map bA/\True) (((jG (bI (32:Int) s) i).vc)=((lE s).1.g)/\(true)=((lE s).2)/\((jG (bI (32:Int) s) i).k).map bA=(lE s).1.k.map bA/\True)))) (nS (⟨(jG (bI (32:Int) s) i).vc,(jG (bI (32:Int) s) i).k⟩:aV)/\Nr (bR (⟨(jG (bI (32:Int) s) i).vc,(jG (bI (32:Int) s) i).k⟩:aV)) (0=((lE s).1.g)/\(false)=((lE s).2)/\[]=(lE s).1.k.map bA/\True) (Dw (⟨(jG (bI (32:Int) s) i).vc,(jG (bI (32:Int) s) i).k⟩:aV)/\Nr ((C2 (⟨(jG (bI (32:Int) s) i).vc,(jG (bI (32:Int) s) i).k⟩:aV)).toList==s.toList) (0=((lE s).1.g)/\(false)=((lE s).2)/\[]=(lE s).1.k.map bA/\True) (((jG (bI (32:Int) s) i).vc)=((lE s).1.g)/\(true)=((lE s).2)/\((jG (bI (32:Int) s) i).k).map bA=(lE s).1.k.map bA/\True))))) ?_;have hW:=ZZ (32:Int) s;have hN:Sb s=min (bI (32:Int) s).length 5:=rfl;refine⟨Zn s (32:Int) aGR,⟨0,(by rfl),(by rfl),(by rfl),aBC _,rfl⟩,fun i ⟨hi,ha⟩=>?_⟩;have hb0:=U5 (bI (32:Int) s) i;refine⟨aAb _,dd (fun g17=>?_) fun g17=>?_⟩
 ·apply dd<;>intro c0
  ·refine⟨aGR,aAb _,aGR,rfl,aGR,fun e26 h26=>?_⟩;have hw:((bI (32:Int) s).getD i ⟨#[]⟩)=e26:=bK h26;apply dd<;>intro g29
   ·have hiN:i<Sb s:=aGR
    have hbad:qT e26=false:=by (rw[qT,decide_eq_false];omega)
    have hE:=RI hiN h26 hbad;apply et3<;>((rw[hE]<;>rfl))
   ·refine⟨aGR,aAb _,aGR,rfl,aGR,fun e33 h33=>?_⟩;have he33:e33=e26:=bE h26 h33;have hz33:e33.size=e26.size:=by rw[he33]
    apply dd<;>intro c1
    ·have hiN:i<Sb s:=aGR
     have hbad:qT e26=false:=by (rw[qT,decide_eq_false];omega)
     have hE:=RI hiN h26 hbad;apply et3<;>((rw[hE]<;>rfl))
    ·have h4:4<=e26.size/\e26.size<=6:=⟨aGR,by rw[<-he33];omega⟩;have hok:qT e26=true:=decide_eq_true h4;have hwz:4<=((bI (32:Int) s).getD i ⟨#[]⟩).size/\((bI (32:Int) s).getD i ⟨#[]⟩).size<=6:=by rw[hw];exact h4
     refine⟨aGR,aAb _,aGR,rfl,aGR,fun e41 h41=>?_⟩;have he41:e41=((bI (32:Int) s).getD i ⟨#[]⟩):=(bK h41).symm;have hz41:e41.size=((bI (32:Int) s).getD i ⟨#[]⟩).size:=by rw[he41]
     refine⟨aGR,aGR,⟨0,(by rfl),(by rfl),(by (rw[he41];done)),(by rfl),aGR⟩,fun j hj=>?_⟩;have hb1:=PA (w:=((bI (32:Int) s).getD i ⟨#[]⟩)) (n:=0) (s:=⟨[],(jG (bI (32:Int) s) i).vc⟩) ⟨aFC _,hb0.1,hb0.2.1⟩ j;refine⟨aGR,aAb _,aGR,rfl,aGR,fun e48 h48=>?_⟩;have he48:e48=((bI (32:Int) s).getD i ⟨#[]⟩):=(bK h48).symm;have hz48:e48.size=((bI (32:Int) s).getD i ⟨#[]⟩).size:=by rw[he48]
     refine⟨aGS,dd (fun c2=>?_) fun c2=>?_⟩
     ·refine⟨⟨0,(by rfl),(by rfl),(by rfl),(by rfl),aBC _⟩,fun v hv=>?_⟩;have hb2:=O9 (w:=((bI (32:Int) s).getD i ⟨#[]⟩)) (k:=j+2) hb1 v aGR;apply dd<;>intro c3
      ·refine⟨RW (v:Int),aGR,aAb _,aGR,rfl,aGR,fun e63 h63=>?_⟩;have he63:e63=((bI (32:Int) s).getD i ⟨#[]⟩):=(bK h63).symm;have hz63:e63.size=((bI (32:Int) s).getD i ⟨#[]⟩).size:=by rw[he63]
       refine⟨aGS,aGR,aGR,aGR,db (fun c4=>?_) fun c4=>?_⟩
       ·refine ap ?_ (fun _=>rfl) (by (simp only[aEb,List.length_nil];omega));refine⟨aGS,aGS,?_⟩;exact⟨v+1,(by rfl),(by (rw[he63] at c4;rw[aDK c4];rfl)),(by rfl),(by (rw[he63] at c4;rw[aDK c4];done)),aGR,aGR⟩
       ·refine⟨aGS,?_⟩;exact⟨v+1,(by rfl),(by (rw[he63] at c4;rw[aDL c4];done)),(by rfl),(by (rw[he63] at c4;rw[aDL c4];done)),aGR,aGR⟩
      ·have ev:v=4:=aGR
       refine⟨aGS,?_⟩;exact⟨j+1,(by rfl),(by (rw[show v=4 by omega];rfl)),(by rfl),(by (rw[show v=4 by omega];rfl)),by rw[he48] at c2;omega,by rw[he48] at c2;omega⟩
     ·have ej:((bI (32:Int) s).getD i ⟨#[]⟩).size - 3=j:=by rw[he48] at c2;omega
      refine⟨rfl,rfl,rfl,aGR,aGS,?_⟩;exact⟨i+1,(by rfl),(by (rw[jG];dsimp only;rw[ej];done)),(by (rw[jG];dsimp only;rw[ej];done)),⟨aGR,cL h26 ha hok⟩,aGR⟩
  ·have eN:Sb s=i:=aGR
   refine⟨vF (⟨(jG (bI (32:Int) s) i).vc,(jG (bI (32:Int) s) i).k⟩:aV),dm (fun g90=>?_) fun g90=>?_⟩
   ·have hQ:Lu s=⟨(jG (bI (32:Int) s) i).vc,(jG (bI (32:Int) s) i).k⟩:=by rw[Lu,eN]
    have hE:lE s=(DY,false):=KI (by rw[hQ];(rw[g90];simp;done));apply et3<;>((rw[hE]<;>rfl))
   ·refine⟨RY (⟨(jG (bI (32:Int) s) i).vc,(jG (bI (32:Int) s) i).k⟩:aV),dm (fun c5=>?_) fun c5=>?_⟩
    ·have hQ:Lu s=⟨(jG (bI (32:Int) s) i).vc,(jG (bI (32:Int) s) i).k⟩:=by rw[Lu,eN]
     have hE:lE s=(DY,false):=KI (by rw[hQ];(rw[c5];simp;done));apply et3<;>((rw[hE]<;>rfl))
    ·have hQ:Lu s=⟨(jG (bI (32:Int) s) i).vc,(jG (bI (32:Int) s) i).k⟩:=by rw[Lu,eN]
     have hE:lE s=(Lu s,true):=U6 (by rw[hQ,eN,ha,g90,c5];rfl);apply et3<;>((rw[hE,hQ]<;>rfl))
 ·have eN:Sb s=i:=aGR
  refine⟨vF (⟨(jG (bI (32:Int) s) i).vc,(jG (bI (32:Int) s) i).k⟩:aV),dm (fun g90=>?_) fun g90=>?_⟩
  ·have hQ:Lu s=⟨(jG (bI (32:Int) s) i).vc,(jG (bI (32:Int) s) i).k⟩:=by rw[Lu,eN]
   have hE:lE s=(DY,false):=KI (by rw[hQ];(rw[g90];simp;done));apply et3<;>((rw[hE]<;>rfl))
  ·refine⟨RY (⟨(jG (bI (32:Int) s) i).vc,(jG (bI (32:Int) s) i).k⟩:aV),dm (fun c5=>?_) fun c5=>?_⟩
   ·have hQ:Lu s=⟨(jG (bI (32:Int) s) i).vc,(jG (bI (32:Int) s) i).k⟩:=by rw[Lu,eN]
    have hE:lE s=(DY,false):=KI (by rw[hQ];(rw[c5];simp;done));apply et3<;>((rw[hE]<;>rfl))
   ·have hQ:Lu s=⟨(jG (bI (32:Int) s) i).vc,(jG (bI (32:Int) s) i).k⟩:=by rw[Lu,eN]
    have hE:lE s=(Lu s,true):=U6 (by rw[hQ,eN,ha,g90,c5];rfl);apply et3<;>((rw[hE,hQ]<;>rfl))
abbrev Cd (l:Z)(u:Cu):List AV × aGJ × AV × aGJ:=([.ptr 0 0],[(0,.box 102 [.p none (.sl 5 1 (l.map bQ)),vI (u.i:Int),vI u.h])],.agg [vI ((dO l u).1.g),.own 1],[(0,.box 102 [.p none (.sl 5 1 (l.map bQ)),vI (((dO l u).2.i:Nat):Int),vI ((dO l u).2.h)]),(1,.arr 116 2 true ((dO l u).1.k.map bA))])
abbrev PC (l:Z)(u:Cu):Prop:=Cm 66 (Cd l u).1 (Cd l u).2.1 (Cd l u).2.2.1 (Cd l u).2.2.2
def aDR (l:Z)(u:Cu)(hl:l.length<=1048576):PC l u:=by
 refine Ls Tryz.func66 (bH (mC l u ([(⟨#[114,40,88,89,41]⟩:E),(⟨#[114,40,88,89,41,32,115,40,89,90,41]⟩:E),(⟨#[114,40,88,89,41,32,115,40,89,90,41,32,116,40,90,85,41]⟩:E),(⟨#[114,40,88,89,41,32,115,40,89,90,41,32,116,40,90,88,41]⟩:E),(⟨#[114,40,88,89,41,32,115,40,88,90,41,32,116,40,88,85,41]⟩:E),(⟨#[114,40,88,89,41,32,115,40,89,90,41,32,118,40,89,41]⟩:E),(⟨#[117,40,88,89,90,41,32,115,40,90,85,41]⟩:E),(⟨#[117,40,88,89,90,41,32,114,40,88,89,41,32,118,40,90,41]⟩:E),(⟨#[114,40,88,89,41,32,115,40,89,90,41,32,116,40,90,85,41,32,118,40,88,41]⟩:E),(⟨#[114,40,88,89,41,32,114,40,89,90,41]⟩:E),(⟨#[114,40,88,89,41,32,115,40,89,88,41]⟩:E),(⟨#[118,40,88,41,32,114,40,88,89,41,32,115,40,89,90,41,32,116,40,90,85,41]⟩:E),(⟨#[114,40,88,89,41,32,115,40,89,90,41,32,116,40,90,85,41,32,115,40,85,88,41]⟩:E)]:List E)) [(0,0),(1,1300)]<| bN (Dx ((RJ l u).1))<| bH (iA l ((RJ l u).2) (4:Int)) [(0,0)]<| .br (.fin [(0,0),(1,1800)]) (bH (dX l ((RK l u).2) (4:Int)) [(0,0)]<| .loop Nat (Q1 Nat) ([7,8,9,10,11,12]++rg 29 43) [0,600,900,3500,4000,5400,5500,6900,7000,9001,9002] (fun j=>[(7,vI ((1:Int)+(Lw l u).1 - (j:Int)))]) (fun j=>[(600,some (.box 36 [vI ((gH l u j).vc),.own 9001])),(9001,some (.arr 116 2 true ((gH l u j).k.map bA))),(0,some (.box 102 [.p none (.sl 5 1 (l.map bQ)),vI (((gH l u j).cu.i:Nat):Int),vI ((gH l u j).cu.h)]))]) (fun j=>(j:Int)<=1+(Lw l u).1) (fun j=>(1+(Lw l u).1 - j).toNat) (fun j=> .br (bH (dX l ((gH l u j).cu) (5:Int)) [(0,0)]<| .len 5<| .elem _ iG ([(⟨#[114]⟩:E),(⟨#[115]⟩:E),(⟨#[116]⟩:E),(⟨#[117]⟩:E),(⟨#[118]⟩:E)]:List E) (fun e38=> .len 5<| .elem _ intD ([(2:Int),(2:Int),(2:Int),(3:Int),(1:Int)]:Z) (fun e43=>bH (dX l ((aC l ((gH l u j).cu) (5:Int)).2) (4:Int)) [(0,0)]<| .loop Nat (Q1 Nat) ([11,12]++rg 46 20) [600,900,5400,5500,9002] (fun i=>[(12,vI (i:Int)),(11,vI ((BR (yN l (gH l u j).cu).1 i).2))]) (fun i=>[(900,some (.box 116 [.p none (.str e38),.own 9002])),(9002,some (.arr 3 1 true (((BR (yN l (gH l u j).cu).1 i).1).map intD))),(600,some (.box 36 [vI (H6 (gH l u j).vc (yN l (gH l u j).cu).1 i),.own 9001]))]) (fun i=>(i:Int)<=max 0 e43) (fun i=>(e43 - i).toNat) (fun i=> .br (.app Int intD ((BR (yN l (gH l u j).cu).1 i).1) ([(BR (yN l (gH l u j).cu).1 i).2]:Z)<| .back [(600,600),(900,900),(9002,5500)]) (.appx cT bA ((gH l u j).k) (⟨e38,(BR (yN l (gH l u j).cu).1 i).1⟩:cT)<| .back [(0,0),(600,600),(9001,7000)]))))) (.call (vB (bR (⟨(gH l u j).vc,(gH l u j).k⟩:aV))) []<| .br (.fin [(0,0),(1,1800)]) (.fin [(0,0),(1,9001)]))))) (p:=pX l u ([(⟨#[114,40,88,89,41]⟩:E),(⟨#[114,40,88,89,41,32,115,40,89,90,41]⟩:E),(⟨#[114,40,88,89,41,32,115,40,89,90,41,32,116,40,90,85,41]⟩:E),(⟨#[114,40,88,89,41,32,115,40,89,90,41,32,116,40,90,88,41]⟩:E),(⟨#[114,40,88,89,41,32,115,40,88,90,41,32,116,40,88,85,41]⟩:E),(⟨#[114,40,88,89,41,32,115,40,89,90,41,32,118,40,89,41]⟩:E),(⟨#[117,40,88,89,90,41,32,115,40,90,85,41]⟩:E),(⟨#[117,40,88,89,90,41,32,114,40,88,89,41,32,118,40,90,41]⟩:E),(⟨#[114,40,88,89,41,32,115,40,89,90,41,32,116,40,90,85,41,32,118,40,88,41]⟩:E),(⟨#[114,40,88,89,41,32,114,40,89,90,41]⟩:E),(⟨#[114,40,88,89,41,32,115,40,89,88,41]⟩:E),(⟨#[118,40,88,41,32,114,40,88,89,41,32,115,40,89,90,41,32,116,40,90,85,41]⟩:E),(⟨#[114,40,88,89,41,32,115,40,89,90,41,32,116,40,90,85,41,32,115,40,85,88,41]⟩:E)]:List E)/\aGI l u ([[.str (⟨#[114,40,88,89,41]⟩:E)],[.str (⟨#[114,40,88,89,41,32,115,40,89,90,41]⟩:E)],[.str (⟨#[114,40,88,89,41,32,115,40,89,90,41,32,116,40,90,85,41]⟩:E)],[.str (⟨#[114,40,88,89,41,32,115,40,89,90,41,32,116,40,90,88,41]⟩:E)],[.str (⟨#[114,40,88,89,41,32,115,40,88,90,41,32,116,40,88,85,41]⟩:E)],[.str (⟨#[114,40,88,89,41,32,115,40,89,90,41,32,118,40,89,41]⟩:E)],[.str (⟨#[117,40,88,89,90,41,32,115,40,90,85,41]⟩:E)],[.str (⟨#[117,40,88,89,90,41,32,114,40,88,89,41,32,118,40,90,41]⟩:E)],[.str (⟨#[114,40,88,89,41,32,115,40,89,90,41,32,116,40,90,85,41,32,118,40,88,41]⟩:E)],[.str (⟨#[114,40,88,89,41,32,114,40,89,90,41]⟩:E)],[.str (⟨#[114,40,88,89,41,32,115,40,89,88,41]⟩:E)],[.str (⟨#[118,40,88,41,32,114,40,88,89,41,32,115,40,89,90,41,32,116,40,90,85,41]⟩:E)],[.str (⟨#[114,40,88,89,41,32,115,40,89,90,41,32,116,40,90,85,41,32,115,40,85,88,41]⟩:E)]]=([(⟨#[114,40,88,89,41]⟩:E),(⟨#[114,40,88,89,41,32,115,40,89,90,41]⟩:E),(⟨#[114,40,88,89,41,32,115,40,89,90,41,32,116,40,90,85,41]⟩:E),(⟨#[114,40,88,89,41,32,115,40,89,90,41,32,116,40,90,88,41]⟩:E),(⟨#[114,40,88,89,41,32,115,40,88,90,41,32,116,40,88,85,41]⟩:E),(⟨#[114,40,88,89,41,32,115,40,89,90,41,32,118,40,89,41]⟩:E),(⟨#[117,40,88,89,90,41,32,115,40,90,85,41]⟩:E),(⟨#[117,40,88,89,90,41,32,114,40,88,89,41,32,118,40,90,41]⟩:E),(⟨#[114,40,88,89,41,32,115,40,89,90,41,32,116,40,90,85,41,32,118,40,88,41]⟩:E),(⟨#[114,40,88,89,41,32,114,40,89,90,41]⟩:E),(⟨#[114,40,88,89,41,32,115,40,89,88,41]⟩:E),(⟨#[118,40,88,41,32,114,40,88,89,41,32,115,40,89,90,41,32,116,40,90,85,41]⟩:E),(⟨#[114,40,88,89,41,32,115,40,89,90,41,32,116,40,90,85,41,32,115,40,85,88,41]⟩:E)]:List E).map iG/\(KW ((RJ l u).1)/\(jR l ((RJ l u).2) (4:Int)/\(4:Int)=4/\aGI l ((RJ l u).2) (Nb ((RK l u).1=0) ((((lE ((RJ l u).1)).1).g)=((dO l u).1.g)/\aGH l ((RK l u).2) ((dO l u).2) ((((lE ((RJ l u).1)).1).k).map bA=(dO l u).1.k.map bA/\True)) (eQ l ((RK l u).2) (4:Int)/\(4:Int)=4/\aGI l ((RK l u).2) ((bO ((1:Int)+((Lw l u).1))/\((∃(j:Nat),((1:Int)+((Lw l u).1))=((1:Int)+(Lw l u).1 - (j:Int))/\0=((gH l u j).vc)/\[]=(gH l u j).k.map bA/\aGH l ((Lw l u).2) ((gH l u j).cu) ((j:Int)<=1+(Lw l u).1))/\ ∀(j:Nat),(j:Int)<=1+(Lw l u).1->Br (0<((1:Int)+(Lw l u).1 - (j:Int))) (eQ l ((gH l u j).cu) (5:Int)/\(5:Int)=5/\aGI l ((gH l u j).cu) ((0<=((aC l ((gH l u j).cu) (5:Int)).1)/\([[.str (⟨#[114]⟩:E)],[.str (⟨#[115]⟩:E)],[.str (⟨#[116]⟩:E)],[.str (⟨#[117]⟩:E)],[.str (⟨#[118]⟩:E)]]:List (List bX)).length=5/\((aC l ((gH l u j).cu) (5:Int)).1)<((5:Nat):Int)/\([[.str (⟨#[114]⟩:E)],[.str (⟨#[115]⟩:E)],[.str (⟨#[116]⟩:E)],[.str (⟨#[117]⟩:E)],[.str (⟨#[118]⟩:E)]]=([(⟨#[114]⟩:E),(⟨#[115]⟩:E),(⟨#[116]⟩:E),(⟨#[117]⟩:E),(⟨#[118]⟩:E)]:List E).map iG/\((aC l ((gH l u j).cu) (5:Int)).1).toNat<(([(⟨#[114]⟩:E),(⟨#[115]⟩:E),(⟨#[116]⟩:E),(⟨#[117]⟩:E),(⟨#[118]⟩:E)]:List E)).length/\ ∀e38,(([(⟨#[114]⟩:E),(⟨#[115]⟩:E),(⟨#[116]⟩:E),(⟨#[117]⟩:E),(⟨#[118]⟩:E)]:List E))[((aC l ((gH l u j).cu) (5:Int)).1).toNat]? =some e38->(0<=((aC l ((gH l u j).cu) (5:Int)).1)/\([[.int .i64 (2:Int)],[.int .i64 (2:Int)],[.int .i64 (2:Int)],[.int .i64 (3:Int)],[.int .i64 (1:Int)]]:List (List bX)).length=5/\((aC l ((gH l u j).cu) (5:Int)).1)<((5:Nat):Int)/\([[.int .i64 (2:Int)],[.int .i64 (2:Int)],[.int .i64 (2:Int)],[.int .i64 (3:Int)],[.int .i64 (1:Int)]]=([(2:Int),(2:Int),(2:Int),(3:Int),(1:Int)]:Z).map intD/\((aC l ((gH l u j).cu) (5:Int)).1).toNat<(([(2:Int),(2:Int),(2:Int),(3:Int),(1:Int)]:Z)).length/\ ∀e43,(([(2:Int),(2:Int),(2:Int),(3:Int),(1:Int)]:Z))[((aC l ((gH l u j).cu) (5:Int)).1).toNat]? =some e43->(eQ l ((aC l ((gH l u j).cu) (5:Int)).2) (4:Int)/\(4:Int)=4/\aGI l ((aC l ((gH l u j).cu) (5:Int)).2) (((∃(i:Nat),0=(i:Int)/\((aC l ((aC l ((gH l u j).cu) (5:Int)).2) (4:Int)).1)=((BR (yN l (gH l u j).cu).1 i).2)/\e38=e38/\[]=((BR (yN l (gH l u j).cu).1 i).1).map intD/\((gH l u j).vc)=(H6 (gH l u j).vc (yN l (gH l u j).cu).1 i)/\(i:Int)<=max 0 e43)/\ ∀(i:Nat),(i:Int)<=max 0 e43->Br ((i:Int)<e43) (Ap intD ((BR (yN l (gH l u j).cu).1 i).1) ([(BR (yN l (gH l u j).cu).1 i).2]:Z) 8 (bO (((BR (yN l (gH l u j).cu).1 i).2)+1)/\bO (((BR (yN l (gH l u j).cu).1 i).2)+1)/\(4:Int)≠0/\bO ((i:Int)+1)/\ ∃(i' :Nat),((i:Int)+1)=(i' :Int)/\(Int.tmod (((BR (yN l (gH l u j).cu).1 i).2)+1) (4:Int))=((BR (yN l (gH l u j).cu).1 i').2)/\e38=e38/\(((BR (yN l (gH l u j).cu).1 i).1)++[(BR (yN l (gH l u j).cu).1 i).2]).map intD=((BR (yN l (gH l u j).cu).1 i').1).map intD/\(if (H6 (gH l u j).vc (yN l (gH l u j).cu).1 i)<(((BR (yN l (gH l u j).cu).1 i).2)+1) then (((BR (yN l (gH l u j).cu).1 i).2)+1) else (H6 (gH l u j).vc (yN l (gH l u j).cu).1 i))=(H6 (gH l u j).vc (yN l (gH l u j).cu).1 i')/\(i' :Int)<=max 0 e43/\(e43 - i').toNat<(e43 - i).toNat)) ((gH l u j).k.map bA=(gH l u j).k.map bA/\e38=((⟨e38,(BR (yN l (gH l u j).cu).1 i).1⟩:cT).name)/\((BR (yN l (gH l u j).cu).1 i).1).map intD=((⟨e38,(BR (yN l (gH l u j).cu).1 i).1⟩:cT).vars).map intD/\((gH l u j).k.length+1)*40<=140737488355328/\bO (((1:Int)+(Lw l u).1 - (j:Int)) - 1)/\ ∃(j' :Nat),(((1:Int)+(Lw l u).1 - (j:Int)) - 1)=((1:Int)+(Lw l u).1 - ((j' :Nat):Int))/\(H6 (gH l u j).vc (yN l (gH l u j).cu).1 i)=((gH l u j').vc)/\(((gH l u j).k)++[(⟨e38,(BR (yN l (gH l u j).cu).1 i).1⟩:cT)]).map bA=(gH l u j').k.map bA/\aGH l ((aC l ((aC l ((gH l u j).cu) (5:Int)).2) (4:Int)).2) ((gH l u j').cu) ((j' :Int)<=1+(Lw l u).1/\(1+(Lw l u).1 - j').toNat<(1+(Lw l u).1 - j).toNat))))))))))) (nS (⟨(gH l u j).vc,(gH l u j).k⟩:aV)/\Nr (bR (⟨(gH l u j).vc,(gH l u j).k⟩:aV)) ((((lE ((RJ l u).1)).1).g)=((dO l u).1.g)/\aGH l ((gH l u j).cu) ((dO l u).2) ((((lE ((RJ l u).1)).1).k).map bA=(dO l u).1.k.map bA/\True)) (((gH l u j).vc)=((dO l u).1.g)/\aGH l ((gH l u j).cu) ((dO l u).2) ((gH l u j).k.map bA=(dO l u).1.k.map bA/\True)))))))))))) ?_;have hS:(RJ l u).1.size<=100:=aCT _ (GL l u (xs:=knL) (by decide));have hN:0<=(Lw l u).1/\(Lw l u).1<4:=fB l _ aGR;refine⟨zI l u (by assumption) ([(⟨#[114,40,88,89,41]⟩:E),(⟨#[114,40,88,89,41,32,115,40,89,90,41]⟩:E),(⟨#[114,40,88,89,41,32,115,40,89,90,41,32,116,40,90,85,41]⟩:E),(⟨#[114,40,88,89,41,32,115,40,89,90,41,32,116,40,90,88,41]⟩:E),(⟨#[114,40,88,89,41,32,115,40,88,90,41,32,116,40,88,85,41]⟩:E),(⟨#[114,40,88,89,41,32,115,40,89,90,41,32,118,40,89,41]⟩:E),(⟨#[117,40,88,89,90,41,32,115,40,90,85,41]⟩:E),(⟨#[117,40,88,89,90,41,32,114,40,88,89,41,32,118,40,90,41]⟩:E),(⟨#[114,40,88,89,41,32,115,40,89,90,41,32,116,40,90,85,41,32,118,40,88,41]⟩:E),(⟨#[114,40,88,89,41,32,114,40,89,90,41]⟩:E),(⟨#[114,40,88,89,41,32,115,40,89,88,41]⟩:E),(⟨#[118,40,88,41,32,114,40,88,89,41,32,115,40,89,90,41,32,116,40,90,85,41]⟩:E),(⟨#[114,40,88,89,41,32,115,40,89,90,41,32,116,40,90,85,41,32,115,40,85,88,41]⟩:E)]:List E) (by decide),rfl,rfl,rfl,rfl,Zo ((RJ l u).1) aGR,pI l ((RJ l u).2) (by assumption) (4:Int),rfl,rfl,rfl,rfl,dn (fun c0=>?_) fun c0=>?_⟩
 ·refine⟨?_,rfl,?_,?_,?_,trivial⟩<;>((rw[aF7 c0]<;>rfl))
 ·refine⟨hZ l ((RK l u).2) (by assumption) (4:Int),rfl,rfl,rfl,rfl,aGS,⟨0,(by omega),(by rfl),(by rfl),(by rfl),(by rfl),(by rfl),aGR⟩,fun j hj=>?_⟩;have hb:=U7 l u j;have hK:0<=(qsK l (gH l u j).cu).1/\(qsK l (gH l u j).cu).1<5:=fB l _ aGR;have hK2:0<=(aC l (gH l u j).cu 5).1/\(aC l (gH l u j).cu 5).1<5:=hK;have hV:0<=(yN l (gH l u j).cu).1/\(yN l (gH l u j).cu).1<4:=fB l _ aGR;apply dd<;>intro c1
  ·refine⟨hZ l ((gH l u j).cu) (by assumption) (5:Int),rfl,rfl,rfl,rfl,aGR,rfl,aGR,rfl,by (simp;omega),fun e38 h38=>?_⟩;have hn:qsN l (gH l u j).cu=e38:=bK h38;refine⟨aGR,rfl,aGR,rfl,by (simp;omega),fun e43 h43=>?_⟩;have hm:qsM l (gH l u j).cu=e43:=bK h43;have hm3:=FG (qsK l (gH l u j).cu).1.toNat;rw[show TT.getD (qsK l (gH l u j).cu).1.toNat 0=e43 from hm] at hm3;refine⟨hZ l ((aC l ((gH l u j).cu) (5:Int)).2) (by assumption) (4:Int),rfl,rfl,rfl,rfl,⟨0,rfl,rfl,rfl,rfl,rfl,aGR⟩,fun i hi=>?_⟩;have hc:=IK hV i;have hx:=FH hV ⟨hb.2.1,hb.2.2.1⟩ i;apply dd<;>intro c2
   ·refine ap ?_ (fun _=>rfl) (by (simp;omega));refine⟨aGS,aGS,aGR,aGS,?_⟩;exact⟨i+1,rfl,rfl,rfl,rfl,rfl,aGR,aGR⟩
   ·have ei:e43.toNat=i:=aGR
    refine⟨rfl,rfl,rfl,aGR,aGS,?_⟩;exact⟨j+1,(by omega),(by (rw[KJ hn hm ei]<;>rfl)),(by (rw[KJ hn hm ei]<;>rfl)),(by rfl),(by rfl),(by rfl),aGR,aGR⟩
  ·have eE:qyE l u=(gH l u j):=by rw[qyE,show (1+(Lw l u).1).toNat=j by omega]
   have hX:qyX l u=⟨(gH l u j).vc,(gH l u j).k⟩:=by rw[qyX,eE]
   refine⟨vF (⟨(gH l u j).vc,(gH l u j).k⟩:aV),dm (fun c3=>?_) fun c3=>?_⟩
   ·have hk:bR (qyX l u)=false:=by rw[hX];exact c3
    refine⟨?_,rfl,?_,?_,?_,trivial⟩<;>((rw[aF8 c0 hk,eE]<;>rfl))
   ·have hk:bR (qyX l u)=true:=by rw[hX];exact c3
    refine⟨?_,rfl,?_,?_,?_,trivial⟩<;>(first|(rw[aDN c0 hk,eE]<;>rfl)|(rw[aDN c0 hk,hX]<;>rfl))
end Go.Proofs.YtgamjlgfnmpcjaaGreat
