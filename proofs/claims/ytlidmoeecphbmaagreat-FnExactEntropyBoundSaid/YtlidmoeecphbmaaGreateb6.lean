/-
  Contracts and plain laws, joined: part 7.
-/
import Derived.Test.YtlidmoeecphbmaaGreateb5
import Derived.Test.YtlidmoeecphbmaaGreateb4
namespace Go.Proofs.YtlidmoeecphbmaaGreat
open Go.ChangeShapes Go.WideShapes Go.ChangeAt Go.RowKit Go.Shelf Go.Lib
set_option linter.unusedVariables false
set_option linter.unusedSimpArgs false
def aLG (l:List (List Int))(i j:Nat):Bool:=decide (l.getD i []=l.getD j [])
def nH (l:List (List Int)):List Nat:=(List.range l.length).filter fun j=>decide (j=0) || !aLG l j (j - 1)
def fO (l:List (List Int)):List (List Int):=(nH l).map fun i=>l.getD i []
theorem aQs (l:List (List Int)):mV (aLG l) (List.range l.length).toArray l.length=nH l:=by
 unfold mV nH;have e: ∀j,j<l.length->(List.range l.length).toArray[j]! =j:=fun j hj=>by simp[hj]
 have e1:(List.range l.length).filter (mU (aLG l) (List.range l.length).toArray)=(List.range l.length).filter fun j=>decide (j=0) || !aLG l j (j - 1):=by
  apply List.filter_congr;intro j hj;have hj:=aSN.1 hj;unfold mU;rw[e j hj,e (j - 1) (by omega)]
 rw[e1]
 conv=>rhs;rw[<-List.map_id (List.filter _ _)]
 apply List.map_congr_left;intro j hj;exact e j (aSN.1 (aYR.1 hj).1)
theorem aT3 {α:Type}{l m:List (List α)}(h:List.Sublist l m):List.Sublist l.flatten m.flatten:=by
 induction h with
 | slnil=>exact List.Sublist.refl _
 | cons a _ ih=>rw[aOJ];exact ih.trans (List.sublist_append_right _ _)
 | cons_cons a _ ih=>rw[aOJ,aOJ];exact(List.Sublist.refl a).append ih
theorem aPn {l:List (List Int)}{i:Nat}(h:i∈nH l):i<l.length:=aSN.1 (aYR.1 h).1
set_option maxHeartbeats 2000000 in
theorem aMc (l:List (List Int))(hl:l.length<4611686018427387904):sW Tryz.prog 256 [.own 0,.fn 257 []] [(0,.arr 91 1 true (l.map aC))] (.own 1) [(1,.arr 91 1 true ((fO l).map aC))]:=by
 refine⟨by kernel_rfl,by simp,fun A φ w vs hI hm=>?_⟩;obtain⟨pl,hp,css,Fs,q1,q2,q3,q4⟩:=hI.dom 0 _ rfl;unfold aO at hm;obtain⟨v,us,e1,m1,hm⟩:=hm;unfold aO at hm;obtain⟨v2,us2,e2,m2,hm⟩:=hm;unfold aO at hm;unfold aH at m1 m2;obtain⟨vs2,ev2,m3⟩:=m2;unfold aO at m3;have hv:=m1 pl hp;have e3:vs2= #[]:=by apply Array.ext';simpa using m3
 have ev:vs= #[pl.val,.func (.func 257) #[] #[]]:=by apply Array.ext';rw[e1,e2,hm,hv,ev2,e3]
 rw[ev];have hnd:=hI.nodup 0 pl hp;have hge:=hI.ge 0 pl hp;have hFe:pl.F=pl.val.ownBlock.toList++Fs.flatten:=by unfold Pl.F;rw[q2,q3]
 have hfoot: ∀b∈pl.F,aKq φ b:=fun b hb=>⟨0,pl,trivial,hp,hb⟩
 have h0: ∀h pl',φ h=some pl' ->h=0:=fun h pl' e' =>by
  cases hr:bC [(0,Rs.arr 91 1 true (l.map aC))] h with
  | none=>rw[hI.non h hr] at e';cases e'
  | some r=>
    simp only[bC] at hr;split at hr
    ·assumption
    cases hr
 obtain⟨lc,lF⟩:=aA0 q4;rw[aA8] at lc lF
 have hrow: ∀i,i<l.length-> ∃a cap F,css[i]? =some [.slice a (l.getD i []).length cap]/\Fs[i]? =some F/\aBM w a (l.getD i [])/\(∀x∈a,x.block∈F)/\(l.getD i []).length<=9223372036854775807/\dB w (aC (l.getD i [])) [.slice a (l.getD i []).length cap] F:=fun i hi=>by
  obtain⟨r,hr⟩:=dA hi;have hg:l.getD i []=r:=by simp[aI2,hr]
  obtain⟨c,F,g1,g2,_,g4⟩:=yJ q4 (show (l.map aC)[i]? =some (aC r) by rw[aXY,hr];rfl);obtain⟨a,cap,rfl,k1,k2,k3⟩:=aWt g4;rw[hg];exact⟨a,cap,F,g1,g2,k1,k2,k3,g4⟩
 have hone: ∀d∈css,d.length=1:=fun d hd=>by
  obtain⟨i,hi⟩:=List.getElem?_of_mem hd;obtain⟨a,cap,F,g1,_⟩:=hrow i (by have:=(aEa.1 hi).1;omega);rw[hi] at g1;injection g1 with g1
  rw[g1];rfl
 let enc:Nat->Value:=fun i=>css.flatten.getD i (.slice none 0 0)
 have henc: ∀i,∃a cap,enc i= .slice a (l.getD i []).length cap/\aBM w a (l.getD i [])/\(∀x∈a,x.block∈Fs.flatten)/\(l.getD i []).length<=9223372036854775807:=fun i=>by
  by_cases hi:i<l.length
  ·obtain⟨a,cap,F,g1,g2,g3,g4,g5,_⟩:=hrow i hi;refine⟨a,cap,?_,g3,fun x hx=>List.mem_flatten.2 ⟨F,aCf g2,g4 x hx⟩,g5⟩;show css.flatten.getD i _=_;rw[aI2,pQ css i _ hone g1];rfl
  have hg:l.getD i []= []:=by rw[aI2,List.getElem?_eq_none (by omega)];rfl
  rw[hg];refine⟨none,0,?_,fun j x hx=>by simp at hx,by simp,by simp⟩;show css.flatten.getD i _=_;rw[aI2,List.getElem?_eq_none (by rw[aC6 css hone];omega)];rfl
 have h1:φ 1=none:=hI.non 1 rfl
 have hend: ∀(v' :Value) (w' :World),lN pl.F w w' ->(∀F∈Fs,iV F w w')->(∀b∈v'.ownBlock,b∈pl.val.ownBlock)->w'.ownsRow 0 91 1 v' (nH l).length ((nH l).map enc)->
  ∃v K φ',Ending.returned v' = .returned v/\aQg A φ w [(1,.arr 91 1 true ((fO l).map aC))] K φ' w' /\aH K φ' w' (.own 1) v:=by
  intro v' w' hon hkeep hvb howns
  have hFr:(List.range l.length).map (fun i=>Fs.getD i [])=Fs:=by
   apply List.ext_getElem?;intro i;by_cases hi:i<l.length
   ·simp[hi,show i<Fs.length by omega]
   simp[hi,show ¬i<Fs.length by omega]
  have hsub:List.Sublist ((nH l).map fun i=>Fs.getD i []).flatten Fs.flatten:=by
   have:List.Sublist ((nH l).map fun i=>Fs.getD i []) ((List.range l.length).map fun i=>Fs.getD i []):=List.filter_sublist.map _;rw[hFr] at this;exact aT3 this
  let pl' :Pl:=⟨v',v'.ownBlock.toList,((nH l).map fun i=>Fs.getD i []).flatten⟩
  have hmem: ∀g,g∈pl'.F->g∈pl.F:=fun g hg=>by
   rw[hFe];simp only[pl',Pl.F,aI1,Option.mem_toList] at hg ⊢;rcases hg with h | h
   ·exact .inl (hvb g h)
   exact .inr (List.Sublist.mem h hsub)
  have hnd' :pl'.F.Nodup:=by
   rw[hFe] at hnd;have hn:=aS1.1 hnd;simp only[pl',Pl.F];refine aS1.2 ⟨by cases v'.ownBlock<;>simp,hsub.nodup hn.2.1,fun x hx y hy=>?_⟩;exact hn.2.2 x (by rw[Option.mem_toList] at hx ⊢;exact hvb x hx) y (List.Sublist.mem hy hsub)
  refine⟨_,A,fun h=>if h=1 then some pl' else none,rfl,⟨⟨hon.os,hon.tape,hon.output,hon.size,fun b hb hn=>hon.block b hb (fun hm=>hn (hfoot b hm))⟩,fun _ h=>h,fun b hb=>⟨aSP (hI.lt b hb) hon.size,.inl hb⟩,fun b hb h pl1 e' hm' =>?_,fun h r hr=>?_,fun h hr=>?_,fun h h' pl1 pl2 hne ea eb=>?_,fun h pl1 e' =>?_,fun h pl1 e' g hg=>?_,fun h pl1 pl0 e' e0=>?_⟩,?_⟩
  ·split at e'
   ·injection e' with e';subst e'
    exact hI.out b hb 0 pl hp (hmem b hm')
   cases e'
  ·simp only[bC] at hr;split at hr
   ·rename_i eh;subst eh;injection hr with hr
    subst hr;refine⟨pl',by simp,(nH l).map (fun i=>[enc i]),(nH l).map (fun i=>Fs.getD i []),?_,rfl,rfl,?_⟩
    ·rw[aG1 enc (nH l),aA8,fO,aA8];exact howns
    rw[fO,List.map_map];refine aG0 (fun i=>aC (l.getD i [])) (fun i=>[enc i]) (fun i=>Fs.getD i []) fun i hi=>⟨rfl,?_⟩;obtain⟨a,cap,F,g1,g2,g3,g4,g5,g6⟩:=hrow i (aPn hi)
    have ee:enc i= .slice a (l.getD i []).length cap:=by
     show css.flatten.getD i _=_;rw[aI2,pQ css i _ hone g1];rfl
    have eF:Fs.getD i []=F:=by simp[aI2,g2]
    rw[ee,eF];exact dB.kept _ _ _ (hkeep F (aCf g2)) g6
   cases hr
  ·simp only[bC] at hr;split at hr
   ·cases hr
   rename_i eh;exact if_neg eh
  ·split at ea
   ·split at eb
    ·rename_i x y;exact absurd (x.trans y.symm) hne
    cases eb
   cases ea
  ·split at e'
   ·injection e' with e';subst e';exact hnd'
   cases e'
  ·split at e'
   ·injection e' with e';subst e'
    have:=hmem g hg;exact⟨.inr (hfoot g this),aSP (hge g this) hon.size⟩
   cases e'
  ·split at e'
   ·rename_i eh;subst eh;rw[h1] at e0;cases e0
   cases e'
  unfold aH;intro pl1 e';simp at e';subst e';rfl
 rw[aA8] at q1;rcases q1.2 with ⟨hvn,hz⟩ | ⟨g,cap,cur,hvv,hg0,hb,hn,hcap,hsz,htk⟩
 ·have hz' :l= []:=aIi hz;subst hz';rw[hvn]
  have hcon:Calls Tryz.prog 256 #[.slice none 0 0,.func (.func 257) #[] #[]] w fun e w' =>e= .returned (.slice none 0 0)/\w' =w:=by
   clear hend
   go_enter Tryz.func256,Tryz.ntmps256
   go_wp2
   go_ret
   exact⟨rfl,rfl⟩
  refine hcon.mono ?_;rintro en w' ⟨rfl,rfl⟩;exact hend (.slice none 0 0) w' (lN.refl _ _) (fun F hF g hg=>rfl) (fun b hb=>by cases hb) ⟨by simp[nH],.inl ⟨rfl,by simp[nH]⟩⟩
 have hgF:g ∉ Fs.flatten:=fun hm=>by
  rw[hFe,hvv] at hnd;simp only[Value.ownBlock,Option.toList_some,List.cons_append,aWs,List.nodup_cons] at hnd;exact hnd.1 hm
 have hgs:g<w.heap.size:=(Array.getElem?_eq_some_iff.1 hb).1;have hin: ∀b∈Fs.flatten,b<w.heap.size/\b≠g:=fun b hb' =>⟨hge b (by rw[hFe];exact aI0 _ hb'),fun e=>hgF (e▸hb')⟩;have hw0: ∀(dk:Array Nat) (q:Nat),Go.Sort.putRow enc (Go.Sort.ahead w q) g 0 dk=sortWorld enc w g 0 q dk #[]:=fun dk q=>by unfold sortWorld;rw[Go.Sort.grow_empty]
 have hcmp: ∀(dk:Array Nat) (q:Nat) (x y:Nat),dk.size=(List.range l.length).toArray.size-> ∀n,Calls Tryz.prog 257 #[enc x,enc y] ((Go.Sort.putRow enc (Go.Sort.ahead w q) g 0 dk).drewN n) fun e w' =>e= .returned (.bool (aLG l x y))/\ ∃qq,w' =((Go.Sort.putRow enc (Go.Sort.ahead w q) g 0 dk).drewN n).drewN qq:=fun dk q x y _ n=>by
  obtain⟨a1,c1,ex,r1,k1,b1⟩:=henc x;obtain⟨a2,c2,ey,r2,k2,b2⟩:=henc y;rw[ex,ey]
  have hk: ∀b,b∈Fs.flatten->((Go.Sort.putRow enc (Go.Sort.ahead w q) g 0 dk).drewN n).heap[b]? =w.heap[b]? :=fun b hb' =>by
   show (Go.Sort.putRow enc (Go.Sort.ahead w q) g 0 dk).heap[b]? =_;rw[hw0];exact rH dk (hin b hb').1 (hin b hb').2
  exact aWL a1 a2 c1 c2 _ _ _ b1 b2 (aA1 r1 fun q hq=>hk _ (k1 q hq)) (aA1 r2 fun q hq=>hk _ (k2 q hq))
 have htk' :cur.toList.take l.length=css.flatten:=by rw[Nat.mul_one] at htk;exact htk
 have hH:Go.Sort.Holds enc w g 0 (List.range l.length).toArray:=fun j hj=>by
  have hj' :j<l.length:=by simpa using hj
  refine⟨?_,by simp[World.frozen?,hb]⟩;have h1:(cur.toList.take l.length)[j]? =css.flatten[j]? :=by rw[htk']
  rw[List.getElem?_take_of_lt hj'] at h1;simp only[World.cell?,hb,Nat.zero_add,Option.isSome_none,Bool.false_eq_true,if_false];rw[<-Array.getElem?_toList,h1];obtain⟨a,cap',F,g1,_⟩:=hrow j hj';have h2:=pQ css j _ hone g1
  have ee:enc j= .slice a (l.getD j []).length cap' :=by
   show css.flatten.getD j _=_;rw[aI2,h2];rfl
  have ej:(List.range l.length).toArray[j]! =j:=by simp[hj']
  rw[h2,ej,ee]
 have hone1:OneCell enc:=fun x=>by
  obtain⟨a,c,ex,_⟩:=henc x;rw[ex];rfl
 have hzr:enc l.length= .slice none 0 0:=by
  show css.flatten.getD l.length _=_;rw[aI2,List.getElem?_eq_none (by rw[aC6 css hone];omega)];rfl
 have hszd:(List.range l.length).toArray.size=l.length:=by simp
 have hcon:=aMb enc (aLG l) hone1 l.length hzr g 0 cap (List.range l.length).toArray w hH (by rw[hszd];omega) (by rw[hszd];exact hn) hcmp;rw[hszd,aQs] at hcon;rw[hvv];refine hcon.mono ?_;rintro en w' ⟨rfl,q,rfl⟩
 have hle:(nH l).length<=l.length:=by
  have:=(List.filter_sublist (l:=List.range l.length) (p:=fun j=>decide (j=0) || !aLG l j (j - 1))).length_le;simpa [nH] using this
 have hkb: ∀k,k<w.heap.size->k≠g->(Go.Sort.putRow enc (Go.Sort.ahead w q) g 0 (nH l++List.replicate (l.length - (nH l).length) l.length).toArray).heap[k]? =w.heap[k]? :=fun k hk hne=>by rw[hw0];exact rH _ hk hne
 refine hend _ _ ⟨rfl,rfl,rfl,by simp,fun k hk hne=>hkb k hk (fun e=>hne (by rw[hFe,hvv,e];simp[Value.ownBlock]))⟩
  (fun F hF b hb' =>hkb b (hin b (List.mem_flatten.2 ⟨F,hF,hb'⟩)).1 (hin b (List.mem_flatten.2 ⟨F,hF,hb'⟩)).2)
  (fun b hb' =>by rw[hvv];exact hb') ?_
 rw[hw0];refine⟨by simp,.inr ⟨g,cap,_,rfl,hg0,aJj _ hb,by omega,hcap,by simp[Go.Sort.putCells,hsz],?_⟩⟩;rw[Nat.mul_one];have:=aM9 enc cur (nH l++List.replicate (l.length - (nH l).length) l.length) (by simp;omega);have h3:=congrArg (List.take (nH l).length) this;rw[List.take_take,aKc,List.take_append_of_le_length (by simp)] at h3;rw[show min (nH l).length (nH l++List.replicate (l.length - (nH l).length) l.length).length=(nH l).length by simp] at h3;rw[h3,aGj (by simp)]
end Go.Proofs.YtlidmoeecphbmaaGreat
namespace Go.Proofs.YtlidmoeecphbmaaGreat
open Go.ChangeShapes Go.WideShapes Go.ChangeAt Go.RowKit
set_option linter.unusedVariables false
set_option linter.unusedSimpArgs false
set_option maxRecDepth 100000
set_option maxHeartbeats 4000000
abbrev tA (l:List (List Int)):AV × List (Nat × Rs):=(.own 0,[(0,.arr 91 1 true ((fO (dD l)).map aC))])
abbrev aAo (l:List (List Int)):Prop:=Cn 247 [.one (.sl 91 1 (l.map aC))] (tA l).1 (tA l).2
theorem aMd (l:List (List Int))(hc:cO l<=1048576):aAo l:=by
 refine cq Tryz.func247 (bH (aJi l)<| .callx [.own 0,.fn 252 []] [(0,.arr 91 1 true (l.map aC))] [(0,500)] (.tup []) [(0,.arr 91 1 true ((dD l).map aC))]<| .callx [.own 0,.fn 257 []] [(0,.arr 91 1 true ((dD l).map aC))] [(0,500)] (.own 1) [(1,.arr 91 1 true ((fO (dD l)).map aC))]<| .fin [(0,901)]) (p:=Lx (l.map aC)<| aM5 l/\sW Tryz.prog 255 [.own 0,.fn 252 []] [(0,.arr 91 1 true (l.map aC))] (.tup []) [(0,.arr 91 1 true ((dD l).map aC))]/\l.map aC=l.map aC/\sW Tryz.prog 256 [.own 0,.fn 257 []] [(0,.arr 91 1 true ((dD l).map aC))] (.own 1) [(1,.arr 91 1 true ((fO (dD l)).map aC))]/\(dD l).map aC=(dD l).map aC/\(fO (dD l)).map aC=(fO (dD l)).map aC/\True) (by kernel_rfl) ?_;refine lx fun n0=>?_;have hlen:=fD l;refine⟨cpR _ (by omega),aT2 l (by omega),rfl,aMc (dD l) (by (rw[aDZ];omega)),rfl,?_⟩;exact⟨rfl,trivial⟩
def kK (t:aY)(cols:List Int):List (List Int):=t.rows.map fun r=>(fH r cols).1
def iN (all:List (List Int))(g:List Int):Int:=(((all.filter fun x=>decide (g=x)).length:Nat):Int)
def aO4 (t:aY)(cols:List Int):List (List Int):=fO (dD (kK t cols))
def aMe (t:aY)(cols:List Int):List Int:=(aO4 t cols).map (iN (kK t cols))
def dV (t:aY)(cols:List Int):List (List Int) × List Int:=if (aV t&&dR (t.arity - 1) cols)=true then (aO4 t cols,aMe t cols) else ([],[])
theorem rI {t:aY}{cols:List Int}(h:(aV t&&dR (t.arity - 1) cols)=true):dV t cols=(aO4 t cols,aMe t cols):=by rw[dV,if_pos h]
theorem aC7 {t:aY}{cols:List Int}(h:(aV t&&dR (t.arity - 1) cols)=false):dV t cols=([],[]):=by rw[dV,if_neg (by rw[h];decide)]
theorem aPo {all:List (List Int)}{g x:List Int}{j:Nat}(hx:all[j]? =some x)(h:g=x):iN (all.take (j+1)) g=iN (all.take j) g+1:=by
 subst h;rw[iN,iN,bQ hx,List.filter_append];simp
theorem aT4 {all:List (List Int)}{g x:List Int}{j:Nat}(hx:all[j]? =some x)(h: ¬g=x):iN (all.take (j+1)) g=iN (all.take j) g:=by
 rw[iN,iN,bQ hx,List.filter_append];simp[h]
theorem aT5 (all:List (List Int))(g:List Int):0<=iN all g/\iN all g<=all.length:=by
 have:=List.length_filter_le (fun x=>decide (g=x)) all;unfold iN;omega
theorem aG2 {b:Int}{cols:List Int}(h:dR b cols=true): ∀i,i<cols.length->(i:Int)<=cols.getD i 0/\cols.getD i 0<=b
 | 0,hi=>by
   have:=aIZ.1 h 0 (aSN.2 hi);simp only[iM,aB4] at this;have:=eA this.1;exact⟨by simpa using this.1,this.2⟩
 | i+1,hi=>by
   have ih:=aG2 h i (by omega);have:=aIZ.1 h (i+1) (aSN.2 hi);simp only[iM,aB4,Bool.or_eq_true,aTb,Nat.add_sub_cancel] at this;have h2:=eA this.1;rcases this.2 with q | q
   ·omega
   exact⟨by omega,h2.2⟩
theorem aC8 {b:Int}{cols:List Int}(h:dR b cols=true)(hb:b<=2):cols.length<=3:=by
 by_cases h3:3<cols.length
 ·have:=aG2 h 3 h3;omega
 omega
theorem aBO {α:Type}{ct:α->Nat}{m:Nat}: ∀{l:List α},(∀x∈l,ct x<=m)->eZ ct l<=l.length*m
 | [],_=>by simp[eZ]
 | a::l,h=>by
   have h1:=h a (by simp);have h2:=aBO (l:=l) fun x hx=>h x (by simp[hx]);simp only[eZ,aKT,List.sum_cons,aPS,Nat.add_mul,Nat.one_mul] at*;omega
theorem aC9 {l:List (List Int)}{m:Nat}(h: ∀r∈l,r.length<=m):cO l<=l.length+l.length*m:=by
 have h1:=aBO (ct:=cC) (m:=m) (l:=l) fun r hr=>h r hr;have h2:cO l=l.length+eZ cC l:=rfl;omega
theorem aG3 {t:aY}{cols:List Int}(h:(aV t&&dR (t.arity - 1) cols)=true):(kK t cols).length<=8/\cO (kK t cols)<=32:=by
 rw[aB4] at h;have ha:=cA h.1;have hc:=aC8 h.2 (by omega);have hl:(kK t cols).length=t.rows.length:=aA8 _
 have:=aC9 (l:=kK t cols) (m:=3) fun r hr=>by
  obtain⟨q,_,rfl⟩:=aON.1 hr;have:=aGW q cols;omega
 omega
theorem aT6 (l:List (List Int)):(fO (dD l)).length<=l.length:=by
 rw[fO,aA8,<-aDZ l];have:=(List.filter_sublist (l:=List.range (dD l).length) (p:=fun j=>decide (j=0) || !aLG (dD l) j (j - 1))).length_le;rw[List.length_range] at this;exact this
theorem aYE {α:Type}{l:List α}{i:Nat}{x y:α}(h:(l.set i x)[i]? =some y):y=x:=aXy h
theorem aQt {f:List Int->Int}{l:List (List Int)}{i:Nat}(h:i<l.length):((l.take i).map f++List.replicate (l.length - i) (0:Int)).set i 0=(l.take i).map f++List.replicate (l.length - i) 0:=by
 rw[show l.length - i=(l.length - (i+1))+1 by omega,List.replicate_succ,List.set_append_right _ _ (by simp;omega)];simp[show i - min i l.length=0 by omega]
theorem aT7 {f:List Int->Int}{l:List (List Int)}{i:Nat}{x:List Int}(h:l[i]? =some x):((l.take i).map f++List.replicate (l.length - i) (0:Int)).set i (f x)=(l.take (i+1)).map f++List.replicate (l.length - (i+1)) 0:=by
 have hi:i<l.length:=(aEa.1 h).1;rw[show l.length - i=(l.length - (i+1))+1 by omega,List.replicate_succ,List.set_append_right _ _ (by simp;omega),bQ h];simp[show i - min i l.length=0 by omega]
theorem aO5 {f:List Int->Int}{l:List (List Int)}{i:Nat}(h:i<=l.length)(h' : ¬i<l.length):(l.take i).map f++List.replicate (l.length - i) (0:Int)=l.map f:=by
 rw[show i=l.length by omega];simp
abbrev uY (t:aY)(cols:List Int):AV × List (Nat × Rs):=(.tup [.own 0,.own 1],[(0,.arr 91 1 true ((dV t cols).1.map aC)),(1,.arr 3 1 true ((dV t cols).2.map intD))])
abbrev aBP (t:aY)(cols:List Int):Prop:=Cn 228 [.agg [.str t.name,.int .i64 t.arity,.sl 91 1 (t.rows.map aC)],.one (.sl 3 1 (cols.map intD))] (uY t cols).1 (uY t cols).2
theorem aMf (t:aY)(cols:List Int)(hl:cols.length<=1048576):aBP t cols:=by
 refine cq Tryz.func228 (.call (vB (aV t)) []<| .br (.fin []) (.call (vB (dR (t.arity - 1) cols)) []<| .lit<| .lit<| .br (.fin []) (.len t.rows.length<| .loop (Nat × (List (List Int))) (Q2 Nat (List (List Int))) ([6,8,9,10,27]++rg 31 15) [2700,3800,4300,4400] (fun yy0=>[(31,vI (yy0.1:Int)),(6,.own 2700)]) (fun yy0=>[(2700,some (.arr 91 1 true (yy0.2.map aC)))]) (fun yy0=>yy0.1<=t.rows.length/\yy0.2=(t.rows.take yy0.1).map fun r=>(fH r cols).1) (fun yy0=>t.rows.length - yy0.1) (fun yy0=> .br (.elem _ aC t.rows (fun e33=>bH (oH e33 cols)<| .appx (List Int) aC yy0.2 ((fH e33 cols).1)<| .back [(2700,4400)])) (bH (tA yy0.2)<| .len ((fO (dD yy0.2)).length)<| .mk ((fO (dD yy0.2)).length) [.int .i64 (0:Int)] ((List.replicate ((fO (dD yy0.2)).length) (0:Int)).map intD)<| .len ((fO (dD yy0.2)).length)<| .loop (Nat × (List Int)) (Q2 Nat (List Int)) ([13,14,16]++rg 53 22) [5000] (fun yy1=>[(53,vI (yy1.1:Int))]) (fun yy1=>[(5000,some (.arr 3 1 true (yy1.2.map intD)))]) (fun yy1=>yy1.1<=(fO (dD yy0.2)).length/\yy1.2=((fO (dD yy0.2)).take yy1.1).map (iN yy0.2)++List.replicate ((fO (dD yy0.2)).length - yy1.1) 0/\yy1.2.length=(fO (dD yy0.2)).length) (fun yy1=>(fO (dD yy0.2)).length - yy1.1) (fun yy1=> .br (.len ((fO (dD yy0.2)).length)<| .elem _ aC (fO (dD yy0.2)) (fun e57=> .len yy0.2.length<| .loop (Nat × (List Int) × Int) (Q3 Nat (List Int) Int) ([16]++rg 60 14) [5000] (fun yy2=>[(60,vI (yy2.1:Int))]) (fun yy2=>[(5000,some (.arr 3 1 true (yy2.2.1.map intD)))]) (fun yy2=>yy2.1<=yy0.2.length/\yy2.2.1=yy1.2.set yy1.1 yy2.2.2/\yy2.2.2=iN (yy0.2.take yy2.1) e57) (fun yy2=>yy0.2.length - yy2.1) (fun yy2=> .br (.len yy0.2.length<| .elem _ aC yy0.2 (fun e63=> .call (vB (decide (e57=e63))) []<| .br (.len yy2.2.1.length<| .elem _ intD yy2.2.1 (fun e70=> .len yy2.2.1.length<| .set Int intD yy2.2.1 (fun s19_6=>e70+1) (fun s19_6=> .back [(5000,5000)]))) (.back [(5000,5000)]))) (.back [(5000,5000)])))) (.fin [(0,4700),(1,5000)]))))))) (p:=Lx (t.rows.map aC)<| Lx (cols.map intD)<| rE t/\Nr (aV t) ([]=(dV t cols).1.map aC/\[]=(dV t cols).2.map intD/\True) (yH cols t.arity/\Nr (dR (t.arity - 1) cols) ([]=(dV t cols).1.map aC/\[]=(dV t cols).2.map intD/\True) (Lm aC t.rows/\((∃(k:Nat) (out:List (List Int)),0=(k:Int)/\[]=out.map aC/\k<=t.rows.length/\out=(t.rows.take k).map fun r=>(fH r cols).1)/\ ∀(k:Nat) (out:List (List Int)),(k<=t.rows.length/\out=(t.rows.take k).map fun r=>(fH r cols).1)->Br ((k:Int)<(t.rows.length:Int)) (0<=(k:Int)/\Em aC t.rows k fun e33=>rF e33 cols/\out.map aC=out.map aC/\(fH e33 cols).1.map intD=(fH e33 cols).1.map intD/\(out.length+1)*24<=140737488355328/\bK ((k:Int)+1)/\ ∃(k' :Nat) (out' :List (List Int)),((k:Int)+1)=(k' :Int)/\(out++[(fH e33 cols).1]).map aC=out'.map aC/\(k' <=t.rows.length/\out' =(t.rows.take k').map fun r=>(fH r cols).1)/\t.rows.length - k' <t.rows.length - k) (aAo out/\(Lm aC (fO (dD out))/\((((fO (dD out)).length:Nat):Int)=(((fO (dD out)).length:Nat):Int)/\(((fO (dD out)).length:Nat):Int)=(((fO (dD out)).length:Nat):Int)/\8*((fO (dD out)).length)<=281474976710656/\((fO (dD out)).length)<=9223372036854775807/\List.replicate ((fO (dD out)).length) [.int .i64 (0:Int)]=(List.replicate ((fO (dD out)).length) (0:Int)).map intD/\(Lm aC (fO (dD out))/\((∃(i:Nat) (c:List Int),0=(i:Int)/\(List.replicate ((fO (dD out)).length) (0:Int)).map intD=c.map intD/\i<=(fO (dD out)).length/\c=((fO (dD out)).take i).map (iN out)++List.replicate ((fO (dD out)).length - i) 0/\c.length=(fO (dD out)).length)/\ ∀(i:Nat) (c:List Int),(i<=(fO (dD out)).length/\c=((fO (dD out)).take i).map (iN out)++List.replicate ((fO (dD out)).length - i) 0/\c.length=(fO (dD out)).length)->Br ((i:Int)<(((fO (dD out)).length:Nat):Int)) (0<=(i:Int)/\Lm aC (fO (dD out))/\(i:Int)<(((fO (dD out)).length:Nat):Int)/\Em aC (fO (dD out)) i fun e57=>Lm aC out/\((∃(j:Nat) (c2:List Int) (z:Int),0=(j:Int)/\c.map intD=c2.map intD/\j<=out.length/\c2=c.set i z/\z=iN (out.take j) e57)/\ ∀(j:Nat) (c2:List Int) (z:Int),(j<=out.length/\c2=c.set i z/\z=iN (out.take j) e57)->Br ((j:Int)<(out.length:Int)) (0<=(j:Int)/\Lm aC out/\(j:Int)<(out.length:Int)/\Em aC out j fun e63=>qK e57 e63/\Br (e57=e63) (0<=(i:Int)/\Lm intD c2/\(i:Int)<(c2.length:Int)/\Em intD c2 i fun e70=>bK (e70+1)/\(0<=(i:Int)/\Lm intD c2/\(i:Int)<(c2.length:Int)/\(c2.map intD=c2.map intD/\i<c2.length/\ ∀s19_6,c2[i]? =some s19_6->gI (intD s19_6)=true/\0+1<=(intD s19_6).length/\(intD s19_6).take 0++[.int .i64 (e70+1)]++(intD s19_6).drop (0+1)=intD (e70+1)/\bK ((j:Int)+1)/\ ∃(j' :Nat) (c2' :List Int) (z' :Int),((j:Int)+1)=(j' :Int)/\(c2.set i (e70+1)).map intD=c2'.map intD/\(j' <=out.length/\c2' =c.set i z' /\z' =iN (out.take j') e57)/\out.length - j' <out.length - j))) (bK ((j:Int)+1)/\ ∃(j' :Nat) (c2' :List Int) (z' :Int),((j:Int)+1)=(j' :Int)/\c2.map intD=c2'.map intD/\(j' <=out.length/\c2' =c.set i z' /\z' =iN (out.take j') e57)/\out.length - j' <out.length - j)) (bK ((i:Int)+1)/\ ∃(i' :Nat) (c' :List Int),((i:Int)+1)=(i' :Int)/\c2.map intD=c'.map intD/\(i' <=(fO (dD out)).length/\c' =((fO (dD out)).take i').map (iN out)++List.replicate ((fO (dD out)).length - i') 0/\c'.length=(fO (dD out)).length)/\(fO (dD out)).length - i' <(fO (dD out)).length - i))) ((fO (dD out)).map aC=(dV t cols).1.map aC/\c.map intD=(dV t cols).2.map intD/\True)))))))))) (by kernel_rfl) ?_;refine lx fun n0=>lx fun n1=>?_;refine⟨yF t,dm (fun g20=>?_) fun g20=>?_⟩
 ·have hbad:(aV t&&dR (t.arity - 1) cols)=false:=by rw[g20];rfl
  apply et2<;>((rw[aC7 hbad]<;>rfl))
 ·have hT:=cA g20;refine⟨aJg _ _ (by omega),dm (fun c0=>?_) fun c0=>?_⟩
  ·have hbad:(aV t&&dR (t.arity - 1) cols)=false:=by rw[g20,c0];rfl
   apply et2<;>((rw[aC7 hbad]<;>rfl))
  ·have hok:(aV t&&dR (t.arity - 1) cols)=true:=by rw[g20,c0];rfl
   obtain⟨hs1,hs2⟩:=aG3 hok;refine⟨aA8 _,⟨0,([]:List (List Int)),rfl,rfl,aCC _,rfl⟩,fun k out ⟨hk,ho⟩=>?_⟩;refine dd (fun c1=>?_) fun c1=>?_
   ·refine⟨by omega,rfl,by omega,fun e33 h33=>?_⟩;refine⟨aC4 _ _ (by omega),rfl,rfl,by (simp[ho];omega),⟨by omega,by omega⟩,?_⟩;exact⟨k+1,_,rfl,rfl,⟨by omega,by rw[ho,bQ h33,aKc];rfl⟩,by omega⟩
   ·have hA:out=kK t cols:=by rw[ho,aGj (by omega)];rfl
    rw[<-hA] at hs1 hs2;have hd:=aT6 out;refine⟨aMd out (by omega),aA8 _,rfl,rfl,by omega,by omega,by (rw[aSQ];done),aA8 _,⟨0,List.replicate ((fO (dD out)).length) (0:Int),rfl,rfl,aCC _,by simp,aYQ⟩,fun i c ⟨hi,hc,hcn⟩=>?_⟩;refine dd (fun c2=>?_) fun c2=>?_
    ·refine⟨by omega,aA8 _,by omega,rfl,by omega,fun e57 h57=>?_⟩;refine⟨aA8 _,⟨0,c,0,rfl,rfl,aCC _,by rw[hc];exact(aQt (by omega)).symm,rfl⟩,fun j c2 z ⟨hj,hc2,hz⟩=>?_⟩;refine dd (fun c3=>?_) fun c3=>?_
     ·refine⟨by omega,aA8 _,by omega,rfl,by omega,fun e63 h63=>?_⟩;refine⟨aCY _ _,dd (fun c4=>?_) fun c4=>?_⟩
      ·refine⟨by omega,aA8 _,by (rw[hc2,aJa,hcn];omega),rfl,by (rw[hc2,aJa,hcn];omega),fun e70 h70=>?_⟩;have hz70:e70=z:=by rw[hc2] at h70;exact(aYE h70)
       have hcl:=aT5 (out.take j) e57;have hjl:(out.take j).length<=out.length:=by simp;omega
       refine⟨⟨by omega,by omega⟩,by omega,aA8 _,by (rw[hc2,aJa,hcn];omega),rfl,by (rw[hc2,aJa,hcn];omega),fun s19_6 hs19_6=>⟨rfl,aDg rfl,rfl,?_⟩⟩;refine⟨⟨by omega,by omega⟩,?_⟩;exact⟨j+1,_,_,rfl,rfl,⟨by omega,by rw[hc2,List.set_set,hz70],by rw[hz,aPo h63 c4]⟩,by omega⟩
      ·refine⟨⟨by omega,by omega⟩,?_⟩;exact⟨j+1,_,_,rfl,rfl,⟨by omega,hc2,by rw[hz,aT4 h63 c4]⟩,by omega⟩
     ·have hj9:j=out.length:=by omega
      rw[hj9,aSV] at hz;refine⟨⟨by omega,by omega⟩,?_⟩;exact⟨i+1,_,rfl,rfl,⟨by omega,by rw[hc2,hz,hc];exact aT7 h57,by rw[hc2,aJa];exact hcn⟩,by omega⟩
    ·have hC:c=aMe t cols:=by rw[hc,aO5 hi (by omega),hA];rfl
     apply et2<;>(first|(rw[rI hok,hA]<;>rfl)|(rw[rI hok,hC]<;>rfl))
theorem aMg {α:Type}(f:α->Nat){x:α}: ∀{l:List α},x∈l->f x<=eZ f l
 | a::l,h=>by
   simp only[eZ,aKT,List.sum_cons];rcases aOI.1 h with q | q
   ·subst q;omega
   have:=aMg f q;simp only[eZ] at this;omega
theorem aA2 {l:List (List Int)}{i:Nat}{x:List Int}(h:l[i]? =some x):x.length<=cO l:=by
 have h1:cO l=l.length+eZ cC l:=rfl;have h2:x.length<=eZ cC l:=aMg cC (aCf h);omega
def pgo (row:List Int):Bool->List (List Int)->List (List Int)
 | p,[]=>if p=true then [] else [row]
 | p,x::xs=>if 0<cB x row/\p=false then row::x::pgo row true xs else x::pgo row (p || decide (cB x row=0)) xs
def kT (row:List Int)(rows:List (List Int)):List (List Int):=pgo row false rows
theorem aT8 {row x:List Int}{xs:List (List Int)}(h:0<cB x row):pgo row false (x::xs)=row::x::pgo row true xs:=by rw[pgo,if_pos ⟨h,rfl⟩]
theorem aO6 {row x:List Int}{xs:List (List Int)}{p:Bool}(h:cB x row=0):pgo row p (x::xs)=x::pgo row true xs:=by rw[pgo,if_neg (by omega),h];simp
theorem aT9 {row x:List Int}{xs:List (List Int)}:pgo row true (x::xs)=x::pgo row true xs:=by rw[pgo,if_neg (by simp)];rfl
theorem aTa {row x:List Int}{xs:List (List Int)}{p:Bool}(h: ¬0<cB x row)(h' : ¬cB x row=0):pgo row p (x::xs)=x::pgo row p xs:=by rw[pgo,if_neg (by omega)];simp[h']
abbrev uZ (rows:List (List Int))(row:List Int):AV × List (Nat × Rs):=(.own 0,[(0,.arr 91 1 true ((kT row rows).map aC))])
abbrev aBQ (rows:List (List Int))(row:List Int):Prop:=Cn 245 [.one (.sl 91 1 (rows.map aC)),.one (.sl 3 1 (row.map intD))] (uZ rows row).1 (uZ rows row).2
theorem aMh (rows:List (List Int))(row:List Int)(hl:rows.length<=1000000)(hc:cO rows<=1048576)(hr:row.length<=1048576):aBQ rows row:=by
 refine cq Tryz.func245 (.loop (Nat × (List (List Int)) × Bool) (Q3 Nat (List (List Int)) Bool) (rg 5 40) [900,3100,3300,3400,3500,3700,4200,4300,4400] (fun yy0=>[(7,vI (yy0.1:Int)),(5,.own 900),(6,vB yy0.2.2)]) (fun yy0=>[(900,some (.arr 91 1 true (yy0.2.1.map aC)))]) (fun yy0=>yy0.1<=rows.length/\yy0.2.1.length<=2*yy0.1/\yy0.2.1++pgo row yy0.2.2 (rows.drop yy0.1)=kT row rows) (fun yy0=>rows.length - yy0.1) (fun yy0=> .len rows.length<| .br (.elem _ aC rows (fun e18=> .call (vI (cB e18 row)) []<| .br (.br (.elem _ aC rows (fun e40=> .app Int intD ([]:List Int) e40<| .appx (List Int) aC yy0.2.1 (([]:List Int)++e40)<| .back [(900,4400)])) (.elem _ aC rows (fun e40=> .app Int intD ([]:List Int) e40<| .appx (List Int) aC yy0.2.1 (([]:List Int)++e40)<| .back [(900,4400)]))) (.br (.lit<| .lit<| .br (.app Int intD ([]:List Int) row<| .appx (List Int) aC yy0.2.1 (([]:List Int)++row)<| .elem _ aC rows (fun e40=> .app Int intD ([]:List Int) e40<| .appx (List Int) aC (yy0.2.1++[([]:List Int)++row]) (([]:List Int)++e40)<| .back [(900,4400)])) (.elem _ aC rows (fun e40=> .app Int intD ([]:List Int) e40<| .appx (List Int) aC yy0.2.1 (([]:List Int)++e40)<| .back [(900,4400)]))) (.elem _ aC rows (fun e40=> .app Int intD ([]:List Int) e40<| .appx (List Int) aC yy0.2.1 (([]:List Int)++e40)<| .back [(900,4400)]))))) (.br (.app Int intD ([]:List Int) row<| .appx (List Int) aC yy0.2.1 (([]:List Int)++row)<| .fin [(0,5200)]) (.fin [(0,900)])))) (p:=Lx (rows.map aC)<| Lx (row.map intD)<| (∃(k:Nat) (out:List (List Int)) (p:Bool),0=(k:Int)/\(false)=p/\[]=out.map aC/\k<=rows.length/\out.length<=2*k/\out++pgo row p (rows.drop k)=kT row rows)/\ ∀(k:Nat) (out:List (List Int)) (p:Bool),(k<=rows.length/\out.length<=2*k/\out++pgo row p (rows.drop k)=kT row rows)->Lm aC rows/\Br ((k:Int)<(rows.length:Int)) (0<=(k:Int)/\Em aC rows k fun e18=>fN e18 row/\Br ((cB e18 row)=0) (Br (0<(cB e18 row)) (0<=(k:Int)/\Em aC rows k fun e40=>Ap intD ([]:List Int) e40 8 (out.map aC=out.map aC/\(([]:List Int)++e40).map intD=(([]:List Int)++e40).map intD/\(out.length+1)*24<=140737488355328/\bK ((k:Int)+1)/\ ∃(k' :Nat) (out' :List (List Int)) (p' :Bool),((k:Int)+1)=(k' :Int)/\(true)=p' /\(out++[([]:List Int)++e40]).map aC=out'.map aC/\(k' <=rows.length/\out'.length<=2*k' /\out' ++pgo row p' (rows.drop k')=kT row rows)/\rows.length - k' <rows.length - k)) (0<=(k:Int)/\Em aC rows k fun e40=>Ap intD ([]:List Int) e40 8 (out.map aC=out.map aC/\(([]:List Int)++e40).map intD=(([]:List Int)++e40).map intD/\(out.length+1)*24<=140737488355328/\bK ((k:Int)+1)/\ ∃(k' :Nat) (out' :List (List Int)) (p' :Bool),((k:Int)+1)=(k' :Int)/\(true)=p' /\(out++[([]:List Int)++e40]).map aC=out'.map aC/\(k' <=rows.length/\out'.length<=2*k' /\out' ++pgo row p' (rows.drop k')=kT row rows)/\rows.length - k' <rows.length - k))) (Br (0<(cB e18 row)) (Nr (p) (Ap intD ([]:List Int) row 8 (out.map aC=out.map aC/\(([]:List Int)++row).map intD=(([]:List Int)++row).map intD/\(out.length+1)*24<=140737488355328/\0<=(k:Int)/\Em aC rows k fun e40=>Ap intD ([]:List Int) e40 8 ((out++[([]:List Int)++row]).map aC=(out++[([]:List Int)++row]).map aC/\(([]:List Int)++e40).map intD=(([]:List Int)++e40).map intD/\((out++[([]:List Int)++row]).length+1)*24<=140737488355328/\bK ((k:Int)+1)/\ ∃(k' :Nat) (out' :List (List Int)) (p' :Bool),((k:Int)+1)=(k' :Int)/\(true)=p' /\((out++[([]:List Int)++row])++[([]:List Int)++e40]).map aC=out'.map aC/\(k' <=rows.length/\out'.length<=2*k' /\out' ++pgo row p' (rows.drop k')=kT row rows)/\rows.length - k' <rows.length - k))) (0<=(k:Int)/\Em aC rows k fun e40=>Ap intD ([]:List Int) e40 8 (out.map aC=out.map aC/\(([]:List Int)++e40).map intD=(([]:List Int)++e40).map intD/\(out.length+1)*24<=140737488355328/\bK ((k:Int)+1)/\ ∃(k' :Nat) (out' :List (List Int)) (p' :Bool),((k:Int)+1)=(k' :Int)/\(p)=p' /\(out++[([]:List Int)++e40]).map aC=out'.map aC/\(k' <=rows.length/\out'.length<=2*k' /\out' ++pgo row p' (rows.drop k')=kT row rows)/\rows.length - k' <rows.length - k))) (0<=(k:Int)/\Em aC rows k fun e40=>Ap intD ([]:List Int) e40 8 (out.map aC=out.map aC/\(([]:List Int)++e40).map intD=(([]:List Int)++e40).map intD/\(out.length+1)*24<=140737488355328/\bK ((k:Int)+1)/\ ∃(k' :Nat) (out' :List (List Int)) (p' :Bool),((k:Int)+1)=(k' :Int)/\(p)=p' /\(out++[([]:List Int)++e40]).map aC=out'.map aC/\(k' <=rows.length/\out'.length<=2*k' /\out' ++pgo row p' (rows.drop k')=kT row rows)/\rows.length - k' <rows.length - k)))) (Nr (p) (Ap intD ([]:List Int) row 8 (out.map aC=out.map aC/\(([]:List Int)++row).map intD=(([]:List Int)++row).map intD/\(out.length+1)*24<=140737488355328/\(out++[([]:List Int)++row]).map aC=(kT row rows).map aC/\True)) (out.map aC=(kT row rows).map aC/\True))) (by kernel_rfl) ?_;refine lx fun n0=>lx fun n1=>?_;refine⟨⟨0,([]:List (List Int)),false,rfl,rfl,rfl,aCC _,by simp,rfl⟩,fun k out p ⟨hk,ho,hv⟩=>?_⟩;refine⟨aA8 _,dd (fun c0=>?_) fun c0=>?_⟩
 ·refine⟨by omega,rfl,by omega,fun e18 h18=>?_⟩;have hsz:=aA2 h18;refine⟨jA _ _,dd (fun c1=>?_) fun c1=>?_⟩
  ·refine dd (fun g26=>?_) fun g26=>?_
   ·refine⟨by omega,rfl,by omega,fun e40 h40=>?_⟩;obtain rfl:=(aW h18 h40).symm;refine ap ?_ (fun _=>rfl) (by omega);refine⟨rfl,rfl,by omega,⟨by omega,by omega⟩,?_⟩;exact⟨k+1,_,_,rfl,rfl,rfl,⟨by omega,by simp;omega,by rw[<-hv,lK h18];(rw[aO6 c1];simp;done)⟩,by omega⟩
   ·refine⟨by omega,rfl,by omega,fun e40 h40=>?_⟩;obtain rfl:=(aW h18 h40).symm;refine ap ?_ (fun _=>rfl) (by (simp;omega));refine⟨rfl,rfl,by omega,⟨by omega,by omega⟩,?_⟩;exact⟨k+1,_,_,rfl,rfl,rfl,⟨by omega,by simp;omega,by rw[<-hv,lK h18];(rw[aO6 c1];simp;done)⟩,by omega⟩
  ·refine dd (fun g26=>?_) fun g26=>?_
   ·refine dm (fun c2=>?_) fun c2=>?_
    ·refine ap ?_ (fun _=>rfl) (by (simp;omega));refine⟨rfl,rfl,by omega,by omega,rfl,by omega,fun e40 h40=>?_⟩;obtain rfl:=(aW h18 h40).symm;refine ap ?_ (fun _=>rfl) (by (simp;omega));refine⟨rfl,rfl,by (simp;omega),⟨by omega,by omega⟩,?_⟩;exact⟨k+1,_,_,rfl,rfl,rfl,⟨by omega,by simp;omega,by rw[<-hv,lK h18];(subst c2;rw[aT8 g26];simp;done)⟩,by omega⟩
    ·refine⟨by omega,rfl,by omega,fun e40 h40=>?_⟩;obtain rfl:=(aW h18 h40).symm;refine ap ?_ (fun _=>rfl) (by (simp;omega));refine⟨rfl,rfl,by omega,⟨by omega,by omega⟩,?_⟩;exact⟨k+1,_,_,rfl,rfl,rfl,⟨by omega,by simp;omega,by rw[<-hv,lK h18];(subst c2;rw[aT9];simp;done)⟩,by omega⟩
   ·refine⟨by omega,rfl,by omega,fun e40 h40=>?_⟩;obtain rfl:=(aW h18 h40).symm;refine ap ?_ (fun _=>rfl) (by (simp;omega));refine⟨rfl,rfl,by omega,⟨by omega,by omega⟩,?_⟩;exact⟨k+1,_,_,rfl,rfl,rfl,⟨by omega,by simp;omega,by rw[<-hv,lK h18];(rw[aTa g26 c1];simp;done)⟩,by omega⟩
 ·refine dm (fun c3=>?_) fun c3=>?_
  ·refine ap ?_ (fun _=>rfl) (by (simp;omega));refine⟨rfl,rfl,by omega,?_,trivial⟩
   ·rw[<-hv,yB (by omega),pgo];simp[c3]
  ·apply et1
   ·rw[<-hv,yB (by omega),pgo];simp[c3]
theorem aG4 {row:List Int}: ∀xs:List (List Int),pgo row true xs=xs
 | []=>rfl
 | x::xs=>by rw[aT9,aG4 xs]
theorem aCa {row:List Int}:kT row []= [row]:=rfl
theorem aCb {row x:List Int}{xs:List (List Int)}(h:0<cB x row):kT row (x::xs)=row::x::xs:=by rw[kT,aT8 h,aG4]
theorem aCc {row x:List Int}{xs:List (List Int)}(h:cB x row=0):kT row (x::xs)=x::xs:=by rw[kT,aO6 h,aG4]
theorem aCd {row x:List Int}{xs:List (List Int)}(h: ¬0<cB x row)(h' : ¬cB x row=0):kT row (x::xs)=x::kT row xs:=by rw[kT,aTa h h',kT]
theorem aG5 {row y:List Int}: ∀{xs:List (List Int)},y∈kT row xs↔y=row\/y∈xs
 | []=>by simp[aCa]
 | x::xs=>by
   by_cases h:0<cB x row
   ·rw[aCb h];simp
   by_cases h' :cB x row=0
   ·rw[aCc h',eP.1 h'];constructor
    ·exact Or.inr
    rintro(rfl | q)
    ·simp
    exact q
   rw[aCd h h',aOI,aOI,aG5];constructor
   ·rintro(q | q | q)
    ·exact .inr (.inl q)
    ·exact .inl q
    exact .inr (.inr q)
   rintro(q | q | q)
   ·exact .inr (.inl q)
   ·exact .inl q
   exact .inr (.inr q)
abbrev Asc (l:List (List Int)):Prop:=l.Pairwise fun a b=>cB a b<0
theorem aMi {row:List Int}: ∀{xs:List (List Int)},Asc xs->Asc (kT row xs)
 | [],_=>by rw[aCa];exact List.pairwise_singleton _ _
 | x::xs,hx=>by
   have h1:=List.pairwise_cons.1 hx;by_cases h:0<cB x row
   ·rw[aCb h];refine List.pairwise_cons.2 ⟨fun y hy=>?_,hx⟩;have hrx:cB row x<0:=qL.2 h;rcases aOI.1 hy with rfl | q
    ·exact hrx
    exact mD hrx (h1.1 y q)
   by_cases h' :cB x row=0
   ·rw[aCc h'];exact hx
   rw[aCd h h'];refine List.pairwise_cons.2 ⟨fun y hy=>?_,aMi h1.2⟩;rcases aG5.1 hy with rfl | q
   ·omega
   exact h1.1 y q
theorem aMj {row:List Int}: ∀{xs:List (List Int)},(kT row xs).length<=xs.length+1
 | []=>by simp[aCa]
 | x::xs=>by
   by_cases h:0<cB x row
   ·rw[aCb h];simp
   by_cases h' :cB x row=0
   ·rw[aCc h'];simp
   rw[aCd h h'];have:=aMj (row:=row) (xs:=xs);simp only[aPS];omega
def cF (l:List (List Int)):List (List Int):=l.foldl (fun acc x=>kT x acc) []
theorem sK (l:List (List Int)): ∀acc,Asc acc->Asc (l.foldl (fun acc x=>kT x acc) acc)/\(∀y,y∈l.foldl (fun acc x=>kT x acc) acc↔y∈acc\/y∈l)/\(l.foldl (fun acc x=>kT x acc) acc).length<=acc.length+l.length:=by
 induction l with
 | nil=>intro acc h;simp[h]
 | cons x l ih=>
   intro acc h;obtain⟨h1,h2,h3⟩:=ih _ (aMi (row:=x) h);refine⟨h1,fun y=>?_,?_⟩
   ·rw[List.foldl_cons,h2,aG5,aOI];constructor
    ·rintro((q | q) | q)
     ·exact .inr (.inl q)
     ·exact .inl q
     exact .inr (.inr q)
    rintro(q | q | q)
    ·exact .inl (.inr q)
    ·exact .inl (.inl q)
    exact .inr q
   have:=aMj (row:=x) (xs:=acc);rw[List.foldl_cons,aPS];omega
theorem aCe {l:List (List Int)}{x:List Int}:cF (l++[x])=kT x (cF l):=by simp[cF,List.foldl_append]
theorem aFT: ∀{l m:List (List Int)},Asc l->Asc m->(∀x,x∈l↔x∈m)->l=m
 | [],[],_,_,_=>rfl
 | [],b::m,_,_,h=>by have:=(h b).2 (by simp);simp at this
 | a::l,[],_,_,h=>by have:=(h a).1 (by simp);simp at this
 | a::l,b::m,hl,hm,h=>by
   have hl' :=List.pairwise_cons.1 hl;have hm' :=List.pairwise_cons.1 hm
   have hab:a=b:=by
    rcases aOI.1 ((h a).1 (by simp)) with q | q
    ·exact q
    rcases aOI.1 ((h b).2 (by simp)) with r | r
    ·exact r.symm
    have h1:=hm'.1 a q;have h2:=hl'.1 b r;have:=mD h1 h2;rw[aAZ] at this;omega
   subst hab
   congr 1
   refine aFT hl'.2 hm'.2 fun x=>⟨fun hx=>?_,fun hx=>?_⟩
   ·rcases aOI.1 ((h x).1 (by simp[hx])) with q | q
    ·subst q;have:=hl'.1 _ hx;rw[aAZ] at this;omega
    exact q
   rcases aOI.1 ((h x).2 (by simp[hx])) with q | q
   ·subst q;have:=hm'.1 _ hx;rw[aAZ] at this;omega
   exact q
theorem aG6 {s:List (List Int)}{i:Nat}:i∈nH s↔i<s.length/\(i=0\/ ¬s.getD i []=s.getD (i - 1) []):=by
 rw[nH,aYR,aSN];simp[aLG]
theorem aJn (s:List (List Int)): ∀n,n<s.length-> ∃i,i∈nH s/\s.getD i []=s.getD n []
 | 0,h=>⟨0,aG6.2 ⟨h,.inl rfl⟩,rfl⟩
 | n+1,h=>by
   by_cases e:s.getD (n+1) []=s.getD n []
   ·obtain⟨i,h1,h2⟩:=aJn s n (by omega);exact⟨i,h1,by rw[h2,e]⟩
   exact⟨n+1,aG6.2 ⟨h,.inr e⟩,rfl⟩
theorem aTc {s:List (List Int)}{x:List Int}:x∈fO s↔x∈s:=by
 constructor
 ·intro h;obtain⟨i,hi,rfl⟩:=aON.1 h;obtain⟨y,hy⟩:=dA (aPn hi);rw[bM hy];exact aCf hy
 intro h;obtain⟨n,hn,hx⟩:=List.mem_iff_getElem.1 h;obtain⟨i,h1,h2⟩:=aJn s n hn;refine aON.2 ⟨i,h1,?_⟩;rw[h2,<-hx];simp[hn]
theorem aTd {s:List (List Int)}(hs:s.Pairwise (fun a b=>leR a b=true)):Asc (fO s):=by
 rw[fO,Asc,List.pairwise_map];have h0:(nH s).Pairwise (· < ·):=List.Pairwise.filter _ List.pairwise_lt_range;refine List.Pairwise.imp_of_mem ?_ h0;intro i j hi hj hij;have h1:=aG6.1 hj;have hp:=List.pairwise_iff_getElem.1 hs
 have hg: ∀a b,a<b->b<s.length->leR (s.getD a []) (s.getD b [])=true:=by
  intro a b hab hb;have:=hp a b (by omega) hb hab;simpa [hb,show a<s.length by omega] using this
 have h2:=hg (j - 1) j (by omega) h1.1;rw[leR,aTb] at h2
 have h3:cB (s.getD (j - 1) []) (s.getD j [])<0:=by
  have: ¬cB (s.getD (j - 1) []) (s.getD j [])=0:=fun q=>by
   have:=eP.1 q;rcases h1.2 with r | r
   ·omega
   exact r this.symm
  omega
 by_cases e:i=j - 1
 ·rw[e];exact h3
 have h4:=hg i (j - 1) (by omega) (by omega);rw[leR,aTb] at h4;by_cases z:cB (s.getD i []) (s.getD (j - 1) [])=0
 ·rw[eP.1 z];exact h3
 exact mD (by omega) h3
theorem sL (l:List (List Int)):cF l=fO (dD l):=by
 obtain⟨h1,h2,_⟩:=sK l [] List.Pairwise.nil
 exact aFT h1 (aTd (aGZ l)) fun x=>by
  have h2' :=h2 x;rw[show l.foldl (fun acc x=>kT x acc) []=cF l from rfl] at h2';rw[h2',aTc,(aBN l).mem_iff];simp
theorem aIh {l:List (List Int)}{m:Nat}(h: ∀x∈l,x.length<=m):(cF l).length<=l.length/\cO (cF l)<=l.length+l.length*m:=by
 obtain⟨_,h2,h3⟩:=sK l [] List.Pairwise.nil
 have h4:(cF l).length<=l.length:=by
  rw[List.length_nil,Nat.zero_add] at h3;exact h3
 have:=aC9 (l:=cF l) (m:=m) fun x hx=>h x (by simpa using (h2 x).1 hx);have:=Nat.mul_le_mul_right m h4;exact⟨h4,by omega⟩
theorem aLH {t:aY}{cols:List Int}{j:Nat}{e:List Int}(h:t.rows[j]? =some e):(kK t cols)[j]? =some (fH e cols).1:=by simp[kK,h]
theorem aLI {t:aY}{cols:List Int}{k:Nat}(h:(aV t&&dR (t.arity - 1) cols)=true):(cF ((kK t cols).take k)).length<=8/\cO (cF ((kK t cols).take k))<=64:=by
 have h0:=h;rw[aB4] at h;have ha:=cA h.1;have hc:=aC8 h.2 (by omega);have hl:(kK t cols).length=t.rows.length:=aA8 _
 have:=aIh (l:=(kK t cols).take k) (m:=3) fun r hr=>by
  obtain⟨q,_,rfl⟩:=aON.1 (List.mem_of_mem_take hr);have:=aGW q cols;omega
 have h5:((kK t cols).take k).length<=8:=by simp;omega
 omega
abbrev aBR (t:aY)(cols:List Int):AV × List (Nat × Rs):=(.tup [.own 0,.own 1],[(0,.arr 91 1 true ((dV t cols).1.map aC)),(1,.arr 3 1 true ((dV t cols).2.map intD))])
abbrev aG7 (t:aY)(cols:List Int):Prop:=Cn 220 [.agg [.str t.name,.int .i64 t.arity,.sl 91 1 (t.rows.map aC)],.one (.sl 3 1 (cols.map intD))] (aBR t cols).1 (aBR t cols).2
theorem aTe (t:aY)(cols:List Int)(hl:cols.length<=1048576):aG7 t cols:=by
 refine cq Tryz.func220 (.call (vB (aV t&&dR (t.arity - 1) cols)) []<| .br (.fin [(0,1600),(1,1700)]) (.loop (Nat × (List (List Int))) (Q2 Nat (List (List Int))) ([6,8,9,10,16]++rg 24 20) [1600,3800,4300] (fun yy0=>[(8,vI (yy0.1:Int)),(6,.own 1600)]) (fun yy0=>[(1600,some (.arr 91 1 true (yy0.2.map aC)))]) (fun yy0=>yy0.1<=t.rows.length/\yy0.2=cF ((kK t cols).take yy0.1)) (fun yy0=>t.rows.length - yy0.1) (fun yy0=> .len t.rows.length<| .br (.elem _ aC t.rows (fun e35=>bH (oI e35 cols)<| bH (uZ yy0.2 ((fH e35 cols).1))<| .back [(1600,4300)])) (.loop (Nat × (List Int)) (Q2 Nat (List Int)) ([7,11,12,13,14,15,17]++rg 44 36) [1700,6400,7800,7900] (fun yy1=>[(11,vI (yy1.1:Int)),(7,.own 1700)]) (fun yy1=>[(1700,some (.arr 3 1 true (yy1.2.map intD)))]) (fun yy1=>yy1.1<=yy0.2.length/\yy1.2=(yy0.2.take yy1.1).map (iN (kK t cols))) (fun yy1=>yy0.2.length - yy1.1) (fun yy1=> .len yy0.2.length<| .br (.loop (Nat × Int) (Q2 Nat Int) ([12,13,14,15]++rg 50 26) [6400] (fun yy2=>[(12,vI yy2.2),(13,vI (yy2.1:Int))]) (fun yy2=>[]) (fun yy2=>yy2.1<=t.rows.length/\yy2.2=iN ((kK t cols).take yy2.1) (yy0.2.getD yy1.1 [])) (fun yy2=>t.rows.length - yy2.1) (fun yy2=> .len t.rows.length<| .br (.elem _ aC t.rows (fun e61=>bH (oI e61 cols)<| .len yy0.2.length<| .elem _ aC yy0.2 (fun e71=> .call (vI (cB ((fH e61 cols).1) e71)) []<| .br (.back []) (.back [])))) (.app Int intD yy1.2 ([yy2.2]:List Int)<| .back [(1700,7900)]))) (.fin [(0,1600),(1,1700)])))))) (p:=Lx (t.rows.map aC)<| Lx (cols.map intD)<| yI t cols/\Nr (aV t&&dR (t.arity - 1) cols) ([]=(dV t cols).1.map aC/\[]=(dV t cols).2.map intD/\True) ((∃(k:Nat) (out:List (List Int)),0=(k:Int)/\[]=out.map aC/\k<=t.rows.length/\out=cF ((kK t cols).take k))/\ ∀(k:Nat) (out:List (List Int)),(k<=t.rows.length/\out=cF ((kK t cols).take k))->Lm aC t.rows/\Br ((k:Int)<(t.rows.length:Int)) (0<=(k:Int)/\Em aC t.rows k fun e35=>rG e35 cols/\aBQ out ((fH e35 cols).1)/\bK ((k:Int)+1)/\ ∃(k' :Nat) (out' :List (List Int)),((k:Int)+1)=(k' :Int)/\(kT ((fH e35 cols).1) out).map aC=out'.map aC/\(k' <=t.rows.length/\out' =cF ((kK t cols).take k'))/\t.rows.length - k' <t.rows.length - k) ((∃(i:Nat) (c:List Int),0=(i:Int)/\[]=c.map intD/\i<=out.length/\c=(out.take i).map (iN (kK t cols)))/\ ∀(i:Nat) (c:List Int),(i<=out.length/\c=(out.take i).map (iN (kK t cols)))->Lm aC out/\Br ((i:Int)<(out.length:Int)) ((∃(j:Nat) (z:Int),0=z/\0=(j:Int)/\j<=t.rows.length/\z=iN ((kK t cols).take j) (out.getD i []))/\ ∀(j:Nat) (z:Int),(j<=t.rows.length/\z=iN ((kK t cols).take j) (out.getD i []))->Lm aC t.rows/\Br ((j:Int)<(t.rows.length:Int)) (0<=(j:Int)/\Em aC t.rows j fun e61=>rG e61 cols/\0<=(i:Int)/\Lm aC out/\(i:Int)<(out.length:Int)/\Em aC out i fun e71=>fN ((fH e61 cols).1) e71/\Br ((cB ((fH e61 cols).1) e71)=0) (bK (z+1)/\bK ((j:Int)+1)/\ ∃(j' :Nat) (z' :Int),(z+1)=z' /\((j:Int)+1)=(j' :Int)/\(j' <=t.rows.length/\z' =iN ((kK t cols).take j') (out.getD i []))/\t.rows.length - j' <t.rows.length - j) (bK ((j:Int)+1)/\ ∃(j' :Nat) (z' :Int),z=z' /\((j:Int)+1)=(j' :Int)/\(j' <=t.rows.length/\z' =iN ((kK t cols).take j') (out.getD i []))/\t.rows.length - j' <t.rows.length - j)) (Ap intD c ([z]:List Int) 8 (bK ((i:Int)+1)/\ ∃(i' :Nat) (c' :List Int),((i:Int)+1)=(i' :Int)/\(c++[z]).map intD=c'.map intD/\(i' <=out.length/\c' =(out.take i').map (iN (kK t cols)))/\out.length - i' <out.length - i))) (out.map aC=(dV t cols).1.map aC/\c.map intD=(dV t cols).2.map intD/\True)))) (by kernel_rfl) ?_;refine lx fun n0=>lx fun n1=>?_;refine⟨aJh t _,dm (fun c0=>?_) fun c0=>?_⟩
 ·have hbad:(aV t&&dR (t.arity - 1) cols)=false:=by simpa using c0
  apply et2<;>((rw[aC7 hbad]<;>rfl))
 ·have hok:(aV t&&dR (t.arity - 1) cols)=true:=by simpa using c0
  obtain⟨hs1,hs2⟩:=aG3 hok;refine⟨⟨0,([]:List (List Int)),rfl,rfl,aCC _,rfl⟩,fun k out ⟨hk,ho⟩=>?_⟩;refine⟨aA8 _,dd (fun c1=>?_) fun c1=>?_⟩
  ·have hp:=aLI (k:=k) hok;rw[<-ho] at hp;refine⟨by omega,rfl,by omega,fun e35 h35=>?_⟩;have hsl:=aGW e35 cols;refine⟨aC5 _ _ (by omega),aMh out ((fH e35 cols).1) (by omega) (by omega) (by omega),⟨by omega,by omega⟩,?_⟩;exact⟨k+1,_,rfl,rfl,⟨by omega,by rw[ho,bQ (aLH h35),aCe]⟩,by omega⟩
  ·have hV:out=aO4 t cols:=by rw[ho,aGj (by simp[kK];omega),sL];rfl
   have hp:=aLI (k:=k) hok;rw[<-ho] at hp;refine⟨⟨0,([]:List Int),rfl,rfl,aCC _,rfl⟩,fun i c ⟨hi,hc⟩=>?_⟩;refine⟨aA8 _,dd (fun c2=>?_) fun c2=>?_⟩
   ·obtain⟨g,hg⟩:=dA (l:=out) (k:=i) (by omega);refine⟨⟨0,0,rfl,rfl,aCC _,rfl⟩,fun j z ⟨hj,hz⟩=>?_⟩;refine⟨aA8 _,dd (fun c3=>?_) fun c3=>?_⟩
    ·refine⟨by omega,rfl,by omega,fun e61 h61=>?_⟩;refine⟨aC5 _ _ (by omega),by omega,aA8 _,by omega,rfl,by omega,fun e71 h71=>?_⟩;have hg71:out.getD i []=e71:=bM h71;refine⟨jA _ _,dd (fun c4=>?_) fun c4=>?_⟩
     ·have hcl:=aT5 ((kK t cols).take j) e71;rw[<-hg71,<-hz] at hcl;have hjl:((kK t cols).take j).length<=8:=by simp;omega
      refine⟨⟨by omega,by omega⟩,⟨by omega,by omega⟩,?_⟩;exact⟨j+1,_,rfl,rfl,⟨by omega,by rw[hz,hg71,aPo (aLH h61) (eP.1 c4).symm]⟩,by omega⟩
     ·refine⟨⟨by omega,by omega⟩,?_⟩;exact⟨j+1,_,rfl,rfl,⟨by omega,by rw[hz,hg71,aT4 (aLH h61) (fun q=>c4 (eP.2 q.symm))]⟩,by omega⟩
    ·refine ap ?_ (fun _=>rfl) (by (rw[hc];simp;omega));refine⟨⟨by omega,by omega⟩,?_⟩;exact⟨i+1,_,rfl,rfl,⟨by omega,by rw[hc,hz,bQ hg,bM hg,aKc,aGj (l:=kK t cols) (i:=j) (by simp[kK];omega)];rfl⟩,by omega⟩
   ·have hC:c=aMe t cols:=by rw[hc,aGj (by omega),hV];rfl
    apply et2<;>(first|(rw[rI hok,hV]<;>rfl)|(rw[rI hok,hC]<;>rfl))
end Go.Proofs.YtlidmoeecphbmaaGreat
