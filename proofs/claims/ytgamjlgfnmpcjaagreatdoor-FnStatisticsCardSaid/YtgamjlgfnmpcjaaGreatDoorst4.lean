/-
  Contracts and plain laws, joined: part 5.
-/
import Derived.Test.YtgamjlgfnmpcjaaGreatDoorst3
import Derived.Shelf.Sort.Plain
import Derived.Shelf.Slices.In.SortNone
import Derived.Sort.OwnSortedInts
import Derived.Shelf.SlicesE.Reverse
import Derived.Ground.SlgnProg
namespace Go.Proofs.YtgamjlgfnmpcjaaGreatDoor
open Go.ChangeShapes Go.WideShapes Go.ChangeAt Go.RowKit Go.Shelf Go.Lib
set_option linter.unusedVariables false
set_option linter.unusedSimpArgs false
def aDT (l:List (List Int))(i j:Nat):Bool:=decide (l.getD i []=l.getD j [])
def iG (l:List (List Int)):List Nat:=(List.range l.length).filter fun j=>decide (j=0) || !aDT l j (j - 1)
def dA (l:List (List Int)):List (List Int):=(iG l).map fun i=>l.getD i []
theorem aH0 (l:List (List Int)):hJ (aDT l) (List.range l.length).toArray l.length=iG l:=by
 unfold hJ iG;have e: ∀j,j<l.length->(List.range l.length).toArray[j]! =j:=fun j hj=>by simp[hj]
 have e1:(List.range l.length).filter (gZ (aDT l) (List.range l.length).toArray)=(List.range l.length).filter fun j=>decide (j=0) || !aDT l j (j - 1):=by
  apply List.filter_congr;intro j hj;have hj:=aKt.1 hj;unfold gZ;rw[e j hj,e (j - 1) (by omega)]
 rw[e1]
 conv=>rhs;rw[<-List.map_id (List.filter _ _)]
 apply List.map_congr_left;intro j hj;exact e j (aKt.1 (aMu.1 hj).1)
theorem aE7 {α:Type}{l m:List (List α)}(h:List.Sublist l m):List.Sublist l.flatten m.flatten:=by
 induction h with
 | slnil=>exact List.Sublist.refl _
 | cons a _ ih=>rw[aJj];exact ih.trans (List.sublist_append_right _ _)
 | cons_cons a _ ih=>rw[aJj,aJj];exact(List.Sublist.refl a).append ih
theorem aG7 {l:List (List Int)}{i:Nat}(h:i∈iG l):i<l.length:=aKt.1 (aMu.1 h).1
set_option maxHeartbeats 2000000 in
theorem aE8 (l:List (List Int))(hl:l.length<4611686018427387904):oZ Tryz.prog 105 [.own 0,.fn 106 []] [(0,.arr 38 1 true (l.map aB))] (.own 1) [(1,.arr 38 1 true ((dA l).map aB))]:=by
 refine⟨by kernel_rfl,by simp,fun A φ w vs hI hm=>?_⟩;obtain⟨pl,hp,css,Fs,q1,q2,q3,q4⟩:=hI.dom 0 _ rfl;unfold aH at hm;obtain⟨v,us,e1,m1,hm⟩:=hm;unfold aH at hm;obtain⟨v2,us2,e2,m2,hm⟩:=hm;unfold aH at hm;unfold aC at m1 m2;obtain⟨vs2,ev2,m3⟩:=m2;unfold aH at m3;have hv:=m1 pl hp;have e3:vs2= #[]:=by apply Array.ext';simpa using m3
 have ev:vs= #[pl.val,.func (.func 106) #[] #[]]:=by apply Array.ext';rw[e1,e2,hm,hv,ev2,e3]
 rw[ev];have hnd:=hI.nodup 0 pl hp;have hge:=hI.ge 0 pl hp;have hFe:pl.F=pl.val.ownBlock.toList++Fs.flatten:=by unfold Pl.F;rw[q2,q3]
 have hfoot: ∀b∈pl.F,aDE φ b:=fun b hb=>⟨0,pl,trivial,hp,hb⟩
 have h0: ∀h pl',φ h=some pl' ->h=0:=fun h pl' e' =>by
  cases hr:aN [(0,Rs.arr 38 1 true (l.map aB))] h with
  | none=>rw[hI.non h hr] at e';cases e'
  | some r=>
    simp only[aN] at hr;split at hr
    ·assumption
    cases hr
 obtain⟨lc,lF⟩:=oB q4;rw[aBS] at lc lF
 have hrow: ∀i,i<l.length-> ∃a cap F,css[i]? =some [.slice a (l.getD i []).length cap]/\Fs[i]? =some F/\qY w a (l.getD i [])/\(∀x∈a,x.block∈F)/\(l.getD i []).length<=9223372036854775807/\bU w (aB (l.getD i [])) [.slice a (l.getD i []).length cap] F:=fun i hi=>by
  obtain⟨r,hr⟩:=cS hi;have hg:l.getD i []=r:=by simp[aFr,hr]
  obtain⟨c,F,g1,g2,_,g4⟩:=oC q4 (show (l.map aB)[i]? =some (aB r) by rw[aMm,hr];rfl);obtain⟨a,cap,rfl,k1,k2,k3⟩:=aIz g4;rw[hg];exact⟨a,cap,F,g1,g2,k1,k2,k3,g4⟩
 have hone: ∀d∈css,d.length=1:=fun d hd=>by
  obtain⟨i,hi⟩:=List.getElem?_of_mem hd;obtain⟨a,cap,F,g1,_⟩:=hrow i (by have:=(aEA.1 hi).1;omega);rw[hi] at g1;injection g1 with g1
  rw[g1];rfl
 let enc:Nat->Value:=fun i=>css.flatten.getD i (.slice none 0 0)
 have henc: ∀i,∃a cap,enc i= .slice a (l.getD i []).length cap/\qY w a (l.getD i [])/\(∀x∈a,x.block∈Fs.flatten)/\(l.getD i []).length<=9223372036854775807:=fun i=>by
  by_cases hi:i<l.length
  ·obtain⟨a,cap,F,g1,g2,g3,g4,g5,_⟩:=hrow i hi;refine⟨a,cap,?_,g3,fun x hx=>List.mem_flatten.2 ⟨F,aCO g2,g4 x hx⟩,g5⟩;show css.flatten.getD i _=_;rw[aFr,fX css i _ hone g1];rfl
  have hg:l.getD i []= []:=by rw[aFr,List.getElem?_eq_none (by omega)];rfl
  rw[hg];refine⟨none,0,?_,fun j x hx=>by simp at hx,by simp,by simp⟩;show css.flatten.getD i _=_;rw[aFr,List.getElem?_eq_none (by rw[oD css hone];omega)];rfl
 have h1:φ 1=none:=hI.non 1 rfl
 have hend: ∀(v' :Value) (w' :World),gF pl.F w w' ->(∀F∈Fs,eC F w w')->(∀b∈v'.ownBlock,b∈pl.val.ownBlock)->w'.ownsRow 0 38 1 v' (iG l).length ((iG l).map enc)->
  ∃v K φ',Ending.returned v' = .returned v/\aHM A φ w [(1,.arr 38 1 true ((dA l).map aB))] K φ' w' /\aC K φ' w' (.own 1) v:=by
  intro v' w' hon hkeep hvb howns
  have hFr:(List.range l.length).map (fun i=>Fs.getD i [])=Fs:=by
   apply List.ext_getElem?;intro i;by_cases hi:i<l.length
   ·simp[hi,show i<Fs.length by omega]
   simp[hi,show ¬i<Fs.length by omega]
  have hsub:List.Sublist ((iG l).map fun i=>Fs.getD i []).flatten Fs.flatten:=by
   have:List.Sublist ((iG l).map fun i=>Fs.getD i []) ((List.range l.length).map fun i=>Fs.getD i []):=List.filter_sublist.map _;rw[hFr] at this;exact aE7 this
  let pl' :Pl:=⟨v',v'.ownBlock.toList,((iG l).map fun i=>Fs.getD i []).flatten⟩
  have hmem: ∀g,g∈pl'.F->g∈pl.F:=fun g hg=>by
   rw[hFe];simp only[pl',Pl.F,aFZ,Option.mem_toList] at hg ⊢;rcases hg with h | h
   ·exact .inl (hvb g h)
   exact .inr (List.Sublist.mem h hsub)
  have hnd' :pl'.F.Nodup:=by
   rw[hFe] at hnd;have hn:=aMS.1 hnd;simp only[pl',Pl.F];refine aMS.2 ⟨by cases v'.ownBlock<;>simp,hsub.nodup hn.2.1,fun x hx y hy=>?_⟩;exact hn.2.2 x (by rw[Option.mem_toList] at hx ⊢;exact hvb x hx) y (List.Sublist.mem hy hsub)
  refine⟨_,A,fun h=>if h=1 then some pl' else none,rfl,⟨⟨hon.os,hon.tape,hon.output,hon.size,fun b hb hn=>hon.block b hb (fun hm=>hn (hfoot b hm))⟩,fun _ h=>h,fun b hb=>⟨aLG (hI.lt b hb) hon.size,.inl hb⟩,fun b hb h pl1 e' hm' =>?_,fun h r hr=>?_,fun h hr=>?_,fun h h' pl1 pl2 hne ea eb=>?_,fun h pl1 e' =>?_,fun h pl1 e' g hg=>?_,fun h pl1 pl0 e' e0=>?_⟩,?_⟩
  ·split at e'
   ·injection e' with e';subst e'
    exact hI.out b hb 0 pl hp (hmem b hm')
   cases e'
  ·simp only[aN] at hr;split at hr
   ·rename_i eh;subst eh;injection hr with hr
    subst hr;refine⟨pl',by simp,(iG l).map (fun i=>[enc i]),(iG l).map (fun i=>Fs.getD i []),?_,rfl,rfl,?_⟩
    ·rw[vV enc (iG l),aBS,dA,aBS];exact howns
    rw[dA,List.map_map];refine vU (fun i=>aB (l.getD i [])) (fun i=>[enc i]) (fun i=>Fs.getD i []) fun i hi=>⟨rfl,?_⟩;obtain⟨a,cap,F,g1,g2,g3,g4,g5,g6⟩:=hrow i (aG7 hi)
    have ee:enc i= .slice a (l.getD i []).length cap:=by
     show css.flatten.getD i _=_;rw[aFr,fX css i _ hone g1];rfl
    have eF:Fs.getD i []=F:=by simp[aFr,g2]
    rw[ee,eF];exact bU.kept _ _ _ (hkeep F (aCO g2)) g6
   cases hr
  ·simp only[aN] at hr;split at hr
   ·cases hr
   rename_i eh;exact if_neg eh
  ·split at ea
   ·split at eb
    ·rename_i x y;exact absurd (x.trans y.symm) hne
    cases eb
   cases ea
  ·split at e'
   ·injection e' with e';subst e';exact hnd'
   cases e'
  ·split at e'
   ·injection e' with e';subst e'
    have:=hmem g hg;exact⟨.inr (hfoot g this),aLG (hge g this) hon.size⟩
   cases e'
  ·split at e'
   ·rename_i eh;subst eh;rw[h1] at e0;cases e0
   cases e'
  unfold aC;intro pl1 e';simp at e';subst e';rfl
 rw[aBS] at q1;rcases q1.2 with ⟨hvn,hz⟩ | ⟨g,cap,cur,hvv,hg0,hb,hn,hcap,hsz,htk⟩
 ·have hz' :l= []:=aGC hz;subst hz';rw[hvn]
  have hcon:Calls Tryz.prog 105 #[.slice none 0 0,.func (.func 106) #[] #[]] w fun e w' =>e= .returned (.slice none 0 0)/\w' =w:=by
   clear hend
   go_enter Tryz.func105,Tryz.ntmps105
   go_wp2
   go_ret
   exact⟨rfl,rfl⟩
  refine hcon.mono ?_;rintro en w' ⟨rfl,rfl⟩;exact hend (.slice none 0 0) w' (gF.refl _ _) (fun F hF g hg=>rfl) (fun b hb=>by cases hb) ⟨by simp[iG],.inl ⟨rfl,by simp[iG]⟩⟩
 have hgF:g ∉ Fs.flatten:=fun hm=>by
  rw[hFe,hvv] at hnd;simp only[Value.ownBlock,Option.toList_some,List.cons_append,aMg,List.nodup_cons] at hnd;exact hnd.1 hm
 have hgs:g<w.heap.size:=(Array.getElem?_eq_some_iff.1 hb).1;have hin: ∀b∈Fs.flatten,b<w.heap.size/\b≠g:=fun b hb' =>⟨hge b (by rw[hFe];exact aFK _ hb'),fun e=>hgF (e▸hb')⟩;have hw0: ∀(dk:Array Nat) (q:Nat),Go.Sort.putRow enc (Go.Sort.ahead w q) g 0 dk=sortWorld enc w g 0 q dk #[]:=fun dk q=>by unfold sortWorld;rw[Go.Sort.grow_empty]
 have hcmp: ∀(dk:Array Nat) (q:Nat) (x y:Nat),dk.size=(List.range l.length).toArray.size-> ∀n,Calls Tryz.prog 106 #[enc x,enc y] ((Go.Sort.putRow enc (Go.Sort.ahead w q) g 0 dk).drewN n) fun e w' =>e= .returned (.bool (aDT l x y))/\ ∃qq,w' =((Go.Sort.putRow enc (Go.Sort.ahead w q) g 0 dk).drewN n).drewN qq:=fun dk q x y _ n=>by
  obtain⟨a1,c1,ex,r1,k1,b1⟩:=henc x;obtain⟨a2,c2,ey,r2,k2,b2⟩:=henc y;rw[ex,ey]
  have hk: ∀b,b∈Fs.flatten->((Go.Sort.putRow enc (Go.Sort.ahead w q) g 0 dk).drewN n).heap[b]? =w.heap[b]? :=fun b hb' =>by
   show (Go.Sort.putRow enc (Go.Sort.ahead w q) g 0 dk).heap[b]? =_;rw[hw0];exact iZ dk (hin b hb').1 (hin b hb').2
  exact aKg a1 a2 c1 c2 _ _ _ b1 b2 (sH r1 fun q hq=>hk _ (k1 q hq)) (sH r2 fun q hq=>hk _ (k2 q hq))
 have htk' :cur.toList.take l.length=css.flatten:=by rw[Nat.mul_one] at htk;exact htk
 have hH:Go.Sort.Holds enc w g 0 (List.range l.length).toArray:=fun j hj=>by
  have hj' :j<l.length:=by simpa using hj
  refine⟨?_,by simp[World.frozen?,hb]⟩;have h1:(cur.toList.take l.length)[j]? =css.flatten[j]? :=by rw[htk']
  rw[List.getElem?_take_of_lt hj'] at h1;simp only[World.cell?,hb,Nat.zero_add,Option.isSome_none,Bool.false_eq_true,if_false];rw[<-Array.getElem?_toList,h1];obtain⟨a,cap',F,g1,_⟩:=hrow j hj';have h2:=fX css j _ hone g1
  have ee:enc j= .slice a (l.getD j []).length cap' :=by
   show css.flatten.getD j _=_;rw[aFr,h2];rfl
  have ej:(List.range l.length).toArray[j]! =j:=by simp[hj']
  rw[h2,ej,ee]
 have hone1:OneCell enc:=fun x=>by
  obtain⟨a,c,ex,_⟩:=henc x;rw[ex];rfl
 have hzr:enc l.length= .slice none 0 0:=by
  show css.flatten.getD l.length _=_;rw[aFr,List.getElem?_eq_none (by rw[oD css hone];omega)];rfl
 have hszd:(List.range l.length).toArray.size=l.length:=by simp
 have hcon:=aE6 enc (aDT l) hone1 l.length hzr g 0 cap (List.range l.length).toArray w hH (by rw[hszd];omega) (by rw[hszd];exact hn) hcmp;rw[hszd,aH0] at hcon;rw[hvv];refine hcon.mono ?_;rintro en w' ⟨rfl,q,rfl⟩
 have hle:(iG l).length<=l.length:=by
  have:=(List.filter_sublist (l:=List.range l.length) (p:=fun j=>decide (j=0) || !aDT l j (j - 1))).length_le;simpa [iG] using this
 have hkb: ∀k,k<w.heap.size->k≠g->(Go.Sort.putRow enc (Go.Sort.ahead w q) g 0 (iG l++List.replicate (l.length - (iG l).length) l.length).toArray).heap[k]? =w.heap[k]? :=fun k hk hne=>by rw[hw0];exact iZ _ hk hne
 refine hend _ _ ⟨rfl,rfl,rfl,by simp,fun k hk hne=>hkb k hk (fun e=>hne (by rw[hFe,hvv,e];simp[Value.ownBlock]))⟩
  (fun F hF b hb' =>hkb b (hin b (List.mem_flatten.2 ⟨F,hF,hb'⟩)).1 (hin b (List.mem_flatten.2 ⟨F,hF,hb'⟩)).2)
  (fun b hb' =>by rw[hvv];exact hb') ?_
 rw[hw0];refine⟨by simp,.inr ⟨g,cap,_,rfl,hg0,xR _ hb,by omega,hcap,by simp[Go.Sort.putCells,hsz],?_⟩⟩;rw[Nat.mul_one];have:=aAl enc cur (iG l++List.replicate (l.length - (iG l).length) l.length) (by simp;omega);have h3:=congrArg (List.take (iG l).length) this;rw[List.take_take,aHr,List.take_append_of_le_length (by simp)] at h3;rw[show min (iG l).length (iG l++List.replicate (l.length - (iG l).length) l.length).length=(iG l).length by simp] at h3;rw[h3,aE4 (by simp)]
end Go.Proofs.YtgamjlgfnmpcjaaGreatDoor
namespace Go.Proofs.YtgamjlgfnmpcjaaGreatDoor
open Go.ChangeShapes Go.WideShapes Go.ChangeAt Go.RowKit
set_option linter.unusedVariables false
set_option linter.unusedSimpArgs false
set_option maxRecDepth 100000
set_option maxHeartbeats 4000000
abbrev jN (l:List (List Int)):AV × List (Nat × Rs):=(.own 0,[(0,.arr 38 1 true ((dA (bV l)).map aB))])
abbrev nM (l:List (List Int)):Prop:=Cn 78 [.one (.sl 38 1 (l.map aB))] (jN l).1 (jN l).2
theorem yP (l:List (List Int))(hc:aX l<=1048576):nM l:=by
 refine cq Tryz.func78 (bC (aCV l)<| .callx [.own 0,.fn 103 []] [(0,.arr 38 1 true (l.map aB))] [(0,500)] (.tup []) [(0,.arr 38 1 true ((bV l).map aB))]<| .callx [.own 0,.fn 106 []] [(0,.arr 38 1 true ((bV l).map aB))] [(0,500)] (.own 1) [(1,.arr 38 1 true ((dA (bV l)).map aB))]<| .fin [(0,901)]) (p:=Lx (l.map aB)<| aE1 l/\oZ Tryz.prog 104 [.own 0,.fn 103 []] [(0,.arr 38 1 true (l.map aB))] (.tup []) [(0,.arr 38 1 true ((bV l).map aB))]/\l.map aB=l.map aB/\oZ Tryz.prog 105 [.own 0,.fn 106 []] [(0,.arr 38 1 true ((bV l).map aB))] (.own 1) [(1,.arr 38 1 true ((dA (bV l)).map aB))]/\(bV l).map aB=(bV l).map aB/\(dA (bV l)).map aB=(dA (bV l)).map aB/\True) (by kernel_rfl) ?_;refine lx fun n0=>?_;have hlen:=cI l;refine⟨cpR _ (by omega),aJA l (by omega),rfl,aE8 (bV l) (by (rw[xQ];omega)),rfl,?_⟩;exact⟨rfl,trivial⟩
def fM (t:aJ)(cols:List Int):List (List Int):=t.rows.map fun r=>(fR r cols).1
def eG (all:List (List Int))(g:List Int):Int:=(((all.filter fun x=>decide (g=x)).length:Nat):Int)
def aJB (t:aJ)(cols:List Int):List (List Int):=dA (bV (fM t cols))
def aH1 (t:aJ)(cols:List Int):List Int:=(aJB t cols).map (eG (fM t cols))
def bT (t:aJ)(cols:List Int):List (List Int) × List Int:=if (aL t&&cO (t.arity - 1) cols)=true then (aJB t cols,aH1 t cols) else ([],[])
theorem lZ {t:aJ}{cols:List Int}(h:(aL t&&cO (t.arity - 1) cols)=true):bT t cols=(aJB t cols,aH1 t cols):=by rw[bT,if_pos h]
theorem vW {t:aJ}{cols:List Int}(h:(aL t&&cO (t.arity - 1) cols)=false):bT t cols=([],[]):=by rw[bT,if_neg (by rw[h];decide)]
theorem aG8 {all:List (List Int)}{g x:List Int}{j:Nat}(hx:all[j]? =some x)(h:g=x):eG (all.take (j+1)) g=eG (all.take j) g+1:=by
 subst h;rw[eG,eG,bR hx,List.filter_append];simp
theorem aJC {all:List (List Int)}{g x:List Int}{j:Nat}(hx:all[j]? =some x)(h: ¬g=x):eG (all.take (j+1)) g=eG (all.take j) g:=by
 rw[eG,eG,bR hx,List.filter_append];simp[h]
theorem aJD (all:List (List Int))(g:List Int):0<=eG all g/\eG all g<=all.length:=by
 have:=List.length_filter_le (fun x=>decide (g=x)) all;unfold eG;omega
theorem aE9 {b:Int}{cols:List Int}(h:cO b cols=true): ∀i,i<cols.length->(i:Int)<=cols.getD i 0/\cols.getD i 0<=b
 | 0,hi=>by
   have:=aFJ.1 h 0 (aKt.2 hi);simp only[eS,aBT] at this;have:=pS this.1;exact⟨by simpa using this.1,this.2⟩
 | i+1,hi=>by
   have ih:=aE9 h i (by omega);have:=aFJ.1 h (i+1) (aKt.2 hi);simp only[eS,aBT,Bool.or_eq_true,aMX,Nat.add_sub_cancel] at this;have h2:=pS this.1;rcases this.2 with q | q
   ·omega
   exact⟨by omega,h2.2⟩
theorem aEa {b:Int}{cols:List Int}(h:cO b cols=true)(hb:b<=2):cols.length<=3:=by
 by_cases h3:3<cols.length
 ·have:=aE9 h 3 h3;omega
 omega
theorem tV {α:Type}{ct:α->Nat}{m:Nat}: ∀{l:List α},(∀x∈l,ct x<=m)->gO ct l<=l.length*m
 | [],_=>by simp[gO]
 | a::l,h=>by
   have h1:=h a (by simp);have h2:=tV (l:=l) fun x hx=>h x (by simp[hx]);simp only[gO,aHl,List.sum_cons,aJv,Nat.add_mul,Nat.one_mul] at*;omega
theorem iH {l:List (List Int)}{m:Nat}(h: ∀r∈l,r.length<=m):aX l<=l.length+l.length*m:=by
 have h1:=tV (ct:=bY) (m:=m) (l:=l) fun r hr=>h r hr;have h2:aX l=l.length+gO bY l:=rfl;omega
theorem tW {t:aJ}{cols:List Int}(h:(aL t&&cO (t.arity - 1) cols)=true):(fM t cols).length<=8/\aX (fM t cols)<=32:=by
 rw[aBT] at h;have ha:=bJ h.1;have hc:=aEa h.2 (by omega);have hl:(fM t cols).length=t.rows.length:=aBS _
 have:=iH (l:=fM t cols) (m:=3) fun r hr=>by
  obtain⟨q,_,rfl⟩:=aJl.1 hr;have:=aAh q cols;omega
 omega
theorem aJE (l:List (List Int)):(dA (bV l)).length<=l.length:=by
 rw[dA,aBS,<-xQ l];have:=(List.filter_sublist (l:=List.range (bV l).length) (p:=fun j=>decide (j=0) || !aDT (bV l) j (j - 1))).length_le;rw[List.length_range] at this;exact this
theorem aMP {α:Type}{l:List α}{i:Nat}{x y:α}(h:(l.set i x)[i]? =some y):y=x:=aMM h
theorem aH2 {f:List Int->Int}{l:List (List Int)}{i:Nat}(h:i<l.length):((l.take i).map f++List.replicate (l.length - i) (0:Int)).set i 0=(l.take i).map f++List.replicate (l.length - i) 0:=by
 rw[show l.length - i=(l.length - (i+1))+1 by omega,List.replicate_succ,List.set_append_right _ _ (by simp;omega)];simp[show i - min i l.length=0 by omega]
theorem aJF {f:List Int->Int}{l:List (List Int)}{i:Nat}{x:List Int}(h:l[i]? =some x):((l.take i).map f++List.replicate (l.length - i) (0:Int)).set i (f x)=(l.take (i+1)).map f++List.replicate (l.length - (i+1)) 0:=by
 have hi:i<l.length:=(aEA.1 h).1;rw[show l.length - i=(l.length - (i+1))+1 by omega,List.replicate_succ,List.set_append_right _ _ (by simp;omega),bR h];simp[show i - min i l.length=0 by omega]
theorem aFe {f:List Int->Int}{l:List (List Int)}{i:Nat}(h:i<=l.length)(h' : ¬i<l.length):(l.take i).map f++List.replicate (l.length - i) (0:Int)=l.map f:=by
 rw[show i=l.length by omega];simp
abbrev pC (t:aJ)(cols:List Int):AV × List (Nat × Rs):=(.tup [.own 0,.own 1],[(0,.arr 38 1 true ((bT t cols).1.map aB)),(1,.arr 3 1 true ((bT t cols).2.map aE))])
abbrev tX (t:aJ)(cols:List Int):Prop:=Cn 40 [.agg [.str t.name,.int .i64 t.arity,.sl 38 1 (t.rows.map aB)],.one (.sl 3 1 (cols.map aE))] (pC t cols).1 (pC t cols).2
theorem aEb (t:aJ)(cols:List Int)(hl:cols.length<=1048576):tX t cols:=by
 refine cq Tryz.func40 (.call (vB (aL t)) []<| .br (.fin []) (.call (vB (cO (t.arity - 1) cols)) []<| .lit<| .lit<| .br (.fin []) (.len t.rows.length<| .loop (Nat × (List (List Int))) (Q2 Nat (List (List Int))) ([6,8,9,10,27]++rg 31 15) [2700,3800,4300,4400] (fun yy0=>[(31,vI (yy0.1:Int)),(6,.own 2700)]) (fun yy0=>[(2700,some (.arr 38 1 true (yy0.2.map aB)))]) (fun yy0=>yy0.1<=t.rows.length/\yy0.2=(t.rows.take yy0.1).map fun r=>(fR r cols).1) (fun yy0=>t.rows.length - yy0.1) (fun yy0=> .br (.elem _ aB t.rows (fun e33=>bC (tS e33 cols)<| .appx (List Int) aB yy0.2 ((fR e33 cols).1)<| .back [(2700,4400)])) (bC (jN yy0.2)<| .len ((dA (bV yy0.2)).length)<| .mk ((dA (bV yy0.2)).length) [.int .i64 (0:Int)] ((List.replicate ((dA (bV yy0.2)).length) (0:Int)).map aE)<| .len ((dA (bV yy0.2)).length)<| .loop (Nat × (List Int)) (Q2 Nat (List Int)) ([13,14,16]++rg 53 22) [5000] (fun yy1=>[(53,vI (yy1.1:Int))]) (fun yy1=>[(5000,some (.arr 3 1 true (yy1.2.map aE)))]) (fun yy1=>yy1.1<=(dA (bV yy0.2)).length/\yy1.2=((dA (bV yy0.2)).take yy1.1).map (eG yy0.2)++List.replicate ((dA (bV yy0.2)).length - yy1.1) 0/\yy1.2.length=(dA (bV yy0.2)).length) (fun yy1=>(dA (bV yy0.2)).length - yy1.1) (fun yy1=> .br (.len ((dA (bV yy0.2)).length)<| .elem _ aB (dA (bV yy0.2)) (fun e57=> .len yy0.2.length<| .loop (Nat × (List Int) × Int) (Q3 Nat (List Int) Int) ([16]++rg 60 14) [5000] (fun yy2=>[(60,vI (yy2.1:Int))]) (fun yy2=>[(5000,some (.arr 3 1 true (yy2.2.1.map aE)))]) (fun yy2=>yy2.1<=yy0.2.length/\yy2.2.1=yy1.2.set yy1.1 yy2.2.2/\yy2.2.2=eG (yy0.2.take yy2.1) e57) (fun yy2=>yy0.2.length - yy2.1) (fun yy2=> .br (.len yy0.2.length<| .elem _ aB yy0.2 (fun e63=> .call (vB (decide (e57=e63))) []<| .br (.len yy2.2.1.length<| .elem _ aE yy2.2.1 (fun e70=> .len yy2.2.1.length<| .set Int aE yy2.2.1 (fun s19_6=>e70+1) (fun s19_6=> .back [(5000,5000)]))) (.back [(5000,5000)]))) (.back [(5000,5000)])))) (.fin [(0,4700),(1,5000)]))))))) (p:=Lx (t.rows.map aB)<| Lx (cols.map aE)<| iY t/\Nr (aL t) ([]=(bT t cols).1.map aB/\[]=(bT t cols).2.map aE/\True) (yM cols t.arity/\Nr (cO (t.arity - 1) cols) ([]=(bT t cols).1.map aB/\[]=(bT t cols).2.map aE/\True) (Lm aB t.rows/\((∃(k:Nat) (out:List (List Int)),0=(k:Int)/\[]=out.map aB/\k<=t.rows.length/\out=(t.rows.take k).map fun r=>(fR r cols).1)/\ ∀(k:Nat) (out:List (List Int)),(k<=t.rows.length/\out=(t.rows.take k).map fun r=>(fR r cols).1)->Br ((k:Int)<(t.rows.length:Int)) (0<=(k:Int)/\Em aB t.rows k fun e33=>aAi e33 cols/\out.map aB=out.map aB/\(fR e33 cols).1.map aE=(fR e33 cols).1.map aE/\(out.length+1)*24<=140737488355328/\dO ((k:Int)+1)/\ ∃(k' :Nat) (out' :List (List Int)),((k:Int)+1)=(k' :Int)/\(out++[(fR e33 cols).1]).map aB=out'.map aB/\(k' <=t.rows.length/\out' =(t.rows.take k').map fun r=>(fR r cols).1)/\t.rows.length - k' <t.rows.length - k) (nM out/\(Lm aB (dA (bV out))/\((((dA (bV out)).length:Nat):Int)=(((dA (bV out)).length:Nat):Int)/\(((dA (bV out)).length:Nat):Int)=(((dA (bV out)).length:Nat):Int)/\8*((dA (bV out)).length)<=281474976710656/\((dA (bV out)).length)<=9223372036854775807/\List.replicate ((dA (bV out)).length) [.int .i64 (0:Int)]=(List.replicate ((dA (bV out)).length) (0:Int)).map aE/\(Lm aB (dA (bV out))/\((∃(i:Nat) (c:List Int),0=(i:Int)/\(List.replicate ((dA (bV out)).length) (0:Int)).map aE=c.map aE/\i<=(dA (bV out)).length/\c=((dA (bV out)).take i).map (eG out)++List.replicate ((dA (bV out)).length - i) 0/\c.length=(dA (bV out)).length)/\ ∀(i:Nat) (c:List Int),(i<=(dA (bV out)).length/\c=((dA (bV out)).take i).map (eG out)++List.replicate ((dA (bV out)).length - i) 0/\c.length=(dA (bV out)).length)->Br ((i:Int)<(((dA (bV out)).length:Nat):Int)) (0<=(i:Int)/\Lm aB (dA (bV out))/\(i:Int)<(((dA (bV out)).length:Nat):Int)/\Em aB (dA (bV out)) i fun e57=>Lm aB out/\((∃(j:Nat) (c2:List Int) (z:Int),0=(j:Int)/\c.map aE=c2.map aE/\j<=out.length/\c2=c.set i z/\z=eG (out.take j) e57)/\ ∀(j:Nat) (c2:List Int) (z:Int),(j<=out.length/\c2=c.set i z/\z=eG (out.take j) e57)->Br ((j:Int)<(out.length:Int)) (0<=(j:Int)/\Lm aB out/\(j:Int)<(out.length:Int)/\Em aB out j fun e63=>lE e57 e63/\Br (e57=e63) (0<=(i:Int)/\Lm aE c2/\(i:Int)<(c2.length:Int)/\Em aE c2 i fun e70=>dO (e70+1)/\(0<=(i:Int)/\Lm aE c2/\(i:Int)<(c2.length:Int)/\(c2.map aE=c2.map aE/\i<c2.length/\ ∀s19_6,c2[i]? =some s19_6->nV (aE s19_6)=true/\0+1<=(aE s19_6).length/\(aE s19_6).take 0++[.int .i64 (e70+1)]++(aE s19_6).drop (0+1)=aE (e70+1)/\dO ((j:Int)+1)/\ ∃(j' :Nat) (c2' :List Int) (z' :Int),((j:Int)+1)=(j' :Int)/\(c2.set i (e70+1)).map aE=c2'.map aE/\(j' <=out.length/\c2' =c.set i z' /\z' =eG (out.take j') e57)/\out.length - j' <out.length - j))) (dO ((j:Int)+1)/\ ∃(j' :Nat) (c2' :List Int) (z' :Int),((j:Int)+1)=(j' :Int)/\c2.map aE=c2'.map aE/\(j' <=out.length/\c2' =c.set i z' /\z' =eG (out.take j') e57)/\out.length - j' <out.length - j)) (dO ((i:Int)+1)/\ ∃(i' :Nat) (c' :List Int),((i:Int)+1)=(i' :Int)/\c2.map aE=c'.map aE/\(i' <=(dA (bV out)).length/\c' =((dA (bV out)).take i').map (eG out)++List.replicate ((dA (bV out)).length - i') 0/\c'.length=(dA (bV out)).length)/\(dA (bV out)).length - i' <(dA (bV out)).length - i))) ((dA (bV out)).map aB=(bT t cols).1.map aB/\c.map aE=(bT t cols).2.map aE/\True)))))))))) (by kernel_rfl) ?_;refine lx fun n0=>lx fun n1=>?_;refine⟨oA t,dm (fun g20=>?_) fun g20=>?_⟩
 ·have hbad:(aL t&&cO (t.arity - 1) cols)=false:=by rw[g20];rfl
  apply et2<;>((rw[vW hbad]<;>rfl))
 ·have hT:=bJ g20;refine⟨aHX _ _ (by omega),dm (fun c0=>?_) fun c0=>?_⟩
  ·have hbad:(aL t&&cO (t.arity - 1) cols)=false:=by rw[g20,c0];rfl
   apply et2<;>((rw[vW hbad]<;>rfl))
  ·have hok:(aL t&&cO (t.arity - 1) cols)=true:=by rw[g20,c0];rfl
   obtain⟨hs1,hs2⟩:=tW hok;refine⟨aBS _,⟨0,([]:List (List Int)),rfl,rfl,aB2 _,rfl⟩,fun k out ⟨hk,ho⟩=>?_⟩;refine dd (fun c1=>?_) fun c1=>?_
   ·refine⟨by omega,rfl,by omega,fun e33 h33=>?_⟩;refine⟨aIv _ _ (by omega),rfl,rfl,by (simp[ho];omega),⟨by omega,by omega⟩,?_⟩;exact⟨k+1,_,rfl,rfl,⟨by omega,by rw[ho,bR h33,aHr];rfl⟩,by omega⟩
   ·have hA:out=fM t cols:=by rw[ho,aE4 (by omega)];rfl
    rw[<-hA] at hs1 hs2;have hd:=aJE out;refine⟨yP out (by omega),aBS _,rfl,rfl,by omega,by omega,by (rw[aLK];done),aBS _,⟨0,List.replicate ((dA (bV out)).length) (0:Int),rfl,rfl,aB2 _,by simp,aMq⟩,fun i c ⟨hi,hc,hcn⟩=>?_⟩;refine dd (fun c2=>?_) fun c2=>?_
    ·refine⟨by omega,aBS _,by omega,rfl,by omega,fun e57 h57=>?_⟩;refine⟨aBS _,⟨0,c,0,rfl,rfl,aB2 _,by rw[hc];exact(aH2 (by omega)).symm,rfl⟩,fun j c2 z ⟨hj,hc2,hz⟩=>?_⟩;refine dd (fun c3=>?_) fun c3=>?_
     ·refine⟨by omega,aBS _,by omega,rfl,by omega,fun e63 h63=>?_⟩;refine⟨vO _ _,dd (fun c4=>?_) fun c4=>?_⟩
      ·refine⟨by omega,aBS _,by (rw[hc2,aHj,hcn];omega),rfl,by (rw[hc2,aHj,hcn];omega),fun e70 h70=>?_⟩;have hz70:e70=z:=by rw[hc2] at h70;exact(aMP h70)
       have hcl:=aJD (out.take j) e57;have hjl:(out.take j).length<=out.length:=by simp;omega
       refine⟨⟨by omega,by omega⟩,by omega,aBS _,by (rw[hc2,aHj,hcn];omega),rfl,by (rw[hc2,aHj,hcn];omega),fun s19_6 hs19_6=>⟨rfl,aCd rfl,rfl,?_⟩⟩;refine⟨⟨by omega,by omega⟩,?_⟩;exact⟨j+1,_,_,rfl,rfl,⟨by omega,by rw[hc2,List.set_set,hz70],by rw[hz,aG8 h63 c4]⟩,by omega⟩
      ·refine⟨⟨by omega,by omega⟩,?_⟩;exact⟨j+1,_,_,rfl,rfl,⟨by omega,hc2,by rw[hz,aJC h63 c4]⟩,by omega⟩
     ·have hj9:j=out.length:=by omega
      rw[hj9,aLL] at hz;refine⟨⟨by omega,by omega⟩,?_⟩;exact⟨i+1,_,rfl,rfl,⟨by omega,by rw[hc2,hz,hc];exact aJF h57,by rw[hc2,aHj];exact hcn⟩,by omega⟩
    ·have hC:c=aH1 t cols:=by rw[hc,aFe hi (by omega),hA];rfl
     apply et2<;>(first|(rw[lZ hok,hA]<;>rfl)|(rw[lZ hok,hC]<;>rfl))
theorem aEc {α:Type}(f:α->Nat){x:α}: ∀{l:List α},x∈l->f x<=gO f l
 | a::l,h=>by
   simp only[gO,aHl,List.sum_cons];rcases aIo.1 h with q | q
   ·subst q;omega
   have:=aEc f q;simp only[gO] at this;omega
theorem hX {l:List (List Int)}{i:Nat}{x:List Int}(h:l[i]? =some x):x.length<=aX l:=by
 have h1:aX l=l.length+gO bY l:=rfl;have h2:x.length<=gO bY l:=aEc bY (aCO h);omega
def yQ (row:List Int):Bool->List (List Int)->List (List Int)
 | p,[]=>if p=true then [] else [row]
 | p,x::xs=>if 0<aZ x row/\p=false then row::x::yQ row true xs else x::yQ row (p || decide (aZ x row=0)) xs
def eN (row:List Int)(rows:List (List Int)):List (List Int):=yQ row false rows
theorem aJG {row x:List Int}{xs:List (List Int)}(h:0<aZ x row):yQ row false (x::xs)=row::x::yQ row true xs:=by rw[yQ,if_pos ⟨h,rfl⟩]
theorem aFf {row x:List Int}{xs:List (List Int)}{p:Bool}(h:aZ x row=0):yQ row p (x::xs)=x::yQ row true xs:=by rw[yQ,if_neg (by omega),h];simp
theorem aJH {row x:List Int}{xs:List (List Int)}:yQ row true (x::xs)=x::yQ row true xs:=by rw[yQ,if_neg (by simp)];rfl
theorem aJI {row x:List Int}{xs:List (List Int)}{p:Bool}(h: ¬0<aZ x row)(h' : ¬aZ x row=0):yQ row p (x::xs)=x::yQ row p xs:=by rw[yQ,if_neg (by omega)];simp[h']
abbrev jB (rows:List (List Int))(row:List Int):AV × List (Nat × Rs):=(.own 0,[(0,.arr 38 1 true ((eN row rows).map aB))])
abbrev mA (rows:List (List Int))(row:List Int):Prop:=Cn 54 [.one (.sl 38 1 (rows.map aB)),.one (.sl 3 1 (row.map aE))] (jB rows row).1 (jB rows row).2
theorem vX (rows:List (List Int))(row:List Int)(hl:rows.length<=1000000)(hc:aX rows<=1048576)(hr:row.length<=1048576):mA rows row:=by
 refine cq Tryz.func54 (.loop (Nat × (List (List Int)) × Bool) (Q3 Nat (List (List Int)) Bool) (rg 5 40) [900,3100,3300,3400,3500,3700,4200,4300,4400] (fun yy0=>[(7,vI (yy0.1:Int)),(5,.own 900),(6,vB yy0.2.2)]) (fun yy0=>[(900,some (.arr 38 1 true (yy0.2.1.map aB)))]) (fun yy0=>yy0.1<=rows.length/\yy0.2.1.length<=2*yy0.1/\yy0.2.1++yQ row yy0.2.2 (rows.drop yy0.1)=eN row rows) (fun yy0=>rows.length - yy0.1) (fun yy0=> .len rows.length<| .br (.elem _ aB rows (fun e18=> .call (vI (aZ e18 row)) []<| .br (.br (.elem _ aB rows (fun e40=> .app Int aE ([]:List Int) e40<| .appx (List Int) aB yy0.2.1 (([]:List Int)++e40)<| .back [(900,4400)])) (.elem _ aB rows (fun e40=> .app Int aE ([]:List Int) e40<| .appx (List Int) aB yy0.2.1 (([]:List Int)++e40)<| .back [(900,4400)]))) (.br (.lit<| .lit<| .br (.app Int aE ([]:List Int) row<| .appx (List Int) aB yy0.2.1 (([]:List Int)++row)<| .elem _ aB rows (fun e40=> .app Int aE ([]:List Int) e40<| .appx (List Int) aB (yy0.2.1++[([]:List Int)++row]) (([]:List Int)++e40)<| .back [(900,4400)])) (.elem _ aB rows (fun e40=> .app Int aE ([]:List Int) e40<| .appx (List Int) aB yy0.2.1 (([]:List Int)++e40)<| .back [(900,4400)]))) (.elem _ aB rows (fun e40=> .app Int aE ([]:List Int) e40<| .appx (List Int) aB yy0.2.1 (([]:List Int)++e40)<| .back [(900,4400)]))))) (.br (.app Int aE ([]:List Int) row<| .appx (List Int) aB yy0.2.1 (([]:List Int)++row)<| .fin [(0,5200)]) (.fin [(0,900)])))) (p:=Lx (rows.map aB)<| Lx (row.map aE)<| (∃(k:Nat) (out:List (List Int)) (p:Bool),0=(k:Int)/\(false)=p/\[]=out.map aB/\k<=rows.length/\out.length<=2*k/\out++yQ row p (rows.drop k)=eN row rows)/\ ∀(k:Nat) (out:List (List Int)) (p:Bool),(k<=rows.length/\out.length<=2*k/\out++yQ row p (rows.drop k)=eN row rows)->Lm aB rows/\Br ((k:Int)<(rows.length:Int)) (0<=(k:Int)/\Em aB rows k fun e18=>dC e18 row/\Br ((aZ e18 row)=0) (Br (0<(aZ e18 row)) (0<=(k:Int)/\Em aB rows k fun e40=>Ap aE ([]:List Int) e40 8 (out.map aB=out.map aB/\(([]:List Int)++e40).map aE=(([]:List Int)++e40).map aE/\(out.length+1)*24<=140737488355328/\dO ((k:Int)+1)/\ ∃(k' :Nat) (out' :List (List Int)) (p' :Bool),((k:Int)+1)=(k' :Int)/\(true)=p' /\(out++[([]:List Int)++e40]).map aB=out'.map aB/\(k' <=rows.length/\out'.length<=2*k' /\out' ++yQ row p' (rows.drop k')=eN row rows)/\rows.length - k' <rows.length - k)) (0<=(k:Int)/\Em aB rows k fun e40=>Ap aE ([]:List Int) e40 8 (out.map aB=out.map aB/\(([]:List Int)++e40).map aE=(([]:List Int)++e40).map aE/\(out.length+1)*24<=140737488355328/\dO ((k:Int)+1)/\ ∃(k' :Nat) (out' :List (List Int)) (p' :Bool),((k:Int)+1)=(k' :Int)/\(true)=p' /\(out++[([]:List Int)++e40]).map aB=out'.map aB/\(k' <=rows.length/\out'.length<=2*k' /\out' ++yQ row p' (rows.drop k')=eN row rows)/\rows.length - k' <rows.length - k))) (Br (0<(aZ e18 row)) (Nr (p) (Ap aE ([]:List Int) row 8 (out.map aB=out.map aB/\(([]:List Int)++row).map aE=(([]:List Int)++row).map aE/\(out.length+1)*24<=140737488355328/\0<=(k:Int)/\Em aB rows k fun e40=>Ap aE ([]:List Int) e40 8 ((out++[([]:List Int)++row]).map aB=(out++[([]:List Int)++row]).map aB/\(([]:List Int)++e40).map aE=(([]:List Int)++e40).map aE/\((out++[([]:List Int)++row]).length+1)*24<=140737488355328/\dO ((k:Int)+1)/\ ∃(k' :Nat) (out' :List (List Int)) (p' :Bool),((k:Int)+1)=(k' :Int)/\(true)=p' /\((out++[([]:List Int)++row])++[([]:List Int)++e40]).map aB=out'.map aB/\(k' <=rows.length/\out'.length<=2*k' /\out' ++yQ row p' (rows.drop k')=eN row rows)/\rows.length - k' <rows.length - k))) (0<=(k:Int)/\Em aB rows k fun e40=>Ap aE ([]:List Int) e40 8 (out.map aB=out.map aB/\(([]:List Int)++e40).map aE=(([]:List Int)++e40).map aE/\(out.length+1)*24<=140737488355328/\dO ((k:Int)+1)/\ ∃(k' :Nat) (out' :List (List Int)) (p' :Bool),((k:Int)+1)=(k' :Int)/\(p)=p' /\(out++[([]:List Int)++e40]).map aB=out'.map aB/\(k' <=rows.length/\out'.length<=2*k' /\out' ++yQ row p' (rows.drop k')=eN row rows)/\rows.length - k' <rows.length - k))) (0<=(k:Int)/\Em aB rows k fun e40=>Ap aE ([]:List Int) e40 8 (out.map aB=out.map aB/\(([]:List Int)++e40).map aE=(([]:List Int)++e40).map aE/\(out.length+1)*24<=140737488355328/\dO ((k:Int)+1)/\ ∃(k' :Nat) (out' :List (List Int)) (p' :Bool),((k:Int)+1)=(k' :Int)/\(p)=p' /\(out++[([]:List Int)++e40]).map aB=out'.map aB/\(k' <=rows.length/\out'.length<=2*k' /\out' ++yQ row p' (rows.drop k')=eN row rows)/\rows.length - k' <rows.length - k)))) (Nr (p) (Ap aE ([]:List Int) row 8 (out.map aB=out.map aB/\(([]:List Int)++row).map aE=(([]:List Int)++row).map aE/\(out.length+1)*24<=140737488355328/\(out++[([]:List Int)++row]).map aB=(eN row rows).map aB/\True)) (out.map aB=(eN row rows).map aB/\True))) (by kernel_rfl) ?_;refine lx fun n0=>lx fun n1=>?_;refine⟨⟨0,([]:List (List Int)),false,rfl,rfl,rfl,aB2 _,by simp,rfl⟩,fun k out p ⟨hk,ho,hv⟩=>?_⟩;refine⟨aBS _,dd (fun c0=>?_) fun c0=>?_⟩
 ·refine⟨by omega,rfl,by omega,fun e18 h18=>?_⟩;have hsz:=hX h18;refine⟨eR _ _,dd (fun c1=>?_) fun c1=>?_⟩
  ·refine dd (fun g26=>?_) fun g26=>?_
   ·refine⟨by omega,rfl,by omega,fun e40 h40=>?_⟩;obtain rfl:=(bF h18 h40).symm;refine ap ?_ (fun _=>rfl) (by omega);refine⟨rfl,rfl,by omega,⟨by omega,by omega⟩,?_⟩;exact⟨k+1,_,_,rfl,rfl,rfl,⟨by omega,by simp;omega,by rw[<-hv,fZ h18];(rw[aFf c1];simp;done)⟩,by omega⟩
   ·refine⟨by omega,rfl,by omega,fun e40 h40=>?_⟩;obtain rfl:=(bF h18 h40).symm;refine ap ?_ (fun _=>rfl) (by (simp;omega));refine⟨rfl,rfl,by omega,⟨by omega,by omega⟩,?_⟩;exact⟨k+1,_,_,rfl,rfl,rfl,⟨by omega,by simp;omega,by rw[<-hv,fZ h18];(rw[aFf c1];simp;done)⟩,by omega⟩
  ·refine dd (fun g26=>?_) fun g26=>?_
   ·refine dm (fun c2=>?_) fun c2=>?_
    ·refine ap ?_ (fun _=>rfl) (by (simp;omega));refine⟨rfl,rfl,by omega,by omega,rfl,by omega,fun e40 h40=>?_⟩;obtain rfl:=(bF h18 h40).symm;refine ap ?_ (fun _=>rfl) (by (simp;omega));refine⟨rfl,rfl,by (simp;omega),⟨by omega,by omega⟩,?_⟩;exact⟨k+1,_,_,rfl,rfl,rfl,⟨by omega,by simp;omega,by rw[<-hv,fZ h18];(subst c2;rw[aJG g26];simp;done)⟩,by omega⟩
    ·refine⟨by omega,rfl,by omega,fun e40 h40=>?_⟩;obtain rfl:=(bF h18 h40).symm;refine ap ?_ (fun _=>rfl) (by (simp;omega));refine⟨rfl,rfl,by omega,⟨by omega,by omega⟩,?_⟩;exact⟨k+1,_,_,rfl,rfl,rfl,⟨by omega,by simp;omega,by rw[<-hv,fZ h18];(subst c2;rw[aJH];simp;done)⟩,by omega⟩
   ·refine⟨by omega,rfl,by omega,fun e40 h40=>?_⟩;obtain rfl:=(bF h18 h40).symm;refine ap ?_ (fun _=>rfl) (by (simp;omega));refine⟨rfl,rfl,by omega,⟨by omega,by omega⟩,?_⟩;exact⟨k+1,_,_,rfl,rfl,rfl,⟨by omega,by simp;omega,by rw[<-hv,fZ h18];(rw[aJI g26 c1];simp;done)⟩,by omega⟩
 ·refine dm (fun c3=>?_) fun c3=>?_
  ·refine ap ?_ (fun _=>rfl) (by (simp;omega));refine⟨rfl,rfl,by omega,?_,trivial⟩
   ·rw[<-hv,qV (by omega),yQ];simp[c3]
  ·apply et1
   ·rw[<-hv,qV (by omega),yQ];simp[c3]
theorem aAm {row:List Int}: ∀xs:List (List Int),yQ row true xs=xs
 | []=>rfl
 | x::xs=>by rw[aJH,aAm xs]
theorem vY {row:List Int}:eN row []= [row]:=rfl
theorem vZ {row x:List Int}{xs:List (List Int)}(h:0<aZ x row):eN row (x::xs)=row::x::xs:=by rw[eN,aJG h,aAm]
theorem wA {row x:List Int}{xs:List (List Int)}(h:aZ x row=0):eN row (x::xs)=x::xs:=by rw[eN,aFf h,aAm]
theorem wB {row x:List Int}{xs:List (List Int)}(h: ¬0<aZ x row)(h' : ¬aZ x row=0):eN row (x::xs)=x::eN row xs:=by rw[eN,aJI h h',eN]
theorem qZ {row y:List Int}: ∀{xs:List (List Int)},y∈eN row xs↔y=row\/y∈xs
 | []=>by simp[vY]
 | x::xs=>by
   by_cases h:0<aZ x row
   ·rw[vZ h];simp
   by_cases h' :aZ x row=0
   ·rw[wA h',cR.1 h'];constructor
    ·exact Or.inr
    rintro(rfl | q)
    ·simp
    exact q
   rw[wB h h',aIo,aIo,qZ];constructor
   ·rintro(q | q | q)
    ·exact .inr (.inl q)
    ·exact .inl q
    exact .inr (.inr q)
   rintro(q | q | q)
   ·exact .inr (.inl q)
   ·exact .inl q
   exact .inr (.inr q)
abbrev Asc (l:List (List Int)):Prop:=l.Pairwise fun a b=>aZ a b<0
theorem aAn {row:List Int}: ∀{xs:List (List Int)},Asc xs->Asc (eN row xs)
 | [],_=>by rw[vY];exact List.pairwise_singleton _ _
 | x::xs,hx=>by
   have h1:=List.pairwise_cons.1 hx;by_cases h:0<aZ x row
   ·rw[vZ h];refine List.pairwise_cons.2 ⟨fun y hy=>?_,hx⟩;have hrx:aZ row x<0:=lJ.2 h;rcases aIo.1 hy with rfl | q
    ·exact hrx
    exact gS hrx (h1.1 y q)
   by_cases h' :aZ x row=0
   ·rw[wA h'];exact hx
   rw[wB h h'];refine List.pairwise_cons.2 ⟨fun y hy=>?_,aAn h1.2⟩;rcases qZ.1 hy with rfl | q
   ·omega
   exact h1.1 y q
theorem aAo {row:List Int}: ∀{xs:List (List Int)},(eN row xs).length<=xs.length+1
 | []=>by simp[vY]
 | x::xs=>by
   by_cases h:0<aZ x row
   ·rw[vZ h];simp
   by_cases h' :aZ x row=0
   ·rw[wA h'];simp
   rw[wB h h'];have:=aAo (row:=row) (xs:=xs);simp only[aJv];omega
def bG (l:List (List Int)):List (List Int):=l.foldl (fun acc x=>eN x acc) []
theorem rA (l:List (List Int)): ∀acc,Asc acc->Asc (l.foldl (fun acc x=>eN x acc) acc)/\(∀y,y∈l.foldl (fun acc x=>eN x acc) acc↔y∈acc\/y∈l)/\(l.foldl (fun acc x=>eN x acc) acc).length<=acc.length+l.length:=by
 induction l with
 | nil=>intro acc h;simp[h]
 | cons x l ih=>
   intro acc h;obtain⟨h1,h2,h3⟩:=ih _ (aAn (row:=x) h);refine⟨h1,fun y=>?_,?_⟩
   ·rw[List.foldl_cons,h2,qZ,aIo];constructor
    ·rintro((q | q) | q)
     ·exact .inr (.inl q)
     ·exact .inl q
     exact .inr (.inr q)
    rintro(q | q | q)
    ·exact .inl (.inr q)
    ·exact .inl (.inl q)
    exact .inr q
   have:=aAo (row:=x) (xs:=acc);rw[List.foldl_cons,aJv];omega
theorem pD {l:List (List Int)}{x:List Int}:bG (l++[x])=eN x (bG l):=by simp[bG,List.foldl_append]
theorem aDU: ∀{l m:List (List Int)},Asc l->Asc m->(∀x,x∈l↔x∈m)->l=m
 | [],[],_,_,_=>rfl
 | [],b::m,_,_,h=>by have:=(h b).2 (by simp);simp at this
 | a::l,[],_,_,h=>by have:=(h a).1 (by simp);simp at this
 | a::l,b::m,hl,hm,h=>by
   have hl' :=List.pairwise_cons.1 hl;have hm' :=List.pairwise_cons.1 hm
   have hab:a=b:=by
    rcases aIo.1 ((h a).1 (by simp)) with q | q
    ·exact q
    rcases aIo.1 ((h b).2 (by simp)) with r | r
    ·exact r.symm
    have h1:=hm'.1 a q;have h2:=hl'.1 b r;have:=gS h1 h2;rw[lI] at this;omega
   subst hab
   congr 1
   refine aDU hl'.2 hm'.2 fun x=>⟨fun hx=>?_,fun hx=>?_⟩
   ·rcases aIo.1 ((h x).1 (by simp[hx])) with q | q
    ·subst q;have:=hl'.1 _ hx;rw[lI] at this;omega
    exact q
   rcases aIo.1 ((h x).2 (by simp[hx])) with q | q
   ·subst q;have:=hm'.1 _ hx;rw[lI] at this;omega
   exact q
theorem aAp {s:List (List Int)}{i:Nat}:i∈iG s↔i<s.length/\(i=0\/ ¬s.getD i []=s.getD (i - 1) []):=by
 rw[iG,aMu,aKt];simp[aDT]
theorem aCZ (s:List (List Int)): ∀n,n<s.length-> ∃i,i∈iG s/\s.getD i []=s.getD n []
 | 0,h=>⟨0,aAp.2 ⟨h,.inl rfl⟩,rfl⟩
 | n+1,h=>by
   by_cases e:s.getD (n+1) []=s.getD n []
   ·obtain⟨i,h1,h2⟩:=aCZ s n (by omega);exact⟨i,h1,by rw[h2,e]⟩
   exact⟨n+1,aAp.2 ⟨h,.inr e⟩,rfl⟩
theorem aJJ {s:List (List Int)}{x:List Int}:x∈dA s↔x∈s:=by
 constructor
 ·intro h;obtain⟨i,hi,rfl⟩:=aJl.1 h;obtain⟨y,hy⟩:=cS (aG7 hi);rw[bW hy];exact aCO hy
 intro h;obtain⟨n,hn,hx⟩:=List.mem_iff_getElem.1 h;obtain⟨i,h1,h2⟩:=aCZ s n hn;refine aJl.2 ⟨i,h1,?_⟩;rw[h2,<-hx];simp[hn]
theorem aJK {s:List (List Int)}(hs:s.Pairwise (fun a b=>leR a b=true)):Asc (dA s):=by
 rw[dA,Asc,List.pairwise_map];have h0:(iG s).Pairwise (· < ·):=List.Pairwise.filter _ List.pairwise_lt_range;refine List.Pairwise.imp_of_mem ?_ h0;intro i j hi hj hij;have h1:=aAp.1 hj;have hp:=List.pairwise_iff_getElem.1 hs
 have hg: ∀a b,a<b->b<s.length->leR (s.getD a []) (s.getD b [])=true:=by
  intro a b hab hb;have:=hp a b (by omega) hb hab;simpa [hb,show a<s.length by omega] using this
 have h2:=hg (j - 1) j (by omega) h1.1;rw[leR,aMX] at h2
 have h3:aZ (s.getD (j - 1) []) (s.getD j [])<0:=by
  have: ¬aZ (s.getD (j - 1) []) (s.getD j [])=0:=fun q=>by
   have:=cR.1 q;rcases h1.2 with r | r
   ·omega
   exact r this.symm
  omega
 by_cases e:i=j - 1
 ·rw[e];exact h3
 have h4:=hg i (j - 1) (by omega) (by omega);rw[leR,aMX] at h4;by_cases z:aZ (s.getD i []) (s.getD (j - 1) [])=0
 ·rw[cR.1 z];exact h3
 exact gS (by omega) h3
theorem mZ (l:List (List Int)):bG l=dA (bV l):=by
 obtain⟨h1,h2,_⟩:=rA l [] List.Pairwise.nil
 exact aDU h1 (aJK (aAk l)) fun x=>by
  have h2' :=h2 x;rw[show l.foldl (fun acc x=>eN x acc) []=bG l from rfl] at h2';rw[h2',aJJ,(tU l).mem_iff];simp
theorem aBa {l:List (List Int)}{m:Nat}(h: ∀x∈l,x.length<=m):(bG l).length<=l.length/\aX (bG l)<=l.length+l.length*m:=by
 obtain⟨_,h2,h3⟩:=rA l [] List.Pairwise.nil
 have h4:(bG l).length<=l.length:=by
  rw[List.length_nil,Nat.zero_add] at h3;exact h3
 have:=iH (l:=bG l) (m:=m) fun x hx=>h x (by simpa using (h2 x).1 hx);have:=Nat.mul_le_mul_right m h4;exact⟨h4,by omega⟩
theorem aDV {t:aJ}{cols:List Int}{j:Nat}{e:List Int}(h:t.rows[j]? =some e):(fM t cols)[j]? =some (fR e cols).1:=by simp[fM,h]
theorem aDW {t:aJ}{cols:List Int}{k:Nat}(h:(aL t&&cO (t.arity - 1) cols)=true):(bG ((fM t cols).take k)).length<=8/\aX (bG ((fM t cols).take k))<=64:=by
 have h0:=h;rw[aBT] at h;have ha:=bJ h.1;have hc:=aEa h.2 (by omega);have hl:(fM t cols).length=t.rows.length:=aBS _
 have:=aBa (l:=(fM t cols).take k) (m:=3) fun r hr=>by
  obtain⟨q,_,rfl⟩:=aJl.1 (List.mem_of_mem_take hr);have:=aAh q cols;omega
 have h5:((fM t cols).take k).length<=8:=by simp;omega
 omega
abbrev tY (t:aJ)(cols:List Int):AV × List (Nat × Rs):=(.tup [.own 0,.own 1],[(0,.arr 38 1 true ((bT t cols).1.map aB)),(1,.arr 3 1 true ((bT t cols).2.map aE))])
abbrev aAq (t:aJ)(cols:List Int):Prop:=Cn 43 [.agg [.str t.name,.int .i64 t.arity,.sl 38 1 (t.rows.map aB)],.one (.sl 3 1 (cols.map aE))] (tY t cols).1 (tY t cols).2
theorem aEd (t:aJ)(cols:List Int)(hl:cols.length<=1048576):aAq t cols:=by
 refine cq Tryz.func43 (.call (vB (aL t&&cO (t.arity - 1) cols)) []<| .br (.fin [(0,1600),(1,1700)]) (.loop (Nat × (List (List Int))) (Q2 Nat (List (List Int))) ([6,8,9,10,16]++rg 24 20) [1600,3800,4300] (fun yy0=>[(8,vI (yy0.1:Int)),(6,.own 1600)]) (fun yy0=>[(1600,some (.arr 38 1 true (yy0.2.map aB)))]) (fun yy0=>yy0.1<=t.rows.length/\yy0.2=bG ((fM t cols).take yy0.1)) (fun yy0=>t.rows.length - yy0.1) (fun yy0=> .len t.rows.length<| .br (.elem _ aB t.rows (fun e35=>bC (pB e35 cols)<| bC (jB yy0.2 ((fR e35 cols).1))<| .back [(1600,4300)])) (.loop (Nat × (List Int)) (Q2 Nat (List Int)) ([7,11,12,13,14,15,17]++rg 44 36) [1700,6400,7800,7900] (fun yy1=>[(11,vI (yy1.1:Int)),(7,.own 1700)]) (fun yy1=>[(1700,some (.arr 3 1 true (yy1.2.map aE)))]) (fun yy1=>yy1.1<=yy0.2.length/\yy1.2=(yy0.2.take yy1.1).map (eG (fM t cols))) (fun yy1=>yy0.2.length - yy1.1) (fun yy1=> .len yy0.2.length<| .br (.loop (Nat × Int) (Q2 Nat Int) ([12,13,14,15]++rg 50 26) [6400] (fun yy2=>[(12,vI yy2.2),(13,vI (yy2.1:Int))]) (fun yy2=>[]) (fun yy2=>yy2.1<=t.rows.length/\yy2.2=eG ((fM t cols).take yy2.1) (yy0.2.getD yy1.1 [])) (fun yy2=>t.rows.length - yy2.1) (fun yy2=> .len t.rows.length<| .br (.elem _ aB t.rows (fun e61=>bC (pB e61 cols)<| .len yy0.2.length<| .elem _ aB yy0.2 (fun e71=> .call (vI (aZ ((fR e61 cols).1) e71)) []<| .br (.back []) (.back [])))) (.app Int aE yy1.2 ([yy2.2]:List Int)<| .back [(1700,7900)]))) (.fin [(0,1600),(1,1700)])))))) (p:=Lx (t.rows.map aB)<| Lx (cols.map aE)<| yN t cols/\Nr (aL t&&cO (t.arity - 1) cols) ([]=(bT t cols).1.map aB/\[]=(bT t cols).2.map aE/\True) ((∃(k:Nat) (out:List (List Int)),0=(k:Int)/\[]=out.map aB/\k<=t.rows.length/\out=bG ((fM t cols).take k))/\ ∀(k:Nat) (out:List (List Int)),(k<=t.rows.length/\out=bG ((fM t cols).take k))->Lm aB t.rows/\Br ((k:Int)<(t.rows.length:Int)) (0<=(k:Int)/\Em aB t.rows k fun e35=>tT e35 cols/\mA out ((fR e35 cols).1)/\dO ((k:Int)+1)/\ ∃(k' :Nat) (out' :List (List Int)),((k:Int)+1)=(k' :Int)/\(eN ((fR e35 cols).1) out).map aB=out'.map aB/\(k' <=t.rows.length/\out' =bG ((fM t cols).take k'))/\t.rows.length - k' <t.rows.length - k) ((∃(i:Nat) (c:List Int),0=(i:Int)/\[]=c.map aE/\i<=out.length/\c=(out.take i).map (eG (fM t cols)))/\ ∀(i:Nat) (c:List Int),(i<=out.length/\c=(out.take i).map (eG (fM t cols)))->Lm aB out/\Br ((i:Int)<(out.length:Int)) ((∃(j:Nat) (z:Int),0=z/\0=(j:Int)/\j<=t.rows.length/\z=eG ((fM t cols).take j) (out.getD i []))/\ ∀(j:Nat) (z:Int),(j<=t.rows.length/\z=eG ((fM t cols).take j) (out.getD i []))->Lm aB t.rows/\Br ((j:Int)<(t.rows.length:Int)) (0<=(j:Int)/\Em aB t.rows j fun e61=>tT e61 cols/\0<=(i:Int)/\Lm aB out/\(i:Int)<(out.length:Int)/\Em aB out i fun e71=>dC ((fR e61 cols).1) e71/\Br ((aZ ((fR e61 cols).1) e71)=0) (dO (z+1)/\dO ((j:Int)+1)/\ ∃(j' :Nat) (z' :Int),(z+1)=z' /\((j:Int)+1)=(j' :Int)/\(j' <=t.rows.length/\z' =eG ((fM t cols).take j') (out.getD i []))/\t.rows.length - j' <t.rows.length - j) (dO ((j:Int)+1)/\ ∃(j' :Nat) (z' :Int),z=z' /\((j:Int)+1)=(j' :Int)/\(j' <=t.rows.length/\z' =eG ((fM t cols).take j') (out.getD i []))/\t.rows.length - j' <t.rows.length - j)) (Ap aE c ([z]:List Int) 8 (dO ((i:Int)+1)/\ ∃(i' :Nat) (c' :List Int),((i:Int)+1)=(i' :Int)/\(c++[z]).map aE=c'.map aE/\(i' <=out.length/\c' =(out.take i').map (eG (fM t cols)))/\out.length - i' <out.length - i))) (out.map aB=(bT t cols).1.map aB/\c.map aE=(bT t cols).2.map aE/\True)))) (by kernel_rfl) ?_;refine lx fun n0=>lx fun n1=>?_;refine⟨aHY t _,dm (fun c0=>?_) fun c0=>?_⟩
 ·have hbad:(aL t&&cO (t.arity - 1) cols)=false:=by simpa using c0
  apply et2<;>((rw[vW hbad]<;>rfl))
 ·have hok:(aL t&&cO (t.arity - 1) cols)=true:=by simpa using c0
  obtain⟨hs1,hs2⟩:=tW hok;refine⟨⟨0,([]:List (List Int)),rfl,rfl,aB2 _,rfl⟩,fun k out ⟨hk,ho⟩=>?_⟩;refine⟨aBS _,dd (fun c1=>?_) fun c1=>?_⟩
  ·have hp:=aDW (k:=k) hok;rw[<-ho] at hp;refine⟨by omega,rfl,by omega,fun e35 h35=>?_⟩;have hsl:=aAh e35 cols;refine⟨aEZ _ _ (by omega),vX out ((fR e35 cols).1) (by omega) (by omega) (by omega),⟨by omega,by omega⟩,?_⟩;exact⟨k+1,_,rfl,rfl,⟨by omega,by rw[ho,bR (aDV h35),pD]⟩,by omega⟩
  ·have hV:out=aJB t cols:=by rw[ho,aE4 (by simp[fM];omega),mZ];rfl
   have hp:=aDW (k:=k) hok;rw[<-ho] at hp;refine⟨⟨0,([]:List Int),rfl,rfl,aB2 _,rfl⟩,fun i c ⟨hi,hc⟩=>?_⟩;refine⟨aBS _,dd (fun c2=>?_) fun c2=>?_⟩
   ·obtain⟨g,hg⟩:=cS (l:=out) (k:=i) (by omega);refine⟨⟨0,0,rfl,rfl,aB2 _,rfl⟩,fun j z ⟨hj,hz⟩=>?_⟩;refine⟨aBS _,dd (fun c3=>?_) fun c3=>?_⟩
    ·refine⟨by omega,rfl,by omega,fun e61 h61=>?_⟩;refine⟨aEZ _ _ (by omega),by omega,aBS _,by omega,rfl,by omega,fun e71 h71=>?_⟩;have hg71:out.getD i []=e71:=bW h71;refine⟨eR _ _,dd (fun c4=>?_) fun c4=>?_⟩
     ·have hcl:=aJD ((fM t cols).take j) e71;rw[<-hg71,<-hz] at hcl;have hjl:((fM t cols).take j).length<=8:=by simp;omega
      refine⟨⟨by omega,by omega⟩,⟨by omega,by omega⟩,?_⟩;exact⟨j+1,_,rfl,rfl,⟨by omega,by rw[hz,hg71,aG8 (aDV h61) (cR.1 c4).symm]⟩,by omega⟩
     ·refine⟨⟨by omega,by omega⟩,?_⟩;exact⟨j+1,_,rfl,rfl,⟨by omega,by rw[hz,hg71,aJC (aDV h61) (fun q=>c4 (cR.2 q.symm))]⟩,by omega⟩
    ·refine ap ?_ (fun _=>rfl) (by (rw[hc];simp;omega));refine⟨⟨by omega,by omega⟩,?_⟩;exact⟨i+1,_,rfl,rfl,⟨by omega,by rw[hc,hz,bR hg,bW hg,aHr,aE4 (l:=fM t cols) (i:=j) (by simp[fM];omega)];rfl⟩,by omega⟩
   ·have hC:c=aH1 t cols:=by rw[hc,aE4 (by omega),hV];rfl
    apply et2<;>(first|(rw[lZ hok,hV]<;>rfl)|(rw[lZ hok,hC]<;>rfl))
def aKh (s:Int)(v:Nat):Bool:=decide (iL .and .i64 (s/2^v) 1=1)
def gD (s:Int)(k:Nat):List Int:=((List.range k).filter (aKh s)).map fun v:Nat=>(v:Int)
def kE (s:Int):List Int:=gD s 3
theorem aC0 {s:Int}{k:Nat}(h:iL .and .i64 (s/2^k) 1=1):gD s (k+1)=gD s k++[(k:Int)]:=by
 rw[gD,List.range_succ,List.filter_append,aHr];simp[gD,aKh,h]
theorem aEe {s:Int}{k:Nat}(h: ¬iL .and .i64 (s/2^k) 1=1):gD s (k+1)=gD s k:=by
 rw[gD,List.range_succ,List.filter_append,aHr];simp[gD,aKh,h]
theorem aH3 {s:Int}{k:Nat}(hs:0<=s/\s<=7)(hk:k<=3)(h:s/2^k=0):gD s k=kE s:=by
 have h1:s=0\/s=1\/s=2\/s=3\/s=4\/s=5\/s=6\/s=7:=by omega
 have h2:k=0\/k=1\/k=2\/k=3:=by omega
 rcases h2 with rfl|rfl|rfl|rfl<;>rcases h1 with rfl|rfl|rfl|rfl|rfl|rfl|rfl|rfl<;>first|rfl|(revert h;decide)
theorem aKi {s:Int}{k:Nat}(hs:0<=s/\s<=7)(hk:k<=3)(h: ¬s/2^k=0):k<3:=by
 by_cases q:k=3
 ·subst q;omega
 omega
theorem xT (s:Int)(k:Nat):(gD s k).length<=k:=by
 rw[gD,aBS];have:=(List.filter_sublist (l:=List.range k) (p:=aKh s)).length_le;rw[List.length_range] at this;exact this
theorem xU {n:Int}(h:1<=n/\n<=3):2<=(2:Int)^n.toNat/\(2:Int)^n.toNat<=8:=by
 have:n=1\/n=2\/n=3:=by omega
 rcases this with rfl | rfl | rfl<;>decide
def mB (k:Nat):List (List Int):=(List.range k).map fun i=>kE ((i+1:Nat):Int)
def aM (n:Int):List (List Int):=mB ((2:Int)^n.toNat - 1).toNat
theorem aAr (k:Nat):mB (k+1)=mB k++[kE ((k+1:Nat):Int)]:=by rw[mB,List.range_succ,aHr];rfl
abbrev rB (s:Int):AV × List (Nat × Rs):=(.own 0,[(0,.arr 3 1 true ((kE s).map aE))])
abbrev yR (s:Int):Prop:=Cn 75 [.one (.int .i64 s)] (rB s).1 (rB s).2
theorem aH4 (s:Int)(hs:0<=s/\s<=7):yR s:=by
 refine cq Tryz.func75 (.loop (Nat × (List Int)) (Q2 Nat (List Int)) (rg 3 18) [500,1900,2000] (fun yy0=>[(4,vI (yy0.1:Int)),(3,.own 500)]) (fun yy0=>[(500,some (.arr 3 1 true (yy0.2.map aE)))]) (fun yy0=>yy0.1<=3/\yy0.2=gD s yy0.1) (fun yy0=>3 - yy0.1) (fun yy0=> .br (.br (.app Int aE yy0.2 ([(yy0.1:Int)]:List Int)<| .back [(500,2000)]) (.back [(500,500)])) (.fin [(0,500)]))) (p:=(∃(k:Nat) (out:List Int),0=(k:Int)/\[]=out.map aE/\k<=3/\out=gD s k)/\ ∀(k:Nat) (out:List Int),(k<=3/\out=gD s k)->(0<=(k:Int)/\(k:Int)<=64)/\Nb ((s/2^k)=0) ((0<=(k:Int)/\(k:Int)<=64)/\Br ((iL .and .i64 (s/2^k) (1:Int))=1) (Ap aE out ([(k:Int)]:List Int) 8 (dO ((k:Int)+1)/\ ∃(k' :Nat) (out' :List Int),((k:Int)+1)=(k' :Int)/\(out++[(k:Int)]).map aE=out'.map aE/\(k' <=3/\out' =gD s k')/\3 - k' <3 - k)) (dO ((k:Int)+1)/\ ∃(k' :Nat) (out' :List Int),((k:Int)+1)=(k' :Int)/\out.map aE=out'.map aE/\(k' <=3/\out' =gD s k')/\3 - k' <3 - k)) (out.map aE=(kE s).map aE/\True)) (by kernel_rfl) ?_;refine⟨⟨0,([]:List Int),rfl,rfl,by omega,rfl⟩,fun k out ⟨hk,ho⟩=>?_⟩;refine⟨⟨by omega,by omega⟩,dn (fun c0=>?_) fun c0=>?_⟩
 ·have hk3:=aKi hs hk c0;have hln:=xT s k;refine⟨⟨by omega,by omega⟩,dd (fun c1=>?_) fun c1=>?_⟩
  ·refine ap ?_ (fun _=>rfl) (by (simp[ho];omega));refine⟨⟨by omega,by omega⟩,?_⟩;exact⟨k+1,_,rfl,rfl,⟨by omega,by (rw[ho,aC0 c1];done)⟩,by omega⟩
  ·refine⟨⟨by omega,by omega⟩,?_⟩;exact⟨k+1,_,rfl,rfl,⟨by omega,by (rw[ho,aEe c1];done)⟩,by omega⟩
 ·apply et1
  ·(rw[ho];exact congrArg _ (aH3 hs hk c0))
abbrev rC (s:Int):AV × List (Nat × Rs):=(.own 0,[(0,.arr 3 1 true ((kE s).map aE))])
abbrev yS (s:Int):Prop:=Cn 55 [.one (.int .i64 s)] (rC s).1 (rC s).2
theorem aH5 (s:Int)(hs:0<=s/\s<=7):yS s:=by
 refine cq Tryz.func55 (.loop (Nat × (List Int)) (Q2 Nat (List Int)) (rg 3 16) [500,1700,1800] (fun yy0=>[(4,vI (yy0.1:Int)),(3,.own 500)]) (fun yy0=>[(500,some (.arr 3 1 true (yy0.2.map aE)))]) (fun yy0=>yy0.1<=3/\yy0.2=gD s yy0.1) (fun yy0=>3 - yy0.1) (fun yy0=> .br (.br (.app Int aE yy0.2 ([(yy0.1:Int)]:List Int)<| .back [(500,1800)]) (.back [(500,500)])) (.fin [(0,500)]))) (p:=(∃(k:Nat) (out:List Int),0=(k:Int)/\[]=out.map aE/\k<=3/\out=gD s k)/\ ∀(k:Nat) (out:List Int),(k<=3/\out=gD s k)->Br ((k:Int)<3) ((0<=(k:Int)/\(k:Int)<=64)/\Br ((iL .and .i64 (s/2^k) (1:Int))=1) (Ap aE out ([(k:Int)]:List Int) 8 (dO ((k:Int)+1)/\ ∃(k' :Nat) (out' :List Int),((k:Int)+1)=(k' :Int)/\(out++[(k:Int)]).map aE=out'.map aE/\(k' <=3/\out' =gD s k')/\3 - k' <3 - k)) (dO ((k:Int)+1)/\ ∃(k' :Nat) (out' :List Int),((k:Int)+1)=(k' :Int)/\out.map aE=out'.map aE/\(k' <=3/\out' =gD s k')/\3 - k' <3 - k)) (out.map aE=(kE s).map aE/\True)) (by kernel_rfl) ?_;refine⟨⟨0,([]:List Int),rfl,rfl,by omega,rfl⟩,fun k out ⟨hk,ho⟩=>?_⟩;refine dd (fun c0=>?_) fun c0=>?_
 ·skip
  have hln:=xT s k;refine⟨⟨by omega,by omega⟩,dd (fun c1=>?_) fun c1=>?_⟩
  ·refine ap ?_ (fun _=>rfl) (by (simp[ho];omega));refine⟨⟨by omega,by omega⟩,?_⟩;exact⟨k+1,_,rfl,rfl,⟨by omega,by (rw[ho,aC0 c1];done)⟩,by omega⟩
  ·refine⟨⟨by omega,by omega⟩,?_⟩;exact⟨k+1,_,rfl,rfl,⟨by omega,by (rw[ho,aEe c1];done)⟩,by omega⟩
 ·apply et1
  ·(rw[ho];exact congrArg _ (by rw[kE,show 3=k by omega]))
abbrev rD (n:Int):AV × List (Nat × Rs):=(.own 0,[(0,.arr 38 1 true ((aM n).map aB))])
abbrev yT (n:Int):Prop:=Cn 39 [.one (.int .i64 n)] (rD n).1 (rD n).2
theorem aH6 (n:Int)(hn:1<=n/\n<=3):yT n:=by
 refine cq Tryz.func39 (.call (vB (kP n (1:Int) (3:Int))) []<| .br (.fin []) (.loop (Nat × (List (List Int))) (Q2 Nat (List (List Int))) ([3,4]++rg 8 12) [800,1700,1800,1900] (fun yy0=>[(4,vI ((yy0.1+1:Nat):Int)),(3,.own 800)]) (fun yy0=>[(800,some (.arr 38 1 true (yy0.2.map aB)))]) (fun yy0=>yy0.1<=((2:Int)^n.toNat - 1).toNat/\yy0.2=mB yy0.1) (fun yy0=>((2:Int)^n.toNat - 1).toNat - yy0.1) (fun yy0=> .br (bC (rB ((yy0.1+1:Nat):Int))<| .appx (List Int) aB yy0.2 (kE ((yy0.1+1:Nat):Int))<| .back [(800,1900)]) (.fin [(0,800)])))) (p:=lG n (1:Int) (3:Int)/\Nr (kP n (1:Int) (3:Int)) ([]=(aM n).map aB/\True) ((∃(k:Nat) (out:List (List Int)),1=((k+1:Nat):Int)/\[]=out.map aB/\k<=((2:Int)^n.toNat - 1).toNat/\out=mB k)/\ ∀(k:Nat) (out:List (List Int)),(k<=((2:Int)^n.toNat - 1).toNat/\out=mB k)->(0<=n/\n<=64)/\dO ((1:Int)*2^(Int.toNat n))/\Br (((k+1:Nat):Int)<((1:Int)*2^(Int.toNat n))) (yR ((k+1:Nat):Int)/\out.map aB=out.map aB/\(kE ((k+1:Nat):Int)).map aE=(kE ((k+1:Nat):Int)).map aE/\(out.length+1)*24<=140737488355328/\dO (((k+1:Nat):Int)+1)/\ ∃(k' :Nat) (out' :List (List Int)),(((k+1:Nat):Int)+1)=((k' +1:Nat):Int)/\(out++[kE ((k+1:Nat):Int)]).map aB=out'.map aB/\(k' <=((2:Int)^n.toNat - 1).toNat/\out' =mB k')/\((2:Int)^n.toNat - 1).toNat - k' <((2:Int)^n.toNat - 1).toNat - k) (out.map aB=(aM n).map aB/\True))) (by kernel_rfl) ?_;have hb:=xU hn;have hin:kP n 1 3=true:=aCo hn.1 hn.2;refine⟨vP _ _ _,dm (fun c0=>?_) fun c0=>?_⟩
 ·apply et1
  ·(exfalso;simp[hin] at c0;done)
 ·refine⟨⟨0,([]:List (List Int)),rfl,rfl,aB2 _,rfl⟩,fun k out ⟨hk,ho⟩=>?_⟩;refine⟨⟨by omega,by omega⟩,⟨by omega,by omega⟩,dd (fun c1=>?_) fun c1=>?_⟩
  ·refine⟨aH4 ((k+1:Nat):Int) (by omega),rfl,rfl,by (simp[ho,mB];omega),⟨by omega,by omega⟩,?_⟩;exact⟨(k+1),_,rfl,rfl,⟨by omega,by rw[ho,aAr]⟩,by omega⟩
  ·apply et1
   ·(rw[ho,aM];congr 2;omega)
abbrev kF (n:Int):AV × List (Nat × Rs):=(.own 0,[(0,.arr 38 1 true ((aM n).map aB))])
abbrev nA (n:Int):Prop:=Cn 19 [.one (.int .i64 n)] (kF n).1 (kF n).2
theorem xV (n:Int)(hn:1<=n/\n<=3):nA n:=by
 refine cq Tryz.func19 (.loop (Nat × (List (List Int))) (Q2 Nat (List (List Int))) (rg 3 18) [500,1800,1900,2000] (fun yy0=>[(4,vI ((yy0.1+1:Nat):Int)),(3,.own 500)]) (fun yy0=>[(500,some (.arr 38 1 true (yy0.2.map aB)))]) (fun yy0=>yy0.1<=((2:Int)^n.toNat - 1).toNat/\yy0.2=mB yy0.1) (fun yy0=>((2:Int)^n.toNat - 1).toNat - yy0.1) (fun yy0=> .call (vB (kP n (1:Int) (3:Int))) []<| .br (.lit<| .lit<| .lit<| .lit<| .br (bC (rC ((yy0.1+1:Nat):Int))<| .appx (List Int) aB yy0.2 (kE ((yy0.1+1:Nat):Int))<| .back [(500,2000)]) (.fin [(0,500)])) (.fin [(0,500)]))) (p:=(∃(k:Nat) (out:List (List Int)),1=((k+1:Nat):Int)/\[]=out.map aB/\k<=((2:Int)^n.toNat - 1).toNat/\out=mB k)/\ ∀(k:Nat) (out:List (List Int)),(k<=((2:Int)^n.toNat - 1).toNat/\out=mB k)->lH n (1:Int) (3:Int)/\Bb (kP n (1:Int) (3:Int)) ((0<=n/\n<=64)/\dO ((1:Int)*2^(Int.toNat n))/\Br (((k+1:Nat):Int)<((1:Int)*2^(Int.toNat n))) (yS ((k+1:Nat):Int)/\out.map aB=out.map aB/\(kE ((k+1:Nat):Int)).map aE=(kE ((k+1:Nat):Int)).map aE/\(out.length+1)*24<=140737488355328/\dO (((k+1:Nat):Int)+1)/\ ∃(k' :Nat) (out' :List (List Int)),(((k+1:Nat):Int)+1)=((k' +1:Nat):Int)/\(out++[kE ((k+1:Nat):Int)]).map aB=out'.map aB/\(k' <=((2:Int)^n.toNat - 1).toNat/\out' =mB k')/\((2:Int)^n.toNat - 1).toNat - k' <((2:Int)^n.toNat - 1).toNat - k) (out.map aB=(aM n).map aB/\True)) (out.map aB=(aM n).map aB/\True)) (by kernel_rfl) ?_;have hb:=xU hn;have hin:kP n 1 3=true:=aCo hn.1 hn.2;refine⟨⟨0,([]:List (List Int)),rfl,rfl,aB2 _,rfl⟩,fun k out ⟨hk,ho⟩=>?_⟩;refine⟨vQ _ _ _,db (fun g8=>?_) fun g8=>?_⟩
 ·refine⟨⟨by omega,by omega⟩,⟨by omega,by omega⟩,dd (fun c0=>?_) fun c0=>?_⟩
  ·refine⟨aH5 ((k+1:Nat):Int) (by omega),rfl,rfl,by (simp[ho,mB];omega),⟨by omega,by omega⟩,?_⟩;exact⟨(k+1),_,rfl,rfl,⟨by omega,by rw[ho,aAr]⟩,by omega⟩
  ·apply et1
   ·(rw[ho,aM];congr 2;omega)
 ·apply et1
  ·(exfalso;simp[hin] at*;done)
def nN (t:aJ)(cols:List Int):aG:=⟨cols,(bT t cols).1,(bT t cols).2⟩
def aF (t:aJ):TableStatsD:=if aL t=true then ⟨t.name,t.arity,(t.rows.length:Nat),(aM t.arity).map (nN t)⟩ else yI
theorem dG {t:aJ}(h:aL t=true):aF t=⟨t.name,t.arity,(t.rows.length:Nat),(aM t.arity).map (nN t)⟩:=by rw[aF,if_pos h]
theorem tZ {t:aJ}(h:aL t=false):aF t=yI:=by rw[aF,if_neg (by rw[h];decide)]
theorem aG9 {α:Type}{l:List α}{k:Nat}(h:k<l.length):l.drop k≠[]:=fun e=>by
 have:=congrArg List.length e;simp at this;omega
theorem aGa {α:Type}{l l2:List α}{k:Nat}{x:α}(h:l.drop k=x::l2):l2=l.drop (k+1):=by rw[<-List.tail_drop,h];rfl
theorem aGb {α:Type}{l l2:List α}{k:Nat}{x:α}(h:l.drop k=x::l2):l[k]? =some x:=by
 have:=congrArg List.head? h;simpa [List.head?_drop] using this
theorem mC {n:Int}{k:Nat}{x:List Int}(h:(aM n)[k]? =some x):x.length<=3:=by
 obtain⟨i,_,rfl⟩:=aJl.1 (aCO h);exact xT _ 3
theorem rE {n:Int}(h:1<=n/\n<=3):(aM n).length<=7:=by
 have:=xU h;simp only[aM,mB,aBS,List.length_range];omega
abbrev lK (t:aJ):AV × List (Nat × Rs):=(.agg [.p none (.str ((aF t).name)),vI ((aF t).arity),vI ((aF t).rowCount),.own 0],[(0,.arr 62 3 true ((aF t).groups.map aA))])
abbrev oF (t:aJ):Prop:=Cn 12 [.agg [.str t.name,.int .i64 t.arity,.sl 38 1 (t.rows.map aB)]] (lK t).1 (lK t).2
theorem wC (t:aJ):oF t:=by
 refine cq Tryz.func12 (.call (vB (aL t)) []<| .br (.fin []) (.len t.rows.length<| bC (rD t.arity)<| .len ((aM t.arity).length)<| .loop (Nat × (List (List Int)) × (List aG)) (Q3 Nat (List (List Int)) (List aG)) ([5,6,7]++rg 24 20) [300,2200,3100,3101,4000,4100,9000,50607] (fun yy0=>[(24,vI (yy0.1:Int))]) (fun yy0=>[(300,some (.box 29 [.p none (.str t.name),vI t.arity,vI (t.rows.length:Int),.own 9000])),(9000,some (.arr 62 3 true (yy0.2.2.map aA))),(2200,some (.arr 38 1 true (List.replicate yy0.1 [aS.gone]++yy0.2.1.map aB)))]) (fun yy0=>yy0.1<=(aM t.arity).length/\yy0.2.1=(aM t.arity).drop yy0.1/\yy0.2.2=((aM t.arity).take yy0.1).map (nN t)) (fun yy0=>(aM t.arity).length - yy0.1) (fun yy0=> .br (.takeg 6 2200 yy0.1 50607 (List Int) aB yy0.2.1 (fun x6 l6=> .len (yy0.1+(l6.length+1))<| .leave 7 2200 yy0.1 50607 (List Int) aB x6 l6 (bC (pC t x6)<| .appx aG aA yy0.2.2 (⟨x6,(bT t x6).1,(bT t x6).2⟩:aG)<| .back [(300,300),(2200,2200),(9000,4100)]))) (.fin [(0,9000)])))) (p:=Lx (t.rows.map aB)<| iY t/\Nr (aL t) (ByteArray.empty=((aF t).name)/\0=((aF t).arity)/\0=((aF t).rowCount)/\[]=(aF t).groups.map aA/\True) (Lm aB t.rows/\(yT t.arity/\(Lm aB (aM t.arity)/\((∃(k:Nat) (l2:List (List Int)) (out:List aG),0=(k:Int)/\t.name=t.name/\t.arity=t.arity/\(t.rows.length:Int)=(t.rows.length:Int)/\[]=out.map aA/\(aM t.arity).map aB=List.replicate k [aS.gone]++l2.map aB/\k<=(aM t.arity).length/\l2=(aM t.arity).drop k/\out=((aM t.arity).take k).map (nN t))/\ ∀(k:Nat) (l2:List (List Int)) (out:List aG),(k<=(aM t.arity).length/\l2=(aM t.arity).drop k/\out=((aM t.arity).take k).map (nN t))->Br ((k:Int)<(((aM t.arity).length:Nat):Int)) (List.replicate k [aS.gone]++l2.map aB=List.replicate k [aS.gone]++l2.map aB/\l2≠[]/\ ∀x6 l6,l2=x6::l6->0<=(k:Int)/\(List.replicate k [aS.gone]++(x6::l6).map aB).length=k+(l6.length+1)/\(k:Int)<((k+(l6.length+1):Nat):Int)/\k=k/\List.replicate k [aS.gone]++(x6::l6).map aB=List.replicate k [aS.gone]++(x6::l6).map aB/\k=k/\tX t x6/\out.map aA=out.map aA/\x6.map aE=(⟨x6,(bT t x6).1,(bT t x6).2⟩:aG).columns.map aE/\(bT t x6).1.map aB=(⟨x6,(bT t x6).1,(bT t x6).2⟩:aG).values.map aB/\(bT t x6).2.map aE=(⟨x6,(bT t x6).1,(bT t x6).2⟩:aG).counts.map aE/\(out.length+1)*72<=140737488355328/\dO ((k:Int)+1)/\ ∃(k' :Nat) (l2' :List (List Int)) (out' :List aG),((k:Int)+1)=(k' :Int)/\t.name=t.name/\t.arity=t.arity/\(t.rows.length:Int)=(t.rows.length:Int)/\(out++[(⟨x6,(bT t x6).1,(bT t x6).2⟩:aG)]).map aA=out'.map aA/\List.replicate (k+1) [aS.gone]++l6.map aB=List.replicate k' [aS.gone]++l2'.map aB/\(k' <=(aM t.arity).length/\l2' =(aM t.arity).drop k' /\out' =((aM t.arity).take k').map (nN t))/\(aM t.arity).length - k' <(aM t.arity).length - k) (t.name=((aF t).name)/\t.arity=((aF t).arity)/\(t.rows.length:Int)=((aF t).rowCount)/\out.map aA=(aF t).groups.map aA/\True)))))) (by kernel_rfl) ?_;refine lx fun n0=>?_;refine⟨oA t,dm (fun c0=>?_) fun c0=>?_⟩
 ·have hbad:aL t=false:=by simpa using c0
  apply et4<;>((rw[tZ hbad]<;>rfl))
 ·have hok:aL t=true:=by simpa using c0
  have hT:=bJ hok;have hn:=rE (n:=t.arity) ⟨hT.1,hT.2.1⟩;refine⟨aBS _,aH6 t.arity (by omega),aBS _,⟨0,aM t.arity,([]:List aG),rfl,rfl,rfl,rfl,rfl,rfl,aB2 _,rfl,rfl⟩,fun k l2 out ⟨hk,hl,ho⟩=>?_⟩;have hlen:l2.length=(aM t.arity).length - k:=by rw[hl,aMc]
  refine dd (fun c1=>?_) fun c1=>?_
  ·refine⟨rfl,(by rw[hl];exact aG9 (by omega)),fun x6 l6 t6=>?_⟩;have hdx:=hl.symm.trans t6;have hx:=aGb hdx;have hx3:=mC hx;refine⟨by omega,by simp,by omega,rfl,rfl,rfl,aEb t x6 (by omega),rfl,rfl,rfl,rfl,by (simp[ho];omega),⟨by omega,by omega⟩,?_⟩;exact⟨k+1,_,_,rfl,rfl,rfl,rfl,rfl,rfl,⟨by omega,aGa hdx,by rw[ho,bR hx,aHr];rfl⟩,by omega⟩
  ·apply et4<;>(first|(rw[dG hok]<;>rfl)|(rw[dG hok,ho,aE4 (by omega)]))
abbrev hY (t:aJ):AV × List (Nat × Rs):=(.agg [.p none (.str ((aF t).name)),vI ((aF t).arity),vI ((aF t).rowCount),.own 0],[(0,.arr 62 3 true ((aF t).groups.map aA))])
abbrev jC (t:aJ):Prop:=Cn 14 [.agg [.str t.name,.int .i64 t.arity,.sl 38 1 (t.rows.map aB)]] (hY t).1 (hY t).2
theorem sI (t:aJ):jC t:=by
 refine cq Tryz.func14 (.call (vB (aL t)) []<| .br (.fin []) (.len t.rows.length<| bC (kF t.arity)<| .loop (Nat × (List (List Int)) × (List aG)) (Q3 Nat (List (List Int)) (List aG)) ([5,6,7]++rg 23 27) [300,2200,3500,3501,4700,4800,9000,50807] (fun yy0=>[(5,vI (yy0.1:Int))]) (fun yy0=>[(300,some (.box 29 [.p none (.str t.name),vI t.arity,vI (t.rows.length:Int),.own 9000])),(9000,some (.arr 62 3 true (yy0.2.2.map aA))),(2200,some (.arr 38 1 true (List.replicate yy0.1 [aS.gone]++yy0.2.1.map aB)))]) (fun yy0=>yy0.1<=(aM t.arity).length/\yy0.2.1=(aM t.arity).drop yy0.1/\yy0.2.2=((aM t.arity).take yy0.1).map (nN t)) (fun yy0=>(aM t.arity).length - yy0.1) (fun yy0=> .len (yy0.1+yy0.2.1.length)<| .br (.takeg 8 2200 yy0.1 50807 (List Int) aB yy0.2.1 (fun x8 l8=> .len (yy0.1+(l8.length+1))<| bC (tY t x8)<| .len (yy0.1+(l8.length+1))<| .appx aG aA yy0.2.2 (⟨x8,(bT t x8).1,(bT t x8).2⟩:aG)<| .leave 7 2200 yy0.1 50807 (List Int) aB x8 l8 (.back [(300,300),(2200,2200),(9000,4800)]))) (.fin [(0,9000)])))) (p:=Lx (t.rows.map aB)<| fW t/\Nr (aL t) (ByteArray.empty=((aF t).name)/\0=((aF t).arity)/\0=((aF t).rowCount)/\[]=(aF t).groups.map aA/\True) (Lm aB t.rows/\(nA t.arity/\((∃(k:Nat) (l2:List (List Int)) (out:List aG),0=(k:Int)/\t.name=t.name/\t.arity=t.arity/\(t.rows.length:Int)=(t.rows.length:Int)/\[]=out.map aA/\(aM t.arity).map aB=List.replicate k [aS.gone]++l2.map aB/\k<=(aM t.arity).length/\l2=(aM t.arity).drop k/\out=((aM t.arity).take k).map (nN t))/\ ∀(k:Nat) (l2:List (List Int)) (out:List aG),(k<=(aM t.arity).length/\l2=(aM t.arity).drop k/\out=((aM t.arity).take k).map (nN t))->(List.replicate k [aS.gone]++l2.map aB).length=k+l2.length/\Br ((k:Int)<((k+l2.length:Nat):Int)) (List.replicate k [aS.gone]++l2.map aB=List.replicate k [aS.gone]++l2.map aB/\l2≠[]/\ ∀x8 l8,l2=x8::l8->0<=(k:Int)/\(List.replicate k [aS.gone]++(x8::l8).map aB).length=k+(l8.length+1)/\(k:Int)<((k+(l8.length+1):Nat):Int)/\k=k/\aAq t x8/\0<=(k:Int)/\(List.replicate k [aS.gone]++(x8::l8).map aB).length=k+(l8.length+1)/\(k:Int)<((k+(l8.length+1):Nat):Int)/\k=k/\out.map aA=out.map aA/\x8.map aE=(⟨x8,(bT t x8).1,(bT t x8).2⟩:aG).columns.map aE/\(bT t x8).1.map aB=(⟨x8,(bT t x8).1,(bT t x8).2⟩:aG).values.map aB/\(bT t x8).2.map aE=(⟨x8,(bT t x8).1,(bT t x8).2⟩:aG).counts.map aE/\(out.length+1)*72<=140737488355328/\List.replicate k [aS.gone]++(x8::l8).map aB=List.replicate k [aS.gone]++(x8::l8).map aB/\k=k/\dO ((k:Int)+1)/\ ∃(k' :Nat) (l2' :List (List Int)) (out' :List aG),((k:Int)+1)=(k' :Int)/\t.name=t.name/\t.arity=t.arity/\(t.rows.length:Int)=(t.rows.length:Int)/\(out++[(⟨x8,(bT t x8).1,(bT t x8).2⟩:aG)]).map aA=out'.map aA/\List.replicate (k+1) [aS.gone]++l8.map aB=List.replicate k' [aS.gone]++l2'.map aB/\(k' <=(aM t.arity).length/\l2' =(aM t.arity).drop k' /\out' =((aM t.arity).take k').map (nN t))/\(aM t.arity).length - k' <(aM t.arity).length - k) (t.name=((aF t).name)/\t.arity=((aF t).arity)/\(t.rows.length:Int)=((aF t).rowCount)/\out.map aA=(aF t).groups.map aA/\True))))) (by kernel_rfl) ?_;refine lx fun n0=>?_;refine⟨lY t,dm (fun c0=>?_) fun c0=>?_⟩
 ·have hbad:aL t=false:=by simpa using c0
  apply et4<;>((rw[tZ hbad]<;>rfl))
 ·have hok:aL t=true:=by simpa using c0
  have hT:=bJ hok;have hn:=rE (n:=t.arity) ⟨hT.1,hT.2.1⟩;refine⟨aBS _,xV t.arity (by omega),⟨0,aM t.arity,([]:List aG),rfl,rfl,rfl,rfl,rfl,rfl,aB2 _,rfl,rfl⟩,fun k l2 out ⟨hk,hl,ho⟩=>?_⟩;have hlen:l2.length=(aM t.arity).length - k:=by rw[hl,aMc]
  refine⟨by simp,dd (fun c1=>?_) fun c1=>?_⟩
  ·refine⟨rfl,(by rw[hl];exact aG9 (by omega)),fun x8 l8 t8=>?_⟩;have hdx:=hl.symm.trans t8;have hx:=aGb hdx;have hx3:=mC hx;refine⟨by omega,by simp,by omega,rfl,aEd t x8 (by omega),by omega,by simp,by omega,rfl,rfl,rfl,rfl,rfl,by (simp[ho];omega),rfl,rfl,⟨by omega,by omega⟩,?_⟩;exact⟨k+1,_,_,rfl,rfl,rfl,rfl,rfl,rfl,⟨by omega,aGa hdx,by rw[ho,bR hx,aHr];rfl⟩,by omega⟩
  ·apply et4<;>(first|(rw[dG hok]<;>rfl)|(rw[dG hok,ho,aE4 (by omega)]))
abbrev jD (x:TableStatsD):AV × List (Nat × Rs):=(.agg [.p none (.str x.name),vI x.arity,vI x.rowCount,.own 0],[(0,.arr 62 3 true (x.groups.map aA))])
abbrev mD (x:TableStatsD):Prop:=Cn 49 [.agg [.str x.name,.int .i64 x.arity,.int .i64 x.rowCount,.sl 62 3 (x.groups.map aA)]] (jD x).1 (jD x).2
theorem wD (x:TableStatsD)(hc:aT x<=1048576):mD x:=by
 refine cq Tryz.func49 (.len x.groups.length<| .loop (Nat × (List aG)) (Q2 Nat (List aG)) ([3,5,6]++rg 10 18) [500,600,1700,2000,2300,2500,2600] (fun yy0=>[(3,.own 600),(10,vI (yy0.1:Int))]) (fun yy0=>[(600,some (.arr 62 3 true (yy0.2.map aA)))]) (fun yy0=>yy0.1<=x.groups.length/\yy0.2=x.groups.take yy0.1) (fun yy0=>x.groups.length - yy0.1) (fun yy0=> .br (.elem _ aA x.groups (fun e12=>bC (aCU e12.columns)<| bC (aCV e12.values)<| bC (aCU e12.counts)<| .appx aG aA yy0.2 e12<| .back [(600,2600)])) (.fin [(0,600)]))) (p:=Lx (x.groups.map aA)<| Lm aA x.groups/\((∃(k:Nat) (out:List aG),0=(k:Int)/\[]=out.map aA/\k<=x.groups.length/\out=x.groups.take k)/\ ∀(k:Nat) (out:List aG),(k<=x.groups.length/\out=x.groups.take k)->Br ((k:Int)<(x.groups.length:Int)) (0<=(k:Int)/\Em aA x.groups k fun e12=>aE0 e12.columns/\aE1 e12.values/\aE0 e12.counts/\out.map aA=out.map aA/\e12.columns.map aE=e12.columns.map aE/\e12.values.map aB=e12.values.map aB/\e12.counts.map aE=e12.counts.map aE/\(out.length+1)*72<=140737488355328/\dO ((k:Int)+1)/\ ∃(k' :Nat) (out' :List aG),((k:Int)+1)=(k' :Int)/\(out++[e12]).map aA=out'.map aA/\(k' <=x.groups.length/\out' =x.groups.take k')/\x.groups.length - k' <x.groups.length - k) (x.name=x.name/\x.arity=x.arity/\x.rowCount=x.rowCount/\out.map aA=x.groups.map aA/\True))) (by kernel_rfl) ?_;refine lx fun n0=>?_;have q2:aT x=x.name.size+cD x.groups:=rfl;have q5:=dZ x.groups;refine⟨aBS _,⟨0,([]:List aG),rfl,rfl,aB2 _,rfl⟩,fun k out ⟨hk,ho⟩=>?_⟩;refine dd (fun c0=>?_) fun c0=>?_
 ·refine⟨by omega,rfl,by omega,fun e12 h12=>?_⟩;have q1:=eO h12;have q3:aR e12=bY e12.columns+aX e12.values+bY e12.counts:=rfl;have q6:bY e12.columns=e12.columns.length:=rfl;have q7:bY e12.counts=e12.counts.length:=rfl;have q8:=cI e12.values;refine⟨cpI _ (by omega),cpR _ (by omega),cpI _ (by omega),rfl,rfl,rfl,rfl,by simp[ho];omega,⟨by omega,by omega⟩,?_⟩;exact⟨k+1,out++[e12],rfl,rfl,⟨by omega,by rw[ho,bR h12]⟩,by omega⟩
 ·refine⟨rfl,rfl,rfl,?_,trivial⟩
  ·rw[ho,aE4 (by omega)]
def iO (x:TableStatsD):List (List Int):=(x.groups.getD (x.groups.length - 1) cG).values
def bS (x:TableStatsD):aJ:=⟨x.name,x.arity,iO x⟩
def aU (x:TableStatsD):Bool:=aL (bS x)&&decide (aF (bS x)=x)
theorem aEf {x:TableStatsD}{g:aG}(h:x.groups[x.groups.length - 1]? =some g):iO x=g.values:=by rw[iO,bW h]
theorem aH7 {x:TableStatsD}(h:x.groups.length=0):iO x= []:=by
 rw[iO,List.length_eq_zero_iff.1 h];rfl
abbrev iI (x:TableStatsD):AV × List (Nat × Rs):=(.tup [.agg [.p none (.str ((bS x).name)),vI ((bS x).arity),.own 0],vB (aU x)],[(0,.arr 38 1 true ((bS x).rows.map aB))])
abbrev kW (x:TableStatsD):Prop:=Cn 48 [.agg [.str x.name,.int .i64 x.arity,.int .i64 x.rowCount,.sl 62 3 (x.groups.map aA)]] (iI x).1 (iI x).2
theorem uA (x:TableStatsD)(hc:aT x<=1048576):kW x:=by
 refine cq Tryz.func48 (.len x.groups.length<| .br (.elem _ aA x.groups (fun e20=>bC (aCV e20.values)<| .call (vB (aL (⟨x.name,x.arity,e20.values⟩:aJ))) []<| .br (bC (lK (⟨x.name,x.arity,e20.values⟩:aJ))<| .call (vB (decide ((aF (⟨x.name,x.arity,e20.values⟩:aJ))=x))) []<| .fin [(0,2300)]) (.fin [(0,2300)]))) (.call (vB (aL (⟨x.name,x.arity,([]:List (List Int))⟩:aJ))) []<| .br (.call (.agg [.p none (.str ((aF (⟨x.name,x.arity,([]:List (List Int))⟩:aJ)).name)),vI ((aF (⟨x.name,x.arity,([]:List (List Int))⟩:aJ)).arity),vI ((aF (⟨x.name,x.arity,([]:List (List Int))⟩:aJ)).rowCount),.own 0]) [(0,.arr 62 3 true (((aF (⟨x.name,x.arity,([]:List (List Int))⟩:aJ)).groups).map aA))]<| .call (vB (decide ((aF (⟨x.name,x.arity,([]:List (List Int))⟩:aJ))=x))) []<| .fin []) (.fin []))) (p:=Lx (x.groups.map aA)<| Lm aA x.groups/\Br (0<(x.groups.length:Int)) (dO ((x.groups.length:Int) - 1)/\0<=((x.groups.length:Int) - 1)/\Em aA x.groups (((x.groups.length:Int) - 1).toNat) fun e20=>aE1 e20.values/\iY (⟨x.name,x.arity,e20.values⟩:aJ)/\Bb (aL (⟨x.name,x.arity,e20.values⟩:aJ)) (oF (⟨x.name,x.arity,e20.values⟩:aJ)/\fV (aF (⟨x.name,x.arity,e20.values⟩:aJ)) x/\x.name=((bS x).name)/\x.arity=((bS x).arity)/\(decide ((aF (⟨x.name,x.arity,e20.values⟩:aJ))=x))=(aU x)/\e20.values.map aB=(bS x).rows.map aB/\True) (x.name=((bS x).name)/\x.arity=((bS x).arity)/\(false)=(aU x)/\e20.values.map aB=(bS x).rows.map aB/\True)) (zC Tryz.prog 38 [.agg [.str x.name,.int .i64 x.arity,.sl 0 1 ([])]] (vB (aL (⟨x.name,x.arity,([]:List (List Int))⟩:aJ))) []/\Bb (aL (⟨x.name,x.arity,([]:List (List Int))⟩:aJ)) (zC Tryz.prog 12 [.agg [.str x.name,.int .i64 x.arity,.sl 0 1 ([])]] (.agg [.p none (.str ((aF (⟨x.name,x.arity,([]:List (List Int))⟩:aJ)).name)),vI ((aF (⟨x.name,x.arity,([]:List (List Int))⟩:aJ)).arity),vI ((aF (⟨x.name,x.arity,([]:List (List Int))⟩:aJ)).rowCount),.own 0]) [(0,.arr 62 3 true (((aF (⟨x.name,x.arity,([]:List (List Int))⟩:aJ)).groups).map aA))]/\fV (aF (⟨x.name,x.arity,([]:List (List Int))⟩:aJ)) x/\x.name=((bS x).name)/\x.arity=((bS x).arity)/\(decide ((aF (⟨x.name,x.arity,([]:List (List Int))⟩:aJ))=x))=(aU x)/\[]=(bS x).rows.map aB/\True) (x.name=((bS x).name)/\x.arity=((bS x).arity)/\(false)=(aU x)/\[]=(bS x).rows.map aB/\True))) (by kernel_rfl) ?_;refine lx fun n0=>?_;have q2:aT x=x.name.size+cD x.groups:=rfl;have q5:=dZ x.groups;refine⟨aBS _,dd (fun c0=>?_) fun c0=>?_⟩
 ·refine⟨⟨by omega,by omega⟩,by omega,rfl,by omega,fun e20 h20=>?_⟩;have i20:x.groups[x.groups.length - 1]? =some e20:=by rw[<-h20];congr 1;omega
  have hT:iO x=e20.values:=aEf i20;have q1:=eO i20;have q3:aR e20=bY e20.columns+aX e20.values+bY e20.counts:=rfl;have q6:bY e20.columns=e20.columns.length:=rfl;have q7:bY e20.counts=e20.counts.length:=rfl;have q8:=cI e20.values;refine⟨cpR _ (by omega),oA (⟨x.name,x.arity,e20.values⟩:aJ),db (fun g28=>?_) fun g28=>?_⟩
  ·refine⟨wC (⟨x.name,x.arity,e20.values⟩:aJ),kV _ _,?_,?_,?_,?_,trivial⟩<;>(first|(rw[bS,hT]<;>rfl)|(simp[aU,bS,hT, *];done))
  ·apply et4<;>(first|(rw[bS,hT]<;>rfl)|(simp[aU,bS,hT, *];done))
 ·have hT:iO x= []:=aH7 (by omega);refine⟨zC.imp (fun A w vs h=>by simpa only [jU,aDm,fF,aDw,List.map_nil] using h) (oA (⟨x.name,x.arity,([]:List (List Int))⟩:aJ)),?_⟩;refine db (fun g28=>?_) fun g28=>?_
  ·refine⟨zC.imp (fun A w vs h=>by simpa only [jU,aDm,fF,aDw,List.map_nil] using h) (wC (⟨x.name,x.arity,([]:List (List Int))⟩:aJ)),?_⟩;refine⟨kV _ _,?_,?_,?_,?_,trivial⟩<;>(first|(rw[bS,hT]<;>rfl)|(simp[aU,bS,hT, *];done))
  ·apply et4<;>(first|(rw[bS,hT]<;>rfl)|(simp[aU,bS,hT, *];done))
abbrev mE (x:TableStatsD):Prop:=Cn 27 [.agg [.str x.name,.int .i64 x.arity,.int .i64 x.rowCount,.sl 62 3 (x.groups.map aA)]] (vB (aU x)) []
theorem wE (x:TableStatsD)(hc:aT x<=1048576):mE x:=by
 refine cq Tryz.func27 (bC (iI x)<| .fin []) (p:=Lx (x.groups.map aA)<| kW x/\(aU x)=(aU x)/\True) (by kernel_rfl) ?_;refine lx fun n0=>?_;refine⟨uA x (by omega),?_⟩;exact⟨rfl,trivial⟩
theorem dY (a:List Int)(l:List (List Int)):aX (a::l)=aX l+1+a.length:=by
 simp only[aX,mM,bY,aHl,List.sum_cons,aJv];omega
theorem aEg (l:List (List Int)): ∀k,aX (l.take k)<=aX l:=by
 induction l with
 | nil=>intro k;simp
 | cons a l ih=>
   intro k;cases k with
   | zero=>rw[List.take_zero];exact aB2 _
   | succ k=>rw[List.take_succ_cons,dY,dY];have:=ih k;omega
theorem aEh {row:List Int}: ∀{xs:List (List Int)},aX (eN row xs)<=aX xs+1+row.length
 | []=>by rw[vY,dY];exact aLB _
 | x::xs=>by
   by_cases h:0<aZ x row
   ·rw[vZ h,dY];omega
   by_cases h' :aZ x row=0
   ·rw[wA h'];omega
   rw[wB h h',dY,dY];have:=aEh (row:=row) (xs:=xs);omega
theorem aGc {row:List Int}: ∀{xs:List (List Int)},xs.length<=(eN row xs).length
 | []=>by simp
 | x::xs=>by
   by_cases h:0<aZ x row
   ·rw[vZ h];simp
   by_cases h' :aZ x row=0
   ·rw[wA h'];simp
   rw[wB h h'];have:=aGc (row:=row) (xs:=xs);simp only[aJv];omega
theorem aEi (l:List (List Int)): ∀acc,aX (l.foldl (fun acc x=>eN x acc) acc)<=aX acc+aX l/\acc.length<=(l.foldl (fun acc x=>eN x acc) acc).length:=by
 induction l with
 | nil=>intro acc;simp
 | cons x l ih=>
   intro acc;obtain⟨h1,h2⟩:=ih (eN x acc);have h3:=aEh (row:=x) (xs:=acc);have h4:=aGc (row:=x) (xs:=acc);rw[List.foldl_cons,dY];exact⟨by omega,by omega⟩
theorem aEj (l:List (List Int))(k:Nat):aX (bG (l.take k))<=aX l:=by
 have h1:=(aEi (l.take k) []).1;have h2:=aEg l k;have h3:aX ([]:List (List Int))=0:=rfl;unfold bG;omega
theorem aDX (l:List (List Int))(k:Nat):(bG (l.take k)).length<=(bG l).length:=by
 have h:=(aEi (l.drop k) (bG (l.take k))).2
 have e:bG l=(l.drop k).foldl (fun acc x=>eN x acc) (bG (l.take k)):=by
  unfold bG;rw[<-List.foldl_append,List.take_append_drop]
 rw[e];exact h
def gT (name:ByteArray)(arity:Int)(rows:List (List Int)):aJ × Bool:=if aL ⟨name,arity,bG rows⟩=true then (⟨name,arity,bG rows⟩,true) else (aAd,false)
theorem oG {name:ByteArray}{arity:Int}{rows:List (List Int)}(h:aL ⟨name,arity,bG rows⟩=true):gT name arity rows=(⟨name,arity,bG rows⟩,true):=by rw[gT,if_pos h]
theorem aDY {name:ByteArray}{arity:Int}{rows:List (List Int)}(h:aL ⟨name,arity,bG rows⟩=false):gT name arity rows=(aAd,false):=by rw[gT,if_neg (by rw[h];decide)]
theorem yU {t:aJ}(h:8<t.rows.length):aL t=false:=by
 cases e:aL t with
 | false=>rfl
 | true=>have:=bJ e;omega
theorem aEk {name:ByteArray}{arity:Int}{rows:List (List Int)}{k:Nat}{acc:List (List Int)}(ha:acc=bG (rows.take k))(h:rows.length<=k\/8<acc.length):aL ⟨name,arity,acc⟩=aL ⟨name,arity,bG rows⟩/\(aL ⟨name,arity,acc⟩=true->acc=bG rows):=by
 by_cases h1:8<acc.length
 ·have h2:=aDX rows k;rw[<-ha] at h2;have q1:=yU (t:=⟨name,arity,acc⟩) h1;rw[q1,yU (t:=⟨name,arity,bG rows⟩) (show 8<(bG rows).length by omega)];exact⟨rfl,fun q=>by cases q⟩
 have e:acc=bG rows:=by rw[ha,aE4 (by omega)]
 rw[e];exact⟨rfl,fun _=>rfl⟩
theorem aJL: ∀{l:List (List Int)},(∀i,i+1<l.length->aZ (l.getD i []) (l.getD (i+1) [])<0)->Asc l
 | [],_=>List.Pairwise.nil
 | [a],_=>List.pairwise_singleton _ _
 | a::b::l,h=>by
   have ih:=aJL (l:=b::l) fun i hi=>by
    have:=h (i+1) (by simpa using hi);simpa using this
   have h0:aZ a b<0:=by
    have:=h 0 (by simp);simpa using this
   refine List.pairwise_cons.2 ⟨fun y hy=>?_,ih⟩;rcases aIo.1 hy with rfl | q
   ·exact h0
   exact gS h0 ((List.pairwise_cons.1 ih).1 y q)
theorem wF {l:List (List Int)}(h:vS l=true):Asc l:=aJL fun i hi=>by
 have:=aFJ.1 h i (aKt.2 (by omega));simpa [gC] using this
theorem aJM {l:List (List Int)}(h:Asc l):vS l=true:=by
 refine aFJ.2 fun i hi=>?_;have hi:=aKt.1 hi;have:=List.pairwise_iff_getElem.1 h i (i+1) (by omega) (by omega) (by omega);simpa [gC,aFr,show i<l.length by omega,show i+1<l.length by omega] using this
theorem fK {t:aJ}(h:aL t=true):t.rows.all (dM t.arity)=true/\dX t.name=true/\vS t.rows=true:=by
 simp only[aL,aBT] at h;exact⟨h.1,h.2.1,h.2.2.2.2⟩
theorem rF {l:List (List Int)}(h:Asc l):bG l=l:=by
 obtain⟨h1,h2,_⟩:=rA l [] List.Pairwise.nil;exact aDU h1 h fun x=>by have:=h2 x;simpa [bG] using this
theorem aDZ {t:aJ}(h:aL t=true){r:List Int}(hr:r∈t.rows):(r.length:Int)=t.arity:=by
 have:=aFJ.1 (fK h).1 r hr;simp only[dM,aBT,aMX] at this;exact this.2
def aFg (n:Int):List Int:=kE ((2:Int)^n.toNat - 1)
theorem aKj {n:Int}(hn:1<=n/\n<=3){r:List Int}(h:(r.length:Int)=n):(fR r (aFg n)).1=r:=by
 have h1:n=1\/n=2\/n=3:=by omega
 rcases h1 with rfl | rfl | rfl
 ·match r,h with
  | [a],_=>rfl
  | [],h=>simp at h
  | _::_::_,h=>simp at h;omega
 ·match r,h with
  | [a,b],_=>rfl
  | [],h=>simp at h
  | [_],h=>simp at h
  | _::_::_::_,h=>simp at h;omega
 match r,h with
 | [a,b,c],_=>rfl
 | [],h=>simp at h
 | [_],h=>simp at h
 | [_,_],h=>simp at h
 | _::_::_::_::_,h=>simp at h;omega
theorem aJN {n:Int}(hn:1<=n/\n<=3):cO (n - 1) (aFg n)=true:=by
 have h1:n=1\/n=2\/n=3:=by omega
 rcases h1 with rfl | rfl | rfl<;>decide
theorem aD0 {n:Int}(hn:1<=n/\n<=3):0<(aM n).length/\(aM n)[(aM n).length - 1]? =some (aFg n):=by
 have h1:n=1\/n=2\/n=3:=by omega
 rcases h1 with rfl | rfl | rfl<;>decide
theorem aJO {t:aJ}(h:aL t=true):(bT t (aFg t.arity)).1=t.rows:=by
 have hT:=bJ h;have hc:=aJN (n:=t.arity) ⟨hT.1,hT.2.1⟩;rw[lZ (by rw[h,hc];rfl)]
 have e:fM t (aFg t.arity)=t.rows:=by
  rw[fM]
  conv=>rhs;rw[<-List.map_id t.rows]
  exact List.map_congr_left fun r hr=>aKj ⟨hT.1,hT.2.1⟩ (aDZ h hr)
 show dA (bV (fM t (aFg t.arity)))=t.rows;rw[e,<-mZ,rF (wF (fK h).2.2)]
theorem rG {t:aJ}(h:aL t=true):iO (aF t)=t.rows/\(aF t).groups≠[]:=by
 have hT:=bJ h;obtain⟨h0,h1⟩:=aD0 (n:=t.arity) ⟨hT.1,hT.2.1⟩;rw[dG h];constructor
 ·rw[iO];show (((aM t.arity).map (nN t)).getD (((aM t.arity).map (nN t)).length - 1) cG).values=t.rows;rw[aBS,bW (x:=nN t (aFg t.arity)) (by rw[aMm,h1];rfl)];exact aJO h
 intro e;have:((aM t.arity).map (nN t)).length=0:=congrArg List.length e;rw[aBS] at this;omega
def bB (x:TableStatsD):aJ × Bool:=if x.groups.length=0 then (aAd,false) else gT x.name x.arity (iO x)
theorem aGd {x:TableStatsD}(h:aU x=true):bB x=(bS x,true):=by
 simp only[aU,aBT,aMX] at h;have h2:=(rG h.1).2;rw[h.2] at h2;rw[bB,if_neg (fun e=>h2 (aGC e))];have e:=rF (wF (fK h.1).2.2);rw[show (bS x).rows=iO x from rfl] at e;rw[oG (by rw[e];exact h.1),e];rfl
theorem aH8 (x:TableStatsD):((bB x).2&&decide (aF (bB x).1=x))=aU x:=by
 cases h:aU x with
 | true=>
   rw[aGd h];simp only[aU,aBT,aMX] at h;simp[h.2]
 | false=>
   rw[bB];split
   ·rfl
   cases e:aL ⟨x.name,x.arity,bG (iO x)⟩ with
   | false=>rw[aDY e];rfl
   | true=>
     rw[oG e];simp only[Bool.true_and];by_cases q:aF ⟨x.name,x.arity,bG (iO x)⟩=x
     ·exfalso;have h3:=(rG e).1;rw[q] at h3
      have h4:bS x=⟨x.name,x.arity,bG (iO x)⟩:=by
       rw[bS]
       congr 1
      rw[aU,h4,e,q] at h;simp at h
     simp[q]
theorem jE {x:TableStatsD}(h:aU x=true):aL (bS x)=true/\aF (bS x)=x:=by
 simpa only [aU,aBT,aMX] using h
theorem aAs {x:TableStatsD}(h:aU x=true):x.groups=(aM x.arity).map (nN (bS x)):=by
 obtain⟨h1,h2⟩:=jE h;rw[dG h1] at h2;exact(congrArg TableStatsD.groups h2).symm
theorem aH9 {x:TableStatsD}(h:aU x=true):x.rowCount=((iO x).length:Nat):=by
 obtain⟨h1,h2⟩:=jE h;rw[dG h1] at h2;exact(congrArg TableStatsD.rowCount h2).symm
theorem aC1 {x:TableStatsD}(h:aU x=true):1<=x.arity/\x.arity<=3:=by
 have:=bJ (jE h).1;exact⟨this.1,this.2.1⟩
end Go.Proofs.YtgamjlgfnmpcjaaGreatDoor
namespace Go.Proofs
open Go.Shelf
namespace YtgamjlgfnmpcjaaGreatDoor
def Tryz.lays189_ren:Go.Shelf.Ren:=⟨fun | 189=>89 | 125=>112 | 257=>111 | 128=>125 | 129=>126 | 294=>116 | 295=>117 | 296=>118 | 297=>119 | 298=>120 | 299=>121 | 216=>122 | 300=>123 | 301=>124 | 328=>140 | 329=>141 | 330=>142 | 331=>143 | 332=>144 | 215=>145 | 343=>153 | n=>n,fun | 28=>38 | 3=>3 | 46=>118 | 0=>0 | 51=>131 | 53=>133 | 4=>4 | 183=>123 | 182=>122 | 131=>128 | 5=>5 | 9=>9 | 218=>144 | 222=>148 | 228=>157 | 229=>158 | n=>n,fun | n=>n⟩
theorem Tryz.lays189:Go.Proofs.Lays.n189 Tryz.prog Tryz.lays189_ren:={
 mixed:=by kernel_rfl
 f125:=Tryz.func112.trans (congrArg some (by kernel_rfl))
 f128:=Tryz.func125.trans (congrArg some (by kernel_rfl))
 f129:=Tryz.func126.trans (congrArg some (by kernel_rfl))
 f189:=Tryz.func89.trans (congrArg some (by kernel_rfl))
 f215:=Tryz.func145.trans (congrArg some (by kernel_rfl))
 f216:=Tryz.func122.trans (congrArg some (by kernel_rfl))
 f257:=Tryz.func111.trans (congrArg some (by kernel_rfl))
 f294:=Tryz.func116.trans (congrArg some (by kernel_rfl))
 f295:=Tryz.func117.trans (congrArg some (by kernel_rfl))
 f296:=Tryz.func118.trans (congrArg some (by kernel_rfl))
 f297:=Tryz.func119.trans (congrArg some (by kernel_rfl))
 f298:=Tryz.func120.trans (congrArg some (by kernel_rfl))
 f299:=Tryz.func121.trans (congrArg some (by kernel_rfl))
 f300:=Tryz.func123.trans (congrArg some (by kernel_rfl))
 f301:=Tryz.func124.trans (congrArg some (by kernel_rfl))
 f328:=Tryz.func140.trans (congrArg some (by kernel_rfl))
 f329:=Tryz.func141.trans (congrArg some (by kernel_rfl))
 f330:=Tryz.func142.trans (congrArg some (by kernel_rfl))
 f331:=Tryz.func143.trans (congrArg some (by kernel_rfl))
 f332:=Tryz.func144.trans (congrArg some (by kernel_rfl))
 f343:=Tryz.func153.trans (congrArg some (by kernel_rfl))
 t0:=Tryz.underlying0
 a0:=Tryz.isAgg0
 z0:=Tryz.sizeOf0
 v0:=Tryz.zeroValue0
 t3:=Tryz.underlying3
 a3:=Tryz.isAgg3
 z3:=Tryz.sizeOf3
 v3:=Tryz.zeroValue3
 t4:=Tryz.underlying4
 a4:=Tryz.isAgg4
 z4:=Tryz.sizeOf4
 v4:=Tryz.zeroValue4
 t5:=Tryz.underlying5
 a5:=Tryz.isAgg5
 z5:=Tryz.sizeOf5
 v5:=Tryz.zeroValue5
 t9:=Tryz.underlying9
 a9:=Tryz.isAgg9
 z9:=Tryz.sizeOf9
 v9:=Tryz.zeroValue9
 t28:=Tryz.underlying38
 a28:=Tryz.isAgg38
 z28:=Tryz.sizeOf38
 v28:=Tryz.zeroValue38
 t46:=Tryz.underlying118
 a46:=Tryz.isAgg118
 z46:=Tryz.sizeOf118
 v46:=Tryz.zeroValue118
 t51:=Tryz.underlying131
 a51:=Tryz.isAgg131
 z51:=Tryz.sizeOf131
 v51:=Tryz.zeroValue131
 t53:=Tryz.underlying133
 a53:=Tryz.isAgg133
 z53:=Tryz.sizeOf133
 v53:=Tryz.zeroValue133
 t131:=Tryz.underlying128
 a131:=Tryz.isAgg128
 z131:=Tryz.sizeOf128
 v131:=Tryz.zeroValue128
 t182:=Tryz.underlying122
 a182:=Tryz.isAgg122
 z182:=Tryz.sizeOf122
 v182:=Tryz.zeroValue122
 t183:=Tryz.underlying123
 a183:=Tryz.isAgg123
 z183:=Tryz.sizeOf123
 v183:=Tryz.zeroValue123
 t218:=Tryz.underlying144
 a218:=Tryz.isAgg144
 z218:=Tryz.sizeOf144
 v218:=Tryz.zeroValue144
 t222:=Tryz.underlying148
 a222:=Tryz.isAgg148
 z222:=Tryz.sizeOf148
 v222:=Tryz.zeroValue148
 t228:=Tryz.underlying157
 a228:=Tryz.isAgg157
 z228:=Tryz.sizeOf157
 v228:=Tryz.zeroValue157
 t229:=Tryz.underlying158
 a229:=Tryz.isAgg158
 z229:=Tryz.sizeOf158
 v229:=Tryz.zeroValue158 }
end YtgamjlgfnmpcjaaGreatDoor
end Go.Proofs
namespace Go.Proofs.YtgamjlgfnmpcjaaGreatDoor
open Go.ChangeShapes Go.WideShapes Go.ChangeAt Go.RowKit
set_option linter.unusedVariables false
set_option linter.unusedSimpArgs false
theorem aC2 {w:World}: ∀{l:List Int} {css:List (List Value)} {Fs:List (List Nat)},bE w 1 (l.map aE) css Fs->css.flatten=l.map (Value.int .i64)/\Fs.flatten= []
 | [],css,Fs,h=>by
   simp only[List.map_nil] at h;unfold bE at h;rw[h.1,h.2];simp
 | n::l,css,Fs,h=>by
   simp only[aHl] at h;unfold bE at h;obtain⟨c,css',F,Fs',rfl,rfl,_,h1,h2⟩:=h;obtain⟨q1,q2⟩:=aC2 h2;unfold aE bU at h1;obtain⟨v,cs',F1,F2,rfl,rfl,h3,h4⟩:=h1;unfold bU at h4;unfold lL at h3;simp[q1,q2,h4.1,h4.2,h3.1,h3.2]
theorem wG (w:World): ∀(l:List Int),bE w 1 (l.map aE) (l.map fun n=>[Value.int .i64 n]) (l.map fun _=>[])
 | []=>by simp only[List.map_nil];unfold bE;exact⟨rfl,rfl⟩
 | n::l=>by
   simp only[aHl];unfold bE;refine⟨_,_,_,_,rfl,rfl,rfl,?_,wG w l⟩;unfold aE bU;refine⟨_,_,[],[],rfl,rfl,?_,?_⟩
   ·unfold lL;exact⟨rfl,rfl⟩
   unfold bU;exact⟨rfl,rfl⟩
theorem aC3: ∀(m:List Int),(m.map fun n=>[Value.int .i64 n]).flatten=m.map (Value.int .i64)
 | []=>rfl
 | a::l=>by simp only[aHl,aJj,aC3 l];rfl
theorem aC4 {P:Program}{f:FuncId}{e:Nat}(l m:List Int)(hc:fG P f=true)(hm:m.length=l.length)
 (hn0:l= []-> ∀w,Calls P f #[.slice none 0 0] w (fun ex w' =>ex= .returned (.tuple #[])/\w' =w))
 (hs: ∀(blk cap:Nat) (w:World),Go.Sort.Holds (Value.int .i64) w blk 0 l.toArray->blk<w.heap.size->l.length<=cap->Calls P f #[.slice (some ⟨blk,0,none⟩) l.length cap] w (fun ex w' =>ex= .returned (.tuple #[])/\ ∃n os,w' =Go.Sort.grow (Go.Sort.putRow (Value.int .i64) (Go.Sort.ahead w n) blk 0 m.toArray) os)):
 oZ P f [.own 0] [(0,.arr e 1 true (l.map aE))] (.tup []) [(0,.arr e 1 true (m.map aE))]:=by
 refine⟨hc,by simp,fun A φ w vs hI hM=>?_⟩;obtain⟨pl,hp,css,Fs,q1,q2,q3,q4⟩:=hI.dom 0 _ rfl;unfold aH at hM;obtain⟨v,us,e1,m1,hM⟩:=hM;unfold aH at hM;unfold aC at m1;have hv:=m1 pl hp;have ev:vs= #[pl.val]:=by apply Array.ext';rw[e1,hM,hv]
 rw[ev];obtain⟨c1,c2⟩:=aC2 q4;rw[c1,aBS] at q1;have hge:=hI.ge 0 pl hp;have hsub:pl.sub= []:=by rw[q3,c2]
 have hfoot: ∀b∈pl.F,aDE φ b:=fun b hb=>⟨0,pl,trivial,hp,hb⟩
 have hend: ∀(w' :World),gF pl.F w w' ->w'.ownsRow 0 e 1 pl.val l.length (m.map (Value.int .i64))->
  ∃v K φ',Ending.returned (.tuple #[])= .returned v/\aHM A φ w [(0,.arr e 1 true (m.map aE))] K φ' w' /\aC K φ' w' (.tup []) v:=by
  intro w' hon howns;refine⟨_,A,fun h=>if h=0 then some pl else none,rfl,⟨⟨hon.os,hon.tape,hon.output,hon.size,fun b hb hn=>hon.block b hb (fun hm=>hn (hfoot b hm))⟩,fun _ h=>h,fun b hb=>⟨aLG (hI.lt b hb) hon.size,.inl hb⟩,fun b hb h pl1 e' hm' =>?_,fun h r hr=>?_,fun h hr=>?_,fun h h' pl1 pl2 hne ea eb=>?_,fun h pl1 e' =>?_,fun h pl1 e' g hg=>?_,fun h pl1 pl0 e' e0=>?_⟩,?_⟩
  ·split at e'
   ·injection e' with e';subst e'
    exact hI.out b hb 0 pl hp hm'
   cases e'
  ·simp only[aN] at hr;split at hr
   ·rename_i eh;subst eh;injection hr with hr
    subst hr;refine⟨pl,by simp,m.map fun n=>[Value.int .i64 n],m.map fun _=>[],?_,q2,?_,wG _ m⟩
    ·rw[aC3,aBS,hm];exact howns
    rw[hsub];simp
   cases hr
  ·simp only[aN] at hr;split at hr
   ·cases hr
   rename_i eh;exact if_neg eh
  ·split at ea
   ·split at eb
    ·rename_i x y;exact absurd (x.trans y.symm) hne
    cases eb
   cases ea
  ·split at e'
   ·injection e' with e';subst e';exact hI.nodup 0 pl hp
   cases e'
  ·split at e'
   ·injection e' with e';subst e'
    exact⟨.inr (hfoot g hg),aLG (hge g hg) hon.size⟩
   cases e'
  ·split at e'
   ·rename_i eh;subst eh;rw[hp] at e0;injection e0 with e0;injection e' with e'
    subst e0;subst e';exact⟨rfl,rfl⟩
   cases e'
  unfold aC;exact⟨#[],rfl,by unfold aH;rfl⟩
 rcases q1.2 with ⟨hvn,hz⟩ | ⟨g,cap,cur,hvv,hg0,hb,hn,hcap,hsz,htk⟩
 ·have hz' :l= []:=aGC hz;rw[hvn];refine(hn0 hz' w).mono ?_;rintro en w' ⟨rfl,rfl⟩;have hm0:m= []:=aGC (by rw[hm,hz]);refine hend w' (gF.refl _ _) ?_;rw[hvn,hm0,hz];exact⟨by simp,.inl ⟨rfl,rfl⟩⟩
 have hlt:g<w.heap.size:=(Array.getElem?_eq_some_iff.1 hb).1;have hH:Go.Sort.Holds (Value.int .i64) w g 0 l.toArray:=holds_of_blockI hb (by rw[Nat.mul_one] at htk;exact htk);rw[hvv];refine(hs g cap w hH hlt hn).mono ?_;rintro en w' ⟨rfl,n,os,rfl⟩;have hgb:=grownBy_sortedI (w:=w) (g:=g) (n:=n) (os:=os) m.toArray;have hown:=ownsRow_sortedI (n:=n) (os:=os) hm hg0 hb hn hcap hsz;refine hend _ ⟨hgb.os,hgb.tape,hgb.output,hgb.size,fun k hk hne=>hgb.block k hk (fun e=>hne (by injection e with e;subst e;unfold Pl.F;rw[q2,hvv];simp[Value.ownBlock]))⟩ ?_;rw[hvv];exact hown
def kR (l:List Int):List Int:=l.mergeSort fun x y=>decide (x<=y)
theorem aAt (l:List Int):(kR l).Perm l:=List.mergeSort_perm l _
theorem aC5 (l:List Int):(kR l).length=l.length:=(aAt l).length_eq
theorem aFh (l:List Int):(kR l).Pairwise (· <= ·):=by
 have:=List.pairwise_mergeSort (le:=fun x y:Int=>decide (x<=y)) (fun a b c h1 h2=>by simp at*;omega) (fun a b=>by simp;omega) l;exact this.imp (fun h=>by simpa using h)
theorem aHa (l:List Int)(hl:l.length<4611686018427387904):oZ Tryz.prog 89 [.own 0] [(0,.arr 3 1 true (l.map aE))] (.tup []) [(0,.arr 3 1 true ((kR l).map aE))]:=
 aC4 l (kR l) (by kernel_rfl) (aC5 l)
  (fun h w=>Any.slices_Sort_int_none Tryz.lays189 none 0 w)
  (fun blk cap w hH hblk _=>Any.slices_Sort_int Tryz.lays189 blk 0 cap l w hH hblk hl)
end Go.Proofs.YtgamjlgfnmpcjaaGreatDoor
namespace Go.Proofs.YtgamjlgfnmpcjaaGreatDoor
open Go.ChangeShapes Go.WideShapes Go.ChangeAt Go.RowKit
set_option linter.unusedVariables false
set_option linter.unusedSimpArgs false
set_option maxRecDepth 100000
set_option maxHeartbeats 4000000
theorem aFi {α:Type}{c:α->Nat}{m:Nat}{l:List α}(h: ∀x∈l,c x<=m):mM c l<=l.length+l.length*m:=by
 have h1:=tV (ct:=c) (m:=m) (l:=l) h;have h2:mM c l=l.length+gO c l:=rfl;omega
theorem sJ (t:aJ)(cols:List Int):aX (bT t cols).1<=64/\(bT t cols).2.length<=8:=by
 cases h:(aL t&&cO (t.arity - 1) cols) with
 | false=>rw[vW h];exact⟨by decide,by decide⟩
 | true=>
   have:=aDW (k:=(fM t cols).length) h;rw[aLL,mZ] at this;rw[lZ h];exact⟨this.2,by simp only[aH1,aBS,aJB];exact this.1⟩
theorem pE {t:aJ}(h:aL t=true):t.name.size=1:=by
 simp only[aL,dX,aBT,aMX] at h;omega
theorem kG (t:aJ):aT (aF t)<=2000:=by
 cases h:aL t with
 | false=>rw[tZ h];decide
 | true=>
   have hT:=bJ h;have hn:=pE h;have hl:=rE (n:=t.arity) ⟨hT.1,hT.2.1⟩;rw[dG h]
   have h1:=aFi (c:=aR) (m:=75) (l:=(aM t.arity).map (nN t)) fun x hx=>by
    obtain⟨c,hc,rfl⟩:=aJl.1 hx;obtain⟨k,hk,hc⟩:=List.mem_iff_getElem.1 hc;have h3:=mC (aEA.2 ⟨hk,hc⟩);have h4:=sJ t c;have h5:aR (nN t c)=c.length+aX (bT t c).1+(bT t c).2.length:=rfl;omega
   rw[aBS] at h1;have h2:aT ⟨t.name,t.arity,(t.rows.length:Nat),(aM t.arity).map (nN t)⟩=t.name.size+mM aR ((aM t.arity).map (nN t)):=rfl;omega
end Go.Proofs.YtgamjlgfnmpcjaaGreatDoor
namespace Go.Proofs
open Go.Shelf
namespace YtgamjlgfnmpcjaaGreatDoor
def Tryz.revInts_ren:Go.Shelf.Ren:=⟨fun | 35=>90 | n=>n,fun | 22=>38 | 23=>3 | 3=>3 | 4=>4 | 0=>0 | n=>n,fun | n=>n⟩
theorem Tryz.revInts:Go.Proofs.SlLaysE.n35 Tryz.prog Tryz.revInts_ren:={
 mixed:=by kernel_rfl
 f35:=⟨Tryz.f90.name,by decide,Tryz.func90.trans (congrArg some (by kernel_rfl))⟩
 t0:=Tryz.underlying0
 a0:=Tryz.isAgg0
 z0:=Tryz.sizeOf0
 v0:=Tryz.zeroValue0
 t3:=Tryz.underlying3
 a3:=Tryz.isAgg3
 z3:=Tryz.sizeOf3
 v3:=Tryz.zeroValue3
 t4:=Tryz.underlying4
 a4:=Tryz.isAgg4
 z4:=Tryz.sizeOf4
 v4:=Tryz.zeroValue4
 t22:=Tryz.underlying38
 a22:=Tryz.isAgg38
 z22:=Tryz.sizeOf38
 v22:=Tryz.zeroValue38
 a23:=Tryz.isAgg3
 z23:=Tryz.sizeOf3 }
end YtgamjlgfnmpcjaaGreatDoor
end Go.Proofs
namespace Go.Proofs.YtgamjlgfnmpcjaaGreatDoor
open Go.ChangeShapes Go.WideShapes Go.ChangeAt Go.RowKit
set_option linter.unusedVariables false
theorem aJP (l:List Int)(hl:l.length<4611686018427387904):oZ Tryz.prog 90 [.own 0] [(0,.arr 3 1 true (l.map aE))] (.tup []) [(0,.arr 3 1 true (l.reverse.map aE))]:=
 aC4 l l.reverse (by kernel_rfl) List.length_reverse
  (fun h w=>AnyE.slices_Reverse_empty Tryz.revInts none 0 w)
  (fun blk cap w hH hblk hn=>(AnyE.slices_Reverse Tryz.revInts (Value.int .i64) (fun _=>rfl) blk 0 cap l w hH (by omega)).mono fun e w' ⟨he,q,hw⟩=>⟨he,q,#[],by rw[hw,Go.Sort.grow_empty]⟩)
end Go.Proofs.YtgamjlgfnmpcjaaGreatDoor
namespace Go.Proofs.YtgamjlgfnmpcjaaGreatDoor
open Go.ChangeShapes Go.WideShapes Go.ChangeAt Go.RowKit
set_option linter.unusedVariables false
set_option linter.unusedSimpArgs false
set_option maxRecDepth 100000
set_option maxHeartbeats 4000000
abbrev sY (l:List Int):Prop:=l.Pairwise fun a b=>b<=a
def cK (l:List Int):List Int:=(kR l).reverse
theorem pF (l:List Int):(cK l).Perm l:=(List.reverse_perm _).trans (aAt l)
theorem sK (l:List Int):(cK l).length=l.length:=(pF l).length_eq
theorem aFj (l:List Int):sY (cK l):=List.pairwise_reverse.2 (aFh l)
theorem aEl {l m:List Int}(hp:l.Perm m)(h1:sY l)(h2:sY m):l=m:=
 List.Perm.eq_of_pairwise (le:=fun a b:Int=>b<=a) (fun a b _ _ h1 h2=>by omega) h1 h2 hp
theorem aEm {l out:List Int}{k j:Nat}{x:Int}(hp:out.Perm (l.take k))(hx:l[k]? =some x):((([]:List Int)++out.take j)++[x]++out.drop j).Perm (l.take (k+1)):=by
 rw[bR hx,aMg]
 have h1:(out.take j++[x]++out.drop j).Perm (out.take j++out.drop j++[x]):=by
  rw[aHv,aHv];exact List.Perm.append_left _ List.perm_append_comm
 rw[List.take_append_drop] at h1;exact h1.trans (hp.append_right _)
theorem aEn {out:List Int}{j:Nat}{x:Int}(hd:sY out)(hj:j<=out.length)(hs: ∀i,j<=i->i<out.length->out.getD i 0<x)(hx:j=0\/ ¬out.getD (j - 1) 0<x):sY ((([]:List Int)++out.take j)++[x]++out.drop j):=by
 rw[aMg,aHv];have hd' :=hd;rw[<-List.take_append_drop j out] at hd';obtain⟨d1,d2,d3⟩:=List.pairwise_append.1 hd'
 have hlo: ∀a∈out.drop j,a<=x:=fun a ha=>by
  obtain⟨i,hi,rfl⟩:=List.mem_iff_getElem.1 ha;have hi' :i<out.length - j:=by simpa using hi
  have:=hs (j+i) (by omega) (by omega);rw[List.getElem_drop];rw[aFr,aCp (by omega)] at this;simp only[Option.getD_some] at this;omega
 have hhi: ∀a∈out.take j,x<=a:=fun a ha=>by
  obtain⟨i,hi,rfl⟩:=List.mem_iff_getElem.1 ha
  have hi' :i<j:=by
   have:=hi;rw[aM4] at this;omega
  rcases hx with h | h
  ·omega
  have hp:=List.pairwise_iff_getElem.1 hd;rw[aFr,aCp (by omega)] at h;simp only[Option.getD_some] at h;rw[List.getElem_take];by_cases e:i=j - 1
  ·subst e;omega
  have:=hp i (j - 1) (by omega) (by omega) (by omega);omega
 refine List.pairwise_append.2 ⟨d1,List.pairwise_append.2 ⟨List.pairwise_singleton _ _,d2,fun a ha b hb=>?_⟩,fun a ha b hb=>?_⟩
 ·rw[aM3] at ha;subst ha;exact hlo b hb
 rcases aFZ.1 hb with q | q
 ·rw[aM3] at q;subst q;exact hhi a ha
 exact d3 a ha b q
theorem aHb {out:List Int}{j:Nat}{x e:Int}(h:out[j - 1]? =some e)(hc:e<x)(hs: ∀i,j<=i->i<out.length->out.getD i 0<x): ∀i,j - 1<=i->i<out.length->out.getD i 0<x:=fun i h1 h2=>by
 by_cases q:i=j - 1
 ·rw[q,bW h];exact hc
 exact hs i (by omega) h2
abbrev uB (t:aJ)(cols:List Int):AV × List (Nat × Rs):=(.own 0,[(0,.arr 3 1 true ((cK (bT t cols).2).map aE))])
abbrev aAu (t:aJ)(cols:List Int):Prop:=Cn 56 [.agg [.str t.name,.int .i64 t.arity,.sl 38 1 (t.rows.map aB)],.one (.sl 3 1 (cols.map aE))] (uB t cols).1 (uB t cols).2
theorem aJQ (t:aJ)(cols:List Int)(hl:cols.length<=1048576):aAu t cols:=by
 refine cq Tryz.func56 (bC (pC t cols)<| bC (aCU ((bT t cols).2))<| .callx [.own 0] [(0,.arr 3 1 true ((bT t cols).2.map aE))] [(0,1500)] (.tup []) [(0,.arr 3 1 true ((kR ((bT t cols).2)).map aE))]<| .callx [.own 0] [(0,.arr 3 1 true ((kR ((bT t cols).2)).map aE))] [(0,1500)] (.tup []) [(0,.arr 3 1 true (((kR ((bT t cols).2)).reverse).map aE))]<| .fin [(0,1500)]) (p:=Lx (t.rows.map aB)<| Lx (cols.map aE)<| tX t cols/\aE0 ((bT t cols).2)/\oZ Tryz.prog 89 [.own 0] [(0,.arr 3 1 true ((bT t cols).2.map aE))] (.tup []) [(0,.arr 3 1 true ((kR ((bT t cols).2)).map aE))]/\(bT t cols).2.map aE=(bT t cols).2.map aE/\oZ Tryz.prog 90 [.own 0] [(0,.arr 3 1 true ((kR ((bT t cols).2)).map aE))] (.tup []) [(0,.arr 3 1 true (((kR ((bT t cols).2)).reverse).map aE))]/\(kR ((bT t cols).2)).map aE=(kR ((bT t cols).2)).map aE/\((kR ((bT t cols).2)).reverse).map aE=(cK (bT t cols).2).map aE/\True) (by kernel_rfl) ?_;refine lx fun n0=>lx fun n1=>?_;have hg:=sJ t cols;refine⟨aEb t cols (by omega),cpI _ (by omega),aHa ((bT t cols).2) (by omega),rfl,aJP (kR ((bT t cols).2)) (by (rw[aC5];omega)),rfl,?_,trivial⟩
 ·rfl
abbrev rH (l:List Int):Prop:=Cn 32 [.one (.sl 3 1 (l.map aE))] (.p none (.sl 3 1 ((cK l).map aE))) []
theorem aC6 (l:List Int)(hc:l.length<=1048576):rH l:=by
 refine cq Tryz.func32 (.stl 3<| .loop (Nat × (List Int)) (Q2 Nat (List Int)) ([3,4,5]++rg 7 39) [3100,3500,4000,4100,4500] (fun yy0=>[(4,vI (yy0.1:Int)),(3,.p none (.sl 3 1 (yy0.2.map aE)))]) (fun yy0=>[]) (fun yy0=>yy0.1<=l.length/\yy0.2.Perm (l.take yy0.1)/\sY yy0.2) (fun yy0=>l.length - yy0.1) (fun yy0=> .len l.length<| .br (.len yy0.2.length<| .loop Nat (Q1 Nat) ([5]++rg 15 16) [] (fun j=>[(5,vI (j:Int))]) (fun j=>[]) (fun j=>j<=yy0.2.length/\(∀i,j<=i->i<yy0.2.length->yy0.2.getD i 0<l.getD yy0.1 0)) (fun j=>j) (fun j=> .br (.elem _ aE yy0.2 (fun e21=> .elem _ aE l (fun e25=> .lit<| .lit<| .lit<| .br (.back []) (.sub Int aE yy0.2<| .app Int aE ([]:List Int) (yy0.2.take j)<| .elem _ aE l (fun e38=> .app Int aE (([]:List Int)++(yy0.2.take j)) ([e38]:List Int)<| .sub Int aE yy0.2<| .app Int aE ((([]:List Int)++(yy0.2.take j))++[e38]) (yy0.2.drop j)<| .stl 3<| .back []))))) (.sub Int aE yy0.2<| .app Int aE ([]:List Int) (yy0.2.take j)<| .elem _ aE l (fun e38=> .app Int aE (([]:List Int)++(yy0.2.take j)) ([e38]:List Int)<| .sub Int aE yy0.2<| .app Int aE ((([]:List Int)++(yy0.2.take j))++[e38]) (yy0.2.drop j)<| .stl 3<| .back [])))) (.fin []))) (p:=Lx (l.map aE)<| (∃(k:Nat) (out:List Int),0=(k:Int)/\[]=out.map aE/\k<=l.length/\out.Perm (l.take k)/\sY out)/\ ∀(k:Nat) (out:List Int),(k<=l.length/\out.Perm (l.take k)/\sY out)->Lm aE l/\Br ((k:Int)<(l.length:Int)) (Lm aE out/\((∃(j:Nat),(out.length:Int)=(j:Int)/\j<=out.length/\(∀i,j<=i->i<out.length->out.getD i 0<l.getD k 0))/\ ∀(j:Nat),(j<=out.length/\(∀i,j<=i->i<out.length->out.getD i 0<l.getD k 0))->Br (0<(j:Int)) (dO ((j:Int) - 1)/\(0<=((j:Int) - 1)/\Em aE out (((j:Int) - 1).toNat) fun e21=>0<=(k:Int)/\Em aE l k fun e25=>Br (e21<e25) (dO ((j:Int) - 1)/\ ∃(j' :Nat),((j:Int) - 1)=(j' :Int)/\(j' <=out.length/\(∀i,j' <=i->i<out.length->out.getD i 0<l.getD k 0))/\j' <j) (out.map aE=out.map aE/\0<=(j:Int)/\(j:Int)<=(out.length:Int)/\Ap aE ([]:List Int) (out.take j) 8 (0<=(k:Int)/\Em aE l k fun e38=>Ap aE (([]:List Int)++(out.take j)) ([e38]:List Int) 8 (out.map aE=out.map aE/\0<=(j:Int)/\(j:Int)<=(out.length:Int)/\Ap aE ((([]:List Int)++(out.take j))++[e38]) (out.drop j) 8 (dO ((k:Int)+1)/\ ∃(k' :Nat) (out' :List Int),((k:Int)+1)=(k' :Int)/\(((([]:List Int)++(out.take j))++[e38])++(out.drop j)).map aE=out'.map aE/\(k' <=l.length/\out'.Perm (l.take k')/\sY out')/\l.length - k' <l.length - k)))))) (out.map aE=out.map aE/\0<=(j:Int)/\(j:Int)<=(out.length:Int)/\Ap aE ([]:List Int) (out.take j) 8 (0<=(k:Int)/\Em aE l k fun e38=>Ap aE (([]:List Int)++(out.take j)) ([e38]:List Int) 8 (out.map aE=out.map aE/\0<=(j:Int)/\(j:Int)<=(out.length:Int)/\Ap aE ((([]:List Int)++(out.take j))++[e38]) (out.drop j) 8 (dO ((k:Int)+1)/\ ∃(k' :Nat) (out' :List Int),((k:Int)+1)=(k' :Int)/\(((([]:List Int)++(out.take j))++[e38])++(out.drop j)).map aE=out'.map aE/\(k' <=l.length/\out'.Perm (l.take k')/\sY out')/\l.length - k' <l.length - k)))))) (out.map aE=(cK l).map aE/\True)) (by kernel_rfl) ?_;refine lx fun n0=>?_;refine⟨⟨0,([]:List Int),rfl,rfl,aB2 _,List.Perm.refl _,List.Pairwise.nil⟩,fun k out ⟨hk,hp,hd⟩=>?_⟩;have hpl:=hp.length_eq;rw[aM4] at hpl;refine⟨aBS _,dd (fun c0=>?_) fun c0=>?_⟩
 ·refine⟨aBS _,⟨out.length,(by rfl),aLB _,fun i h1 h2=>by omega⟩,fun j ⟨hj,hs⟩=>?_⟩;refine dd (fun g17=>?_) fun g17=>?_
  ·refine⟨⟨by omega,by omega⟩,by omega,rfl,by omega,fun e21 h21=>?_⟩;have i21:out[j - 1]? =some e21:=by rw[<-h21];congr 1;omega
   refine⟨by omega,rfl,by omega,fun e25 h25=>?_⟩;refine dd (fun c1=>?_) fun c1=>?_
   ·have hlt:=aHb i21 (by rw[bW h25];exact c1:e21<l.getD k 0) hs;refine⟨⟨by omega,by omega⟩,?_⟩;exact⟨j - 1,(by omega),⟨by omega,hlt⟩,by omega⟩
   ·have hx:j=0\/ ¬out.getD (j - 1) 0<l.getD k 0:=by (right;rw[bW i21,bW h25];exact c1)
    refine⟨rfl,by omega,by omega,?_⟩;refine ap ?_ (fun _=>rfl) (by (simp;omega));refine⟨by omega,rfl,by omega,fun e38 h38=>?_⟩;rw[bW h38] at hx hs;refine ap ?_ (fun _=>rfl) (by (simp;omega));refine⟨rfl,by omega,by omega,?_⟩;refine ap ?_ (fun _=>rfl) (by (simp;omega));refine⟨⟨by omega,by omega⟩,?_⟩;exact⟨k+1,((([]:List Int)++(out.take j))++[e38])++(out.drop j),rfl,rfl,⟨by omega,aEm hp h38,aEn hd hj hs hx⟩,by omega⟩
  ·have hx:j=0\/ ¬out.getD (j - 1) 0<l.getD k 0:=by (left;omega)
   refine⟨rfl,by omega,by omega,?_⟩;refine ap ?_ (fun _=>rfl) (by (simp;omega));refine⟨by omega,rfl,by omega,fun e38 h38=>?_⟩;rw[bW h38] at hx hs;refine ap ?_ (fun _=>rfl) (by (simp;omega));refine⟨rfl,by omega,by omega,?_⟩;refine ap ?_ (fun _=>rfl) (by (simp;omega));refine⟨⟨by omega,by omega⟩,?_⟩;exact⟨k+1,((([]:List Int)++(out.take j))++[e38])++(out.drop j),rfl,rfl,⟨by omega,aEm hp h38,aEn hd hj hs hx⟩,by omega⟩
 ·have hE:out=cK l:=aEl ((by rw[aE4 (by omega)] at hp;exact hp:out.Perm l).trans (pF l).symm) hd (aFj l);apply et1
  ·rw[hE]
end Go.Proofs.YtgamjlgfnmpcjaaGreatDoor
