/-
  Contracts and plain laws, joined: part 7.
-/
import Derived.Test.YtafmaholhcgakaaGreatfs5
import Derived.Test.YtafmaholhcgakaaGreatfs4
namespace Go.Proofs.YtafmaholhcgakaaGreat
open Go.ChangeShapes Go.WideShapes Go.ChangeAt Go.RowKit Go.Shelf Go.Lib
set_option linter.unusedVariables false
set_option linter.unusedSimpArgs false
def aFL (l:List (List Int))(i j:Nat):Bool:=decide (l.getD i []=l.getD j [])
def lI (l:List (List Int)):List Nat:=(List.range l.length).filter fun j=>decide (j=0) || !aFL l j (j - 1)
def eG (l:List (List Int)):List (List Int):=(lI l).map fun i=>l.getD i []
theorem aJ6 (l:List (List Int)):kV (aFL l) (List.range l.length).toArray l.length=lI l:=by
 unfold kV lI;have e: ∀j,j<l.length->(List.range l.length).toArray[j]! =j:=fun j hj=>by simp[hj]
 have e1:(List.range l.length).filter (kU (aFL l) (List.range l.length).toArray)=(List.range l.length).filter fun j=>decide (j=0) || !aFL l j (j - 1):=by
  apply List.filter_congr;intro j hj;have hj:=aJy.1 hj;unfold kU;rw[e j hj,e (j - 1) (by omega)]
 rw[e1]
 conv=>rhs;rw[<-List.map_id (List.filter _ _)]
 apply List.map_congr_left;intro j hj;exact e j (aJy.1 (aMX.1 hj).1)
theorem aG3 {α:Type}{l m:List (List α)}(h:List.Sublist l m):List.Sublist l.flatten m.flatten:=by
 induction h with
 | slnil=>exact List.Sublist.refl _
 | cons a _ ih=>rw[aHS];exact ih.trans (List.sublist_append_right _ _)
 | cons_cons a _ ih=>rw[aHS,aHS];exact(List.Sublist.refl a).append ih
theorem aIb {l:List (List Int)}{i:Nat}(h:i∈lI l):i<l.length:=aJy.1 (aMX.1 h).1
set_option maxHeartbeats 2000000 in
theorem aG4 (l:List (List Int))(hl:l.length<4611686018427387904):rA Tryz.prog 187 [.own 0,.fn 188 []] [(0,.arr 34 1 true (l.map aE))] (.own 1) [(1,.arr 34 1 true ((eG l).map aE))]:=by
 refine⟨by kernel_rfl,by simp,fun A φ w vs hI hm=>?_⟩;obtain⟨pl,hp,css,Fs,q1,q2,q3,q4⟩:=hI.dom 0 _ rfl;unfold aL at hm;obtain⟨v,us,e1,m1,hm⟩:=hm;unfold aL at hm;obtain⟨v2,nX,e2,m2,hm⟩:=hm;unfold aL at hm;unfold aF at m1 m2;obtain⟨vs2,ev2,m3⟩:=m2;unfold aL at m3;have hv:=m1 pl hp;have e3:vs2= #[]:=by apply Array.ext';simpa using m3
 have ev:vs= #[pl.val,.func (.func 188) #[] #[]]:=by apply Array.ext';rw[e1,e2,hm,hv,ev2,e3]
 rw[ev];have hnd:=hI.nodup 0 pl hp;have hge:=hI.ge 0 pl hp;have hFe:pl.F=pl.val.ownBlock.toList++Fs.flatten:=by unfold Pl.F;rw[q2,q3]
 have hfoot: ∀b∈pl.F,aDa φ b:=fun b hb=>⟨0,pl,trivial,hp,hb⟩
 have h0: ∀h pl',φ h=some pl' ->h=0:=fun h pl' e' =>by
  cases hr:aS [(0,Rs.arr 34 1 true (l.map aE))] h with
  | none=>rw[hI.non h hr] at e';cases e'
  | some r=>
    simp only[aS] at hr;split at hr
    ·assumption
    cases hr
 obtain⟨lc,lF⟩:=rI q4;rw[aAK] at lc lF
 have hrow: ∀i,i<l.length-> ∃a cap F,css[i]? =some [.slice a (l.getD i []).length cap]/\Fs[i]? =some F/\uO w a (l.getD i [])/\(∀x∈a,x.block∈F)/\(l.getD i []).length<=9223372036854775807/\cD w (aE (l.getD i [])) [.slice a (l.getD i []).length cap] F:=fun i hi=>by
  obtain⟨r,hr⟩:=cT hi;have hg:l.getD i []=r:=by simp[aEP,hr]
  obtain⟨c,F,g1,g2,_,g4⟩:=rJ q4 (show (l.map aE)[i]? =some (aE r) by rw[aMV,hr];rfl);obtain⟨a,cap,rfl,k1,k2,k3⟩:=aLX g4;rw[hg];exact⟨a,cap,F,g1,g2,k1,k2,k3,g4⟩
 have hone: ∀d∈css,d.length=1:=fun d hd=>by
  obtain⟨i,hi⟩:=List.getElem?_of_mem hd;obtain⟨a,cap,F,g1,_⟩:=hrow i (by have:=(aCk.1 hi).1;omega);rw[hi] at g1;injection g1 with g1
  rw[g1];rfl
 let enc:Nat->Value:=fun i=>css.flatten.getD i (.slice none 0 0)
 have henc: ∀i,∃a cap,enc i= .slice a (l.getD i []).length cap/\uO w a (l.getD i [])/\(∀x∈a,x.block∈Fs.flatten)/\(l.getD i []).length<=9223372036854775807:=fun i=>by
  by_cases hi:i<l.length
  ·obtain⟨a,cap,F,g1,g2,g3,g4,g5,_⟩:=hrow i hi;refine⟨a,cap,?_,g3,fun x hx=>List.mem_flatten.2 ⟨F,aBA g2,g4 x hx⟩,g5⟩;show css.flatten.getD i _=_;rw[aEP,jE css i _ hone g1];rfl
  have hg:l.getD i []= []:=by rw[aEP,List.getElem?_eq_none (by omega)];rfl
  rw[hg];refine⟨none,0,?_,fun j x hx=>by simp at hx,by simp,by simp⟩;show css.flatten.getD i _=_;rw[aEP,List.getElem?_eq_none (by rw[rK css hone];omega)];rfl
 have h1:φ 1=none:=hI.non 1 rfl
 have hend: ∀(v' :Value) (w' :World),jH pl.F w w' ->(∀F∈Fs,fT F w w')->(∀b∈v'.ownBlock,b∈pl.val.ownBlock)->w'.ownsRow 0 34 1 v' (lI l).length ((lI l).map enc)->
  ∃v K φ',Ending.returned v' = .returned v/\aHY A φ w [(1,.arr 34 1 true ((eG l).map aE))] K φ' w' /\aF K φ' w' (.own 1) v:=by
  intro v' w' hon hkeep hvb howns
  have hFr:(List.range l.length).map (fun i=>Fs.getD i [])=Fs:=by
   apply List.ext_getElem?;intro i;by_cases hi:i<l.length
   ·simp[hi,show i<Fs.length by omega]
   simp[hi,show ¬i<Fs.length by omega]
  have hsub:List.Sublist ((lI l).map fun i=>Fs.getD i []).flatten Fs.flatten:=by
   have:List.Sublist ((lI l).map fun i=>Fs.getD i []) ((List.range l.length).map fun i=>Fs.getD i []):=List.filter_sublist.map _;rw[hFr] at this;exact aG3 this
  let pl' :Pl:=⟨v',v'.ownBlock.toList,((lI l).map fun i=>Fs.getD i []).flatten⟩
  have hmem: ∀g,g∈pl'.F->g∈pl.F:=fun g hg=>by
   rw[hFe];simp only[pl',Pl.F,aD4,Option.mem_toList] at hg ⊢;rcases hg with h | h
   ·exact .inl (hvb g h)
   exact .inr (List.Sublist.mem h hsub)
  have hnd' :pl'.F.Nodup:=by
   rw[hFe] at hnd;have hn:=aKM.1 hnd;simp only[pl',Pl.F];refine aKM.2 ⟨by cases v'.ownBlock<;>simp,hsub.nodup hn.2.1,fun x hx y hy=>?_⟩;exact hn.2.2 x (by rw[Option.mem_toList] at hx ⊢;exact hvb x hx) y (List.Sublist.mem hy hsub)
  refine⟨_,A,fun h=>if h=1 then some pl' else none,rfl,⟨⟨hon.os,hon.tape,hon.output,hon.size,fun b hb hn=>hon.block b hb (fun hm=>hn (hfoot b hm))⟩,fun _ h=>h,fun b hb=>⟨aKD (hI.lt b hb) hon.size,.inl hb⟩,fun b hb h pl1 e' hm' =>?_,fun h r hr=>?_,fun h hr=>?_,fun h h' pl1 pl2 hne ea eb=>?_,fun h pl1 e' =>?_,fun h pl1 e' g hg=>?_,fun h pl1 pl0 e' e0=>?_⟩,?_⟩
  ·split at e'
   ·injection e' with e';subst e'
    exact hI.out b hb 0 pl hp (hmem b hm')
   cases e'
  ·simp only[aS] at hr;split at hr
   ·rename_i eh;subst eh;injection hr with hr
    subst hr;refine⟨pl',by simp,(lI l).map (fun i=>[enc i]),(lI l).map (fun i=>Fs.getD i []),?_,rfl,rfl,?_⟩
    ·rw[zL enc (lI l),aAK,eG,aAK];exact howns
    rw[eG,List.map_map];refine zK (fun i=>aE (l.getD i [])) (fun i=>[enc i]) (fun i=>Fs.getD i []) fun i hi=>⟨rfl,?_⟩;obtain⟨a,cap,F,g1,g2,g3,g4,g5,g6⟩:=hrow i (aIb hi)
    have ee:enc i= .slice a (l.getD i []).length cap:=by
     show css.flatten.getD i _=_;rw[aEP,jE css i _ hone g1];rfl
    have eF:Fs.getD i []=F:=by simp[aEP,g2]
    rw[ee,eF];exact cD.kept _ _ _ (hkeep F (aBA g2)) g6
   cases hr
  ·simp only[aS] at hr;split at hr
   ·cases hr
   rename_i eh;exact if_neg eh
  ·split at ea
   ·split at eb
    ·rename_i x y;exact absurd (x.trans y.symm) hne
    cases eb
   cases ea
  ·split at e'
   ·injection e' with e';subst e';exact hnd'
   cases e'
  ·split at e'
   ·injection e' with e';subst e'
    have:=hmem g hg;exact⟨.inr (hfoot g this),aKD (hge g this) hon.size⟩
   cases e'
  ·split at e'
   ·rename_i eh;subst eh;rw[h1] at e0;cases e0
   cases e'
  unfold aF;intro pl1 e';simp at e';subst e';rfl
 rw[aAK] at q1;rcases q1.2 with ⟨hvn,hz⟩ | ⟨g,cap,cur,hvv,hg0,hb,hn,hcap,hsz,htk⟩
 ·have hz' :l= []:=aE6 hz;subst hz';rw[hvn]
  have hcon:Calls Tryz.prog 187 #[.slice none 0 0,.func (.func 188) #[] #[]] w fun e w' =>e= .returned (.slice none 0 0)/\w' =w:=by
   clear hend
   go_enter Tryz.func187,Tryz.ntmps187
   go_wp2
   go_ret
   exact⟨rfl,rfl⟩
  refine hcon.mono ?_;rintro en w' ⟨rfl,rfl⟩;exact hend (.slice none 0 0) w' (jH.refl _ _) (fun F hF g hg=>rfl) (fun b hb=>by cases hb) ⟨by simp[lI],.inl ⟨rfl,by simp[lI]⟩⟩
 have hgF:g ∉ Fs.flatten:=fun hm=>by
  rw[hFe,hvv] at hnd;simp only[Value.ownBlock,Option.toList_some,List.cons_append,aMU,List.nodup_cons] at hnd;exact hnd.1 hm
 have hgs:g<w.heap.size:=(Array.getElem?_eq_some_iff.1 hb).1;have hin: ∀b∈Fs.flatten,b<w.heap.size/\b≠g:=fun b hb' =>⟨hge b (by rw[hFe];exact aDU _ hb'),fun e=>hgF (e▸hb')⟩;have hw0: ∀(dk:Array Nat) (q:Nat),Go.Sort.putRow enc (Go.Sort.ahead w q) g 0 dk=sortWorld enc w g 0 q dk #[]:=fun dk q=>by unfold sortWorld;rw[Go.Sort.grow_empty]
 have hcmp: ∀(dk:Array Nat) (q:Nat) (x y:Nat),dk.size=(List.range l.length).toArray.size-> ∀n,Calls Tryz.prog 188 #[enc x,enc y] ((Go.Sort.putRow enc (Go.Sort.ahead w q) g 0 dk).drewN n) fun e w' =>e= .returned (.bool (aFL l x y))/\ ∃qq,w' =((Go.Sort.putRow enc (Go.Sort.ahead w q) g 0 dk).drewN n).drewN qq:=fun dk q x y _ n=>by
  obtain⟨a1,c1,ex,r1,k1,b1⟩:=henc x;obtain⟨a2,c2,ey,r2,k2,b2⟩:=henc y;rw[ex,ey]
  have hk: ∀b,b∈Fs.flatten->((Go.Sort.putRow enc (Go.Sort.ahead w q) g 0 dk).drewN n).heap[b]? =w.heap[b]? :=fun b hb' =>by
   show (Go.Sort.putRow enc (Go.Sort.ahead w q) g 0 dk).heap[b]? =_;rw[hw0];exact mE dk (hin b hb').1 (hin b hb').2
  exact aN0 a1 a2 c1 c2 _ _ _ b1 b2 (wD r1 fun q hq=>hk _ (k1 q hq)) (wD r2 fun q hq=>hk _ (k2 q hq))
 have htk' :cur.toList.take l.length=css.flatten:=by rw[Nat.mul_one] at htk;exact htk
 have hH:Go.Sort.Holds enc w g 0 (List.range l.length).toArray:=fun j hj=>by
  have hj' :j<l.length:=by simpa using hj
  refine⟨?_,by simp[World.frozen?,hb]⟩;have h1:(cur.toList.take l.length)[j]? =css.flatten[j]? :=by rw[htk']
  rw[List.getElem?_take_of_lt hj'] at h1;simp only[World.cell?,hb,Nat.zero_add,Option.isSome_none,Bool.false_eq_true,if_false];rw[<-Array.getElem?_toList,h1];obtain⟨a,cap',F,g1,_⟩:=hrow j hj';have h2:=jE css j _ hone g1
  have ee:enc j= .slice a (l.getD j []).length cap' :=by
   show css.flatten.getD j _=_;rw[aEP,h2];rfl
  have ej:(List.range l.length).toArray[j]! =j:=by simp[hj']
  rw[h2,ej,ee]
 have hone1:OneCell enc:=fun x=>by
  obtain⟨a,c,ex,_⟩:=henc x;rw[ex];rfl
 have hzr:enc l.length= .slice none 0 0:=by
  show css.flatten.getD l.length _=_;rw[aEP,List.getElem?_eq_none (by rw[rK css hone];omega)];rfl
 have hszd:(List.range l.length).toArray.size=l.length:=by simp
 have hcon:=aG2 enc (aFL l) hone1 l.length hzr g 0 cap (List.range l.length).toArray w hH (by rw[hszd];omega) (by rw[hszd];exact hn) hcmp;rw[hszd,aJ6] at hcon;rw[hvv];refine hcon.mono ?_;rintro en w' ⟨rfl,q,rfl⟩
 have hle:(lI l).length<=l.length:=by
  have:=(List.filter_sublist (l:=List.range l.length) (p:=fun j=>decide (j=0) || !aFL l j (j - 1))).length_le;simpa [lI] using this
 have hkb: ∀k,k<w.heap.size->k≠g->(Go.Sort.putRow enc (Go.Sort.ahead w q) g 0 (lI l++List.replicate (l.length - (lI l).length) l.length).toArray).heap[k]? =w.heap[k]? :=fun k hk hne=>by rw[hw0];exact mE _ hk hne
 refine hend _ _ ⟨rfl,rfl,rfl,by simp,fun k hk hne=>hkb k hk (fun e=>hne (by rw[hFe,hvv,e];simp[Value.ownBlock]))⟩
  (fun F hF b hb' =>hkb b (hin b (List.mem_flatten.2 ⟨F,hF,hb'⟩)).1 (hin b (List.mem_flatten.2 ⟨F,hF,hb'⟩)).2)
  (fun b hb' =>by rw[hvv];exact hb') ?_
 rw[hw0];refine⟨by simp,.inr ⟨g,cap,_,rfl,hg0,aA6 _ hb,by omega,hcap,by simp[Go.Sort.putCells,hsz],?_⟩⟩;rw[Nat.mul_one];have:=aC7 enc cur (lI l++List.replicate (l.length - (lI l).length) l.length) (by simp;omega);have h3:=congrArg (List.take (lI l).length) this;rw[List.take_take,aG0,List.take_append_of_le_length (by simp)] at h3;rw[show min (lI l).length (lI l++List.replicate (l.length - (lI l).length) l.length).length=(lI l).length by simp] at h3;rw[h3,aCv (by simp)]
end Go.Proofs.YtafmaholhcgakaaGreat
namespace Go.Proofs.YtafmaholhcgakaaGreat
open Go.ChangeShapes Go.WideShapes Go.ChangeAt Go.RowKit
set_option linter.unusedVariables false
set_option linter.unusedSimpArgs false
set_option maxRecDepth 100000
set_option maxHeartbeats 4000000
abbrev mP (l:List (List Int)):AV × List (Nat × Rs):=(.own 0,[(0,.arr 34 1 true ((eG (cF l)).map aE))])
abbrev qO (l:List (List Int)):Prop:=Cn 143 [.one (.sl 34 1 (l.map aE))] (mP l).1 (mP l).2
theorem aAz (l:List (List Int))(hc:cM l<=1048576):qO l:=by
 refine cq Tryz.func143 (bC (aGX l)<| .callx [.own 0,.fn 186 []] [(0,.arr 34 1 true (l.map aE))] [(0,500)] (.tup []) [(0,.arr 34 1 true ((cF l).map aE))]<| .callx [.own 0,.fn 188 []] [(0,.arr 34 1 true ((cF l).map aE))] [(0,500)] (.own 1) [(1,.arr 34 1 true ((eG (cF l)).map aE))]<| .fin [(0,901)]) (p:=Lx (l.map aE)<| aIa l/\rA Tryz.prog 185 [.own 0,.fn 186 []] [(0,.arr 34 1 true (l.map aE))] (.tup []) [(0,.arr 34 1 true ((cF l).map aE))]/\l.map aE=l.map aE/\rA Tryz.prog 187 [.own 0,.fn 188 []] [(0,.arr 34 1 true ((cF l).map aE))] (.own 1) [(1,.arr 34 1 true ((eG (cF l)).map aE))]/\(cF l).map aE=(cF l).map aE/\(eG (cF l)).map aE=(eG (cF l)).map aE/\True) (by kernel_rfl) ?_;refine lx fun n0=>?_;have hlen:=eV l;refine⟨cpR _ (by omega),aLY l (by omega),rfl,aG4 (cF l) (by (rw[aA5];omega)),rfl,?_⟩;exact⟨rfl,trivial⟩
def jP (t:aJ)(cols:List Int):List (List Int):=t.rows.map fun r=>(fC r cols).1
def gG (all:List (List Int))(g:List Int):Int:=(((all.filter fun x=>decide (g=x)).length:Nat):Int)
def aLZ (t:aJ)(cols:List Int):List (List Int):=eG (cF (jP t cols))
def aL0 (t:aJ)(cols:List Int):List Int:=(aLZ t cols).map (gG (jP t cols))
def fQ (t:aJ)(cols:List Int):List (List Int) × List Int:=if (aP t&&cV (t.arity - 1) cols)=true then (aLZ t cols,aL0 t cols) else ([],[])
theorem uP {t:aJ}{cols:List Int}(h:(aP t&&cV (t.arity - 1) cols)=true):fQ t cols=(aLZ t cols,aL0 t cols):=by rw[fQ,if_pos h]
theorem aB7 {t:aJ}{cols:List Int}(h:(aP t&&cV (t.arity - 1) cols)=false):fQ t cols=([],[]):=by rw[fQ,if_neg (by rw[h];decide)]
theorem aIc {all:List (List Int)}{g x:List Int}{j:Nat}(hx:all[j]? =some x)(h:g=x):gG (all.take (j+1)) g=gG (all.take j) g+1:=by
 subst h;rw[gG,gG,cC hx,List.filter_append];simp
theorem aL1 {all:List (List Int)}{g x:List Int}{j:Nat}(hx:all[j]? =some x)(h: ¬g=x):gG (all.take (j+1)) g=gG (all.take j) g:=by
 rw[gG,gG,cC hx,List.filter_append];simp[h]
theorem aL2 (all:List (List Int))(g:List Int):0<=gG all g/\gG all g<=all.length:=by
 have:=List.length_filter_le (fun x=>decide (g=x)) all;unfold gG;omega
theorem aG5 {b:Int}{cols:List Int}(h:cV b cols=true): ∀i,i<cols.length->(i:Int)<=cols.getD i 0/\cols.getD i 0<=b
 | 0,hi=>by
   have:=aDT.1 h 0 (aJy.2 hi);simp only[gO,aAO] at this;have:=jQ this.1;exact⟨by simpa using this.1,this.2⟩
 | i+1,hi=>by
   have ih:=aG5 h i (by omega);have:=aDT.1 h (i+1) (aJy.2 hi);simp only[gO,aAO,Bool.or_eq_true,aKQ,Nat.add_sub_cancel] at this;have h2:=jQ this.1;rcases this.2 with q | q
   ·omega
   exact⟨by omega,h2.2⟩
theorem zM {b:Int}{cols:List Int}(h:cV b cols=true)(hb:b<=2):cols.length<=3:=by
 by_cases h3:3<cols.length
 ·have:=aG5 h 3 h3;omega
 omega
theorem xO {α:Type}{ct:α->Nat}{m:Nat}: ∀{l:List α},(∀x∈l,ct x<=m)->aDX ct l<=l.length*m
 | [],_=>by simp[aDX]
 | a::l,h=>by
   have h1:=h a (by simp);have h2:=xO (l:=l) fun x hx=>h x (by simp[hx]);simp only[aDX,aGQ,List.sum_cons,aIl,Nat.add_mul,Nat.one_mul] at*;omega
theorem nV {l:List (List Int)}{m:Nat}(h: ∀r∈l,r.length<=m):cM l<=l.length+l.length*m:=by
 have h1:=xO (ct:=fL) (m:=m) (l:=l) fun r hr=>h r hr;have h2:cM l=l.length+aDX fL l:=rfl;omega
theorem aC8 {t:aJ}{cols:List Int}(h:(aP t&&cV (t.arity - 1) cols)=true):(jP t cols).length<=8/\cM (jP t cols)<=32:=by
 rw[aAO] at h;have ha:=bI h.1;have hc:=zM h.2 (by omega);have hl:(jP t cols).length=t.rows.length:=aAK _
 have:=nV (l:=jP t cols) (m:=3) fun r hr=>by
  obtain⟨q,_,rfl⟩:=aID.1 hr;have:=aC3 q cols;omega
 omega
theorem aL3 (l:List (List Int)):(eG (cF l)).length<=l.length:=by
 rw[eG,aAK,<-aA5 l];have:=(List.filter_sublist (l:=List.range (cF l).length) (p:=fun j=>decide (j=0) || !aFL (cF l) j (j - 1))).length_le;rw[List.length_range] at this;exact this
theorem aPG {α:Type}{l:List α}{i:Nat}{x y:α}(h:(l.set i x)[i]? =some y):y=x:=aPE h
theorem aJ7 {f:List Int->Int}{l:List (List Int)}{i:Nat}(h:i<l.length):((l.take i).map f++List.replicate (l.length - i) (0:Int)).set i 0=(l.take i).map f++List.replicate (l.length - i) 0:=by
 rw[show l.length - i=(l.length - (i+1))+1 by omega,List.replicate_succ,List.set_append_right _ _ (by simp;omega)];simp[show i - min i l.length=0 by omega]
theorem aL4 {f:List Int->Int}{l:List (List Int)}{i:Nat}{x:List Int}(h:l[i]? =some x):((l.take i).map f++List.replicate (l.length - i) (0:Int)).set i (f x)=(l.take (i+1)).map f++List.replicate (l.length - (i+1)) 0:=by
 have hi:i<l.length:=(aCk.1 h).1;rw[show l.length - i=(l.length - (i+1))+1 by omega,List.replicate_succ,List.set_append_right _ _ (by simp;omega),cC h];simp[show i - min i l.length=0 by omega]
theorem aHa {f:List Int->Int}{l:List (List Int)}{i:Nat}(h:i<=l.length)(h' : ¬i<l.length):(l.take i).map f++List.replicate (l.length - i) (0:Int)=l.map f:=by
 rw[show i=l.length by omega];simp
abbrev xP (t:aJ)(cols:List Int):AV × List (Nat × Rs):=(.tup [.own 0,.own 1],[(0,.arr 34 1 true ((fQ t cols).1.map aE)),(1,.arr 3 1 true ((fQ t cols).2.map intD))])
abbrev aC9 (t:aJ)(cols:List Int):Prop:=Cn 107 [.agg [.str t.name,.int .i64 t.arity,.sl 34 1 (t.rows.map aE)],.one (.sl 3 1 (cols.map intD))] (xP t cols).1 (xP t cols).2
theorem aL5 (t:aJ)(cols:List Int)(hl:cols.length<=1048576):aC9 t cols:=by
 refine cq Tryz.func107 (.call (vB (aP t)) []<| .br (.fin []) (.call (vB (cV (t.arity - 1) cols)) []<| .lit<| .lit<| .br (.fin []) (.len t.rows.length<| .loop (Nat × (List (List Int))) (Q2 Nat (List (List Int))) ([6,8,9,10,27]++rg 31 15) [2700,3800,4300,4400] (fun yy0=>[(31,vI (yy0.1:Int)),(6,.own 2700)]) (fun yy0=>[(2700,some (.arr 34 1 true (yy0.2.map aE)))]) (fun yy0=>yy0.1<=t.rows.length/\yy0.2=(t.rows.take yy0.1).map fun r=>(fC r cols).1) (fun yy0=>t.rows.length - yy0.1) (fun yy0=> .br (.elem _ aE t.rows (fun e33=>bC (oX e33 cols)<| .appx (List Int) aE yy0.2 ((fC e33 cols).1)<| .back [(2700,4400)])) (bC (mP yy0.2)<| .len ((eG (cF yy0.2)).length)<| .mk ((eG (cF yy0.2)).length) [.int .i64 (0:Int)] ((List.replicate ((eG (cF yy0.2)).length) (0:Int)).map intD)<| .len ((eG (cF yy0.2)).length)<| .loop (Nat × (List Int)) (Q2 Nat (List Int)) ([13,14,16]++rg 53 22) [5000] (fun yy1=>[(53,vI (yy1.1:Int))]) (fun yy1=>[(5000,some (.arr 3 1 true (yy1.2.map intD)))]) (fun yy1=>yy1.1<=(eG (cF yy0.2)).length/\yy1.2=((eG (cF yy0.2)).take yy1.1).map (gG yy0.2)++List.replicate ((eG (cF yy0.2)).length - yy1.1) 0/\yy1.2.length=(eG (cF yy0.2)).length) (fun yy1=>(eG (cF yy0.2)).length - yy1.1) (fun yy1=> .br (.len ((eG (cF yy0.2)).length)<| .elem _ aE (eG (cF yy0.2)) (fun e57=> .len yy0.2.length<| .loop (Nat × (List Int) × Int) (Q3 Nat (List Int) Int) ([16]++rg 60 14) [5000] (fun yy2=>[(60,vI (yy2.1:Int))]) (fun yy2=>[(5000,some (.arr 3 1 true (yy2.2.1.map intD)))]) (fun yy2=>yy2.1<=yy0.2.length/\yy2.2.1=yy1.2.set yy1.1 yy2.2.2/\yy2.2.2=gG (yy0.2.take yy2.1) e57) (fun yy2=>yy0.2.length - yy2.1) (fun yy2=> .br (.len yy0.2.length<| .elem _ aE yy0.2 (fun e63=> .call (vB (decide (e57=e63))) []<| .br (.len yy2.2.1.length<| .elem _ intD yy2.2.1 (fun e70=> .len yy2.2.1.length<| .set Int intD yy2.2.1 (fun s19_6=>e70+1) (fun s19_6=> .back [(5000,5000)]))) (.back [(5000,5000)]))) (.back [(5000,5000)])))) (.fin [(0,4700),(1,5000)]))))))) (p:=Lx (t.rows.map aE)<| Lx (cols.map intD)<| kJ t/\Nr (aP t) ([]=(fQ t cols).1.map aE/\[]=(fQ t cols).2.map intD/\True) (uM cols t.arity/\Nr (cV (t.arity - 1) cols) ([]=(fQ t cols).1.map aE/\[]=(fQ t cols).2.map intD/\True) (Lm aE t.rows/\((∃(k:Nat) (out:List (List Int)),0=(k:Int)/\[]=out.map aE/\k<=t.rows.length/\out=(t.rows.take k).map fun r=>(fC r cols).1)/\ ∀(k:Nat) (out:List (List Int)),(k<=t.rows.length/\out=(t.rows.take k).map fun r=>(fC r cols).1)->Br ((k:Int)<(t.rows.length:Int)) (0<=(k:Int)/\Em aE t.rows k fun e33=>sH e33 cols/\out.map aE=out.map aE/\(fC e33 cols).1.map intD=(fC e33 cols).1.map intD/\(out.length+1)*24<=140737488355328/\cW ((k:Int)+1)/\ ∃(k' :Nat) (out' :List (List Int)),((k:Int)+1)=(k' :Int)/\(out++[(fC e33 cols).1]).map aE=out'.map aE/\(k' <=t.rows.length/\out' =(t.rows.take k').map fun r=>(fC r cols).1)/\t.rows.length - k' <t.rows.length - k) (qO out/\(Lm aE (eG (cF out))/\((((eG (cF out)).length:Nat):Int)=(((eG (cF out)).length:Nat):Int)/\(((eG (cF out)).length:Nat):Int)=(((eG (cF out)).length:Nat):Int)/\8*((eG (cF out)).length)<=281474976710656/\((eG (cF out)).length)<=9223372036854775807/\List.replicate ((eG (cF out)).length) [.int .i64 (0:Int)]=(List.replicate ((eG (cF out)).length) (0:Int)).map intD/\(Lm aE (eG (cF out))/\((∃(i:Nat) (c:List Int),0=(i:Int)/\(List.replicate ((eG (cF out)).length) (0:Int)).map intD=c.map intD/\i<=(eG (cF out)).length/\c=((eG (cF out)).take i).map (gG out)++List.replicate ((eG (cF out)).length - i) 0/\c.length=(eG (cF out)).length)/\ ∀(i:Nat) (c:List Int),(i<=(eG (cF out)).length/\c=((eG (cF out)).take i).map (gG out)++List.replicate ((eG (cF out)).length - i) 0/\c.length=(eG (cF out)).length)->Br ((i:Int)<(((eG (cF out)).length:Nat):Int)) (0<=(i:Int)/\Lm aE (eG (cF out))/\(i:Int)<(((eG (cF out)).length:Nat):Int)/\Em aE (eG (cF out)) i fun e57=>Lm aE out/\((∃(j:Nat) (c2:List Int) (z:Int),0=(j:Int)/\c.map intD=c2.map intD/\j<=out.length/\c2=c.set i z/\z=gG (out.take j) e57)/\ ∀(j:Nat) (c2:List Int) (z:Int),(j<=out.length/\c2=c.set i z/\z=gG (out.take j) e57)->Br ((j:Int)<(out.length:Int)) (0<=(j:Int)/\Lm aE out/\(j:Int)<(out.length:Int)/\Em aE out j fun e63=>kT e57 e63/\Br (e57=e63) (0<=(i:Int)/\Lm intD c2/\(i:Int)<(c2.length:Int)/\Em intD c2 i fun e70=>cW (e70+1)/\(0<=(i:Int)/\Lm intD c2/\(i:Int)<(c2.length:Int)/\(c2.map intD=c2.map intD/\i<c2.length/\ ∀s19_6,c2[i]? =some s19_6->tP (intD s19_6)=true/\0+1<=(intD s19_6).length/\(intD s19_6).take 0++[.int .i64 (e70+1)]++(intD s19_6).drop (0+1)=intD (e70+1)/\cW ((j:Int)+1)/\ ∃(j' :Nat) (c2' :List Int) (z' :Int),((j:Int)+1)=(j' :Int)/\(c2.set i (e70+1)).map intD=c2'.map intD/\(j' <=out.length/\c2' =c.set i z' /\z' =gG (out.take j') e57)/\out.length - j' <out.length - j))) (cW ((j:Int)+1)/\ ∃(j' :Nat) (c2' :List Int) (z' :Int),((j:Int)+1)=(j' :Int)/\c2.map intD=c2'.map intD/\(j' <=out.length/\c2' =c.set i z' /\z' =gG (out.take j') e57)/\out.length - j' <out.length - j)) (cW ((i:Int)+1)/\ ∃(i' :Nat) (c' :List Int),((i:Int)+1)=(i' :Int)/\c2.map intD=c'.map intD/\(i' <=(eG (cF out)).length/\c' =((eG (cF out)).take i').map (gG out)++List.replicate ((eG (cF out)).length - i') 0/\c'.length=(eG (cF out)).length)/\(eG (cF out)).length - i' <(eG (cF out)).length - i))) ((eG (cF out)).map aE=(fQ t cols).1.map aE/\c.map intD=(fQ t cols).2.map intD/\True)))))))))) (by kernel_rfl) ?_;refine lx fun n0=>lx fun n1=>?_;refine⟨rG t,dm (fun g20=>?_) fun g20=>?_⟩
 ·have hbad:(aP t&&cV (t.arity - 1) cols)=false:=by rw[g20];rfl
  apply et2<;>((rw[aB7 hbad]<;>rfl))
 ·have hT:=bI g20;refine⟨aES _ _ (by omega),dm (fun c0=>?_) fun c0=>?_⟩
  ·have hbad:(aP t&&cV (t.arity - 1) cols)=false:=by rw[g20,c0];rfl
   apply et2<;>((rw[aB7 hbad]<;>rfl))
  ·have hok:(aP t&&cV (t.arity - 1) cols)=true:=by rw[g20,c0];rfl
   obtain⟨hs1,hs2⟩:=aC8 hok;refine⟨aAK _,⟨0,([]:List (List Int)),rfl,rfl,aAd _,rfl⟩,fun k out ⟨hk,ho⟩=>?_⟩;refine dd (fun c1=>?_) fun c1=>?_
   ·refine⟨by omega,rfl,by omega,fun e33 h33=>?_⟩;refine⟨aC4 _ _ (by omega),rfl,rfl,by (simp[ho];omega),⟨by omega,by omega⟩,?_⟩;exact⟨k+1,_,rfl,rfl,⟨by omega,by rw[ho,cC h33,aG0];rfl⟩,by omega⟩
   ·have hA:out=jP t cols:=by rw[ho,aCv (by omega)];rfl
    rw[<-hA] at hs1 hs2;have hd:=aL3 out;refine⟨aAz out (by omega),aAK _,rfl,rfl,by omega,by omega,by (rw[List.map_replicate];done),aAK _,⟨0,List.replicate ((eG (cF out)).length) (0:Int),rfl,rfl,aAd _,by simp,aMW⟩,fun i c ⟨hi,hc,hcn⟩=>?_⟩;refine dd (fun c2=>?_) fun c2=>?_
    ·refine⟨by omega,aAK _,by omega,rfl,by omega,fun e57 h57=>?_⟩;refine⟨aAK _,⟨0,c,0,rfl,rfl,aAd _,by rw[hc];exact(aJ7 (by omega)).symm,rfl⟩,fun j c2 z ⟨hj,hc2,hz⟩=>?_⟩;refine dd (fun c3=>?_) fun c3=>?_
     ·refine⟨by omega,aAK _,by omega,rfl,by omega,fun e63 h63=>?_⟩;refine⟨sE _ _,dd (fun c4=>?_) fun c4=>?_⟩
      ·refine⟨by omega,aAK _,by (rw[hc2,aEj,hcn];omega),rfl,by (rw[hc2,aEj,hcn];omega),fun e70 h70=>?_⟩;have hz70:e70=z:=by rw[hc2] at h70;exact(aPG h70)
       have hcl:=aL2 (out.take j) e57;have hjl:(out.take j).length<=out.length:=by simp;omega
       refine⟨⟨by omega,by omega⟩,by omega,aAK _,by (rw[hc2,aEj,hcn];omega),rfl,by (rw[hc2,aEj,hcn];omega),fun s19_6 hs19_6=>⟨rfl,aBH rfl,rfl,?_⟩⟩;refine⟨⟨by omega,by omega⟩,?_⟩;exact⟨j+1,_,_,rfl,rfl,⟨by omega,by rw[hc2,List.set_set,hz70],by rw[hz,aIc h63 c4]⟩,by omega⟩
      ·refine⟨⟨by omega,by omega⟩,?_⟩;exact⟨j+1,_,_,rfl,rfl,⟨by omega,hc2,by rw[hz,aL1 h63 c4]⟩,by omega⟩
     ·have hj9:j=out.length:=by omega
      rw[hj9,aKE] at hz;refine⟨⟨by omega,by omega⟩,?_⟩;exact⟨i+1,_,rfl,rfl,⟨by omega,by rw[hc2,hz,hc];exact aL4 h57,by rw[hc2,aEj];exact hcn⟩,by omega⟩
    ·have hC:c=aL0 t cols:=by rw[hc,aHa hi (by omega),hA];rfl
     apply et2<;>(first|(rw[uP hok,hA]<;>rfl)|(rw[uP hok,hC]<;>rfl))
theorem aG6 {α:Type}(f:α->Nat){x:α}: ∀{l:List α},x∈l->f x<=aDX f l
 | a::l,h=>by
   simp only[aDX,aGQ,List.sum_cons];rcases aHB.1 h with q | q
   ·subst q;omega
   have:=aG6 f q;simp only[aDX] at this;omega
theorem oF {l:List (List Int)}{i:Nat}{x:List Int}(h:l[i]? =some x):x.length<=cM l:=by
 have h1:cM l=l.length+aDX fL l:=rfl;have h2:x.length<=aDX fL l:=aG6 fL (aBA h);omega
def pgo (row:List Int):Bool->List (List Int)->List (List Int)
 | p,[]=>if p=true then [] else [row]
 | p,x::xs=>if 0<bM x row/\p=false then row::x::pgo row true xs else x::pgo row (p || decide (bM x row=0)) xs
def iY (row:List Int)(rows:List (List Int)):List (List Int):=pgo row false rows
theorem aL6 {row x:List Int}{xs:List (List Int)}(h:0<bM x row):pgo row false (x::xs)=row::x::pgo row true xs:=by rw[pgo,if_pos ⟨h,rfl⟩]
theorem aHb {row x:List Int}{xs:List (List Int)}{p:Bool}(h:bM x row=0):pgo row p (x::xs)=x::pgo row true xs:=by rw[pgo,if_neg (by omega),h];simp
theorem aL7 {row x:List Int}{xs:List (List Int)}:pgo row true (x::xs)=x::pgo row true xs:=by rw[pgo,if_neg (by simp)];rfl
theorem aL8 {row x:List Int}{xs:List (List Int)}{p:Bool}(h: ¬0<bM x row)(h' : ¬bM x row=0):pgo row p (x::xs)=x::pgo row p xs:=by rw[pgo,if_neg (by omega)];simp[h']
abbrev oZ (rows:List (List Int))(row:List Int):AV × List (Nat × Rs):=(.own 0,[(0,.arr 34 1 true ((iY row rows).map aE))])
abbrev sI (rows:List (List Int))(row:List Int):Prop:=Cn 154 [.one (.sl 34 1 (rows.map aE)),.one (.sl 3 1 (row.map intD))] (oZ rows row).1 (oZ rows row).2
theorem aCa (rows:List (List Int))(row:List Int)(hl:rows.length<=1000000)(hc:cM rows<=1048576)(hr:row.length<=1048576):sI rows row:=by
 refine cq Tryz.func154 (.loop (Nat × (List (List Int)) × Bool) (Q3 Nat (List (List Int)) Bool) (rg 5 40) [900,3100,3300,3400,3500,3700,4200,4300,4400] (fun yy0=>[(7,vI (yy0.1:Int)),(5,.own 900),(6,vB yy0.2.2)]) (fun yy0=>[(900,some (.arr 34 1 true (yy0.2.1.map aE)))]) (fun yy0=>yy0.1<=rows.length/\yy0.2.1.length<=2*yy0.1/\yy0.2.1++pgo row yy0.2.2 (rows.drop yy0.1)=iY row rows) (fun yy0=>rows.length - yy0.1) (fun yy0=> .len rows.length<| .br (.elem _ aE rows (fun e18=> .call (vI (bM e18 row)) []<| .br (.br (.elem _ aE rows (fun e40=> .app Int intD ([]:List Int) e40<| .appx (List Int) aE yy0.2.1 (([]:List Int)++e40)<| .back [(900,4400)])) (.elem _ aE rows (fun e40=> .app Int intD ([]:List Int) e40<| .appx (List Int) aE yy0.2.1 (([]:List Int)++e40)<| .back [(900,4400)]))) (.br (.lit<| .lit<| .br (.app Int intD ([]:List Int) row<| .appx (List Int) aE yy0.2.1 (([]:List Int)++row)<| .elem _ aE rows (fun e40=> .app Int intD ([]:List Int) e40<| .appx (List Int) aE (yy0.2.1++[([]:List Int)++row]) (([]:List Int)++e40)<| .back [(900,4400)])) (.elem _ aE rows (fun e40=> .app Int intD ([]:List Int) e40<| .appx (List Int) aE yy0.2.1 (([]:List Int)++e40)<| .back [(900,4400)]))) (.elem _ aE rows (fun e40=> .app Int intD ([]:List Int) e40<| .appx (List Int) aE yy0.2.1 (([]:List Int)++e40)<| .back [(900,4400)]))))) (.br (.app Int intD ([]:List Int) row<| .appx (List Int) aE yy0.2.1 (([]:List Int)++row)<| .fin [(0,5200)]) (.fin [(0,900)])))) (p:=Lx (rows.map aE)<| Lx (row.map intD)<| (∃(k:Nat) (out:List (List Int)) (p:Bool),0=(k:Int)/\(false)=p/\[]=out.map aE/\k<=rows.length/\out.length<=2*k/\out++pgo row p (rows.drop k)=iY row rows)/\ ∀(k:Nat) (out:List (List Int)) (p:Bool),(k<=rows.length/\out.length<=2*k/\out++pgo row p (rows.drop k)=iY row rows)->Lm aE rows/\Br ((k:Int)<(rows.length:Int)) (0<=(k:Int)/\Em aE rows k fun e18=>dA e18 row/\Br ((bM e18 row)=0) (Br (0<(bM e18 row)) (0<=(k:Int)/\Em aE rows k fun e40=>Ap intD ([]:List Int) e40 8 (out.map aE=out.map aE/\(([]:List Int)++e40).map intD=(([]:List Int)++e40).map intD/\(out.length+1)*24<=140737488355328/\cW ((k:Int)+1)/\ ∃(k' :Nat) (out' :List (List Int)) (p' :Bool),((k:Int)+1)=(k' :Int)/\(true)=p' /\(out++[([]:List Int)++e40]).map aE=out'.map aE/\(k' <=rows.length/\out'.length<=2*k' /\out' ++pgo row p' (rows.drop k')=iY row rows)/\rows.length - k' <rows.length - k)) (0<=(k:Int)/\Em aE rows k fun e40=>Ap intD ([]:List Int) e40 8 (out.map aE=out.map aE/\(([]:List Int)++e40).map intD=(([]:List Int)++e40).map intD/\(out.length+1)*24<=140737488355328/\cW ((k:Int)+1)/\ ∃(k' :Nat) (out' :List (List Int)) (p' :Bool),((k:Int)+1)=(k' :Int)/\(true)=p' /\(out++[([]:List Int)++e40]).map aE=out'.map aE/\(k' <=rows.length/\out'.length<=2*k' /\out' ++pgo row p' (rows.drop k')=iY row rows)/\rows.length - k' <rows.length - k))) (Br (0<(bM e18 row)) (Nr (p) (Ap intD ([]:List Int) row 8 (out.map aE=out.map aE/\(([]:List Int)++row).map intD=(([]:List Int)++row).map intD/\(out.length+1)*24<=140737488355328/\0<=(k:Int)/\Em aE rows k fun e40=>Ap intD ([]:List Int) e40 8 ((out++[([]:List Int)++row]).map aE=(out++[([]:List Int)++row]).map aE/\(([]:List Int)++e40).map intD=(([]:List Int)++e40).map intD/\((out++[([]:List Int)++row]).length+1)*24<=140737488355328/\cW ((k:Int)+1)/\ ∃(k' :Nat) (out' :List (List Int)) (p' :Bool),((k:Int)+1)=(k' :Int)/\(true)=p' /\((out++[([]:List Int)++row])++[([]:List Int)++e40]).map aE=out'.map aE/\(k' <=rows.length/\out'.length<=2*k' /\out' ++pgo row p' (rows.drop k')=iY row rows)/\rows.length - k' <rows.length - k))) (0<=(k:Int)/\Em aE rows k fun e40=>Ap intD ([]:List Int) e40 8 (out.map aE=out.map aE/\(([]:List Int)++e40).map intD=(([]:List Int)++e40).map intD/\(out.length+1)*24<=140737488355328/\cW ((k:Int)+1)/\ ∃(k' :Nat) (out' :List (List Int)) (p' :Bool),((k:Int)+1)=(k' :Int)/\(p)=p' /\(out++[([]:List Int)++e40]).map aE=out'.map aE/\(k' <=rows.length/\out'.length<=2*k' /\out' ++pgo row p' (rows.drop k')=iY row rows)/\rows.length - k' <rows.length - k))) (0<=(k:Int)/\Em aE rows k fun e40=>Ap intD ([]:List Int) e40 8 (out.map aE=out.map aE/\(([]:List Int)++e40).map intD=(([]:List Int)++e40).map intD/\(out.length+1)*24<=140737488355328/\cW ((k:Int)+1)/\ ∃(k' :Nat) (out' :List (List Int)) (p' :Bool),((k:Int)+1)=(k' :Int)/\(p)=p' /\(out++[([]:List Int)++e40]).map aE=out'.map aE/\(k' <=rows.length/\out'.length<=2*k' /\out' ++pgo row p' (rows.drop k')=iY row rows)/\rows.length - k' <rows.length - k)))) (Nr (p) (Ap intD ([]:List Int) row 8 (out.map aE=out.map aE/\(([]:List Int)++row).map intD=(([]:List Int)++row).map intD/\(out.length+1)*24<=140737488355328/\(out++[([]:List Int)++row]).map aE=(iY row rows).map aE/\True)) (out.map aE=(iY row rows).map aE/\True))) (by kernel_rfl) ?_;refine lx fun n0=>lx fun n1=>?_;refine⟨⟨0,([]:List (List Int)),false,rfl,rfl,rfl,aAd _,by simp,rfl⟩,fun k out p ⟨hk,ho,hv⟩=>?_⟩;refine⟨aAK _,dd (fun c0=>?_) fun c0=>?_⟩
 ·refine⟨by omega,rfl,by omega,fun e18 h18=>?_⟩;have hsz:=oF h18;refine⟨eI _ _,dd (fun c1=>?_) fun c1=>?_⟩
  ·refine dd (fun g26=>?_) fun g26=>?_
   ·refine⟨by omega,rfl,by omega,fun e40 h40=>?_⟩;obtain rfl:=(bA h18 h40).symm;refine ap ?_ (fun _=>rfl) (by omega);refine⟨rfl,rfl,by omega,⟨by omega,by omega⟩,?_⟩;exact⟨k+1,_,_,rfl,rfl,rfl,⟨by omega,by simp;omega,by rw[<-hv,dS h18];(rw[aHb c1];simp;done)⟩,by omega⟩
   ·refine⟨by omega,rfl,by omega,fun e40 h40=>?_⟩;obtain rfl:=(bA h18 h40).symm;refine ap ?_ (fun _=>rfl) (by (simp;omega));refine⟨rfl,rfl,by omega,⟨by omega,by omega⟩,?_⟩;exact⟨k+1,_,_,rfl,rfl,rfl,⟨by omega,by simp;omega,by rw[<-hv,dS h18];(rw[aHb c1];simp;done)⟩,by omega⟩
  ·refine dd (fun g26=>?_) fun g26=>?_
   ·refine dm (fun c2=>?_) fun c2=>?_
    ·refine ap ?_ (fun _=>rfl) (by (simp;omega));refine⟨rfl,rfl,by omega,by omega,rfl,by omega,fun e40 h40=>?_⟩;obtain rfl:=(bA h18 h40).symm;refine ap ?_ (fun _=>rfl) (by (simp;omega));refine⟨rfl,rfl,by (simp;omega),⟨by omega,by omega⟩,?_⟩;exact⟨k+1,_,_,rfl,rfl,rfl,⟨by omega,by simp;omega,by rw[<-hv,dS h18];(subst c2;rw[aL6 g26];simp;done)⟩,by omega⟩
    ·refine⟨by omega,rfl,by omega,fun e40 h40=>?_⟩;obtain rfl:=(bA h18 h40).symm;refine ap ?_ (fun _=>rfl) (by (simp;omega));refine⟨rfl,rfl,by omega,⟨by omega,by omega⟩,?_⟩;exact⟨k+1,_,_,rfl,rfl,rfl,⟨by omega,by simp;omega,by rw[<-hv,dS h18];(subst c2;rw[aL7];simp;done)⟩,by omega⟩
   ·refine⟨by omega,rfl,by omega,fun e40 h40=>?_⟩;obtain rfl:=(bA h18 h40).symm;refine ap ?_ (fun _=>rfl) (by (simp;omega));refine⟨rfl,rfl,by omega,⟨by omega,by omega⟩,?_⟩;exact⟨k+1,_,_,rfl,rfl,rfl,⟨by omega,by simp;omega,by rw[<-hv,dS h18];(rw[aL8 g26 c1];simp;done)⟩,by omega⟩
 ·refine dm (fun c3=>?_) fun c3=>?_
  ·refine ap ?_ (fun _=>rfl) (by (simp;omega));refine⟨rfl,rfl,by omega,?_,trivial⟩
   ·rw[<-hv,oW (by omega),pgo];simp[c3]
  ·apply et1
   ·rw[<-hv,oW (by omega),pgo];simp[c3]
theorem aCb {row:List Int}: ∀xs:List (List Int),pgo row true xs=xs
 | []=>rfl
 | x::xs=>by rw[aL7,aCb xs]
theorem aCc {row:List Int}:iY row []= [row]:=rfl
theorem aFM {row x:List Int}{xs:List (List Int)}(h:0<bM x row):iY row (x::xs)=row::x::xs:=by rw[iY,aL6 h,aCb]
theorem aFN {row x:List Int}{xs:List (List Int)}(h:bM x row=0):iY row (x::xs)=x::xs:=by rw[iY,aHb h,aCb]
theorem aFO {row x:List Int}{xs:List (List Int)}(h: ¬0<bM x row)(h' : ¬bM x row=0):iY row (x::xs)=x::iY row xs:=by rw[iY,aL8 h h',iY]
theorem zN {row y:List Int}: ∀{xs:List (List Int)},y∈iY row xs↔y=row\/y∈xs
 | []=>by simp[aCc]
 | x::xs=>by
   by_cases h:0<bM x row
   ·rw[aFM h];simp
   by_cases h' :bM x row=0
   ·rw[aFN h',cQ.1 h'];constructor
    ·exact Or.inr
    rintro(rfl | q)
    ·simp
    exact q
   rw[aFO h h',aHB,aHB,zN];constructor
   ·rintro(q | q | q)
    ·exact .inr (.inl q)
    ·exact .inl q
    exact .inr (.inr q)
   rintro(q | q | q)
   ·exact .inr (.inl q)
   ·exact .inl q
   exact .inr (.inr q)
abbrev Asc (l:List (List Int)):Prop:=l.Pairwise fun a b=>bM a b<0
theorem aG7 {row:List Int}: ∀{xs:List (List Int)},Asc xs->Asc (iY row xs)
 | [],_=>by rw[aCc];exact List.pairwise_singleton _ _
 | x::xs,hx=>by
   have h1:=List.pairwise_cons.1 hx;by_cases h:0<bM x row
   ·rw[aFM h];refine List.pairwise_cons.2 ⟨fun y hy=>?_,hx⟩;have hrx:bM row x<0:=oE.2 h;rcases aHB.1 hy with rfl | q
    ·exact hrx
    exact kL hrx (h1.1 y q)
   by_cases h' :bM x row=0
   ·rw[aFN h'];exact hx
   rw[aFO h h'];refine List.pairwise_cons.2 ⟨fun y hy=>?_,aG7 h1.2⟩;rcases zN.1 hy with rfl | q
   ·omega
   exact h1.1 y q
theorem aCd {row:List Int}: ∀{xs:List (List Int)},(iY row xs).length<=xs.length+1
 | []=>by simp[aCc]
 | x::xs=>by
   by_cases h:0<bM x row
   ·rw[aFM h];simp
   by_cases h' :bM x row=0
   ·rw[aFN h'];simp
   rw[aFO h h'];have:=aCd (row:=row) (xs:=xs);simp only[aIl];omega
def gP (l:List (List Int)):List (List Int):=l.foldl (fun acc x=>iY x acc) []
theorem uQ (l:List (List Int)): ∀acc,Asc acc->Asc (l.foldl (fun acc x=>iY x acc) acc)/\(∀y,y∈l.foldl (fun acc x=>iY x acc) acc↔y∈acc\/y∈l)/\(l.foldl (fun acc x=>iY x acc) acc).length<=acc.length+l.length:=by
 induction l with
 | nil=>intro acc h;simp[h]
 | cons x l ih=>
   intro acc h;obtain⟨h1,h2,h3⟩:=ih _ (aG7 (row:=x) h);refine⟨h1,fun y=>?_,?_⟩
   ·rw[List.foldl_cons,h2,zN,aHB];constructor
    ·rintro((q | q) | q)
     ·exact .inr (.inl q)
     ·exact .inl q
     exact .inr (.inr q)
    rintro(q | q | q)
    ·exact .inl (.inr q)
    ·exact .inl (.inl q)
    exact .inr q
   have:=aCd (row:=x) (xs:=acc);rw[List.foldl_cons,aIl];omega
theorem zO {l:List (List Int)}{x:List Int}:gP (l++[x])=iY x (gP l):=by simp[gP,List.foldl_append]
theorem aFP: ∀{l m:List (List Int)},Asc l->Asc m->(∀x,x∈l↔x∈m)->l=m
 | [],[],_,_,_=>rfl
 | [],b::m,_,_,h=>by have:=(h b).2 (by simp);simp at this
 | a::l,[],_,_,h=>by have:=(h a).1 (by simp);simp at this
 | a::l,b::m,hl,hm,h=>by
   have hl' :=List.pairwise_cons.1 hl;have hm' :=List.pairwise_cons.1 hm
   have hab:a=b:=by
    rcases aHB.1 ((h a).1 (by simp)) with q | q
    ·exact q
    rcases aHB.1 ((h b).2 (by simp)) with r | r
    ·exact r.symm
    have h1:=hm'.1 a q;have h2:=hl'.1 b r;have:=kL h1 h2;rw[oD] at this;omega
   subst hab
   congr 1
   refine aFP hl'.2 hm'.2 fun x=>⟨fun hx=>?_,fun hx=>?_⟩
   ·rcases aHB.1 ((h x).1 (by simp[hx])) with q | q
    ·subst q;have:=hl'.1 _ hx;rw[oD] at this;omega
    exact q
   rcases aHB.1 ((h x).2 (by simp[hx])) with q | q
   ·subst q;have:=hm'.1 _ hx;rw[oD] at this;omega
   exact q
theorem aCe {s:List (List Int)}{i:Nat}:i∈lI s↔i<s.length/\(i=0\/ ¬s.getD i []=s.getD (i - 1) []):=by
 rw[lI,aMX,aJy];simp[aFL]
theorem aEY (s:List (List Int)): ∀n,n<s.length-> ∃i,i∈lI s/\s.getD i []=s.getD n []
 | 0,h=>⟨0,aCe.2 ⟨h,.inl rfl⟩,rfl⟩
 | n+1,h=>by
   by_cases e:s.getD (n+1) []=s.getD n []
   ·obtain⟨i,h1,h2⟩:=aEY s n (by omega);exact⟨i,h1,by rw[h2,e]⟩
   exact⟨n+1,aCe.2 ⟨h,.inr e⟩,rfl⟩
theorem aL9 {s:List (List Int)}{x:List Int}:x∈eG s↔x∈s:=by
 constructor
 ·intro h;obtain⟨i,hi,rfl⟩:=aID.1 h;obtain⟨y,hy⟩:=cT (aIb hi);rw[bP hy];exact aBA hy
 intro h;obtain⟨n,hn,hx⟩:=List.mem_iff_getElem.1 h;obtain⟨i,h1,h2⟩:=aEY s n hn;refine aID.2 ⟨i,h1,?_⟩;rw[h2,<-hx];simp[hn]
theorem aLa {s:List (List Int)}(hs:s.Pairwise (fun a b=>leR a b=true)):Asc (eG s):=by
 rw[eG,Asc,List.pairwise_map];have h0:(lI s).Pairwise (· < ·):=List.Pairwise.filter _ List.pairwise_lt_range;refine List.Pairwise.imp_of_mem ?_ h0;intro i j hi hj hij;have h1:=aCe.1 hj;have hp:=List.pairwise_iff_getElem.1 hs
 have hg: ∀a b,a<b->b<s.length->leR (s.getD a []) (s.getD b [])=true:=by
  intro a b hab hb;have:=hp a b (by omega) hb hab;simpa [hb,show a<s.length by omega] using this
 have h2:=hg (j - 1) j (by omega) h1.1;rw[leR,aKQ] at h2
 have h3:bM (s.getD (j - 1) []) (s.getD j [])<0:=by
  have: ¬bM (s.getD (j - 1) []) (s.getD j [])=0:=fun q=>by
   have:=cQ.1 q;rcases h1.2 with r | r
   ·omega
   exact r this.symm
  omega
 by_cases e:i=j - 1
 ·rw[e];exact h3
 have h4:=hg i (j - 1) (by omega) (by omega);rw[leR,aKQ] at h4;by_cases z:bM (s.getD i []) (s.getD (j - 1) [])=0
 ·rw[cQ.1 z];exact h3
 exact kL (by omega) h3
theorem uR (l:List (List Int)):gP l=eG (cF l):=by
 obtain⟨h1,h2,_⟩:=uQ l [] List.Pairwise.nil
 exact aFP h1 (aLa (aC6 l)) fun x=>by
  have h2' :=h2 x;rw[show l.foldl (fun acc x=>iY x acc) []=gP l from rfl] at h2';rw[h2',aL9,(xN l).mem_iff];simp
theorem aDd {l:List (List Int)}{m:Nat}(h: ∀x∈l,x.length<=m):(gP l).length<=l.length/\cM (gP l)<=l.length+l.length*m:=by
 obtain⟨_,h2,h3⟩:=uQ l [] List.Pairwise.nil
 have h4:(gP l).length<=l.length:=by
  rw[List.length_nil,Nat.zero_add] at h3;exact h3
 have:=nV (l:=gP l) (m:=m) fun x hx=>h x (by simpa using (h2 x).1 hx);have:=Nat.mul_le_mul_right m h4;exact⟨h4,by omega⟩
theorem aFQ {t:aJ}{cols:List Int}{j:Nat}{e:List Int}(h:t.rows[j]? =some e):(jP t cols)[j]? =some (fC e cols).1:=by simp[jP,h]
theorem aFR {t:aJ}{cols:List Int}{k:Nat}(h:(aP t&&cV (t.arity - 1) cols)=true):(gP ((jP t cols).take k)).length<=8/\cM (gP ((jP t cols).take k))<=64:=by
 have h0:=h;rw[aAO] at h;have ha:=bI h.1;have hc:=zM h.2 (by omega);have hl:(jP t cols).length=t.rows.length:=aAK _
 have:=aDd (l:=(jP t cols).take k) (m:=3) fun r hr=>by
  obtain⟨q,_,rfl⟩:=aID.1 (List.mem_of_mem_take hr);have:=aC3 q cols;omega
 have h5:((jP t cols).take k).length<=8:=by simp;omega
 omega
abbrev xQ (t:aJ)(cols:List Int):AV × List (Nat × Rs):=(.tup [.own 0,.own 1],[(0,.arr 34 1 true ((fQ t cols).1.map aE)),(1,.arr 3 1 true ((fQ t cols).2.map intD))])
abbrev aCf (t:aJ)(cols:List Int):Prop:=Cn 110 [.agg [.str t.name,.int .i64 t.arity,.sl 34 1 (t.rows.map aE)],.one (.sl 3 1 (cols.map intD))] (xQ t cols).1 (xQ t cols).2
theorem aLb (t:aJ)(cols:List Int)(hl:cols.length<=1048576):aCf t cols:=by
 refine cq Tryz.func110 (.call (vB (aP t&&cV (t.arity - 1) cols)) []<| .br (.fin [(0,1600),(1,1700)]) (.loop (Nat × (List (List Int))) (Q2 Nat (List (List Int))) ([6,8,9,10,16]++rg 24 20) [1600,3800,4300] (fun yy0=>[(8,vI (yy0.1:Int)),(6,.own 1600)]) (fun yy0=>[(1600,some (.arr 34 1 true (yy0.2.map aE)))]) (fun yy0=>yy0.1<=t.rows.length/\yy0.2=gP ((jP t cols).take yy0.1)) (fun yy0=>t.rows.length - yy0.1) (fun yy0=> .len t.rows.length<| .br (.elem _ aE t.rows (fun e35=>bC (mD e35 cols)<| bC (oZ yy0.2 ((fC e35 cols).1))<| .back [(1600,4300)])) (.loop (Nat × (List Int)) (Q2 Nat (List Int)) ([7,11,12,13,14,15,17]++rg 44 36) [1700,6400,7800,7900] (fun yy1=>[(11,vI (yy1.1:Int)),(7,.own 1700)]) (fun yy1=>[(1700,some (.arr 3 1 true (yy1.2.map intD)))]) (fun yy1=>yy1.1<=yy0.2.length/\yy1.2=(yy0.2.take yy1.1).map (gG (jP t cols))) (fun yy1=>yy0.2.length - yy1.1) (fun yy1=> .len yy0.2.length<| .br (.loop (Nat × Int) (Q2 Nat Int) ([12,13,14,15]++rg 50 26) [6400] (fun yy2=>[(12,vI yy2.2),(13,vI (yy2.1:Int))]) (fun yy2=>[]) (fun yy2=>yy2.1<=t.rows.length/\yy2.2=gG ((jP t cols).take yy2.1) (yy0.2.getD yy1.1 [])) (fun yy2=>t.rows.length - yy2.1) (fun yy2=> .len t.rows.length<| .br (.elem _ aE t.rows (fun e61=>bC (mD e61 cols)<| .len yy0.2.length<| .elem _ aE yy0.2 (fun e71=> .call (vI (bM ((fC e61 cols).1) e71)) []<| .br (.back []) (.back [])))) (.app Int intD yy1.2 ([yy2.2]:List Int)<| .back [(1700,7900)]))) (.fin [(0,1600),(1,1700)])))))) (p:=Lx (t.rows.map aE)<| Lx (cols.map intD)<| uN t cols/\Nr (aP t&&cV (t.arity - 1) cols) ([]=(fQ t cols).1.map aE/\[]=(fQ t cols).2.map intD/\True) ((∃(k:Nat) (out:List (List Int)),0=(k:Int)/\[]=out.map aE/\k<=t.rows.length/\out=gP ((jP t cols).take k))/\ ∀(k:Nat) (out:List (List Int)),(k<=t.rows.length/\out=gP ((jP t cols).take k))->Lm aE t.rows/\Br ((k:Int)<(t.rows.length:Int)) (0<=(k:Int)/\Em aE t.rows k fun e35=>oY e35 cols/\sI out ((fC e35 cols).1)/\cW ((k:Int)+1)/\ ∃(k' :Nat) (out' :List (List Int)),((k:Int)+1)=(k' :Int)/\(iY ((fC e35 cols).1) out).map aE=out'.map aE/\(k' <=t.rows.length/\out' =gP ((jP t cols).take k'))/\t.rows.length - k' <t.rows.length - k) ((∃(i:Nat) (c:List Int),0=(i:Int)/\[]=c.map intD/\i<=out.length/\c=(out.take i).map (gG (jP t cols)))/\ ∀(i:Nat) (c:List Int),(i<=out.length/\c=(out.take i).map (gG (jP t cols)))->Lm aE out/\Br ((i:Int)<(out.length:Int)) ((∃(j:Nat) (z:Int),0=z/\0=(j:Int)/\j<=t.rows.length/\z=gG ((jP t cols).take j) (out.getD i []))/\ ∀(j:Nat) (z:Int),(j<=t.rows.length/\z=gG ((jP t cols).take j) (out.getD i []))->Lm aE t.rows/\Br ((j:Int)<(t.rows.length:Int)) (0<=(j:Int)/\Em aE t.rows j fun e61=>oY e61 cols/\0<=(i:Int)/\Lm aE out/\(i:Int)<(out.length:Int)/\Em aE out i fun e71=>dA ((fC e61 cols).1) e71/\Br ((bM ((fC e61 cols).1) e71)=0) (cW (z+1)/\cW ((j:Int)+1)/\ ∃(j' :Nat) (z' :Int),(z+1)=z' /\((j:Int)+1)=(j' :Int)/\(j' <=t.rows.length/\z' =gG ((jP t cols).take j') (out.getD i []))/\t.rows.length - j' <t.rows.length - j) (cW ((j:Int)+1)/\ ∃(j' :Nat) (z' :Int),z=z' /\((j:Int)+1)=(j' :Int)/\(j' <=t.rows.length/\z' =gG ((jP t cols).take j') (out.getD i []))/\t.rows.length - j' <t.rows.length - j)) (Ap intD c ([z]:List Int) 8 (cW ((i:Int)+1)/\ ∃(i' :Nat) (c' :List Int),((i:Int)+1)=(i' :Int)/\(c++[z]).map intD=c'.map intD/\(i' <=out.length/\c' =(out.take i').map (gG (jP t cols)))/\out.length - i' <out.length - i))) (out.map aE=(fQ t cols).1.map aE/\c.map intD=(fQ t cols).2.map intD/\True)))) (by kernel_rfl) ?_;refine lx fun n0=>lx fun n1=>?_;refine⟨aET t _,dm (fun c0=>?_) fun c0=>?_⟩
 ·have hbad:(aP t&&cV (t.arity - 1) cols)=false:=by simpa using c0
  apply et2<;>((rw[aB7 hbad]<;>rfl))
 ·have hok:(aP t&&cV (t.arity - 1) cols)=true:=by simpa using c0
  obtain⟨hs1,hs2⟩:=aC8 hok;refine⟨⟨0,([]:List (List Int)),rfl,rfl,aAd _,rfl⟩,fun k out ⟨hk,ho⟩=>?_⟩;refine⟨aAK _,dd (fun c1=>?_) fun c1=>?_⟩
  ·have hp:=aFR (k:=k) hok;rw[<-ho] at hp;refine⟨by omega,rfl,by omega,fun e35 h35=>?_⟩;have hsl:=aC3 e35 cols;refine⟨zJ _ _ (by omega),aCa out ((fC e35 cols).1) (by omega) (by omega) (by omega),⟨by omega,by omega⟩,?_⟩;exact⟨k+1,_,rfl,rfl,⟨by omega,by rw[ho,cC (aFQ h35),zO]⟩,by omega⟩
  ·have hV:out=aLZ t cols:=by rw[ho,aCv (by simp[jP];omega),uR];rfl
   have hp:=aFR (k:=k) hok;rw[<-ho] at hp;refine⟨⟨0,([]:List Int),rfl,rfl,aAd _,rfl⟩,fun i c ⟨hi,hc⟩=>?_⟩;refine⟨aAK _,dd (fun c2=>?_) fun c2=>?_⟩
   ·obtain⟨g,hg⟩:=cT (l:=out) (k:=i) (by omega);refine⟨⟨0,0,rfl,rfl,aAd _,rfl⟩,fun j z ⟨hj,hz⟩=>?_⟩;refine⟨aAK _,dd (fun c3=>?_) fun c3=>?_⟩
    ·refine⟨by omega,rfl,by omega,fun e61 h61=>?_⟩;refine⟨zJ _ _ (by omega),by omega,aAK _,by omega,rfl,by omega,fun e71 h71=>?_⟩;have hg71:out.getD i []=e71:=bP h71;refine⟨eI _ _,dd (fun c4=>?_) fun c4=>?_⟩
     ·have hcl:=aL2 ((jP t cols).take j) e71;rw[<-hg71,<-hz] at hcl;have hjl:((jP t cols).take j).length<=8:=by simp;omega
      refine⟨⟨by omega,by omega⟩,⟨by omega,by omega⟩,?_⟩;exact⟨j+1,_,rfl,rfl,⟨by omega,by rw[hz,hg71,aIc (aFQ h61) (cQ.1 c4).symm]⟩,by omega⟩
     ·refine⟨⟨by omega,by omega⟩,?_⟩;exact⟨j+1,_,rfl,rfl,⟨by omega,by rw[hz,hg71,aL1 (aFQ h61) (fun q=>c4 (cQ.2 q.symm))]⟩,by omega⟩
    ·refine ap ?_ (fun _=>rfl) (by (rw[hc];simp;omega));refine⟨⟨by omega,by omega⟩,?_⟩;exact⟨i+1,_,rfl,rfl,⟨by omega,by rw[hc,hz,cC hg,bP hg,aG0,aCv (l:=jP t cols) (i:=j) (by simp[jP];omega)];rfl⟩,by omega⟩
   ·have hC:c=aL0 t cols:=by rw[hc,aCv (by omega),hV];rfl
    apply et2<;>(first|(rw[uP hok,hV]<;>rfl)|(rw[uP hok,hC]<;>rfl))
end Go.Proofs.YtafmaholhcgakaaGreat
