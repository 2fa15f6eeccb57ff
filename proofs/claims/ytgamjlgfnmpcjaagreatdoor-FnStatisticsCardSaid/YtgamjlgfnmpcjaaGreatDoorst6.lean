/-
  Contracts and plain laws, joined: part 7.
-/
import Derived.Test.YtgamjlgfnmpcjaaGreatDoorst3
import Derived.Test.YtgamjlgfnmpcjaaGreatDoorst4
import Derived.Shelf.SlicesE.Delete
import Derived.Ground.SlgnProg
import Derived.Test.YtgamjlgfnmpcjaaGreatDoorst5
namespace Go.Proofs
open Go.Shelf
namespace YtgamjlgfnmpcjaaGreatDoor
def Tryz.dlRows_ren:Go.Shelf.Ren:=⟨fun | 45=>88 | n=>n,fun | 22=>35 | 23=>38 | 3=>3 | 4=>4 | 0=>0 | n=>n,fun | n=>n⟩
theorem Tryz.dlRows:Go.Proofs.SlLaysE.n45 Tryz.prog Tryz.dlRows_ren:={
 mixed:=by kernel_rfl
 f45:=⟨Tryz.f88.name,by decide,Tryz.func88.trans (congrArg some (by kernel_rfl))⟩
 t0:=Tryz.underlying0
 a0:=Tryz.isAgg0
 z0:=Tryz.sizeOf0
 v0:=Tryz.zeroValue0
 t3:=Tryz.underlying3
 a3:=Tryz.isAgg3
 z3:=Tryz.sizeOf3
 v3:=Tryz.zeroValue3
 t4:=Tryz.underlying4
 a4:=Tryz.isAgg4
 z4:=Tryz.sizeOf4
 v4:=Tryz.zeroValue4
 t22:=Tryz.underlying35
 a22:=Tryz.isAgg35
 z22:=Tryz.sizeOf35
 v22:=Tryz.zeroValue35
 a23:=Tryz.isAgg38
 z23:=Tryz.sizeOf38 }
end YtgamjlgfnmpcjaaGreatDoor
end Go.Proofs
namespace Go.Proofs.YtgamjlgfnmpcjaaGreatDoor
open Go.ChangeShapes Go.WideShapes Go.ChangeAt Go.RowKit Go.Shelf Go.Lib
set_option linter.unusedVariables false
set_option linter.unusedSimpArgs false
noncomputable def elI:TypeInfo:=(Tryz.prog.info? 38).get (by kernel_rfl)
theorem aMn:dH Tryz.prog 38=some (false,1,24,.slice none 0 0):=by kernel_rfl
theorem aKz (w:World):(zeroValue 38).run Tryz.prog w= .ok (.slice none 0 0) w:=(dK aMn w).2.2.1
def jK (l:List (List Int))(k:Nat):List Nat:=(List.range l.length).eraseIdx k
theorem aLA {l:List (List Int)}{k i:Nat}(h:i∈jK l k):i<l.length:=aKt.1 ((List.eraseIdx_sublist _ _).mem h)
theorem aFB (l:List (List Int))(k:Nat):l.eraseIdx k=(jK l k).map fun i=>l.getD i []:=by
 have e:l=(List.range l.length).map fun i=>l.getD i []:=by
  apply List.ext_getElem?;intro i;by_cases hi:i<l.length
  ·simp[hi]
  simp[hi,List.getElem?_eq_none (show l.length<=i by omega)]
 conv=>lhs;rw[e]
 rw[jK,List.eraseIdx_eq_take_drop_succ,List.eraseIdx_eq_take_drop_succ,aHr,List.map_take,List.map_drop]
set_option maxHeartbeats 2000000 in
theorem aFq (l:List (List Int))(i j:Int)(k:Nat)(hi:i=(k:Int))(hj:j=(k:Int)+1)(hk:k<l.length)(hl:l.length<4611686018427387904):oZ Tryz.prog 88 [.own 0,vI i,vI j] [(0,.arr 38 1 true (l.map aB))] (.own 1) [(1,.arr 38 1 true ((l.eraseIdx k).map aB))]:=by
 refine⟨by kernel_rfl,by simp,fun A φ w vs hI hm=>?_⟩;obtain⟨pl,hp,css,Fs,q1,q2,q3,q4⟩:=hI.dom 0 _ rfl;unfold aH at hm;obtain⟨v,us,e1,m1,hm⟩:=hm;unfold aH at hm;obtain⟨v2,us2,e2,m2,hm⟩:=hm;unfold aH at hm;obtain⟨v3,us3,e3,m3,hm⟩:=hm;unfold aH at hm;unfold aC at m1 m2 m3;unfold dR at m2 m3;have hv:=m1 pl hp;subst hi hj;have ev:vs= #[pl.val,.int .i64 (k:Int),.int .i64 ((k:Int)+1)]:=by apply Array.ext';rw[e1,e2,e3,hm,hv,m2,m3]
 rw[ev];have hnd:=hI.nodup 0 pl hp;have hge:=hI.ge 0 pl hp;have hFe:pl.F=pl.val.ownBlock.toList++Fs.flatten:=by unfold Pl.F;rw[q2,q3]
 have hfoot: ∀b∈pl.F,aDE φ b:=fun b hb=>⟨0,pl,trivial,hp,hb⟩
 have h0: ∀h pl',φ h=some pl' ->h=0:=fun h pl' e' =>by
  cases hr:aN [(0,Rs.arr 38 1 true (l.map aB))] h with
  | none=>rw[hI.non h hr] at e';cases e'
  | some r=>
    simp only[aN] at hr;split at hr
    ·assumption
    cases hr
 obtain⟨lc,lF⟩:=oB q4;rw[aBS] at lc lF
 have hrow: ∀i,i<l.length-> ∃a cap F,css[i]? =some [.slice a (l.getD i []).length cap]/\Fs[i]? =some F/\qY w a (l.getD i [])/\(∀x∈a,x.block∈F)/\(l.getD i []).length<=9223372036854775807/\bU w (aB (l.getD i [])) [.slice a (l.getD i []).length cap] F:=fun i hi=>by
  obtain⟨r,hr⟩:=cS hi;have hg:l.getD i []=r:=by simp[aFr,hr]
  obtain⟨c,F,g1,g2,_,g4⟩:=oC q4 (show (l.map aB)[i]? =some (aB r) by rw[aMm,hr];rfl);obtain⟨a,cap,rfl,k1,k2,k3⟩:=aIz g4;rw[hg];exact⟨a,cap,F,g1,g2,k1,k2,k3,g4⟩
 have hone: ∀d∈css,d.length=1:=fun d hd=>by
  obtain⟨i,hi⟩:=List.getElem?_of_mem hd;obtain⟨a,cap,F,g1,_⟩:=hrow i (by have:=(aEA.1 hi).1;omega);rw[hi] at g1;injection g1 with g1
  rw[g1];rfl
 let enc:Nat->Value:=fun i=>css.flatten.getD i (.slice none 0 0)
 have henc: ∀i,∃a cap,enc i= .slice a (l.getD i []).length cap/\qY w a (l.getD i [])/\(∀x∈a,x.block∈Fs.flatten)/\(l.getD i []).length<=9223372036854775807:=fun i=>by
  by_cases hi:i<l.length
  ·obtain⟨a,cap,F,g1,g2,g3,g4,g5,_⟩:=hrow i hi;refine⟨a,cap,?_,g3,fun x hx=>List.mem_flatten.2 ⟨F,aCO g2,g4 x hx⟩,g5⟩;show css.flatten.getD i _=_;rw[aFr,fX css i _ hone g1];rfl
  have hg:l.getD i []= []:=by rw[aFr,List.getElem?_eq_none (by omega)];rfl
  rw[hg];refine⟨none,0,?_,fun j x hx=>by simp at hx,by simp,by simp⟩;show css.flatten.getD i _=_;rw[aFr,List.getElem?_eq_none (by rw[oD css hone];omega)];rfl
 have h1:φ 1=none:=hI.non 1 rfl
 have hend: ∀(v' :Value) (w' :World),gF pl.F w w' ->(∀F∈Fs,eC F w w')->(∀b∈v'.ownBlock,b∈pl.val.ownBlock)->w'.ownsRow 0 38 1 v' (jK l k).length ((jK l k).map enc)->
  ∃v K φ',Ending.returned v' = .returned v/\aHM A φ w [(1,.arr 38 1 true ((l.eraseIdx k).map aB))] K φ' w' /\aC K φ' w' (.own 1) v:=by
  intro v' w' hon hkeep hvb howns
  have hFr:(List.range l.length).map (fun i=>Fs.getD i [])=Fs:=by
   apply List.ext_getElem?;intro i;by_cases hi:i<l.length
   ·simp[hi,show i<Fs.length by omega]
   simp[hi,show ¬i<Fs.length by omega]
  have hsub:List.Sublist ((jK l k).map fun i=>Fs.getD i []).flatten Fs.flatten:=by
   have:List.Sublist ((jK l k).map fun i=>Fs.getD i []) ((List.range l.length).map fun i=>Fs.getD i []):=(List.eraseIdx_sublist _ _).map _;rw[hFr] at this;exact aE7 this
  let pl' :Pl:=⟨v',v'.ownBlock.toList,((jK l k).map fun i=>Fs.getD i []).flatten⟩
  have hmem: ∀g,g∈pl'.F->g∈pl.F:=fun g hg=>by
   rw[hFe];simp only[pl',Pl.F,aFZ,Option.mem_toList] at hg ⊢;rcases hg with h | h
   ·exact .inl (hvb g h)
   exact .inr (List.Sublist.mem h hsub)
  have hnd' :pl'.F.Nodup:=by
   rw[hFe] at hnd;have hn:=aMS.1 hnd;simp only[pl',Pl.F];refine aMS.2 ⟨by cases v'.ownBlock<;>simp,hsub.nodup hn.2.1,fun x hx y hy=>?_⟩;exact hn.2.2 x (by rw[Option.mem_toList] at hx ⊢;exact hvb x hx) y (List.Sublist.mem hy hsub)
  refine⟨_,A,fun h=>if h=1 then some pl' else none,rfl,⟨⟨hon.os,hon.tape,hon.output,hon.size,fun b hb hn=>hon.block b hb (fun hm=>hn (hfoot b hm))⟩,fun _ h=>h,fun b hb=>⟨aLG (hI.lt b hb) hon.size,.inl hb⟩,fun b hb h pl1 e' hm' =>?_,fun h r hr=>?_,fun h hr=>?_,fun h h' pl1 pl2 hne ea eb=>?_,fun h pl1 e' =>?_,fun h pl1 e' g hg=>?_,fun h pl1 pl0 e' e0=>?_⟩,?_⟩
  ·split at e'
   ·injection e' with e';subst e'
    exact hI.out b hb 0 pl hp (hmem b hm')
   cases e'
  ·simp only[aN] at hr;split at hr
   ·rename_i eh;subst eh;injection hr with hr
    subst hr;refine⟨pl',by simp,(jK l k).map (fun i=>[enc i]),(jK l k).map (fun i=>Fs.getD i []),?_,rfl,rfl,?_⟩
    ·rw[vV enc (jK l k),aBS,aFB,aBS];exact howns
    rw[aFB,List.map_map];refine vU (fun i=>aB (l.getD i [])) (fun i=>[enc i]) (fun i=>Fs.getD i []) fun i hi=>⟨rfl,?_⟩;obtain⟨a,cap,F,g1,g2,g3,g4,g5,g6⟩:=hrow i (aLA hi)
    have ee:enc i= .slice a (l.getD i []).length cap:=by
     show css.flatten.getD i _=_;rw[aFr,fX css i _ hone g1];rfl
    have eF:Fs.getD i []=F:=by simp[aFr,g2]
    rw[ee,eF];exact bU.kept _ _ _ (hkeep F (aCO g2)) g6
   cases hr
  ·simp only[aN] at hr;split at hr
   ·cases hr
   rename_i eh;exact if_neg eh
  ·split at ea
   ·split at eb
    ·rename_i x y;exact absurd (x.trans y.symm) hne
    cases eb
   cases ea
  ·split at e'
   ·injection e' with e';subst e';exact hnd'
   cases e'
  ·split at e'
   ·injection e' with e';subst e'
    have:=hmem g hg;exact⟨.inr (hfoot g this),aLG (hge g this) hon.size⟩
   cases e'
  ·split at e'
   ·rename_i eh;subst eh;rw[h1] at e0;cases e0
   cases e'
  unfold aC;intro pl1 e';simp at e';subst e';rfl
 rw[aBS] at q1;rcases q1.2 with ⟨hvn,hz⟩ | ⟨g,cap,cur,hvv,hg0,hb,hn,hcap,hsz,htk⟩
 ·omega
 have hgF:g ∉ Fs.flatten:=fun hm=>by
  rw[hFe,hvv] at hnd;simp only[Value.ownBlock,Option.toList_some,List.cons_append,aMg,List.nodup_cons] at hnd;exact hnd.1 hm
 have hgs:g<w.heap.size:=(Array.getElem?_eq_some_iff.1 hb).1;have hin: ∀b∈Fs.flatten,b<w.heap.size/\b≠g:=fun b hb' =>⟨hge b (by rw[hFe];exact aFK _ hb'),fun e=>hgF (e▸hb')⟩;have hw0: ∀(dk:Array Nat) (q:Nat),Go.Sort.putRow enc (Go.Sort.ahead w q) g 0 dk=sortWorld enc w g 0 q dk #[]:=fun dk q=>by unfold sortWorld;rw[Go.Sort.grow_empty]
 have htk' :cur.toList.take l.length=css.flatten:=by rw[Nat.mul_one] at htk;exact htk
 have hH:Go.Sort.Holds enc w g 0 (List.range l.length).toArray:=fun j hj=>by
  have hj' :j<l.length:=by simpa using hj
  refine⟨?_,by simp[World.frozen?,hb]⟩;have h1:(cur.toList.take l.length)[j]? =css.flatten[j]? :=by rw[htk']
  rw[List.getElem?_take_of_lt hj'] at h1;simp only[World.cell?,hb,Nat.zero_add,Option.isSome_none,Bool.false_eq_true,if_false];rw[<-Array.getElem?_toList,h1];obtain⟨a,cap',F,g1,_⟩:=hrow j hj';have h2:=fX css j _ hone g1
  have ee:enc j= .slice a (l.getD j []).length cap' :=by
   show css.flatten.getD j _=_;rw[aFr,h2];rfl
  have ej:(List.range l.length).toArray[j]! =j:=by simp[hj']
  rw[h2,ej,ee]
 have hone1:OneCell enc:=fun x=>by
  obtain⟨a,c,ex,_⟩:=henc x;rw[ex];rfl
 have hzr:enc l.length= .slice none 0 0:=by
  show css.flatten.getD l.length _=_;rw[aFr,List.getElem?_eq_none (by rw[oD css hone];omega)];rfl
 have hszd:(List.range l.length).toArray.size=l.length:=by simp
 have hcon:=AnyE.slices_Delete Tryz.dlRows enc hone1 l.length (fun w=>by rw[hzr];exact aKz w) elI (by kernel_rfl) (by kernel_rfl) g 0 cap k (k+1) (List.range l.length).toArray w hH (by rw[hszd];exact hn) hcap (by omega) (by rw[hszd];omega);rw[hszd,show (k:Int)+1=((k+1:Nat):Int) by omega] at*;rw[hvv];refine hcon.mono ?_;rintro en w' ⟨rfl,q,rfl⟩;have hdl:(jK l k).length=l.length - 1:=by simp[jK,List.length_eraseIdx,hk]
 have hls:(List.range l.length).toArray.toList.take k++(List.range l.length).toArray.toList.drop (k+1)++List.replicate (k+1 - k) l.length=jK l k++List.replicate (l.length - (jK l k).length) l.length:=by
  rw[hdl,show k+1 - k=l.length - (l.length - 1) by omega,jK,List.eraseIdx_eq_take_drop_succ]
 rw[hls];have hle:(jK l k).length<=l.length:=by omega
 have hkb: ∀b,b<w.heap.size->b≠g->(Go.Sort.putRow enc (Go.Sort.ahead w q) g 0 (jK l k++List.replicate (l.length - (jK l k).length) l.length).toArray).heap[b]? =w.heap[b]? :=fun b hk hne=>by rw[hw0];exact iZ _ hk hne
 rw[show l.length - (k+1 - k)=(jK l k).length by omega]
 refine hend _ _ ⟨rfl,rfl,rfl,by simp,fun b hk hne=>hkb b hk (fun e=>hne (by rw[hFe,hvv,e];simp[Value.ownBlock]))⟩
  (fun F hF b hb' =>hkb b (hin b (List.mem_flatten.2 ⟨F,hF,hb'⟩)).1 (hin b (List.mem_flatten.2 ⟨F,hF,hb'⟩)).2)
  (fun b hb' =>by rw[hvv];exact hb') ?_
 rw[hw0];refine⟨by simp,.inr ⟨g,cap,_,rfl,hg0,xR _ hb,by omega,hcap,by simp[Go.Sort.putCells,hsz],?_⟩⟩;rw[Nat.mul_one];have:=aAl enc cur (jK l k++List.replicate (l.length - (jK l k).length) l.length) (by simp;omega);have h3:=congrArg (List.take (jK l k).length) this;rw[List.take_take,aHr,List.take_append_of_le_length (by simp)] at h3;rw[show min (jK l k).length (jK l k++List.replicate (l.length - (jK l k).length) l.length).length=(jK l k).length by simp] at h3;rw[h3,aE4 (by simp)]
end Go.Proofs.YtgamjlgfnmpcjaaGreatDoor
namespace Go.Proofs.YtgamjlgfnmpcjaaGreatDoor
open Go.ChangeShapes Go.WideShapes Go.ChangeAt Go.RowKit
set_option linter.unusedVariables false
set_option linter.unusedSimpArgs false
set_option maxRecDepth 100000
set_option maxHeartbeats 4000000
abbrev uI (t:aJ)(row:List Int):AV × List (Nat × Rs):=(.tup [.agg [.p none (.str ((cE t row).1.name)),vI ((cE t row).1.arity),.own 0],vB ((cE t row).2)],[(0,.arr 38 1 true ((cE t row).1.rows.map aB))])
abbrev aBJ (t:aJ)(row:List Int):Prop:=Cn 50 [.agg [.str t.name,.int .i64 t.arity,.sl 38 1 (t.rows.map aB)],.one (.sl 3 1 (row.map aE))] (uI t row).1 (uI t row).2
theorem aJ5 (t:aJ)(row:List Int)(hc:cN t<=1048576)(hr:row.length<=1048576):aBJ t row:=by
 refine cq Tryz.func50 (bC (pG t)<| .call (vB (aL t)) []<| .br (.fin [(0,800)]) (.call (vB (dM t.arity row)) []<| .lit<| .lit<| .br (.fin [(0,800)]) (.call (vI (eV (gU row) t.rows)) []<| .lit<| .lit<| .br (.fin [(0,800)]) (.len t.rows.length<| .lit<| .lit<| .br (.fin [(0,800)]) (.shal 4 800<| .appr (List Int) aB t.rows ([row]:List (List Int))<| bC (jN (t.rows++[row]))<| .fin [(0,3700)]))))) (p:=Lx (t.rows.map aB)<| Lx (row.map aE)<| uG t/\iY t/\Nr (aL t) (t.name=((cE t row).1.name)/\t.arity=((cE t row).1.arity)/\(false)=((cE t row).2)/\t.rows.map aB=(cE t row).1.rows.map aB/\True) (tQ row t.arity/\Nr (dM t.arity row) (t.name=((cE t row).1.name)/\t.arity=((cE t row).1.arity)/\(false)=((cE t row).2)/\t.rows.map aB=(cE t row).1.rows.map aB/\True) (wQ t row/\Br (0<=(eV (gU row) t.rows)) (t.name=((cE t row).1.name)/\t.arity=((cE t row).1.arity)/\(false)=((cE t row).2)/\t.rows.map aB=(cE t row).1.rows.map aB/\True) (Lm aB t.rows/\Br (8<=(t.rows.length:Int)) (t.name=((cE t row).1.name)/\t.arity=((cE t row).1.arity)/\(false)=((cE t row).2)/\t.rows.map aB=(cE t row).1.rows.map aB/\True) (t.rows.map aB=t.rows.map aB/\[[.sl 3 1 (row.map aE)]]=([row]:List (List Int)).map aB/\(t.rows.length+([row]:List (List Int)).length)*24<=140737488355328/\nM (t.rows++[row])/\t.name=((cE t row).1.name)/\t.arity=((cE t row).1.arity)/\(true)=((cE t row).2)/\(dA (bV (t.rows++[row]))).map aB=(cE t row).1.rows.map aB/\True))))) (by kernel_rfl) ?_;refine lx fun n0=>lx fun n1=>?_;have q1:cN t=t.name.size+aX t.rows:=rfl;have q2:=cI t.rows;refine⟨aEz _ (by omega),oA t,dm (fun g12=>?_) fun g12=>?_⟩
 ·have hbad:dN t row=false:=by first|(simp[dN, *];done)|(simp[dN, *];omega)
  apply et4<;>(first|(rw[jO hbad]<;>rfl)|(rw[eJ hok]<;>rfl)|(rw[eJ hok,hE]))
 ·refine⟨aEW _ _,dm (fun g19=>?_) fun g19=>?_⟩
  ·have hbad:dN t row=false:=by first|(simp[dN, *];done)|(simp[dN, *];omega)
   apply et4<;>(first|(rw[jO hbad]<;>rfl)|(rw[eJ hok]<;>rfl)|(rw[eJ hok,hE]))
  ·refine⟨aFp _ _,dd (fun g25=>?_) fun g25=>?_⟩
   ·have hbad:dN t row=false:=by first|(simp[dN, *];done)|(simp[dN, *];omega)
    apply et4<;>(first|(rw[jO hbad]<;>rfl)|(rw[eJ hok]<;>rfl)|(rw[eJ hok,hE]))
   ·refine⟨aBS _,dd (fun c0=>?_) fun c0=>?_⟩
    ·have hbad:dN t row=false:=by first|(simp[dN, *];done)|(simp[dN, *];omega)
     apply et4<;>(first|(rw[jO hbad]<;>rfl)|(rw[eJ hok]<;>rfl)|(rw[eJ hok,hE]))
    ·have hok:dN t row=true:=by first|(simp[dN, *];done)|(simp[dN, *];omega)
     have hsm:=aHg hok;have hE:=aJ2 (row:=row) (yY hok).1;refine⟨rfl,rfl,by first|omega|(simp;omega),yP (t.rows++[row]) (by omega),?_,?_,?_,?_,trivial⟩<;>(first|(rw[jO hbad]<;>rfl)|(rw[eJ hok]<;>rfl)|(rw[eJ hok,hE]))
abbrev pI (t:aJ)(row:List Int):AV × List (Nat × Rs):=(.tup [.agg [.p none (.str ((cE t row).1.name)),vI ((cE t row).1.arity),.own 0],vB ((cE t row).2)],[(0,.arr 38 1 true ((cE t row).1.rows.map aB))])
abbrev uJ (t:aJ)(row:List Int):Prop:=Cn 17 [.agg [.str t.name,.int .i64 t.arity,.sl 38 1 (t.rows.map aB)],.one (.sl 3 1 (row.map aE))] (pI t row).1 (pI t row).2
theorem aFC (t:aJ)(row:List Int)(hc:cN t<=1048576)(hr:row.length<=1048576):uJ t row:=by
 refine cq Tryz.func17 (bC (pH t)<| .call (vB (aL t)) []<| .br (.fin [(0,800)]) (.call (vB (dM t.arity row)) []<| .lit<| .lit<| .br (.fin [(0,800)]) (.call (vB (eL t row)) []<| .lit<| .br (.fin [(0,800)]) (.len t.rows.length<| .lit<| .lit<| .br (.fin [(0,800)]) (bC (jB t.rows row)<| .fin [(0,3400)]))))) (p:=Lx (t.rows.map aB)<| Lx (row.map aE)<| uH t/\fW t/\Nr (aL t) (t.name=((cE t row).1.name)/\t.arity=((cE t row).1.arity)/\(false)=((cE t row).2)/\t.rows.map aB=(cE t row).1.rows.map aB/\True) (tR row t.arity/\Nr (dM t.arity row) (t.name=((cE t row).1.name)/\t.arity=((cE t row).1.arity)/\(false)=((cE t row).2)/\t.rows.map aB=(cE t row).1.rows.map aB/\True) (uF t row/\Bb (eL t row) (t.name=((cE t row).1.name)/\t.arity=((cE t row).1.arity)/\(false)=((cE t row).2)/\t.rows.map aB=(cE t row).1.rows.map aB/\True) (Lm aB t.rows/\Br ((t.rows.length:Int)=8) (t.name=((cE t row).1.name)/\t.arity=((cE t row).1.arity)/\(false)=((cE t row).2)/\t.rows.map aB=(cE t row).1.rows.map aB/\True) (mA t.rows row/\t.name=((cE t row).1.name)/\t.arity=((cE t row).1.arity)/\(true)=((cE t row).2)/\(eN row t.rows).map aB=(cE t row).1.rows.map aB/\True))))) (by kernel_rfl) ?_;refine lx fun n0=>lx fun n1=>?_;have q1:cN t=t.name.size+aX t.rows:=rfl;have q2:=cI t.rows;refine⟨aFA _ (by omega),lY t,dm (fun g12=>?_) fun g12=>?_⟩
 ·have hbad:dN t row=false:=by first|(simp[dN,eL, *];done)|(simp[dN,eL, *] at*;omega)
  apply et4<;>(first|(rw[jO hbad]<;>rfl)|(rw[eJ hok]<;>rfl))
 ·refine⟨aEX _ _,dm (fun g19=>?_) fun g19=>?_⟩
  ·have hbad:dN t row=false:=by first|(simp[dN,eL, *];done)|(simp[dN,eL, *] at*;omega)
   apply et4<;>(first|(rw[jO hbad]<;>rfl)|(rw[eJ hok]<;>rfl))
  ·refine⟨aEy _ _,db (fun g24=>?_) fun g24=>?_⟩
   ·have hbad:dN t row=false:=by first|(simp[dN,eL, *];done)|(simp[dN,eL, *] at*;omega)
    apply et4<;>(first|(rw[jO hbad]<;>rfl)|(rw[eJ hok]<;>rfl))
   ·refine⟨aBS _,dd (fun c0=>?_) fun c0=>?_⟩
    ·have hbad:dN t row=false:=by first|(simp[dN,eL, *];done)|(simp[dN,eL, *] at*;omega)
     apply et4<;>(first|(rw[jO hbad]<;>rfl)|(rw[eJ hok]<;>rfl))
    ·have hT:aL t=true:=by simpa using g12
     have hT8:=bJ hT;have hok:dN t row=true:=by first|(simp[dN,eL, *] at*;done)|(simp[dN,eL, *] at*;omega)
     refine⟨vX t.rows row (by omega) (by omega) (by omega),?_,?_,?_,?_,trivial⟩<;>(first|(rw[jO hbad]<;>rfl)|(rw[eJ hok]<;>rfl))
abbrev uK (t:aJ)(row:List Int):AV × List (Nat × Rs):=(.tup [.agg [.p none (.str ((eA t row).1.name)),vI ((eA t row).1.arity),.own 0],vB ((eA t row).2)],[(0,.arr 38 1 true ((eA t row).1.rows.map aB))])
abbrev aBK (t:aJ)(row:List Int):Prop:=Cn 51 [.agg [.str t.name,.int .i64 t.arity,.sl 38 1 (t.rows.map aB)],.one (.sl 3 1 (row.map aE))] (uK t row).1 (uK t row).2
theorem aJ6 (t:aJ)(row:List Int)(hc:cN t<=1048576)(hr:row.length<=1048576):aBK t row:=by
 refine cq Tryz.func51 (bC (pG t)<| .call (vB (eL t row)) []<| .br (.fin [(0,900)]) (.call (vI (eV (gU row) t.rows)) []<| .callx [.own 0,vI (eV (gU row) t.rows),vI ((eV (gU row) t.rows)+1)] [(0,.arr 38 1 true (t.rows.map aB))] [(0,900)] (.own 1) [(1,.arr 38 1 true ((t.rows.eraseIdx (eV (gU row) t.rows).toNat).map aB))]<| .fin [(0,2301)])) (p:=Lx (t.rows.map aB)<| Lx (row.map aE)<| uG t/\aBI t row/\Nr (eL t row) (t.name=((eA t row).1.name)/\t.arity=((eA t row).1.arity)/\(false)=((eA t row).2)/\t.rows.map aB=(eA t row).1.rows.map aB/\True) (wQ t row/\dO ((eV (gU row) t.rows)+1)/\oZ Tryz.prog 88 [.own 0,vI (eV (gU row) t.rows),vI ((eV (gU row) t.rows)+1)] [(0,.arr 38 1 true (t.rows.map aB))] (.own 1) [(1,.arr 38 1 true ((t.rows.eraseIdx (eV (gU row) t.rows).toNat).map aB))]/\(eV (gU row) t.rows)=(eV (gU row) t.rows)/\((eV (gU row) t.rows)+1)=((eV (gU row) t.rows)+1)/\t.rows.map aB=t.rows.map aB/\t.name=((eA t row).1.name)/\t.arity=((eA t row).1.arity)/\(true)=((eA t row).2)/\(t.rows.eraseIdx (eV (gU row) t.rows).toNat).map aB=(eA t row).1.rows.map aB/\True)) (by kernel_rfl) ?_;refine lx fun n0=>lx fun n1=>?_;have q1:cN t=t.name.size+aX t.rows:=rfl;have q2:=cI t.rows;refine⟨aEz _ (by omega),aJ4 _ _,dm (fun c0=>?_) fun c0=>?_⟩
 ·have hbad:eL t row=false:=by simpa using c0
  apply et4<;>(first|(rw[zO hbad]<;>rfl)|(rw[oN hok]<;>rfl))
 ·have hok:eL t row=true:=by simpa using c0
  have hi0:=(uE hok).2;have hi1:=aKw (gU row) t.rows;have hT8:=bJ (uE hok).1;refine⟨aFp _ _,⟨by omega,by omega⟩,aFq t.rows _ _ (eV (gU row) t.rows).toNat (by omega) (by omega) (by omega) (by omega),rfl,rfl,rfl,?_,?_,?_,?_,trivial⟩<;>(first|(rw[zO hbad]<;>rfl)|(rw[oN hok]<;>rfl))
abbrev uL (t:aJ)(row:List Int):AV × List (Nat × Rs):=(.tup [.agg [.p none (.str ((eA t row).1.name)),vI ((eA t row).1.arity),.own 0],vB ((eA t row).2)],[(0,.arr 38 1 true ((eA t row).1.rows.map aB))])
abbrev aBL (t:aJ)(row:List Int):Prop:=Cn 62 [.agg [.str t.name,.int .i64 t.arity,.sl 38 1 (t.rows.map aB)],.one (.sl 3 1 (row.map aE))] (uL t row).1 (uL t row).2
theorem aJ7 (t:aJ)(row:List Int)(hc:cN t<=1048576)(hr:row.length<=1048576):aBL t row:=by
 refine cq Tryz.func62 (bC (pH t)<| .call (vB (eL t row)) []<| .br (.fin [(0,900)]) (.loop (Nat × (List (List Int))) (Q2 Nat (List (List Int))) ([7,15]++rg 17 27) [600,1500,3400,4000,4100,4200] (fun yy0=>[(7,vI (yy0.1:Int))]) (fun yy0=>[(600,some (.box 37 [.p none (.str t.name),vI t.arity,.own 1500])),(1500,some (.arr 38 1 true (yy0.2.map aB)))]) (fun yy0=>yy0.1<=t.rows.length/\yy0.2=(t.rows.take yy0.1).filter (fun x=> !gU row x)) (fun yy0=>t.rows.length - yy0.1) (fun yy0=> .len t.rows.length<| .br (.elem _ aB t.rows (fun e27=> .call (vI (aZ e27 row)) []<| .br (.elem _ aB t.rows (fun e38=> .app Int aE ([]:List Int) e38<| .appx (List Int) aB yy0.2 (([]:List Int)++e38)<| .back [(600,600),(1500,4200)])) (.back [(600,600),(1500,1500)]))) (.fin [(0,1500)])))) (p:=Lx (t.rows.map aB)<| Lx (row.map aE)<| uH t/\(uF t row/\Nr (eL t row) (t.name=((eA t row).1.name)/\t.arity=((eA t row).1.arity)/\(false)=((eA t row).2)/\t.rows.map aB=(eA t row).1.rows.map aB/\True) ((∃(k:Nat) (out:List (List Int)),0=(k:Int)/\t.name=t.name/\t.arity=t.arity/\[]=out.map aB/\k<=t.rows.length/\out=(t.rows.take k).filter (fun x=> !gU row x))/\ ∀(k:Nat) (out:List (List Int)),(k<=t.rows.length/\out=(t.rows.take k).filter (fun x=> !gU row x))->Lm aB t.rows/\Br ((k:Int)<(t.rows.length:Int)) (0<=(k:Int)/\Em aB t.rows k fun e27=>dC e27 row/\Nb ((aZ e27 row)=0) (0<=(k:Int)/\Em aB t.rows k fun e38=>Ap aE ([]:List Int) e38 8 (out.map aB=out.map aB/\(([]:List Int)++e38).map aE=(([]:List Int)++e38).map aE/\(out.length+1)*24<=140737488355328/\dO ((k:Int)+1)/\ ∃(k' :Nat) (out' :List (List Int)),((k:Int)+1)=(k' :Int)/\t.name=t.name/\t.arity=t.arity/\(out++[([]:List Int)++e38]).map aB=out'.map aB/\(k' <=t.rows.length/\out' =(t.rows.take k').filter (fun x=> !gU row x))/\t.rows.length - k' <t.rows.length - k)) (dO ((k:Int)+1)/\ ∃(k' :Nat) (out' :List (List Int)),((k:Int)+1)=(k' :Int)/\t.name=t.name/\t.arity=t.arity/\out.map aB=out'.map aB/\(k' <=t.rows.length/\out' =(t.rows.take k').filter (fun x=> !gU row x))/\t.rows.length - k' <t.rows.length - k)) (t.name=((eA t row).1.name)/\t.arity=((eA t row).1.arity)/\(true)=((eA t row).2)/\out.map aB=(eA t row).1.rows.map aB/\True)))) (by kernel_rfl) ?_;refine lx fun n0=>lx fun n1=>?_;have q1:cN t=t.name.size+aX t.rows:=rfl;have q2:=cI t.rows;refine⟨aFA _ (by omega),aEy _ _,dm (fun c0=>?_) fun c0=>?_⟩
 ·have hbad:eL t row=false:=by simpa using c0
  apply et4<;>(first|(rw[zO hbad]<;>rfl)|(rw[oN hok]<;>rfl)|(rw[oN hok,ho,aE4 (by omega),hE]))
 ·have hok:eL t row=true:=by simpa using c0
  have hE:=aJ3 hok;refine⟨⟨0,([]:List (List Int)),rfl,rfl,rfl,rfl,aB2 _,rfl⟩,fun k out ⟨hk,ho⟩=>?_⟩;have hol:out.length<=k:=by rw[ho];exact Nat.le_trans (List.length_filter_le _ _) (by simp;omega)
  refine⟨aBS _,dd (fun c1=>?_) fun c1=>?_⟩
  ·refine⟨by omega,rfl,by omega,fun e27 h27=>?_⟩
   try (obtain rfl:=(bF h27 h27).symm)
   have hp3:=hX h27;refine⟨eR _ _,dn (fun c2=>?_) fun c2=>?_⟩
   ·refine⟨by omega,rfl,by omega,fun e38 h38=>?_⟩
    try (obtain rfl:=(bF h27 h38).symm)
    refine ap ?_ (fun _=>rfl) (by first|omega|(simp;omega)|(simp[ho];have:=List.length_filter_le (fun x=> !gU row x) (t.rows.take k);simp at this;omega));refine⟨rfl,rfl,by first|omega|(simp;omega)|(simp[ho];have:=List.length_filter_le (fun x=> !gU row x) (t.rows.take k);simp at this;omega),?_⟩;refine⟨⟨by omega,by omega⟩,?_⟩;exact⟨k+1,_,rfl,rfl,rfl,rfl,⟨by omega,by rw[ho,bR h27,List.filter_append,List.filter_cons_of_pos (by simpa [gU] using fun q=>c2 (cR.2 q))];rfl⟩,by omega⟩
   ·refine⟨⟨by omega,by omega⟩,?_⟩;exact⟨k+1,_,rfl,rfl,rfl,rfl,⟨by omega,by rw[ho,bR h27,List.filter_append,List.filter_cons_of_neg (by simpa [gU] using cR.1 c2)];simp⟩,by omega⟩
  ·apply et4<;>(first|(rw[zO hbad]<;>rfl)|(rw[oN hok]<;>rfl)|(rw[oN hok,ho,aE4 (by omega),hE]))
abbrev jL (x:TableStatsD):AV × List (Nat × Rs):=(.agg [.p none (.str x.name),vI x.arity,vI x.rowCount,.own 0],[(0,.arr 62 3 true (x.groups.map aA))])
abbrev mI (x:TableStatsD):Prop:=Cn 61 [.agg [.str x.name,.int .i64 x.arity,.int .i64 x.rowCount,.sl 62 3 (x.groups.map aA)]] (jL x).1 (jL x).2
theorem wR (x:TableStatsD)(hc:aT x<=1048576):mI x:=by
 refine cq Tryz.func61 (.loop (Nat × (List aG)) (Q2 Nat (List aG)) ([4,5,6]++rg 14 57) [300,500,2100,2800,2900,3600,5100,6100,6200,6300,6800,6900,9000,9001] (fun yy0=>[(4,vI (yy0.1:Int))]) (fun yy0=>[(300,some (.box 29 [.p none (.str x.name),vI x.arity,vI x.rowCount,.own 9000])),(9000,some (.arr 62 3 true (yy0.2.map aA)))]) (fun yy0=>yy0.1<=x.groups.length/\yy0.2=x.groups.take yy0.1) (fun yy0=>x.groups.length - yy0.1) (fun yy0=> .len x.groups.length<| .br (.elem _ aA x.groups (fun e25=> .app Int aE ([]:List Int) e25.columns<| .elem _ aA x.groups (fun e33=> .app Int aE ([]:List Int) e33.counts<| .loop (Nat × (List (List Int))) (Q2 Nat (List (List Int))) ([6]++rg 38 27) [500,5100,6100,6200,6300,9001] (fun yy1=>[(6,vI (yy1.1:Int))]) (fun yy1=>[(500,some (.box 62 [.own 2800,.own 9001,.own 3600])),(9001,some (.arr 38 1 true (yy1.2.map aB)))]) (fun yy1=>yy1.1<=e25.values.length/\yy1.2=e25.values.take yy1.1) (fun yy1=>e25.values.length - yy1.1) (fun yy1=> .elem _ aA x.groups (fun e42=> .len e42.values.length<| .br (.elem _ aA x.groups (fun e55=> .elem _ aB e55.values (fun e59=> .app Int aE ([]:List Int) e59<| .appx (List Int) aB yy1.2 (([]:List Int)++e59)<| .back [(500,500),(9001,6300)]))) (.appx aG aA yy0.2 (⟨([]:List Int)++e25.columns,yy1.2,([]:List Int)++e33.counts⟩:aG)<| .back [(300,300),(9000,6900)])))))) (.fin [(0,9000)]))) (p:=Lx (x.groups.map aA)<| (∃(k:Nat) (out:List aG),0=(k:Int)/\x.name=x.name/\x.arity=x.arity/\x.rowCount=x.rowCount/\[]=out.map aA/\k<=x.groups.length/\out=x.groups.take k)/\ ∀(k:Nat) (out:List aG),(k<=x.groups.length/\out=x.groups.take k)->Lm aA x.groups/\Br ((k:Int)<(x.groups.length:Int)) (0<=(k:Int)/\Em aA x.groups k fun e25=>Ap aE ([]:List Int) e25.columns 8 (0<=(k:Int)/\Em aA x.groups k fun e33=>Ap aE ([]:List Int) e33.counts 8 ((∃(i:Nat) (v:List (List Int)),0=(i:Int)/\[]=v.map aB/\i<=e25.values.length/\v=e25.values.take i)/\ ∀(i:Nat) (v:List (List Int)),(i<=e25.values.length/\v=e25.values.take i)->0<=(k:Int)/\Em aA x.groups k fun e42=>Lm aB e42.values/\Br ((i:Int)<(e42.values.length:Int)) (0<=(k:Int)/\Em aA x.groups k fun e55=>0<=(i:Int)/\Em aB e55.values i fun e59=>Ap aE ([]:List Int) e59 8 (v.map aB=v.map aB/\(([]:List Int)++e59).map aE=(([]:List Int)++e59).map aE/\(v.length+1)*24<=140737488355328/\dO ((i:Int)+1)/\ ∃(i' :Nat) (v' :List (List Int)),((i:Int)+1)=(i' :Int)/\(v++[([]:List Int)++e59]).map aB=v'.map aB/\(i' <=e25.values.length/\v' =e25.values.take i')/\e25.values.length - i' <e25.values.length - i)) (out.map aA=out.map aA/\(([]:List Int)++e25.columns).map aE=(⟨([]:List Int)++e25.columns,v,([]:List Int)++e33.counts⟩:aG).columns.map aE/\v.map aB=(⟨([]:List Int)++e25.columns,v,([]:List Int)++e33.counts⟩:aG).values.map aB/\(([]:List Int)++e33.counts).map aE=(⟨([]:List Int)++e25.columns,v,([]:List Int)++e33.counts⟩:aG).counts.map aE/\(out.length+1)*72<=140737488355328/\dO ((k:Int)+1)/\ ∃(k' :Nat) (out' :List aG),((k:Int)+1)=(k' :Int)/\x.name=x.name/\x.arity=x.arity/\x.rowCount=x.rowCount/\(out++[(⟨([]:List Int)++e25.columns,v,([]:List Int)++e33.counts⟩:aG)]).map aA=out'.map aA/\(k' <=x.groups.length/\out' =x.groups.take k')/\x.groups.length - k' <x.groups.length - k)))) (x.name=x.name/\x.arity=x.arity/\x.rowCount=x.rowCount/\out.map aA=x.groups.map aA/\True)) (by kernel_rfl) ?_;refine lx fun n0=>?_;have q2:aT x=x.name.size+cD x.groups:=rfl;have q5:=dZ x.groups;refine⟨⟨0,([]:List aG),rfl,rfl,rfl,rfl,rfl,aB2 _,rfl⟩,fun k out ⟨hk,ho⟩=>?_⟩;refine⟨aBS _,dd (fun c0=>?_) fun c0=>?_⟩
 ·refine⟨by omega,rfl,by omega,fun e25 h25=>?_⟩
  try (obtain rfl:=(bF h25 h25).symm)
  have q1:=eO h25;have q3:aR e25=bY e25.columns+aX e25.values+bY e25.counts:=rfl;have q6:bY e25.columns=e25.columns.length:=rfl;have q7:bY e25.counts=e25.counts.length:=rfl;have q8:=cI e25.values;refine ap ?_ (fun _=>rfl) (by (simp;omega));refine⟨by omega,rfl,by omega,fun e33 h33=>?_⟩
  try (obtain rfl:=(bF h25 h33).symm)
  refine ap ?_ (fun _=>rfl) (by (simp;omega));refine⟨⟨0,([]:List (List Int)),rfl,rfl,aB2 _,rfl⟩,fun i v ⟨hi,hv⟩=>?_⟩;refine⟨by omega,rfl,by omega,fun e42 h42=>?_⟩
  try (obtain rfl:=(bF h25 h42).symm)
  refine⟨aBS _,dd (fun c1=>?_) fun c1=>?_⟩
  ·refine⟨by omega,rfl,by omega,fun e55 h55=>?_⟩
   try (obtain rfl:=(bF h25 h55).symm)
   refine⟨by omega,rfl,by omega,fun e59 h59=>?_⟩;have hp3:=hX h59;refine ap ?_ (fun _=>rfl) (by (simp;omega));refine⟨rfl,rfl,by (simp[hv];omega),⟨by omega,by omega⟩,?_⟩;exact⟨i+1,_,rfl,rfl,⟨by omega,by rw[hv,bR h59];rfl⟩,by omega⟩
  ·have hvv:v=e25.values:=by rw[hv,aE4 (by omega)]
   refine⟨rfl,rfl,rfl,rfl,by (simp[ho];omega),⟨by omega,by omega⟩,?_⟩;exact⟨k+1,_,rfl,rfl,rfl,rfl,rfl,⟨by omega,by rw[ho,bR h25,hvv];rfl⟩,by omega⟩
 ·refine⟨rfl,rfl,rfl,?_,trivial⟩
  ·(rw[ho,aE4 (by omega)])
def gA (x:TableStatsD)(u:cJ):aJ × Bool:=if u.ins=true then cE (bS x) u.row else eA (bS x) u.row
def mN (x:TableStatsD)(u:cJ):Bool:=aU x&&(u.name.toList==x.name.toList)
def bL (x:TableStatsD)(u:cJ):TableStatsD × Bool:=if (mN x u&&(gA x u).2)=true then (aF (gA x u).1,true) else (x,false)
theorem cL {x:TableStatsD}{u:cJ}(h1:mN x u=true)(h2:(gA x u).2=true):bL x u=(aF (gA x u).1,true):=by rw[bL,h1,h2];rfl
theorem gB {x:TableStatsD}{u:cJ}(h:(mN x u&&(gA x u).2)=false):bL x u=(x,false):=by rw[bL,h];rfl
theorem aFD {x:TableStatsD}{u:cJ}(h:u.ins=true):gA x u=cE (bS x) u.row:=by rw[gA,if_pos h]
theorem aFE {x:TableStatsD}{u:cJ}(h:u.ins=false):gA x u=eA (bS x) u.row:=by rw[gA,if_neg (by rw[h];decide)]
theorem aBM (x:TableStatsD)(u:cJ):aT (bL x u).1<=aT x+2000:=by
 cases h:mN x u&&(gA x u).2 with
 | false=>rw[gB h];show aT x<=_;omega
 | true=>
   rw[aBT] at h;rw[cL h.1 h.2];have:=kG (gA x u).1;show aT (aF (gA x u).1)<=_;omega
abbrev jM (x:TableStatsD)(u:cJ):AV × List (Nat × Rs):=(.tup [.agg [.p none (.str ((bL x u).1.name)),vI ((bL x u).1.arity),vI ((bL x u).1.rowCount),.own 0],vB ((bL x u).2)],[(0,.arr 62 3 true ((bL x u).1.groups.map aA))])
abbrev mJ (x:TableStatsD)(u:cJ):Prop:=Cn 16 [.agg [.str x.name,.int .i64 x.arity,.int .i64 x.rowCount,.sl 62 3 (x.groups.map aA)],.agg [.str u.name,.bool u.ins,.sl 3 1 (u.row.map aE)]] (jM x u).1 (jM x u).2
theorem wS (x:TableStatsD)(u:cJ)(hc:aT x<=1048576)(hu:mX u<=1048576):mJ x u:=by
 refine cq Tryz.func16 (bC (iI x)<| .br (bC (jD x)<| .fin [(0,2300)]) (.lit<| .lit<| .lit<| .lit<| .lit<| .br (bC (jD x)<| .fin [(0,2300)]) (.br (bC (uI (bS x) u.row)<| .br (bC (jD x)<| .fin [(0,4300)]) (bC (lK ((cE (bS x) u.row).1))<| .fin [(0,4500)])) (bC (uK (bS x) u.row)<| .br (bC (jD x)<| .fin [(0,4300)]) (bC (lK ((eA (bS x) u.row).1))<| .fin [(0,4500)]))))) (p:=Lx (x.groups.map aA)<| Lx (u.row.map aE)<| kW x/\Nr (aU x) (mD x/\x.name=((bL x u).1.name)/\x.arity=((bL x u).1.arity)/\x.rowCount=((bL x u).1.rowCount)/\(false)=((bL x u).2)/\x.groups.map aA=(bL x u).1.groups.map aA/\True) (Nr (u.name.toList==x.name.toList) (mD x/\x.name=((bL x u).1.name)/\x.arity=((bL x u).1.arity)/\x.rowCount=((bL x u).1.rowCount)/\(false)=((bL x u).2)/\x.groups.map aA=(bL x u).1.groups.map aA/\True) (Bb (u.ins) (aBJ (bS x) u.row/\Nr ((cE (bS x) u.row).2) (mD x/\x.name=((bL x u).1.name)/\x.arity=((bL x u).1.arity)/\x.rowCount=((bL x u).1.rowCount)/\(false)=((bL x u).2)/\x.groups.map aA=(bL x u).1.groups.map aA/\True) (oF ((cE (bS x) u.row).1)/\((aF ((cE (bS x) u.row).1)).name)=((bL x u).1.name)/\((aF ((cE (bS x) u.row).1)).arity)=((bL x u).1.arity)/\((aF ((cE (bS x) u.row).1)).rowCount)=((bL x u).1.rowCount)/\(true)=((bL x u).2)/\((aF ((cE (bS x) u.row).1)).groups).map aA=(bL x u).1.groups.map aA/\True)) (aBK (bS x) u.row/\Nr ((eA (bS x) u.row).2) (mD x/\x.name=((bL x u).1.name)/\x.arity=((bL x u).1.arity)/\x.rowCount=((bL x u).1.rowCount)/\(false)=((bL x u).2)/\x.groups.map aA=(bL x u).1.groups.map aA/\True) (oF ((eA (bS x) u.row).1)/\((aF ((eA (bS x) u.row).1)).name)=((bL x u).1.name)/\((aF ((eA (bS x) u.row).1)).arity)=((bL x u).1.arity)/\((aF ((eA (bS x) u.row).1)).rowCount)=((bL x u).1.rowCount)/\(true)=((bL x u).2)/\((aF ((eA (bS x) u.row).1)).groups).map aA=(bL x u).1.groups.map aA/\True))))) (by kernel_rfl) ?_;refine lx fun n0=>lx fun n1=>?_;have q3:mX u=u.name.size+bY u.row:=rfl;have q4:bY u.row=u.row.length:=rfl;refine⟨uA x (by omega),dm (fun g15=>?_) fun g15=>?_⟩
 ·have hbad:(mN x u&&(gA x u).2)=false:=by simp[mN, *]
  refine⟨wD _ (by omega),?_,?_,?_,?_,?_,trivial⟩<;>(first|(rw[gB hbad]<;>rfl)|(rw[cL hG hU,hE]<;>rfl)|(rw[cL hG hU]<;>rfl))
 ·refine dm (fun c0=>?_) fun c0=>?_
  ·have hbad:(mN x u&&(gA x u).2)=false:=by simp[mN, *]
   refine⟨wD _ (by omega),?_,?_,?_,?_,?_,trivial⟩<;>(first|(rw[gB hbad]<;>rfl)|(rw[cL hG hU,hE]<;>rfl)|(rw[cL hG hU]<;>rfl))
  ·have hok:aU x=true:=by simpa using g15
   have hG:mN x u=true:=by rw[mN,hok];simpa using c0
   have hsm:cN (bS x)<=64:=tA (jE hok).1;refine db (fun c1=>?_) fun c1=>?_
   ·have hE:(cE (bS x) u.row)=gA x u:=by rw[aFD c1]
    refine⟨aJ5 (bS x) u.row (by omega) (by omega),dm (fun c2=>?_) fun c2=>?_⟩
    ·have hU:(gA x u).2=false:=by rw[<-hE];simpa using c2
     have hbad:(mN x u&&(gA x u).2)=false:=by rw[hU,Bool.and_false]
     refine⟨wD _ (by omega),?_,?_,?_,?_,?_,trivial⟩<;>(first|(rw[gB hbad]<;>rfl)|(rw[cL hG hU,hE]<;>rfl)|(rw[cL hG hU]<;>rfl))
    ·have hU:(gA x u).2=true:=by rw[<-hE];simpa using c2
     refine⟨wC ((cE (bS x) u.row).1),?_,?_,?_,?_,?_,trivial⟩<;>(first|(rw[gB hbad]<;>rfl)|(rw[cL hG hU,hE]<;>rfl)|(rw[cL hG hU]<;>rfl))
   ·have hE:(eA (bS x) u.row)=gA x u:=by rw[aFE c1]
    refine⟨aJ6 (bS x) u.row (by omega) (by omega),dm (fun c2=>?_) fun c2=>?_⟩
    ·have hU:(gA x u).2=false:=by rw[<-hE];simpa using c2
     have hbad:(mN x u&&(gA x u).2)=false:=by rw[hU,Bool.and_false]
     refine⟨wD _ (by omega),?_,?_,?_,?_,?_,trivial⟩<;>(first|(rw[gB hbad]<;>rfl)|(rw[cL hG hU,hE]<;>rfl)|(rw[cL hG hU]<;>rfl))
    ·have hU:(gA x u).2=true:=by rw[<-hE];simpa using c2
     refine⟨wC ((eA (bS x) u.row).1),?_,?_,?_,?_,?_,trivial⟩<;>(first|(rw[gB hbad]<;>rfl)|(rw[cL hG hU,hE]<;>rfl)|(rw[cL hG hU]<;>rfl))
abbrev mK (x:TableStatsD)(u:cJ):AV × List (Nat × Rs):=(.tup [.agg [.p none (.str ((bL x u).1.name)),vI ((bL x u).1.arity),vI ((bL x u).1.rowCount),.own 0],vB ((bL x u).2)],[(0,.arr 62 3 true ((bL x u).1.groups.map aA))])
abbrev pJ (x:TableStatsD)(u:cJ):Prop:=Cn 26 [.agg [.str x.name,.int .i64 x.arity,.int .i64 x.rowCount,.sl 62 3 (x.groups.map aA)],.agg [.str u.name,.bool u.ins,.sl 3 1 (u.row.map aE)]] (mK x u).1 (mK x u).2
theorem aBN (x:TableStatsD)(u:cJ)(hc:aT x<=1048576)(hu:mX u<=1048576):pJ x u:=by
 refine cq Tryz.func26 (bC (kH x)<| .call (vB (aU x)) []<| .br (bC (jL x)<| .fin [(0,2600)]) (.lit<| .lit<| .lit<| .lit<| .lit<| .br (bC (jL x)<| .fin [(0,2600)]) (.br (bC (pI ((bB x).1) u.row)<| .br (bC (jL x)<| .fin [(0,4700)]) (bC (hY ((cE ((bB x).1) u.row).1))<| .fin [(0,4900)])) (bC (uL ((bB x).1) u.row)<| .br (bC (jL x)<| .fin [(0,4700)]) (bC (hY ((eA ((bB x).1) u.row).1))<| .fin [(0,4900)]))))) (p:=Lx (x.groups.map aA)<| Lx (u.row.map aE)<| nB x/\jF x/\Nr (aU x) (mI x/\x.name=((bL x u).1.name)/\x.arity=((bL x u).1.arity)/\x.rowCount=((bL x u).1.rowCount)/\(false)=((bL x u).2)/\x.groups.map aA=(bL x u).1.groups.map aA/\True) (Nr (u.name.toList==x.name.toList) (mI x/\x.name=((bL x u).1.name)/\x.arity=((bL x u).1.arity)/\x.rowCount=((bL x u).1.rowCount)/\(false)=((bL x u).2)/\x.groups.map aA=(bL x u).1.groups.map aA/\True) (Bb (u.ins) (uJ ((bB x).1) u.row/\Nr ((cE ((bB x).1) u.row).2) (mI x/\x.name=((bL x u).1.name)/\x.arity=((bL x u).1.arity)/\x.rowCount=((bL x u).1.rowCount)/\(false)=((bL x u).2)/\x.groups.map aA=(bL x u).1.groups.map aA/\True) (jC ((cE ((bB x).1) u.row).1)/\((aF ((cE ((bB x).1) u.row).1)).name)=((bL x u).1.name)/\((aF ((cE ((bB x).1) u.row).1)).arity)=((bL x u).1.arity)/\((aF ((cE ((bB x).1) u.row).1)).rowCount)=((bL x u).1.rowCount)/\(true)=((bL x u).2)/\((aF ((cE ((bB x).1) u.row).1)).groups).map aA=(bL x u).1.groups.map aA/\True)) (aBL ((bB x).1) u.row/\Nr ((eA ((bB x).1) u.row).2) (mI x/\x.name=((bL x u).1.name)/\x.arity=((bL x u).1.arity)/\x.rowCount=((bL x u).1.rowCount)/\(false)=((bL x u).2)/\x.groups.map aA=(bL x u).1.groups.map aA/\True) (jC ((eA ((bB x).1) u.row).1)/\((aF ((eA ((bB x).1) u.row).1)).name)=((bL x u).1.name)/\((aF ((eA ((bB x).1) u.row).1)).arity)=((bL x u).1.arity)/\((aF ((eA ((bB x).1) u.row).1)).rowCount)=((bL x u).1.rowCount)/\(true)=((bL x u).2)/\((aF ((eA ((bB x).1) u.row).1)).groups).map aA=(bL x u).1.groups.map aA/\True))))) (by kernel_rfl) ?_;refine lx fun n0=>lx fun n1=>?_;have q3:mX u=u.name.size+bY u.row:=rfl;have q4:bY u.row=u.row.length:=rfl;refine⟨xW x (by omega),rJ _ (by omega),dm (fun g18=>?_) fun g18=>?_⟩
 ·have hbad:(mN x u&&(gA x u).2)=false:=by simp[mN, *]
  refine⟨wR _ (by omega),?_,?_,?_,?_,?_,trivial⟩<;>(first|(rw[gB hbad]<;>rfl)|(rw[cL hG hU,hE]<;>rfl)|(rw[cL hG hU]<;>rfl))
 ·refine dm (fun c0=>?_) fun c0=>?_
  ·have hbad:(mN x u&&(gA x u).2)=false:=by simp[mN, *]
   refine⟨wR _ (by omega),?_,?_,?_,?_,?_,trivial⟩<;>(first|(rw[gB hbad]<;>rfl)|(rw[cL hG hU,hE]<;>rfl)|(rw[cL hG hU]<;>rfl))
  ·have hok:aU x=true:=by simpa using g18
   have hG:mN x u=true:=by rw[mN,hok];simpa using c0
   have hts:=aGd hok;have hsm:cN (bB x).1<=64:=by rw[hts];exact tA (jE hok).1
   refine db (fun c1=>?_) fun c1=>?_
   ·have hE:(cE (bB x).1 u.row)=gA x u:=by rw[aFD c1];rw[hts]
    refine⟨aFC ((bB x).1) u.row (by omega) (by omega),dm (fun c2=>?_) fun c2=>?_⟩
    ·have hU:(gA x u).2=false:=by rw[<-hE];simpa using c2
     have hbad:(mN x u&&(gA x u).2)=false:=by rw[hU,Bool.and_false]
     refine⟨wR _ (by omega),?_,?_,?_,?_,?_,trivial⟩<;>(first|(rw[gB hbad]<;>rfl)|(rw[cL hG hU,hE]<;>rfl)|(rw[cL hG hU]<;>rfl))
    ·have hU:(gA x u).2=true:=by rw[<-hE];simpa using c2
     refine⟨sI ((cE ((bB x).1) u.row).1),?_,?_,?_,?_,?_,trivial⟩<;>(first|(rw[gB hbad]<;>rfl)|(rw[cL hG hU,hE]<;>rfl)|(rw[cL hG hU]<;>rfl))
   ·have hE:(eA (bB x).1 u.row)=gA x u:=by rw[aFE c1];rw[hts]
    refine⟨aJ7 ((bB x).1) u.row (by omega) (by omega),dm (fun c2=>?_) fun c2=>?_⟩
    ·have hU:(gA x u).2=false:=by rw[<-hE];simpa using c2
     have hbad:(mN x u&&(gA x u).2)=false:=by rw[hU,Bool.and_false]
     refine⟨wR _ (by omega),?_,?_,?_,?_,?_,trivial⟩<;>(first|(rw[gB hbad]<;>rfl)|(rw[cL hG hU,hE]<;>rfl)|(rw[cL hG hU]<;>rfl))
    ·have hU:(gA x u).2=true:=by rw[<-hE];simpa using c2
     refine⟨sI ((eA ((bB x).1) u.row).1),?_,?_,?_,?_,?_,trivial⟩<;>(first|(rw[gB hbad]<;>rfl)|(rw[cL hG hU,hE]<;>rfl)|(rw[cL hG hU]<;>rfl))
theorem aFF (l:List Int)(u:Cu)(ar:Nat)(most val:Int): ∀j,Asc (cV l u ar most val j).rows
 | 0=>List.Pairwise.nil
 | j+1=>by
   have h:=aFF l u ar most val j;show Asc (eN _ (cV l u ar most val j).rows);exact aAn h
theorem aFG (l:List Int)(u:Cu)(ar:Nat)(most:Int){val:Int}(hv:0<val/\val<=10): ∀j,∀r∈(cV l u ar most val j).rows,dM (ar:Int) r=true
 | 0,r,hr=>by simp[cV,itN] at hr
 | j+1,r,hr=>by
   have hr:r∈eN (cB (cC l val) ar (cV l u ar most val j).cu).1 (cV l u ar most val j).rows:=hr;rcases qZ.1 hr with rfl | hr
   ·have h1:=oL (cC l val) (cV l u ar most val j).cu ar;have h2:=aEq (f:=cC l val) (P:=fun x=>0<=x/\x<=9) (fun c=>by have:=dE l c (n:=val) (by omega);show 0<=(aD l c val).1/\(aD l c val).1<=9;omega) (cV l u ar most val j).cu ar;simp only[dM,aBT,aMX,aFJ];refine⟨fun x hx=>aCo (h2 x hx).1 (h2 x hx).2,by rw[h1]⟩
   exact aFG l u ar most hv j r hr
theorem aMU (l:List Int)(u:Cu){nm:ByteArray}{ar most val:Int}(hn:dX nm=true)(har:1<=ar/\ar<=3)(hm:0<=most/\most<=8)(hv:0<val/\val<=10):aL (nP l u nm ar most val).1=true:=by
 have h1:=aGf l u nm ar hm.1 val;have h2:Asc (nP l u nm ar most val).1.rows:=aFF l u ar.toNat most val _;have h3: ∀r∈(nP l u nm ar most val).1.rows,dM (ar.toNat:Int) r=true:=aFG l u ar.toNat most hv _;rw[show (ar.toNat:Int)=ar by omega] at h3;have e1:(nP l u nm ar most val).1.name=nm:=rfl;have e2:(nP l u nm ar most val).1.arity=ar:=rfl;rw[aL,e1,e2,aFJ.2 h3,hn,aCo har.1 har.2,decide_eq_true (show ((nP l u nm ar most val).1.rows.length:Int)<=8 by omega),aJM h2];rfl
def snL:List ByteArray:=[⟨#[114]⟩,⟨#[115]⟩,⟨#[117]⟩]
theorem aMV: ∀s∈snL,dX s=true:=by decide
def snN (l:List Int)(u:Cu):ByteArray × Cu:=dQ l u snL
def snA (l:List Int)(u:Cu):Int × Cu:=aD l (snN l u).2 3
def eX (l:List Int)(u:Cu):aJ × Cu:=nP l (snA l u).2 (snN l u).1 (1+(snA l u).1) 6 3
def jP (l:List Int)(u:Cu):Int × Cu:=aD l (eX l u).2 12
def kN (l:List Int)(u:Cu):TableStatsD:=aF (eX l u).1
def aFs (g:aG):aG:=if 0<g.counts.length then ⟨g.columns,g.values,g.counts.set 0 (g.counts.getD 0 0+1)⟩ else g
def aW (l:List Int)(u:Cu):TableStatsD × Cu:=
 if (jP l u).1=0 then (⟨(kN l u).name,(kN l u).arity,(kN l u).rowCount+1,(kN l u).groups⟩,(jP l u).2)
 else if (jP l u).1=1 then (⟨(kN l u).name,(kN l u).arity,(kN l u).rowCount,(kN l u).groups.take (Int.toNat (((kN l u).groups.length:Int) - 1))⟩,(jP l u).2)
 else if (jP l u).1=2 then (⟨(kN l u).name,(kN l u).arity,(kN l u).rowCount,aEt (kN l u).groups 0 aFs⟩,(jP l u).2)
 else if (jP l u).1=3 then (⟨(kN l u).name,(eI l (jP l u).2 [0,4,2]).1,(kN l u).rowCount,(kN l u).groups⟩,(eI l (jP l u).2 [0,4,2]).2)
 else (kN l u,(jP l u).2)
theorem aJ8 (l:List Int)(u:Cu):aL (eX l u).1=true:=by
 have h1:0<=(snA l u).1/\(snA l u).1<3:=dE l _ (by omega);exact aMU l _ (aMV _ (aCc l u (by decide))) ⟨by omega,by omega⟩ ⟨by omega,by omega⟩ ⟨by omega,by omega⟩
theorem aHh (l:List Int)(u:Cu):0<(kN l u).groups.length/\(kN l u).groups.length<=7:=by
 have h:=aJ8 l u;have hA:=bJ h;rw[kN,dG h];show 0<((aM (eX l u).1.arity).map (nN (eX l u).1)).length/\((aM (eX l u).1.arity).map (nN (eX l u).1)).length<=7;rw[aBS];have:(eX l u).1.arity=1\/(eX l u).1.arity=2\/(eX l u).1.arity=3:=by omega
 rcases this with e | e | e<;>rw[e]<;>decide
theorem aJ9 (l:List Int)(u:Cu):0<=(kN l u).rowCount/\(kN l u).rowCount<=8:=by
 have h:=aJ8 l u;have hA:=bJ h;rw[kN,dG h];show 0<=(((eX l u).1.rows.length:Nat):Int)/\(((eX l u).1.rows.length:Nat):Int)<=8;omega
theorem aFt {l:List Int}{u:Cu}(h:(jP l u).1=0):aW l u=(⟨(kN l u).name,(kN l u).arity,(kN l u).rowCount+1,(kN l u).groups⟩,(jP l u).2):=by rw[aW,if_pos h]
theorem aFu {l:List Int}{u:Cu}(h:(jP l u).1=1):aW l u=(⟨(kN l u).name,(kN l u).arity,(kN l u).rowCount,(kN l u).groups.take (Int.toNat (((kN l u).groups.length:Int) - 1))⟩,(jP l u).2):=by rw[aW,if_neg (by omega),if_pos h]
theorem aCg {l:List Int}{u:Cu}{g:aG}{x:Int}(h:(jP l u).1=2)(hg:(kN l u).groups[0]? =some g)(hx:g.counts[0]? =some x):aW l u=(⟨(kN l u).name,(kN l u).arity,(kN l u).rowCount,(kN l u).groups.set 0 ⟨g.columns,g.values,g.counts.set 0 (x+1)⟩⟩,(jP l u).2):=by
 rw[aW,if_neg (by omega),if_neg (by omega),if_pos h,aEu hg,aFs,if_pos (aEA.1 hx).1,bW hx]
theorem aCh {l:List Int}{u:Cu}{g:aG}(h:(jP l u).1=2)(hg:(kN l u).groups[0]? =some g)(hz:g.counts.length=0):aW l u=(⟨(kN l u).name,(kN l u).arity,(kN l u).rowCount,(kN l u).groups.set 0 ⟨g.columns,g.values,g.counts⟩⟩,(jP l u).2):=by
 rw[aW,if_neg (by omega),if_neg (by omega),if_pos h,aEu hg,aFs,if_neg (by omega)]
theorem aFv {l:List Int}{u:Cu}(h:(jP l u).1=3):aW l u=(⟨(kN l u).name,(eI l (jP l u).2 [0,4,2]).1,(kN l u).rowCount,(kN l u).groups⟩,(eI l (jP l u).2 [0,4,2]).2):=by rw[aW,if_neg (by omega),if_neg (by omega),if_neg (by omega),if_pos h]
theorem aFw {l:List Int}{u:Cu}(h0: ¬(jP l u).1=0)(h1: ¬(jP l u).1=1)(h2: ¬(jP l u).1=2)(h3: ¬(jP l u).1=3):aW l u=(kN l u,(jP l u).2):=by rw[aW,if_neg h0,if_neg h1,if_neg h2,if_neg h3]
theorem aCi {α:Type}(c:α->Nat): ∀(l:List α) (k:Nat),mM c (l.take k)<=mM c l
 | [],_=>by rw[List.take_nil];exact aLB _
 | a::l,0=>aB2 _
 | a::l,k+1=>by
   have h:=aCi c l k;have e: ∀(x:α) (m:List α),mM c (x::m)=mM c m+1+c x:=fun x m=>by unfold mM;simp only[aJv,aHl,List.sum_cons];omega
   rw[List.take_succ_cons,e,e];omega
theorem aMW (g:aG):aR (aFs g)=aR g:=by
 have e: ∀g:aG,aR g=g.columns.length+aX g.values+g.counts.length:=fun _=>rfl;unfold aFs;split
 ·rw[e,e];dsimp only;rw[aHj]
 rfl
theorem aMo (l:List Int)(u:Cu):aT (aW l u).1<=2000:=by
 have h:aT (kN l u)<=2000:=kG _;have e: ∀x:TableStatsD,aT x=x.name.size+mM aR x.groups:=fun _=>rfl;rw[e] at h;by_cases h0:(jP l u).1=0
 ·rw[aFt h0,e];exact h
 by_cases h1:(jP l u).1=1
 ·have:=aCi aR (kN l u).groups (Int.toNat (((kN l u).groups.length:Int) - 1));rw[aFu h1,e];dsimp only;omega
 by_cases h2:(jP l u).1=2
 ·rw[aW,if_neg h0,if_neg h1,if_pos h2,e]
  dsimp only
  have k:mM aR (aEt (kN l u).groups 0 aFs)=mM aR (kN l u).groups:=by
   unfold aEt;cases hq:(kN l u).groups with
   | nil=>rfl
   | cons a b=>
     have e: ∀(x:aG) (m:List aG),mM aR (x::m)=mM aR m+1+aR x:=fun x m=>by unfold mM;simp only[aJv,aHl,List.sum_cons];omega
     show mM aR (aFs a::b)=_;rw[e,e,aMW]
  omega
 by_cases h3:(jP l u).1=3
 ·rw[aFv h3,e];exact h
 rw[aFw h0 h1 h2 h3,e];exact h
theorem aMp {t:aJ}(h:aL t=true):cN t<=40:=by
 have h1:=bJ h;have h2:=pE h;have h3:=iH (l:=t.rows) (m:=3) fun r hr=>by have:=aDZ h hr;omega
 have e:cN t=t.name.size+aX t.rows:=rfl;omega
theorem aJa (x:TableStatsD):cN (bB x).1<=40:=by
 unfold bB;split
 ·decide
 unfold gT;split
 ·rename_i h;exact aMp h
 decide
theorem rQ {t:aJ}(h:aL t=true):bS (aF t)=t:=by
 rw[bS,(rG h).1,dG h]
theorem xY {t:aJ}(h:aL t=true):aU (aF t)=true:=by
 rw[aU,rQ h,h];simp
theorem aFx {t:aJ}(h:aL t=true)(row:List Int):bL (aF t) ⟨t.name,true,row⟩=if (cE t row).2=true then (aF (cE t row).1,true) else (aF t,false):=by
 have hn:(aF t).name=t.name:=by rw[dG h]
 have hg:mN (aF t) ⟨t.name,true,row⟩=true:=by rw[mN,xY h,hn];simp
 have hu:gA (aF t) ⟨t.name,true,row⟩=cE t row:=by rw[gA,if_pos rfl,rQ h]
 rw[bL,hg,hu,Bool.true_and]
theorem aBO {t:aJ}(h:aL t=true)(cols:List Int):eH (aF t) cols=cK (bT t cols).2:=by
 rw[rK (xY h),rQ h]
def nC (l:List Int)(u:Cu)(n:Int):List Int × Cu:=cB (cC l 4) n.toNat u
def bH (l:List Int)(u:Cu)(n:Int):List Int × Cu:=
 if (aD l (nC l u n).2 10).1=0 then ((nC l u n).1++[(eI l (aD l (nC l u n).2 10).2 [0,-1,10]).1],(eI l (aD l (nC l u n).2 10).2 [0,-1,10]).2) else ((nC l u n).1,(aD l (nC l u n).2 10).2)
theorem aCj (l:List Int)(u:Cu)(n:Int):(bH l u n).1.length<=n.toNat+1:=by
 have h:=oL (cC l 4) u n.toNat;have e:(nC l u n).1.length=n.toNat:=h;unfold bH;split
 ·simp only[aJw,aJv,List.length_nil];omega
 dsimp only;omega
structure US where
 ins:Bool
 row:List Int
 cu:Cu
def fP (t:aJ):Int:=if (0:Int)<(if t.arity<3 then t.arity else (3:Int)) then (if t.arity<3 then t.arity else (3:Int)) else (0:Int)
theorem aFy (t:aJ):fP t<=3/\0<=fP t:=by
 unfold fP;by_cases h:t.arity<3
 ·simp only[h,if_true];split<;>omega
 simp only[h,if_false];decide
def upI (l:List Int)(u:Cu)(t:aJ):Int × Cu:=aD l (aD l u 2).2 t.rows.length
def upR (l:List Int)(u:Cu)(t:aJ):US:=
 if 0<t.rows.length then (if (aD l u 2).1=0 then ⟨false,t.rows.getD (upI l u t).1.toNat [],(upI l u t).2⟩ else ⟨true,(bH l (aD l u 2).2 (fP t)).1,(bH l (aD l u 2).2 (fP t)).2⟩)
 else ⟨true,(bH l u (fP t)).1,(bH l u (fP t)).2⟩
def upN:List ByteArray:=[⟨#[]⟩,⟨#[119]⟩,⟨#[114]⟩]
def upX (l:List Int)(t:aJ)(s:US):cJ × Cu:=
 if (aD l s.cu 16).1=0 then (⟨(dQ l (aD l s.cu 16).2 upN).1,s.ins,s.row⟩,(dQ l (aD l s.cu 16).2 upN).2)
 else if (aD l s.cu 16).1=1 then (⟨t.name,!s.ins,s.row⟩,(aD l s.cu 16).2)
 else (⟨t.name,s.ins,s.row⟩,(aD l s.cu 16).2)
def cZ (l:List Int)(u:Cu)(d:dD):Int × Cu:=aD l u d.tables.length
def upT (l:List Int)(u:Cu)(d:dD):aJ:=d.tables.getD (cZ l u d).1.toNat aAd
def dJ (l:List Int)(u:Cu)(d:dD):cJ × Cu:=
 if d.tables.length=0 then (⟨⟨#[114]⟩,true,[0,1]⟩,u) else upX l (upT l u d) (upR l (cZ l u d).2 (upT l u d))
theorem aGh (l:List Int)(u:Cu)(t:aJ):(upR l u t).row.length<=cN t+4:=by
 have ha:(fP t).toNat<=3:=by have:=aFy t;omega
 have h1:=aCj l (aD l u 2).2 (fP t);have h2:=aCj l u (fP t);have e:cN t=t.name.size+aX t.rows:=rfl;unfold upR;split
 ·split
  ·rename_i h0 _
   dsimp only
   have hb:=dE l (aD l u 2).2 (n:=t.rows.length) (by omega);have hlt:(upI l u t).1.toNat<t.rows.length:=by have e2:(upI l u t).1=(aD l (aD l u 2).2 t.rows.length).1:=rfl;omega
   have h3:t.rows[(upI l u t).1.toNat]? =some (t.rows.getD (upI l u t).1.toNat []):=by rw[aFr,aCp hlt];rfl
   have h4:=hX h3;omega
  dsimp only;omega
 dsimp only;omega
theorem aMr (l:List Int)(t:aJ)(s:US):mX (upX l t s).1<=cN t+1+s.row.length:=by
 have e:cN t=t.name.size+aX t.rows:=rfl;have hs:(dQ l (aD l s.cu 16).2 upN).1.size<=1:=uD l _ (by decide) (by decide);have e2: ∀x:cJ,mX x=x.name.size+x.row.length:=fun _=>rfl;unfold upX;split
 ·rw[e2];dsimp only;omega
 split
 ·rw[e2];dsimp only;omega
 rw[e2];dsimp only;omega
theorem aMs (l:List Int)(u:Cu)(d:dD):mX (dJ l u d).1<=2*lB d+5:=by
 unfold dJ;split
 ·show 1+2<=_;omega
 rename_i h0;have h1:=aMr l (upT l u d) (upR l (cZ l u d).2 (upT l u d));have h2:=aGh l (cZ l u d).2 (upT l u d);have hb:=dE l u (n:=d.tables.length) (by omega);have hlt:(cZ l u d).1.toNat<d.tables.length:=by have e2:(cZ l u d).1=(aD l u d.tables.length).1:=rfl;omega
 have h3:d.tables[(cZ l u d).1.toNat]? =some (upT l u d):=by rw[upT,aFr,aCp hlt];rfl
 have h4:=aAe h3;have e3:lB d=mW d.tables:=rfl;omega
theorem aJb {l:List Int}{u:Cu}{n:Int}(h:(aD l (nC l u n).2 10).1=0):bH l u n=((nC l u n).1++[(eI l (aD l (nC l u n).2 10).2 [0,-1,10]).1],(eI l (aD l (nC l u n).2 10).2 [0,-1,10]).2):=by rw[bH,if_pos h]
theorem aJc {l:List Int}{u:Cu}{n:Int}(h: ¬(aD l (nC l u n).2 10).1=0):bH l u n=((nC l u n).1,(aD l (nC l u n).2 10).2):=by rw[bH,if_neg h]
theorem aBf {l:List Int}{u:Cu}{d:dD}(h:d.tables.length=0):dJ l u d=(⟨⟨#[114]⟩,true,[0,1]⟩,u):=by rw[dJ,if_pos h]
theorem eM {l:List Int}{u:Cu}{d:dD}{t:aJ}{s:US}(h: ¬d.tables.length=0)(hT:upT l u d=t)(hR:upR l (cZ l u d).2 t=s):dJ l u d=upX l t s:=by rw[dJ,if_neg h,hT,hR]
theorem aLP {l:List Int}{u:Cu}{t:aJ}{r:List Int}(h:(0:Int)<(t.rows.length:Int))(h2:(aD l u 2).1=0)(hr:t.rows[(aD l (aD l u 2).2 t.rows.length).1.toNat]? =some r):upR l u t=⟨false,r,(aD l (aD l u 2).2 t.rows.length).2⟩:=by
 rw[upR,if_pos (by omega),if_pos h2];have e:t.rows.getD (upI l u t).1.toNat []=r:=bW hr;rw[e];rfl
theorem aGi {l:List Int}{u:Cu}{t:aJ}(h:(0:Int)<(t.rows.length:Int))(h2: ¬(aD l u 2).1=0):upR l u t=⟨true,(bH l (aD l u 2).2 (fP t)).1,(bH l (aD l u 2).2 (fP t)).2⟩:=by rw[upR,if_pos (by omega),if_neg h2]
theorem aGj {l:List Int}{u:Cu}{t:aJ}(h: ¬0<(t.rows.length:Int)):upR l u t=⟨true,(bH l u (fP t)).1,(bH l u (fP t)).2⟩:=by rw[upR,if_neg (by omega)]
theorem tB {l:List Int}{t:aJ}{b:Bool}{r:List Int}{c:Cu}(h:(aD l c 16).1=0):upX l t ⟨b,r,c⟩=(⟨(dQ l (aD l c 16).2 upN).1,b,r⟩,(dQ l (aD l c 16).2 upN).2):=by rw[upX,if_pos h]
theorem tC {l:List Int}{t:aJ}{b:Bool}{r:List Int}{c:Cu}(h:(aD l c 16).1=1):upX l t ⟨b,r,c⟩=(⟨t.name,!b,r⟩,(aD l c 16).2):=by
 rw[upX,if_neg (fun e=>by rw[show (aD l (US.mk b r c).cu 16).1=(aD l c 16).1 from rfl,h] at e;exact absurd e (by decide)),if_pos h]
theorem tD {l:List Int}{t:aJ}{b:Bool}{r:List Int}{c:Cu}(h: ¬(aD l c 16).1=0)(h2: ¬(aD l c 16).1=1):upX l t ⟨b,r,c⟩=(⟨t.name,b,r⟩,(aD l c 16).2):=by rw[upX,if_neg h,if_neg h2]
abbrev kM (l:List Int)(u:Cu)(n:Int):List AV × List (Nat × Rs) × AV × List (Nat × Rs):=([.ptr 0 0,vI n],[(0,.box 102 [.p none (.sl 5 1 (l.map bN)),vI (u.i:Int),vI u.h])],.own 1,[(0,.box 102 [.p none (.sl 5 1 (l.map bN)),vI (((bH l u n).2.i:Nat):Int),vI ((bH l u n).2.h)]),(1,.arr 3 1 true ((bH l u n).1.map aE))])
abbrev rR (l:List Int)(u:Cu)(n:Int):Prop:=Cm 70 (kM l u n).1 (kM l u n).2.1 (kM l u n).2.2.1 (kM l u n).2.2.2
theorem aD9 (l:List Int)(u:Cu)(hl:l.length<=1048576)(n:Int)(hn:n<=3):rR l u n:=by
 refine cqx Tryz.func70 (.loop Nat (Q1 Nat) (rg 5 13) [0,700,1600,1700] (fun i=>[(6,vI (i:Int)),(5,.own 700)]) (fun i=>[(700,some (.arr 3 1 true ((cB (cC l 4) i u).1.map aE))),(0,some (.box 102 [.p none (.sl 5 1 (l.map bN)),vI (((cB (cC l 4) i u).2.i:Nat):Int),vI ((cB (cC l 4) i u).2.h)]))]) (fun i=>(i:Int)<=max 0 n) (fun i=>(n - i).toNat) (fun i=> .br (bQ (cP l ((cB (cC l 4) i u).2) (4:Int)) [(0,0)]<| .app Int aE ((cB (cC l 4) i u).1) ([(aD l ((cB (cC l 4) i u).2) (4:Int)).1]:List Int)<| .back [(0,0),(700,1700)]) (bQ (mG l ((cB (cC l 4) i u).2) (10:Int)) [(0,0)]<| .br (bQ (mH l ((aD l ((cB (cC l 4) i u).2) (10:Int)).2) ([(0:Int),(-1:Int),(10:Int)]:List Int)) [(0,0),(1,2200)]<| .app Int aE ((cB (cC l 4) i u).1) ([(eI l ((aD l ((cB (cC l 4) i u).2) (10:Int)).2) ([(0:Int),(-1:Int),(10:Int)]:List Int)).1]:List Int)<| .fin [(0,0),(1,2500)]) (.fin [(0,0),(1,700)])))) (p:=(∃(i:Nat),0=(i:Int)/\[]=(cB (cC l 4) i u).1.map aE/\l.map bN=l.map bN/\(u.i:Int)=(((cB (cC l 4) i u).2.i:Nat):Int)/\u.h=((cB (cC l 4) i u).2.h)/\(i:Int)<=max 0 n)/\ ∀(i:Nat),(i:Int)<=max 0 n->Br ((i:Int)<n) (cX l ((cB (cC l 4) i u).2) (4:Int)/\(4:Int)=4/\l.map bN=l.map bN/\(((cB (cC l 4) i u).2.i:Nat):Int)=(((cB (cC l 4) i u).2.i:Nat):Int)/\((cB (cC l 4) i u).2.h)=((cB (cC l 4) i u).2.h)/\Ap aE ((cB (cC l 4) i u).1) ([(aD l ((cB (cC l 4) i u).2) (4:Int)).1]:List Int) 8 (dO ((i:Int)+1)/\ ∃(i' :Nat),((i:Int)+1)=(i' :Int)/\(((cB (cC l 4) i u).1)++[(aD l ((cB (cC l 4) i u).2) (4:Int)).1]).map aE=(cB (cC l 4) i' u).1.map aE/\l.map bN=l.map bN/\(((aD l ((cB (cC l 4) i u).2) (4:Int)).2.i:Nat):Int)=(((cB (cC l 4) i' u).2.i:Nat):Int)/\((aD l ((cB (cC l 4) i u).2) (4:Int)).2.h)=((cB (cC l 4) i' u).2.h)/\(i' :Int)<=max 0 n/\(n - i').toNat<(n - i).toNat)) (wN l ((cB (cC l 4) i u).2) (10:Int)/\(10:Int)=10/\l.map bN=l.map bN/\(((cB (cC l 4) i u).2.i:Nat):Int)=(((cB (cC l 4) i u).2.i:Nat):Int)/\((cB (cC l 4) i u).2.h)=((cB (cC l 4) i u).2.h)/\Br ((aD l ((cB (cC l 4) i u).2) (10:Int)).1=0) (wO l ((aD l ((cB (cC l 4) i u).2) (10:Int)).2) ([(0:Int),(-1:Int),(10:Int)]:List Int)/\l.map bN=l.map bN/\(((aD l ((cB (cC l 4) i u).2) (10:Int)).2.i:Nat):Int)=((((aD l ((cB (cC l 4) i u).2) (10:Int)).2).i:Nat):Int)/\((aD l ((cB (cC l 4) i u).2) (10:Int)).2.h)=(((aD l ((cB (cC l 4) i u).2) (10:Int)).2).h)/\[[.int .i64 (0:Int)],[.int .i64 (-1:Int)],[.int .i64 (10:Int)]]=([(0:Int),(-1:Int),(10:Int)]:List Int).map aE/\Ap aE ((cB (cC l 4) i u).1) ([(eI l ((aD l ((cB (cC l 4) i u).2) (10:Int)).2) ([(0:Int),(-1:Int),(10:Int)]:List Int)).1]:List Int) 8 (l.map bN=l.map bN/\(((eI l ((aD l ((cB (cC l 4) i u).2) (10:Int)).2) ([(0:Int),(-1:Int),(10:Int)]:List Int)).2.i:Nat):Int)=(((bH l u n).2.i:Nat):Int)/\((eI l ((aD l ((cB (cC l 4) i u).2) (10:Int)).2) ([(0:Int),(-1:Int),(10:Int)]:List Int)).2.h)=((bH l u n).2.h)/\(((cB (cC l 4) i u).1)++[(eI l ((aD l ((cB (cC l 4) i u).2) (10:Int)).2) ([(0:Int),(-1:Int),(10:Int)]:List Int)).1]).map aE=(bH l u n).1.map aE/\True)) (l.map bN=l.map bN/\(((aD l ((cB (cC l 4) i u).2) (10:Int)).2.i:Nat):Int)=(((bH l u n).2.i:Nat):Int)/\((aD l ((cB (cC l 4) i u).2) (10:Int)).2.h)=((bH l u n).2.h)/\(cB (cC l 4) i u).1.map aE=(bH l u n).1.map aE/\True))) (by kernel_rfl) ?_;refine⟨⟨0,rfl,rfl,rfl,rfl,rfl,by omega⟩,fun i hi=>?_⟩;have hz:=oL (cC l 4) u i;refine dd (fun c0=>?_) fun c0=>?_
 ·refine⟨eW l ((cB (cC l 4) i u).2) (by assumption) (4:Int),rfl,rfl,rfl,rfl,?_⟩;refine ap ?_ (fun _=>rfl) (by first|omega|(simp;omega));refine⟨⟨by omega,by omega⟩,?_⟩;exact⟨i+1,rfl,rfl,rfl,rfl,rfl,by omega,by omega⟩
 ·have ei:n.toNat=i:=by omega
  refine⟨aFk l ((cB (cC l 4) i u).2) (by assumption) (10:Int),rfl,rfl,rfl,rfl,dd (fun c1=>?_) fun c1=>?_⟩
  ·refine⟨aFl l ((aD l ((cB (cC l 4) i u).2) (10:Int)).2) (by assumption) ([(0:Int),(-1:Int),(10:Int)]:List Int) (by decide),rfl,rfl,rfl,rfl,?_⟩;refine ap ?_ (fun _=>rfl) (by first|omega|(simp;omega));refine⟨rfl,?_,?_,?_,trivial⟩<;>((subst ei;first|(rw[aJb c1]<;>rfl)|(rw[aJc c1]<;>rfl)))
  ·refine⟨rfl,?_,?_,?_,trivial⟩<;>((subst ei;first|(rw[aJb c1]<;>rfl)|(rw[aJc c1]<;>rfl)))
theorem aJd {l:List Int}{u:Cu}(h:(iM l u).1=0):cF l u=(⟨(dQ l (iM l u).2 [⟨#[]⟩,⟨#[82]⟩,⟨#[114,115]⟩,⟨#[122]⟩]).1,(jI l u).1.arity,(jI l u).1.rows⟩,(dQ l (iM l u).2 [⟨#[]⟩,⟨#[82]⟩,⟨#[114,115]⟩,⟨#[122]⟩]).2):=by rw[cF,if_pos h]
theorem aJe {l:List Int}{u:Cu}(h:(iM l u).1=1):cF l u=(⟨(jI l u).1.name,(eI l (iM l u).2 [0,4,-1]).1,(jI l u).1.rows⟩,(eI l (iM l u).2 [0,4,-1]).2):=by rw[cF,if_neg (by omega),if_pos h]
theorem aJf {l:List Int}{u:Cu}(h:(iM l u).1=2):cF l u=(⟨(jI l u).1.name,(jI l u).1.arity,(jI l u).1.rows++[[0]]⟩,(iM l u).2):=by rw[cF,if_neg (by omega),if_neg (by omega),if_pos h]
theorem aJg {l:List Int}{u:Cu}(h:(iM l u).1=3):cF l u=(⟨(jI l u).1.name,(jI l u).1.arity,(jI l u).1.rows++[[9,9,10]]⟩,(iM l u).2):=by rw[cF,if_neg (by omega),if_neg (by omega),if_neg (by omega),if_pos h]
theorem aJh {l:List Int}{u:Cu}(h0: ¬(iM l u).1=0)(h1: ¬(iM l u).1=1)(h2: ¬(iM l u).1=2)(h3: ¬(iM l u).1=3):cF l u=((jI l u).1,(iM l u).2):=by rw[cF,if_neg h0,if_neg h1,if_neg h2,if_neg h3]
abbrev rS (l:List Int)(u:Cu):List AV × List (Nat × Rs) × AV × List (Nat × Rs):=([.ptr 0 0],[(0,.box 102 [.p none (.sl 5 1 (l.map bN)),vI (u.i:Int),vI u.h])],.agg [.p none (.str ((cF l u).1.name)),vI ((cF l u).1.arity),.own 1],[(0,.box 102 [.p none (.sl 5 1 (l.map bN)),vI (((cF l u).2.i:Nat):Int),vI ((cF l u).2.h)]),(1,.arr 38 1 true ((cF l u).1.rows.map aB))])
abbrev aFH (l:List Int)(u:Cu):Prop:=Cm 67 (rS l u).1 (rS l u).2.1 (rS l u).2.2.1 (rS l u).2.2.2
theorem aMY (l:List Int)(u:Cu)(hl:l.length<=1048576):aFH l u:=by
 refine cqx Tryz.func67 (bQ (fL l u ([(⟨#[114]⟩:ByteArray),(⟨#[115]⟩:ByteArray),(⟨#[116]⟩:ByteArray)]:List ByteArray)) [(0,0),(1,600)]<| bQ (cP l ((t4N l u).2) (3:Int)) [(0,0)]<| bQ (sR l ((yX l u).2) ((t4N l u).1) ((1:Int)+((yX l u).1)) (6:Int) (4:Int)) [(0,0)]<| bQ (cP l ((jI l u).2) (12:Int)) [(0,0)]<| .br (bQ (fL l ((iM l u).2) ([(⟨#[]⟩:ByteArray),(⟨#[82]⟩:ByteArray),(⟨#[114,115]⟩:ByteArray),(⟨#[122]⟩:ByteArray)]:List ByteArray)) [(0,0),(1,1700)]<| .fin [(0,0),(1,1101)]) (.br (bQ (mH l ((iM l u).2) ([(0:Int),(4:Int),(-1:Int)]:List Int)) [(0,0),(1,2300)]<| .fin [(0,0),(1,1101)]) (.br (.appx (List Int) aB ((jI l u).1.rows) ([(0:Int)]:List Int)<| .fin [(0,0),(1,3200)]) (.br (.appx (List Int) aB ((jI l u).1.rows) ([(9:Int),(9:Int),(10:Int)]:List Int)<| .fin [(0,0),(1,4000)]) (.fin [(0,0),(1,1101)]))))) (p:=jJ l u ([(⟨#[114]⟩:ByteArray),(⟨#[115]⟩:ByteArray),(⟨#[116]⟩:ByteArray)]:List ByteArray)/\l.map bN=l.map bN/\(u.i:Int)=(u.i:Int)/\u.h=u.h/\[[.str (⟨#[114]⟩:ByteArray)],[.str (⟨#[115]⟩:ByteArray)],[.str (⟨#[116]⟩:ByteArray)]]=([(⟨#[114]⟩:ByteArray),(⟨#[115]⟩:ByteArray),(⟨#[116]⟩:ByteArray)]:List ByteArray).map aAb/\cX l ((t4N l u).2) (3:Int)/\(3:Int)=3/\l.map bN=l.map bN/\(((t4N l u).2.i:Nat):Int)=(((t4N l u).2.i:Nat):Int)/\((t4N l u).2.h)=((t4N l u).2.h)/\dO ((1:Int)+((yX l u).1))/\aD6 l ((yX l u).2) ((t4N l u).1) ((1:Int)+((yX l u).1)) (6:Int) (4:Int)/\((t4N l u).1)=((t4N l u).1)/\((1:Int)+((yX l u).1))=((1:Int)+((yX l u).1))/\(6:Int)=6/\(4:Int)=4/\l.map bN=l.map bN/\(((yX l u).2.i:Nat):Int)=(((yX l u).2.i:Nat):Int)/\((yX l u).2.h)=((yX l u).2.h)/\cX l ((jI l u).2) (12:Int)/\(12:Int)=12/\l.map bN=l.map bN/\(((jI l u).2.i:Nat):Int)=(((jI l u).2.i:Nat):Int)/\((jI l u).2.h)=((jI l u).2.h)/\Br (((iM l u).1)=0) (jJ l ((iM l u).2) ([(⟨#[]⟩:ByteArray),(⟨#[82]⟩:ByteArray),(⟨#[114,115]⟩:ByteArray),(⟨#[122]⟩:ByteArray)]:List ByteArray)/\l.map bN=l.map bN/\(((iM l u).2.i:Nat):Int)=(((iM l u).2.i:Nat):Int)/\((iM l u).2.h)=((iM l u).2.h)/\[[.str (⟨#[]⟩:ByteArray)],[.str (⟨#[82]⟩:ByteArray)],[.str (⟨#[114,115]⟩:ByteArray)],[.str (⟨#[122]⟩:ByteArray)]]=([(⟨#[]⟩:ByteArray),(⟨#[82]⟩:ByteArray),(⟨#[114,115]⟩:ByteArray),(⟨#[122]⟩:ByteArray)]:List ByteArray).map aAb/\((dQ l ((iM l u).2) ([(⟨#[]⟩:ByteArray),(⟨#[82]⟩:ByteArray),(⟨#[114,115]⟩:ByteArray),(⟨#[122]⟩:ByteArray)]:List ByteArray)).1)=((cF l u).1.name)/\((jI l u).1.arity)=((cF l u).1.arity)/\l.map bN=l.map bN/\(((dQ l ((iM l u).2) ([(⟨#[]⟩:ByteArray),(⟨#[82]⟩:ByteArray),(⟨#[114,115]⟩:ByteArray),(⟨#[122]⟩:ByteArray)]:List ByteArray)).2.i:Nat):Int)=(((cF l u).2.i:Nat):Int)/\((dQ l ((iM l u).2) ([(⟨#[]⟩:ByteArray),(⟨#[82]⟩:ByteArray),(⟨#[114,115]⟩:ByteArray),(⟨#[122]⟩:ByteArray)]:List ByteArray)).2.h)=((cF l u).2.h)/\(jI l u).1.rows.map aB=(cF l u).1.rows.map aB/\True) (Br (((iM l u).1)=1) (wO l ((iM l u).2) ([(0:Int),(4:Int),(-1:Int)]:List Int)/\l.map bN=l.map bN/\(((iM l u).2.i:Nat):Int)=(((iM l u).2.i:Nat):Int)/\((iM l u).2.h)=((iM l u).2.h)/\[[.int .i64 (0:Int)],[.int .i64 (4:Int)],[.int .i64 (-1:Int)]]=([(0:Int),(4:Int),(-1:Int)]:List Int).map aE/\((jI l u).1.name)=((cF l u).1.name)/\((eI l ((iM l u).2) ([(0:Int),(4:Int),(-1:Int)]:List Int)).1)=((cF l u).1.arity)/\l.map bN=l.map bN/\(((eI l ((iM l u).2) ([(0:Int),(4:Int),(-1:Int)]:List Int)).2.i:Nat):Int)=(((cF l u).2.i:Nat):Int)/\((eI l ((iM l u).2) ([(0:Int),(4:Int),(-1:Int)]:List Int)).2.h)=((cF l u).2.h)/\(jI l u).1.rows.map aB=(cF l u).1.rows.map aB/\True) (Br (((iM l u).1)=2) ((jI l u).1.rows.map aB=(jI l u).1.rows.map aB/\[[.int .i64 (0:Int)]]=([(0:Int)]:List Int).map aE/\((jI l u).1.rows.length+1)*24<=140737488355328/\((jI l u).1.name)=((cF l u).1.name)/\((jI l u).1.arity)=((cF l u).1.arity)/\l.map bN=l.map bN/\(((iM l u).2.i:Nat):Int)=(((cF l u).2.i:Nat):Int)/\((iM l u).2.h)=((cF l u).2.h)/\(((jI l u).1.rows)++[([(0:Int)]:List Int)]).map aB=(cF l u).1.rows.map aB/\True) (Br (((iM l u).1)=3) ((jI l u).1.rows.map aB=(jI l u).1.rows.map aB/\[[.int .i64 (9:Int)],[.int .i64 (9:Int)],[.int .i64 (10:Int)]]=([(9:Int),(9:Int),(10:Int)]:List Int).map aE/\((jI l u).1.rows.length+1)*24<=140737488355328/\((jI l u).1.name)=((cF l u).1.name)/\((jI l u).1.arity)=((cF l u).1.arity)/\l.map bN=l.map bN/\(((iM l u).2.i:Nat):Int)=(((cF l u).2.i:Nat):Int)/\((iM l u).2.h)=((cF l u).2.h)/\(((jI l u).1.rows)++[([(9:Int),(9:Int),(10:Int)]:List Int)]).map aB=(cF l u).1.rows.map aB/\True) (((jI l u).1.name)=((cF l u).1.name)/\((jI l u).1.arity)=((cF l u).1.arity)/\l.map bN=l.map bN/\(((iM l u).2.i:Nat):Int)=(((cF l u).2.i:Nat):Int)/\((iM l u).2.h)=((cF l u).2.h)/\(jI l u).1.rows.map aB=(cF l u).1.rows.map aB/\True))))) (by kernel_rfl) ?_;have z0:=aLN l u;have w0:0<=(yX l u).1/\(yX l u).1<3:=dE l (t4N l u).2 (n:=3) (by omega);refine⟨sQ l u (by assumption) ([(⟨#[114]⟩:ByteArray),(⟨#[115]⟩:ByteArray),(⟨#[116]⟩:ByteArray)]:List ByteArray) (by decide),rfl,rfl,rfl,rfl,eW l ((t4N l u).2) (by assumption) (3:Int),rfl,rfl,rfl,rfl,⟨by omega,by omega⟩,aLO l ((yX l u).2) (by assumption) ((t4N l u).1) ((1:Int)+((yX l u).1)) (6:Int) (4:Int) (by omega) (by omega),rfl,rfl,rfl,rfl,rfl,rfl,rfl,eW l ((jI l u).2) (by assumption) (12:Int),rfl,rfl,rfl,rfl,dd (fun c0=>?_) fun c0=>?_⟩
 ·refine⟨sQ l ((iM l u).2) (by assumption) ([(⟨#[]⟩:ByteArray),(⟨#[82]⟩:ByteArray),(⟨#[114,115]⟩:ByteArray),(⟨#[122]⟩:ByteArray)]:List ByteArray) (by decide),rfl,rfl,rfl,rfl,?_,?_,rfl,?_,?_,?_,trivial⟩<;>(first|(rw[aJd c0]<;>rfl)|(rw[aJe c1]<;>rfl)|(rw[aJf c2]<;>rfl)|(rw[aJg c3]<;>rfl)|(rw[aJh c0 c1 c2 c3]<;>rfl))
 ·refine dd (fun c1=>?_) fun c1=>?_
  ·refine⟨aFl l ((iM l u).2) (by assumption) ([(0:Int),(4:Int),(-1:Int)]:List Int) (by decide),rfl,rfl,rfl,rfl,?_,?_,rfl,?_,?_,?_,trivial⟩<;>(first|(rw[aJd c0]<;>rfl)|(rw[aJe c1]<;>rfl)|(rw[aJf c2]<;>rfl)|(rw[aJg c3]<;>rfl)|(rw[aJh c0 c1 c2 c3]<;>rfl))
  ·refine dd (fun c2=>?_) fun c2=>?_
   ·refine⟨rfl,rfl,by first|omega|(simp;omega),?_,?_,rfl,?_,?_,?_,trivial⟩<;>(first|(rw[aJd c0]<;>rfl)|(rw[aJe c1]<;>rfl)|(rw[aJf c2]<;>rfl)|(rw[aJg c3]<;>rfl)|(rw[aJh c0 c1 c2 c3]<;>rfl))
   ·refine dd (fun c3=>?_) fun c3=>?_
    ·refine⟨rfl,rfl,by first|omega|(simp;omega),?_,?_,rfl,?_,?_,?_,trivial⟩<;>(first|(rw[aJd c0]<;>rfl)|(rw[aJe c1]<;>rfl)|(rw[aJf c2]<;>rfl)|(rw[aJg c3]<;>rfl)|(rw[aJh c0 c1 c2 c3]<;>rfl))
    ·refine⟨?_,?_,rfl,?_,?_,?_,trivial⟩<;>(first|(rw[aJd c0]<;>rfl)|(rw[aJe c1]<;>rfl)|(rw[aJf c2]<;>rfl)|(rw[aJg c3]<;>rfl)|(rw[aJh c0 c1 c2 c3]<;>rfl))
def cA (l:List Int):aJ × Cu:=cF l (aI l)
def kX (l:List Int):US:=upR l (cA l).2 (cA l).1
theorem aLC (l:List Int):(kX l).row.length<=44:=by
 have h1:=aGh l (cA l).2 (cA l).1;have h2:cN (cA l).1<=40:=(aJ1 l (aI l)).1;unfold kX;omega
abbrev xZ (l:List Int):AV × List (Nat × Rs):=(.tup [.agg [.p none (.str ((cA l).1.name)),vI ((cA l).1.arity),.p none (.sl 38 1 ((cA l).1.rows.map aB))],.p none (.sl 3 1 ((kX l).row.map aE))],[])
abbrev aCk (l:List Int):Prop:=Cn 37 [.one (.sl 5 1 (l.map bN))] (xZ l).1 (xZ l).2
theorem aLD (l:List Int)(hl:l.length<=1048576):aCk l:=by
 refine cq Tryz.func37 (.stl 3<| bQ (sP l) []<| bQ (rS l (aI l)) [(0,700)]<| .len ((cF l (aI l)).1.rows.length)<| .br (bQ (mG l ((cF l (aI l)).2) (2:Int)) [(0,700)]<| .lit<| .br (.stlb 4 500<| .len ((cF l (aI l)).1.rows.length)<| bQ (cP l ((aD l ((cF l (aI l)).2) (2:Int)).2) (((cF l (aI l)).1.rows.length:Nat):Int)) [(0,700)]<| .elem _ aB ((cF l (aI l)).1.rows) (fun e27=> .app Int aE ([]:List Int) e27<| .stl 3<| .fin [])) (.stlb 5 500<| bQ (kM l ((aD l ((cF l (aI l)).2) (2:Int)).2) (if (0:Int)<(if ((cF l (aI l)).1.arity)<3 then ((cF l (aI l)).1.arity) else (3:Int)) then (if ((cF l (aI l)).1.arity)<3 then ((cF l (aI l)).1.arity) else (3:Int)) else (0:Int))) [(0,700)]<| .stl 3<| .fin [])) (.stlb 5 500<| bQ (kM l ((cF l (aI l)).2) (if (0:Int)<(if ((cF l (aI l)).1.arity)<3 then ((cF l (aI l)).1.arity) else (3:Int)) then (if ((cF l (aI l)).1.arity)<3 then ((cF l (aI l)).1.arity) else (3:Int)) else (0:Int))) [(0,700)]<| .stl 3<| .fin [])) (p:=Lx (l.map bN)<| aD5 l/\l.map bN=l.map bN/\aFH l (aI l)/\l.map bN=l.map bN/\(((aI l).i:Nat):Int)=(((aI l).i:Nat):Int)/\((aI l).h)=((aI l).h)/\Lm aB ((cF l (aI l)).1.rows)/\Br (0<(((cF l (aI l)).1.rows.length:Nat):Int)) (wN l ((cF l (aI l)).2) (2:Int)/\(2:Int)=2/\l.map bN=l.map bN/\(((cF l (aI l)).2.i:Nat):Int)=(((cF l (aI l)).2.i:Nat):Int)/\((cF l (aI l)).2.h)=((cF l (aI l)).2.h)/\Br ((aD l ((cF l (aI l)).2) (2:Int)).1=0) (Lm aB ((cF l (aI l)).1.rows)/\cX l ((aD l ((cF l (aI l)).2) (2:Int)).2) (((cF l (aI l)).1.rows.length:Nat):Int)/\(((cF l (aI l)).1.rows.length:Nat):Int)=(((cF l (aI l)).1.rows.length:Nat):Int)/\l.map bN=l.map bN/\(((aD l ((cF l (aI l)).2) (2:Int)).2.i:Nat):Int)=((((aD l ((cF l (aI l)).2) (2:Int)).2).i:Nat):Int)/\((aD l ((cF l (aI l)).2) (2:Int)).2.h)=(((aD l ((cF l (aI l)).2) (2:Int)).2).h)/\0<=((aD l ((aD l ((cF l (aI l)).2) (2:Int)).2) (((cF l (aI l)).1.rows.length:Nat):Int)).1)/\Em aB ((cF l (aI l)).1.rows) (((aD l ((aD l ((cF l (aI l)).2) (2:Int)).2) (((cF l (aI l)).1.rows.length:Nat):Int)).1).toNat) fun e27=>Ap aE ([]:List Int) e27 8 (((cF l (aI l)).1.name)=((cA l).1.name)/\((cF l (aI l)).1.arity)=((cA l).1.arity)/\(cF l (aI l)).1.rows.map aB=(cA l).1.rows.map aB/\(([]:List Int)++e27).map aE=(kX l).row.map aE/\True)) (rR l ((aD l ((cF l (aI l)).2) (2:Int)).2) (if (0:Int)<(if ((cF l (aI l)).1.arity)<3 then ((cF l (aI l)).1.arity) else (3:Int)) then (if ((cF l (aI l)).1.arity)<3 then ((cF l (aI l)).1.arity) else (3:Int)) else (0:Int))/\(if (0:Int)<(if ((cF l (aI l)).1.arity)<3 then ((cF l (aI l)).1.arity) else (3:Int)) then (if ((cF l (aI l)).1.arity)<3 then ((cF l (aI l)).1.arity) else (3:Int)) else (0:Int))=(if (0:Int)<(if ((cF l (aI l)).1.arity)<3 then ((cF l (aI l)).1.arity) else (3:Int)) then (if ((cF l (aI l)).1.arity)<3 then ((cF l (aI l)).1.arity) else (3:Int)) else (0:Int))/\l.map bN=l.map bN/\(((aD l ((cF l (aI l)).2) (2:Int)).2.i:Nat):Int)=((((aD l ((cF l (aI l)).2) (2:Int)).2).i:Nat):Int)/\((aD l ((cF l (aI l)).2) (2:Int)).2.h)=(((aD l ((cF l (aI l)).2) (2:Int)).2).h)/\((cF l (aI l)).1.name)=((cA l).1.name)/\((cF l (aI l)).1.arity)=((cA l).1.arity)/\(cF l (aI l)).1.rows.map aB=(cA l).1.rows.map aB/\((bH l ((aD l ((cF l (aI l)).2) (2:Int)).2) (if (0:Int)<(if ((cF l (aI l)).1.arity)<3 then ((cF l (aI l)).1.arity) else (3:Int)) then (if ((cF l (aI l)).1.arity)<3 then ((cF l (aI l)).1.arity) else (3:Int)) else (0:Int))).1).map aE=(kX l).row.map aE/\True)) (rR l ((cF l (aI l)).2) (if (0:Int)<(if ((cF l (aI l)).1.arity)<3 then ((cF l (aI l)).1.arity) else (3:Int)) then (if ((cF l (aI l)).1.arity)<3 then ((cF l (aI l)).1.arity) else (3:Int)) else (0:Int))/\(if (0:Int)<(if ((cF l (aI l)).1.arity)<3 then ((cF l (aI l)).1.arity) else (3:Int)) then (if ((cF l (aI l)).1.arity)<3 then ((cF l (aI l)).1.arity) else (3:Int)) else (0:Int))=(if (0:Int)<(if ((cF l (aI l)).1.arity)<3 then ((cF l (aI l)).1.arity) else (3:Int)) then (if ((cF l (aI l)).1.arity)<3 then ((cF l (aI l)).1.arity) else (3:Int)) else (0:Int))/\l.map bN=l.map bN/\(((cF l (aI l)).2.i:Nat):Int)=(((cF l (aI l)).2.i:Nat):Int)/\((cF l (aI l)).2.h)=((cF l (aI l)).2.h)/\((cF l (aI l)).1.name)=((cA l).1.name)/\((cF l (aI l)).1.arity)=((cA l).1.arity)/\(cF l (aI l)).1.rows.map aB=(cA l).1.rows.map aB/\((bH l ((cF l (aI l)).2) (if (0:Int)<(if ((cF l (aI l)).1.arity)<3 then ((cF l (aI l)).1.arity) else (3:Int)) then (if ((cF l (aI l)).1.arity)<3 then ((cF l (aI l)).1.arity) else (3:Int)) else (0:Int))).1).map aE=(kX l).row.map aE/\True)) (by kernel_rfl) ?_;refine lx fun n0=>?_;have hc:cN (cF l (aI l)).1<=40:=(aJ1 l (aI l)).1;have e2:cN (cF l (aI l)).1=(cF l (aI l)).1.name.size+aX (cF l (aI l)).1.rows:=rfl;have e3:=cI (cF l (aI l)).1.rows;have hA:=aFy (cF l (aI l)).1;refine⟨aLM l (by assumption),rfl,aMY l (aI l) (by assumption),rfl,rfl,rfl,aBS _,dd (fun g14=>?_) fun g14=>?_⟩
 ·have hI:=dE l (aD l (cF l (aI l)).2 2).2 (n:=(cF l (aI l)).1.rows.length) (by omega);refine⟨aFk l ((cF l (aI l)).2) (by assumption) (2:Int),rfl,rfl,rfl,rfl,dd (fun c0=>?_) fun c0=>?_⟩
  ·refine⟨aBS _,eW l ((aD l ((cF l (aI l)).2) (2:Int)).2) (by assumption) (((cF l (aI l)).1.rows.length:Nat):Int),rfl,rfl,rfl,rfl,by omega,rfl,by omega,fun e27 h27=>?_⟩;have e4:=hX h27;have hR:=aLP (l:=l) (u:=(cF l (aI l)).2) (t:=(cF l (aI l)).1) g14 c0 h27;refine ap ?_ (fun _=>rfl) (by first|omega|(simp;omega));apply et4<;>(first|rfl|(rw[show kX l=_ from hR]<;>rfl)|(rw[show kX l=_ from hR]))
  ·first|(have hR:=aGi (l:=l) (u:=(cF l (aI l)).2) (t:=(cF l (aI l)).1) g14 c0)|(have hR:=aGj (l:=l) (u:=(cF l (aI l)).2) (t:=(cF l (aI l)).1) g14)
   refine⟨aD9 l ((aD l ((cF l (aI l)).2) (2:Int)).2) (by assumption) (if (0:Int)<(if ((cF l (aI l)).1.arity)<3 then ((cF l (aI l)).1.arity) else (3:Int)) then (if ((cF l (aI l)).1.arity)<3 then ((cF l (aI l)).1.arity) else (3:Int)) else (0:Int)) (by omega),rfl,rfl,rfl,rfl,?_,?_,?_,?_,trivial⟩<;>(first|rfl|(rw[show kX l=_ from hR]<;>rfl)|(rw[show kX l=_ from hR]))
 ·first|(have hR:=aGi (l:=l) (u:=(cF l (aI l)).2) (t:=(cF l (aI l)).1) g14 c0)|(have hR:=aGj (l:=l) (u:=(cF l (aI l)).2) (t:=(cF l (aI l)).1) g14)
  refine⟨aD9 l ((cF l (aI l)).2) (by assumption) (if (0:Int)<(if ((cF l (aI l)).1.arity)<3 then ((cF l (aI l)).1.arity) else (3:Int)) then (if ((cF l (aI l)).1.arity)<3 then ((cF l (aI l)).1.arity) else (3:Int)) else (0:Int)) (by omega),rfl,rfl,rfl,rfl,?_,?_,?_,?_,trivial⟩<;>(first|rfl|(rw[show kX l=_ from hR]<;>rfl)|(rw[show kX l=_ from hR]))
abbrev aBP (l:List Int):AV × List (Nat × Rs):=(.tup [.agg [.p none (.str ((cA l).1.name)),vI ((cA l).1.arity),.p none (.sl 38 1 ((cA l).1.rows.map aB))],.p none (.sl 3 1 ((kX l).row.map aE))],[])
abbrev aFI (l:List Int):Prop:=Cn 11 [.one (.sl 5 1 (l.map bN))] (aBP l).1 (aBP l).2
theorem aMZ (l:List Int)(hl:l.length<=1048576):aFI l:=by
 refine cq Tryz.func11 (bC (xZ l)<| .fin []) (p:=Lx (l.map bN)<| aCk l/\((cA l).1.name)=((cA l).1.name)/\((cA l).1.arity)=((cA l).1.arity)/\(cA l).1.rows.map aB=(cA l).1.rows.map aB/\(kX l).row.map aE=(kX l).row.map aE/\True) (by kernel_rfl) ?_;refine lx fun n0=>?_;refine⟨aLD l (by assumption),?_⟩;exact⟨rfl,rfl,rfl,rfl,trivial⟩
abbrev oO (l:List Int)(u:Cu):List AV × List (Nat × Rs) × AV × List (Nat × Rs):=([.ptr 0 0],[(0,.box 102 [.p none (.sl 5 1 (l.map bN)),vI (u.i:Int),vI u.h])],.agg [.p none (.str ((aW l u).1.name)),vI ((aW l u).1.arity),vI ((aW l u).1.rowCount),.p none (.sl 62 3 ((aW l u).1.groups.map aA))],[(0,.box 102 [.p none (.sl 5 1 (l.map bN)),vI (((aW l u).2.i:Nat):Int),vI ((aW l u).2.h)])])
abbrev aCl (l:List Int)(u:Cu):Prop:=Cm 58 (oO l u).1 (oO l u).2.1 (oO l u).2.2.1 (oO l u).2.2.2
theorem aLE (l:List Int)(u:Cu)(hl:l.length<=1048576):aCl l u:=by
 refine cqx Tryz.func58 (bQ (fL l u ([(⟨#[114]⟩:ByteArray),(⟨#[115]⟩:ByteArray),(⟨#[117]⟩:ByteArray)]:List ByteArray)) [(0,0),(1,700)]<| bQ (cP l ((snN l u).2) (3:Int)) [(0,0)]<| bQ (sR l ((snA l u).2) ((snN l u).1) ((1:Int)+((snA l u).1)) (6:Int) (3:Int)) [(0,0)]<| bC (hY ((eX l u).1))<| bQ (cP l ((eX l u).2) (12:Int)) [(0,0)]<| .br (.stlb 13 400<| .fin [(0,0)]) (.br (.stlb 7 400<| .len (((aF ((eX l u).1)).groups).length)<| .sub aG aA ((aF ((eX l u).1)).groups)<| .stlb 13 400<| .fin [(0,0)]) (.br (.split 9 1400 0 2 3907 aG aA ((aF ((eX l u).1)).groups) (fun b3907=> .len (((aF ((eX l u).1)).groups).length)<| .len b3907.counts.length<| .br (.len (((aF ((eX l u).1)).groups).length)<| .len (((aF ((eX l u).1)).groups).length)<| .len b3907.counts.length<| .elem _ aE b3907.counts (fun e53=> .len b3907.counts.length<| .set Int aE b3907.counts (fun s10_14=>e53+1) (fun s10_14=> .join 13 1400 3907 aG aA ((aF ((eX l u).1)).groups) (fun a3907=>(⟨a3907.columns,a3907.values,b3907.counts.set 0 (e53+1)⟩:aG)) (fun a3907=> .stlb 13 400<| .fin [(0,0)])))) (.join 13 1400 3907 aG aA ((aF ((eX l u).1)).groups) (fun a3907=>(⟨a3907.columns,a3907.values,b3907.counts⟩:aG)) (fun a3907=> .stlb 13 400<| .fin [(0,0)])))) (.br (bQ (mH l ((jP l u).2) ([(0:Int),(4:Int),(2:Int)]:List Int)) [(0,0),(1,5900)]<| .stlb 13 400<| .fin [(0,0)]) (.stlb 13 400<| .fin [(0,0)]))))) (p:=jJ l u ([(⟨#[114]⟩:ByteArray),(⟨#[115]⟩:ByteArray),(⟨#[117]⟩:ByteArray)]:List ByteArray)/\l.map bN=l.map bN/\(u.i:Int)=(u.i:Int)/\u.h=u.h/\[[.str (⟨#[114]⟩:ByteArray)],[.str (⟨#[115]⟩:ByteArray)],[.str (⟨#[117]⟩:ByteArray)]]=([(⟨#[114]⟩:ByteArray),(⟨#[115]⟩:ByteArray),(⟨#[117]⟩:ByteArray)]:List ByteArray).map aAb/\(cX l ((snN l u).2) (3:Int)/\(3:Int)=3/\l.map bN=l.map bN/\(((snN l u).2.i:Nat):Int)=(((snN l u).2.i:Nat):Int)/\((snN l u).2.h)=((snN l u).2.h)/\(dO ((1:Int)+((snA l u).1))/\(aD6 l ((snA l u).2) ((snN l u).1) ((1:Int)+((snA l u).1)) (6:Int) (3:Int)/\((snN l u).1)=((snN l u).1)/\((1:Int)+((snA l u).1))=((1:Int)+((snA l u).1))/\(6:Int)=6/\(3:Int)=3/\l.map bN=l.map bN/\(((snA l u).2.i:Nat):Int)=(((snA l u).2.i:Nat):Int)/\((snA l u).2.h)=((snA l u).2.h)/\(jC ((eX l u).1)/\(cX l ((eX l u).2) (12:Int)/\(12:Int)=12/\l.map bN=l.map bN/\(((eX l u).2.i:Nat):Int)=(((eX l u).2.i:Nat):Int)/\((eX l u).2.h)=((eX l u).2.h)/\Br (((jP l u).1)=0) (dO (((aF ((eX l u).1)).rowCount)+1)/\((aF ((eX l u).1)).name)=((aW l u).1.name)/\((aF ((eX l u).1)).arity)=((aW l u).1.arity)/\(((aF ((eX l u).1)).rowCount)+1)=((aW l u).1.rowCount)/\((aF ((eX l u).1)).groups).map aA=(aW l u).1.groups.map aA/\l.map bN=l.map bN/\(((jP l u).2.i:Nat):Int)=(((aW l u).2.i:Nat):Int)/\((jP l u).2.h)=((aW l u).2.h)/\True) (Br (((jP l u).1)=1) (Lm aA ((aF ((eX l u).1)).groups)/\dO (((((aF ((eX l u).1)).groups).length:Nat):Int) - 1)/\((aF ((eX l u).1)).groups).map aA=((aF ((eX l u).1)).groups).map aA/\0<=(((((aF ((eX l u).1)).groups).length:Nat):Int) - 1)/\(((((aF ((eX l u).1)).groups).length:Nat):Int) - 1)<=((((aF ((eX l u).1)).groups).length:Nat):Int)/\((aF ((eX l u).1)).name)=((aW l u).1.name)/\((aF ((eX l u).1)).arity)=((aW l u).1.arity)/\((aF ((eX l u).1)).rowCount)=((aW l u).1.rowCount)/\(((aF ((eX l u).1)).groups).take (Int.toNat (((((aF ((eX l u).1)).groups).length:Nat):Int) - 1))).map aA=(aW l u).1.groups.map aA/\l.map bN=l.map bN/\(((jP l u).2.i:Nat):Int)=(((aW l u).2.i:Nat):Int)/\((jP l u).2.h)=((aW l u).2.h)/\True) (Br (((jP l u).1)=2) (((aF ((eX l u).1)).groups).map aA=((aF ((eX l u).1)).groups).map aA/\0<((aF ((eX l u).1)).groups).length/\ ∀b3907,((aF ((eX l u).1)).groups)[0]? =some b3907->0<=(0:Int)/\Lm aA ((aF ((eX l u).1)).groups)/\0<((((aF ((eX l u).1)).groups).length:Nat):Int)/\(0=0/\(Lm aE b3907.counts/\Br (0<(b3907.counts.length:Int)) (0<=(0:Int)/\Lm aA ((aF ((eX l u).1)).groups)/\0<((((aF ((eX l u).1)).groups).length:Nat):Int)/\(0=0/\(0<=(0:Int)/\Lm aA ((aF ((eX l u).1)).groups)/\0<((((aF ((eX l u).1)).groups).length:Nat):Int)/\(0=0/\(0<=(0:Int)/\Lm aE b3907.counts/\0<(b3907.counts.length:Int)/\Em aE b3907.counts 0 fun e53=>dO (e53+1)/\(0<=(0:Int)/\Lm aE b3907.counts/\0<(b3907.counts.length:Int)/\(b3907.counts.map aE=b3907.counts.map aE/\0<b3907.counts.length/\ ∀s10_14,b3907.counts[0]? =some s10_14->nV (aE s10_14)=true/\0+1<=(aE s10_14).length/\(aE s10_14).take 0++[.int .i64 (e53+1)]++(aE s10_14).drop (0+1)=aE (e53+1)/\(((aF ((eX l u).1)).groups).map aA=((aF ((eX l u).1)).groups).map aA/\0<((aF ((eX l u).1)).groups).length/\ ∀a3907,((aF ((eX l u).1)).groups)[0]? =some a3907->((aA a3907).take 2++ .sl 3 1 ((b3907.counts.set 0 (e53+1)).map aE)::(aA a3907).drop (2+1)=aA (⟨a3907.columns,a3907.values,b3907.counts.set 0 (e53+1)⟩:aG))/\((aF ((eX l u).1)).name)=((aW l u).1.name)/\((aF ((eX l u).1)).arity)=((aW l u).1.arity)/\((aF ((eX l u).1)).rowCount)=((aW l u).1.rowCount)/\(((aF ((eX l u).1)).groups).set 0 (⟨a3907.columns,a3907.values,b3907.counts.set 0 (e53+1)⟩:aG)).map aA=(aW l u).1.groups.map aA/\l.map bN=l.map bN/\(((jP l u).2.i:Nat):Int)=(((aW l u).2.i:Nat):Int)/\((jP l u).2.h)=((aW l u).2.h)/\True)))))))) (((aF ((eX l u).1)).groups).map aA=((aF ((eX l u).1)).groups).map aA/\0<((aF ((eX l u).1)).groups).length/\ ∀a3907,((aF ((eX l u).1)).groups)[0]? =some a3907->((aA a3907).take 2++ .sl 3 1 (b3907.counts.map aE)::(aA a3907).drop (2+1)=aA (⟨a3907.columns,a3907.values,b3907.counts⟩:aG))/\((aF ((eX l u).1)).name)=((aW l u).1.name)/\((aF ((eX l u).1)).arity)=((aW l u).1.arity)/\((aF ((eX l u).1)).rowCount)=((aW l u).1.rowCount)/\(((aF ((eX l u).1)).groups).set 0 (⟨a3907.columns,a3907.values,b3907.counts⟩:aG)).map aA=(aW l u).1.groups.map aA/\l.map bN=l.map bN/\(((jP l u).2.i:Nat):Int)=(((aW l u).2.i:Nat):Int)/\((jP l u).2.h)=((aW l u).2.h)/\True)))) (Br (((jP l u).1)=3) (wO l ((jP l u).2) ([(0:Int),(4:Int),(2:Int)]:List Int)/\l.map bN=l.map bN/\(((jP l u).2.i:Nat):Int)=(((jP l u).2.i:Nat):Int)/\((jP l u).2.h)=((jP l u).2.h)/\[[.int .i64 (0:Int)],[.int .i64 (4:Int)],[.int .i64 (2:Int)]]=([(0:Int),(4:Int),(2:Int)]:List Int).map aE/\((aF ((eX l u).1)).name)=((aW l u).1.name)/\((eI l ((jP l u).2) ([(0:Int),(4:Int),(2:Int)]:List Int)).1)=((aW l u).1.arity)/\((aF ((eX l u).1)).rowCount)=((aW l u).1.rowCount)/\((aF ((eX l u).1)).groups).map aA=(aW l u).1.groups.map aA/\l.map bN=l.map bN/\(((eI l ((jP l u).2) ([(0:Int),(4:Int),(2:Int)]:List Int)).2.i:Nat):Int)=(((aW l u).2.i:Nat):Int)/\((eI l ((jP l u).2) ([(0:Int),(4:Int),(2:Int)]:List Int)).2.h)=((aW l u).2.h)/\True) (((aF ((eX l u).1)).name)=((aW l u).1.name)/\((aF ((eX l u).1)).arity)=((aW l u).1.arity)/\((aF ((eX l u).1)).rowCount)=((aW l u).1.rowCount)/\((aF ((eX l u).1)).groups).map aA=(aW l u).1.groups.map aA/\l.map bN=l.map bN/\(((jP l u).2.i:Nat):Int)=(((aW l u).2.i:Nat):Int)/\((jP l u).2.h)=((aW l u).2.h)/\True)))))))))) (by kernel_rfl) ?_;have hG:0<(aF (eX l u).1).groups.length/\(aF (eX l u).1).groups.length<=7:=aHh l u;have hC:0<=(aF (eX l u).1).rowCount/\(aF (eX l u).1).rowCount<=8:=aJ9 l u;have hK:=aJ8 l u;have w0:0<=(snA l u).1/\(snA l u).1<3:=dE l (snN l u).2 (n:=3) (by omega);refine⟨sQ l u (by assumption) ([(⟨#[114]⟩:ByteArray),(⟨#[115]⟩:ByteArray),(⟨#[117]⟩:ByteArray)]:List ByteArray) (by decide),rfl,rfl,rfl,rfl,eW l ((snN l u).2) (by assumption) (3:Int),rfl,rfl,rfl,rfl,⟨by omega,by omega⟩,aLO l ((snA l u).2) (by assumption) ((snN l u).1) ((1:Int)+((snA l u).1)) (6:Int) (3:Int) (by omega) (by omega),rfl,rfl,rfl,rfl,rfl,rfl,rfl,sI ((eX l u).1),eW l ((eX l u).2) (by assumption) (12:Int),rfl,rfl,rfl,rfl,dd (fun c0=>?_) fun c0=>?_⟩
 ·refine⟨⟨by omega,by omega⟩,?_,?_,?_,?_,rfl,?_,?_,trivial⟩<;>(first|(rw[aFt c0]<;>rfl)|(rw[aFu c1]<;>rfl)|(rw[aCg c2 (by assumption) h53]<;>rfl)|(rw[aCh c2 (by assumption) (by omega)]<;>rfl)|(rw[aFv c4]<;>rfl)|(rw[aFw c0 c1 c2 c4]<;>rfl))
 ·refine dd (fun c1=>?_) fun c1=>?_
  ·refine⟨aBS _,⟨by omega,by omega⟩,rfl,by omega,by omega,?_,?_,?_,?_,rfl,?_,?_,trivial⟩<;>(first|(rw[aFt c0]<;>rfl)|(rw[aFu c1]<;>rfl)|(rw[aCg c2 (by assumption) h53]<;>rfl)|(rw[aCh c2 (by assumption) (by omega)]<;>rfl)|(rw[aFv c4]<;>rfl)|(rw[aFw c0 c1 c2 c4]<;>rfl))
  ·refine dd (fun c2=>?_) fun c2=>?_
   ·refine⟨rfl,by omega,fun b3907 hb3907=>?_⟩;obtain⟨_,_,_,_,w5⟩:=wM (xY hK) (aCO hb3907);refine⟨by omega,aBS _,by omega,rfl,aBS _,dd (fun c3=>?_) fun c3=>?_⟩
    ·refine⟨by omega,aBS _,by omega,rfl,by omega,aBS _,by omega,rfl,by omega,aBS _,by omega,rfl,by omega,fun e53 h53=>?_⟩;have hb:=w5 e53 ((pF _).mem_iff.2 (aCO h53));refine⟨⟨by omega,by omega⟩,by omega,aBS _,by omega,rfl,by omega,fun s10_14 hs10_14=>⟨rfl,aCd rfl,rfl,?_⟩⟩;refine⟨rfl,by omega,fun a3907 ha3907=>⟨rfl,?_⟩⟩;obtain rfl:=bF hb3907 ha3907;refine⟨?_,?_,?_,?_,rfl,?_,?_,trivial⟩<;>(first|(rw[aFt c0]<;>rfl)|(rw[aFu c1]<;>rfl)|(rw[aCg c2 (by assumption) h53]<;>rfl)|(rw[aCh c2 (by assumption) (by omega)]<;>rfl)|(rw[aFv c4]<;>rfl)|(rw[aFw c0 c1 c2 c4]<;>rfl))
    ·refine⟨rfl,by omega,fun a3907 ha3907=>⟨rfl,?_⟩⟩;obtain rfl:=bF hb3907 ha3907;refine⟨?_,?_,?_,?_,rfl,?_,?_,trivial⟩<;>(first|(rw[aFt c0]<;>rfl)|(rw[aFu c1]<;>rfl)|(rw[aCg c2 (by assumption) h53]<;>rfl)|(rw[aCh c2 (by assumption) (by omega)]<;>rfl)|(rw[aFv c4]<;>rfl)|(rw[aFw c0 c1 c2 c4]<;>rfl))
   ·refine dd (fun c4=>?_) fun c4=>?_
    ·refine⟨aFl l ((jP l u).2) (by assumption) ([(0:Int),(4:Int),(2:Int)]:List Int) (by decide),rfl,rfl,rfl,rfl,?_,?_,?_,?_,rfl,?_,?_,trivial⟩<;>(first|(rw[aFt c0]<;>rfl)|(rw[aFu c1]<;>rfl)|(rw[aCg c2 (by assumption) h53]<;>rfl)|(rw[aCh c2 (by assumption) (by omega)]<;>rfl)|(rw[aFv c4]<;>rfl)|(rw[aFw c0 c1 c2 c4]<;>rfl))
    ·refine⟨?_,?_,?_,?_,rfl,?_,?_,trivial⟩<;>(first|(rw[aFt c0]<;>rfl)|(rw[aFu c1]<;>rfl)|(rw[aCg c2 (by assumption) h53]<;>rfl)|(rw[aCh c2 (by assumption) (by omega)]<;>rfl)|(rw[aFv c4]<;>rfl)|(rw[aFw c0 c1 c2 c4]<;>rfl))
abbrev wT (l:List Int)(u:Cu)(d:dD):List AV × List (Nat × Rs) × AV × List (Nat × Rs):=([.ptr 0 0,.agg [.own 2]],[(0,.box 102 [.p none (.sl 5 1 (l.map bN)),vI (u.i:Int),vI u.h]),(2,.arr 37 3 true (d.tables.map qS))],.agg [.p none (.str ((dJ l u d).1.name)),vB ((dJ l u d).1.ins),.own 1],[(0,.box 102 [.p none (.sl 5 1 (l.map bN)),vI (((dJ l u d).2.i:Nat):Int),vI ((dJ l u d).2.h)]),(1,.arr 3 1 true ((dJ l u d).1.row.map aE))])
abbrev aGk (l:List Int)(u:Cu)(d:dD):Prop:=Cm 60 (wT l u d).1 (wT l u d).2.1 (wT l u d).2.2.1 (wT l u d).2.2.2
theorem aMt (l:List Int)(u:Cu)(hl:l.length<=1048576)(d:dD)(hc:lB d<=1048576):aGk l u d:=by
 refine cqx Tryz.func60 (.stlb 1 300<| .len d.tables.length<| .br (.fin [(0,0),(1,1100)]) (.len d.tables.length<| bQ (cP l u (d.tables.length:Int)) [(0,0)]<| .elem _ qS d.tables (fun e20=> .len e20.rows.length<| .br (bQ (mG l ((cZ l u d).2) (2:Int)) [(0,0)]<| .lit<| .br (.len e20.rows.length<| bQ (cP l ((aD l ((cZ l u d).2) (2:Int)).2) (e20.rows.length:Int)) [(0,0)]<| .elem _ aB e20.rows (fun e42=> .app Int aE ([]:List Int) e42<| bQ (cP l ((aD l ((aD l ((cZ l u d).2) (2:Int)).2) (e20.rows.length:Int)).2) (16:Int)) [(0,0)]<| .br (bQ (fL l ((aD l ((aD l ((aD l ((cZ l u d).2) (2:Int)).2) (e20.rows.length:Int)).2) (16:Int)).2) ([(⟨#[]⟩:ByteArray),(⟨#[119]⟩:ByteArray),(⟨#[114]⟩:ByteArray)]:List ByteArray)) [(0,0),(1,5800)]<| .fin [(0,0),(1,4400)]) (.br (.fin [(0,0),(1,4400)]) (.fin [(0,0),(1,4400)])))) (bQ (kM l ((aD l ((cZ l u d).2) (2:Int)).2) (fP e20)) [(0,0)]<| bQ (cP l ((bH l ((aD l ((cZ l u d).2) (2:Int)).2) (fP e20)).2) (16:Int)) [(0,0)]<| .br (bQ (fL l ((aD l ((bH l ((aD l ((cZ l u d).2) (2:Int)).2) (fP e20)).2) (16:Int)).2) ([(⟨#[]⟩:ByteArray),(⟨#[119]⟩:ByteArray),(⟨#[114]⟩:ByteArray)]:List ByteArray)) [(0,0),(1,5800)]<| .fin [(0,0),(1,5101)]) (.br (.fin [(0,0),(1,5101)]) (.fin [(0,0),(1,5101)])))) (bQ (kM l ((cZ l u d).2) (fP e20)) [(0,0)]<| bQ (cP l ((bH l ((cZ l u d).2) (fP e20)).2) (16:Int)) [(0,0)]<| .br (bQ (fL l ((aD l ((bH l ((cZ l u d).2) (fP e20)).2) (16:Int)).2) ([(⟨#[]⟩:ByteArray),(⟨#[119]⟩:ByteArray),(⟨#[114]⟩:ByteArray)]:List ByteArray)) [(0,0),(1,5800)]<| .fin [(0,0),(1,5101)]) (.br (.fin [(0,0),(1,5101)]) (.fin [(0,0),(1,5101)])))))) (p:=Lm qS d.tables/\Br ((d.tables.length:Int)=0) ((⟨#[114]⟩:ByteArray)=((dJ l u d).1.name)/\(true)=((dJ l u d).1.ins)/\l.map bN=l.map bN/\(u.i:Int)=(((dJ l u d).2.i:Nat):Int)/\u.h=((dJ l u d).2.h)/\[[.int .i64 (0:Int)],[.int .i64 (1:Int)]]=(dJ l u d).1.row.map aE/\True) (Lm qS d.tables/\cX l u (d.tables.length:Int)/\(d.tables.length:Int)=(d.tables.length:Int)/\l.map bN=l.map bN/\(u.i:Int)=(u.i:Int)/\u.h=u.h/\0<=((cZ l u d).1)/\Em qS d.tables ((cZ l u d).1.toNat) fun e20=>Lm aB e20.rows/\Br (0<(e20.rows.length:Int)) (wN l ((cZ l u d).2) (2:Int)/\(2:Int)=2/\l.map bN=l.map bN/\(((cZ l u d).2.i:Nat):Int)=(((cZ l u d).2.i:Nat):Int)/\((cZ l u d).2.h)=((cZ l u d).2.h)/\Br ((aD l ((cZ l u d).2) (2:Int)).1=0) (Lm aB e20.rows/\cX l ((aD l ((cZ l u d).2) (2:Int)).2) (e20.rows.length:Int)/\(e20.rows.length:Int)=(e20.rows.length:Int)/\l.map bN=l.map bN/\(((aD l ((cZ l u d).2) (2:Int)).2.i:Nat):Int)=((((aD l ((cZ l u d).2) (2:Int)).2).i:Nat):Int)/\((aD l ((cZ l u d).2) (2:Int)).2.h)=(((aD l ((cZ l u d).2) (2:Int)).2).h)/\0<=((aD l ((aD l ((cZ l u d).2) (2:Int)).2) (e20.rows.length:Int)).1)/\Em aB e20.rows (((aD l ((aD l ((cZ l u d).2) (2:Int)).2) (e20.rows.length:Int)).1).toNat) fun e42=>Ap aE ([]:List Int) e42 8 (cX l ((aD l ((aD l ((cZ l u d).2) (2:Int)).2) (e20.rows.length:Int)).2) (16:Int)/\(16:Int)=16/\l.map bN=l.map bN/\(((aD l ((aD l ((cZ l u d).2) (2:Int)).2) (e20.rows.length:Int)).2.i:Nat):Int)=((((aD l ((aD l ((cZ l u d).2) (2:Int)).2) (e20.rows.length:Int)).2).i:Nat):Int)/\((aD l ((aD l ((cZ l u d).2) (2:Int)).2) (e20.rows.length:Int)).2.h)=(((aD l ((aD l ((cZ l u d).2) (2:Int)).2) (e20.rows.length:Int)).2).h)/\Br (((aD l ((aD l ((aD l ((cZ l u d).2) (2:Int)).2) (e20.rows.length:Int)).2) (16:Int)).1)=0) (jJ l ((aD l ((aD l ((aD l ((cZ l u d).2) (2:Int)).2) (e20.rows.length:Int)).2) (16:Int)).2) ([(⟨#[]⟩:ByteArray),(⟨#[119]⟩:ByteArray),(⟨#[114]⟩:ByteArray)]:List ByteArray)/\l.map bN=l.map bN/\(((aD l ((aD l ((aD l ((cZ l u d).2) (2:Int)).2) (e20.rows.length:Int)).2) (16:Int)).2.i:Nat):Int)=((((aD l ((aD l ((aD l ((cZ l u d).2) (2:Int)).2) (e20.rows.length:Int)).2) (16:Int)).2).i:Nat):Int)/\((aD l ((aD l ((aD l ((cZ l u d).2) (2:Int)).2) (e20.rows.length:Int)).2) (16:Int)).2.h)=(((aD l ((aD l ((aD l ((cZ l u d).2) (2:Int)).2) (e20.rows.length:Int)).2) (16:Int)).2).h)/\[[.str (⟨#[]⟩:ByteArray)],[.str (⟨#[119]⟩:ByteArray)],[.str (⟨#[114]⟩:ByteArray)]]=([(⟨#[]⟩:ByteArray),(⟨#[119]⟩:ByteArray),(⟨#[114]⟩:ByteArray)]:List ByteArray).map aAb/\((dQ l ((aD l ((aD l ((aD l ((cZ l u d).2) (2:Int)).2) (e20.rows.length:Int)).2) (16:Int)).2) ([(⟨#[]⟩:ByteArray),(⟨#[119]⟩:ByteArray),(⟨#[114]⟩:ByteArray)]:List ByteArray)).1)=((dJ l u d).1.name)/\(false)=((dJ l u d).1.ins)/\l.map bN=l.map bN/\(((dQ l ((aD l ((aD l ((aD l ((cZ l u d).2) (2:Int)).2) (e20.rows.length:Int)).2) (16:Int)).2) ([(⟨#[]⟩:ByteArray),(⟨#[119]⟩:ByteArray),(⟨#[114]⟩:ByteArray)]:List ByteArray)).2.i:Nat):Int)=(((dJ l u d).2.i:Nat):Int)/\((dQ l ((aD l ((aD l ((aD l ((cZ l u d).2) (2:Int)).2) (e20.rows.length:Int)).2) (16:Int)).2) ([(⟨#[]⟩:ByteArray),(⟨#[119]⟩:ByteArray),(⟨#[114]⟩:ByteArray)]:List ByteArray)).2.h)=((dJ l u d).2.h)/\(([]:List Int)++e42).map aE=(dJ l u d).1.row.map aE/\True) (Br (((aD l ((aD l ((aD l ((cZ l u d).2) (2:Int)).2) (e20.rows.length:Int)).2) (16:Int)).1)=1) (e20.name=((dJ l u d).1.name)/\(true)=((dJ l u d).1.ins)/\l.map bN=l.map bN/\(((aD l ((aD l ((aD l ((cZ l u d).2) (2:Int)).2) (e20.rows.length:Int)).2) (16:Int)).2.i:Nat):Int)=(((dJ l u d).2.i:Nat):Int)/\((aD l ((aD l ((aD l ((cZ l u d).2) (2:Int)).2) (e20.rows.length:Int)).2) (16:Int)).2.h)=((dJ l u d).2.h)/\(([]:List Int)++e42).map aE=(dJ l u d).1.row.map aE/\True) (e20.name=((dJ l u d).1.name)/\(false)=((dJ l u d).1.ins)/\l.map bN=l.map bN/\(((aD l ((aD l ((aD l ((cZ l u d).2) (2:Int)).2) (e20.rows.length:Int)).2) (16:Int)).2.i:Nat):Int)=(((dJ l u d).2.i:Nat):Int)/\((aD l ((aD l ((aD l ((cZ l u d).2) (2:Int)).2) (e20.rows.length:Int)).2) (16:Int)).2.h)=((dJ l u d).2.h)/\(([]:List Int)++e42).map aE=(dJ l u d).1.row.map aE/\True)))) (rR l ((aD l ((cZ l u d).2) (2:Int)).2) (fP e20)/\(if (0:Int)<(if e20.arity<3 then e20.arity else (3:Int)) then (if e20.arity<3 then e20.arity else (3:Int)) else (0:Int))=(fP e20)/\l.map bN=l.map bN/\(((aD l ((cZ l u d).2) (2:Int)).2.i:Nat):Int)=((((aD l ((cZ l u d).2) (2:Int)).2).i:Nat):Int)/\((aD l ((cZ l u d).2) (2:Int)).2.h)=(((aD l ((cZ l u d).2) (2:Int)).2).h)/\cX l ((bH l ((aD l ((cZ l u d).2) (2:Int)).2) (fP e20)).2) (16:Int)/\(16:Int)=16/\l.map bN=l.map bN/\(((bH l ((aD l ((cZ l u d).2) (2:Int)).2) (fP e20)).2.i:Nat):Int)=((((bH l ((aD l ((cZ l u d).2) (2:Int)).2) (fP e20)).2).i:Nat):Int)/\((bH l ((aD l ((cZ l u d).2) (2:Int)).2) (fP e20)).2.h)=(((bH l ((aD l ((cZ l u d).2) (2:Int)).2) (fP e20)).2).h)/\Br (((aD l ((bH l ((aD l ((cZ l u d).2) (2:Int)).2) (fP e20)).2) (16:Int)).1)=0) (jJ l ((aD l ((bH l ((aD l ((cZ l u d).2) (2:Int)).2) (fP e20)).2) (16:Int)).2) ([(⟨#[]⟩:ByteArray),(⟨#[119]⟩:ByteArray),(⟨#[114]⟩:ByteArray)]:List ByteArray)/\l.map bN=l.map bN/\(((aD l ((bH l ((aD l ((cZ l u d).2) (2:Int)).2) (fP e20)).2) (16:Int)).2.i:Nat):Int)=((((aD l ((bH l ((aD l ((cZ l u d).2) (2:Int)).2) (fP e20)).2) (16:Int)).2).i:Nat):Int)/\((aD l ((bH l ((aD l ((cZ l u d).2) (2:Int)).2) (fP e20)).2) (16:Int)).2.h)=(((aD l ((bH l ((aD l ((cZ l u d).2) (2:Int)).2) (fP e20)).2) (16:Int)).2).h)/\[[.str (⟨#[]⟩:ByteArray)],[.str (⟨#[119]⟩:ByteArray)],[.str (⟨#[114]⟩:ByteArray)]]=([(⟨#[]⟩:ByteArray),(⟨#[119]⟩:ByteArray),(⟨#[114]⟩:ByteArray)]:List ByteArray).map aAb/\((dQ l ((aD l ((bH l ((aD l ((cZ l u d).2) (2:Int)).2) (fP e20)).2) (16:Int)).2) ([(⟨#[]⟩:ByteArray),(⟨#[119]⟩:ByteArray),(⟨#[114]⟩:ByteArray)]:List ByteArray)).1)=((dJ l u d).1.name)/\(true)=((dJ l u d).1.ins)/\l.map bN=l.map bN/\(((dQ l ((aD l ((bH l ((aD l ((cZ l u d).2) (2:Int)).2) (fP e20)).2) (16:Int)).2) ([(⟨#[]⟩:ByteArray),(⟨#[119]⟩:ByteArray),(⟨#[114]⟩:ByteArray)]:List ByteArray)).2.i:Nat):Int)=(((dJ l u d).2.i:Nat):Int)/\((dQ l ((aD l ((bH l ((aD l ((cZ l u d).2) (2:Int)).2) (fP e20)).2) (16:Int)).2) ([(⟨#[]⟩:ByteArray),(⟨#[119]⟩:ByteArray),(⟨#[114]⟩:ByteArray)]:List ByteArray)).2.h)=((dJ l u d).2.h)/\((bH l ((aD l ((cZ l u d).2) (2:Int)).2) (fP e20)).1).map aE=(dJ l u d).1.row.map aE/\True) (Br (((aD l ((bH l ((aD l ((cZ l u d).2) (2:Int)).2) (fP e20)).2) (16:Int)).1)=1) (e20.name=((dJ l u d).1.name)/\(false)=((dJ l u d).1.ins)/\l.map bN=l.map bN/\(((aD l ((bH l ((aD l ((cZ l u d).2) (2:Int)).2) (fP e20)).2) (16:Int)).2.i:Nat):Int)=(((dJ l u d).2.i:Nat):Int)/\((aD l ((bH l ((aD l ((cZ l u d).2) (2:Int)).2) (fP e20)).2) (16:Int)).2.h)=((dJ l u d).2.h)/\((bH l ((aD l ((cZ l u d).2) (2:Int)).2) (fP e20)).1).map aE=(dJ l u d).1.row.map aE/\True) (e20.name=((dJ l u d).1.name)/\(true)=((dJ l u d).1.ins)/\l.map bN=l.map bN/\(((aD l ((bH l ((aD l ((cZ l u d).2) (2:Int)).2) (fP e20)).2) (16:Int)).2.i:Nat):Int)=(((dJ l u d).2.i:Nat):Int)/\((aD l ((bH l ((aD l ((cZ l u d).2) (2:Int)).2) (fP e20)).2) (16:Int)).2.h)=((dJ l u d).2.h)/\((bH l ((aD l ((cZ l u d).2) (2:Int)).2) (fP e20)).1).map aE=(dJ l u d).1.row.map aE/\True)))) (rR l ((cZ l u d).2) (fP e20)/\(if (0:Int)<(if e20.arity<3 then e20.arity else (3:Int)) then (if e20.arity<3 then e20.arity else (3:Int)) else (0:Int))=(fP e20)/\l.map bN=l.map bN/\(((cZ l u d).2.i:Nat):Int)=(((cZ l u d).2.i:Nat):Int)/\((cZ l u d).2.h)=((cZ l u d).2.h)/\cX l ((bH l ((cZ l u d).2) (fP e20)).2) (16:Int)/\(16:Int)=16/\l.map bN=l.map bN/\(((bH l ((cZ l u d).2) (fP e20)).2.i:Nat):Int)=((((bH l ((cZ l u d).2) (fP e20)).2).i:Nat):Int)/\((bH l ((cZ l u d).2) (fP e20)).2.h)=(((bH l ((cZ l u d).2) (fP e20)).2).h)/\Br (((aD l ((bH l ((cZ l u d).2) (fP e20)).2) (16:Int)).1)=0) (jJ l ((aD l ((bH l ((cZ l u d).2) (fP e20)).2) (16:Int)).2) ([(⟨#[]⟩:ByteArray),(⟨#[119]⟩:ByteArray),(⟨#[114]⟩:ByteArray)]:List ByteArray)/\l.map bN=l.map bN/\(((aD l ((bH l ((cZ l u d).2) (fP e20)).2) (16:Int)).2.i:Nat):Int)=((((aD l ((bH l ((cZ l u d).2) (fP e20)).2) (16:Int)).2).i:Nat):Int)/\((aD l ((bH l ((cZ l u d).2) (fP e20)).2) (16:Int)).2.h)=(((aD l ((bH l ((cZ l u d).2) (fP e20)).2) (16:Int)).2).h)/\[[.str (⟨#[]⟩:ByteArray)],[.str (⟨#[119]⟩:ByteArray)],[.str (⟨#[114]⟩:ByteArray)]]=([(⟨#[]⟩:ByteArray),(⟨#[119]⟩:ByteArray),(⟨#[114]⟩:ByteArray)]:List ByteArray).map aAb/\((dQ l ((aD l ((bH l ((cZ l u d).2) (fP e20)).2) (16:Int)).2) ([(⟨#[]⟩:ByteArray),(⟨#[119]⟩:ByteArray),(⟨#[114]⟩:ByteArray)]:List ByteArray)).1)=((dJ l u d).1.name)/\(true)=((dJ l u d).1.ins)/\l.map bN=l.map bN/\(((dQ l ((aD l ((bH l ((cZ l u d).2) (fP e20)).2) (16:Int)).2) ([(⟨#[]⟩:ByteArray),(⟨#[119]⟩:ByteArray),(⟨#[114]⟩:ByteArray)]:List ByteArray)).2.i:Nat):Int)=(((dJ l u d).2.i:Nat):Int)/\((dQ l ((aD l ((bH l ((cZ l u d).2) (fP e20)).2) (16:Int)).2) ([(⟨#[]⟩:ByteArray),(⟨#[119]⟩:ByteArray),(⟨#[114]⟩:ByteArray)]:List ByteArray)).2.h)=((dJ l u d).2.h)/\((bH l ((cZ l u d).2) (fP e20)).1).map aE=(dJ l u d).1.row.map aE/\True) (Br (((aD l ((bH l ((cZ l u d).2) (fP e20)).2) (16:Int)).1)=1) (e20.name=((dJ l u d).1.name)/\(false)=((dJ l u d).1.ins)/\l.map bN=l.map bN/\(((aD l ((bH l ((cZ l u d).2) (fP e20)).2) (16:Int)).2.i:Nat):Int)=(((dJ l u d).2.i:Nat):Int)/\((aD l ((bH l ((cZ l u d).2) (fP e20)).2) (16:Int)).2.h)=((dJ l u d).2.h)/\((bH l ((cZ l u d).2) (fP e20)).1).map aE=(dJ l u d).1.row.map aE/\True) (e20.name=((dJ l u d).1.name)/\(true)=((dJ l u d).1.ins)/\l.map bN=l.map bN/\(((aD l ((bH l ((cZ l u d).2) (fP e20)).2) (16:Int)).2.i:Nat):Int)=(((dJ l u d).2.i:Nat):Int)/\((aD l ((bH l ((cZ l u d).2) (fP e20)).2) (16:Int)).2.h)=((dJ l u d).2.h)/\((bH l ((cZ l u d).2) (fP e20)).1).map aE=(dJ l u d).1.row.map aE/\True))))) (by kernel_rfl) ?_;have e0:lB d=mW d.tables:=rfl;refine⟨aBS _,dd (fun c0=>?_) fun c0=>?_⟩
 ·have hz0:d.tables.length=0:=by omega
  refine⟨?_,?_,rfl,?_,?_,?_,trivial⟩<;>(first|(rw[aBf hz0]<;>rfl)|(rw[eM hne hT hR,tB c2]<;>rfl)|(rw[eM hne hT hR,tC c3]<;>rfl)|(rw[eM hne hT hR,tD c2 c3]<;>rfl))
 ·have hne: ¬d.tables.length=0:=by omega
  have hK:0<=(cZ l u d).1/\(cZ l u d).1<d.tables.length:=dE l u (n:=d.tables.length) (by omega);refine⟨aBS _,eW l u (by assumption) (d.tables.length:Int),rfl,rfl,rfl,rfl,by omega,rfl,by omega,fun e20 h20=>?_⟩;have hT:upT l u d=e20:=bW h20;have hA:=aFy e20;have e1:=aAe h20;have e2:cN e20=e20.name.size+aX e20.rows:=rfl;have e3:=cI e20.rows;refine⟨aBS _,dd (fun g29=>?_) fun g29=>?_⟩
  ·have hI:=dE l (aD l (cZ l u d).2 2).2 (n:=e20.rows.length) (by omega);refine⟨aFk l ((cZ l u d).2) (by assumption) (2:Int),rfl,rfl,rfl,rfl,dd (fun c1=>?_) fun c1=>?_⟩
   ·refine⟨aBS _,eW l ((aD l ((cZ l u d).2) (2:Int)).2) (by assumption) (e20.rows.length:Int),rfl,rfl,rfl,rfl,by omega,rfl,by omega,fun e42 h42=>?_⟩;have e4:=hX h42;have hR:=aLP (l:=l) (u:=(cZ l u d).2) (t:=e20) g29 c1 h42;refine ap ?_ (fun _=>rfl) (by first|omega|(simp;omega));refine⟨eW l ((aD l ((aD l ((cZ l u d).2) (2:Int)).2) (e20.rows.length:Int)).2) (by assumption) (16:Int),rfl,rfl,rfl,rfl,dd (fun c2=>?_) fun c2=>?_⟩
    ·refine⟨sQ l ((aD l ((aD l ((aD l ((cZ l u d).2) (2:Int)).2) (e20.rows.length:Int)).2) (16:Int)).2) (by assumption) ([(⟨#[]⟩:ByteArray),(⟨#[119]⟩:ByteArray),(⟨#[114]⟩:ByteArray)]:List ByteArray) (by decide),rfl,rfl,rfl,rfl,?_,?_,rfl,?_,?_,?_,trivial⟩<;>(first|(rw[aBf hz0]<;>rfl)|(rw[eM hne hT hR,tB c2]<;>rfl)|(rw[eM hne hT hR,tC c3]<;>rfl)|(rw[eM hne hT hR,tD c2 c3]<;>rfl))
    ·refine dd (fun c3=>?_) fun c3=>?_
     ·refine⟨?_,?_,rfl,?_,?_,?_,trivial⟩<;>(first|(rw[aBf hz0]<;>rfl)|(rw[eM hne hT hR,tB c2]<;>rfl)|(rw[eM hne hT hR,tC c3]<;>rfl)|(rw[eM hne hT hR,tD c2 c3]<;>rfl))
     ·refine⟨?_,?_,rfl,?_,?_,?_,trivial⟩<;>(first|(rw[aBf hz0]<;>rfl)|(rw[eM hne hT hR,tB c2]<;>rfl)|(rw[eM hne hT hR,tC c3]<;>rfl)|(rw[eM hne hT hR,tD c2 c3]<;>rfl))
   ·first|(have hR:=aGi (l:=l) (u:=(cZ l u d).2) (t:=e20) g29 c1)|(have hR:=aGj (l:=l) (u:=(cZ l u d).2) (t:=e20) g29)
    refine⟨aD9 l ((aD l ((cZ l u d).2) (2:Int)).2) (by assumption) (fP e20) (by omega),rfl,rfl,rfl,rfl,eW l ((bH l ((aD l ((cZ l u d).2) (2:Int)).2) (fP e20)).2) (by assumption) (16:Int),rfl,rfl,rfl,rfl,dd (fun c2=>?_) fun c2=>?_⟩
    ·refine⟨sQ l ((aD l ((bH l ((aD l ((cZ l u d).2) (2:Int)).2) (fP e20)).2) (16:Int)).2) (by assumption) ([(⟨#[]⟩:ByteArray),(⟨#[119]⟩:ByteArray),(⟨#[114]⟩:ByteArray)]:List ByteArray) (by decide),rfl,rfl,rfl,rfl,?_,?_,rfl,?_,?_,?_,trivial⟩<;>(first|(rw[aBf hz0]<;>rfl)|(rw[eM hne hT hR,tB c2]<;>rfl)|(rw[eM hne hT hR,tC c3]<;>rfl)|(rw[eM hne hT hR,tD c2 c3]<;>rfl))
    ·refine dd (fun c3=>?_) fun c3=>?_
     ·refine⟨?_,?_,rfl,?_,?_,?_,trivial⟩<;>(first|(rw[aBf hz0]<;>rfl)|(rw[eM hne hT hR,tB c2]<;>rfl)|(rw[eM hne hT hR,tC c3]<;>rfl)|(rw[eM hne hT hR,tD c2 c3]<;>rfl))
     ·refine⟨?_,?_,rfl,?_,?_,?_,trivial⟩<;>(first|(rw[aBf hz0]<;>rfl)|(rw[eM hne hT hR,tB c2]<;>rfl)|(rw[eM hne hT hR,tC c3]<;>rfl)|(rw[eM hne hT hR,tD c2 c3]<;>rfl))
  ·first|(have hR:=aGi (l:=l) (u:=(cZ l u d).2) (t:=e20) g29 c1)|(have hR:=aGj (l:=l) (u:=(cZ l u d).2) (t:=e20) g29)
   refine⟨aD9 l ((cZ l u d).2) (by assumption) (fP e20) (by omega),rfl,rfl,rfl,rfl,eW l ((bH l ((cZ l u d).2) (fP e20)).2) (by assumption) (16:Int),rfl,rfl,rfl,rfl,dd (fun c2=>?_) fun c2=>?_⟩
   ·refine⟨sQ l ((aD l ((bH l ((cZ l u d).2) (fP e20)).2) (16:Int)).2) (by assumption) ([(⟨#[]⟩:ByteArray),(⟨#[119]⟩:ByteArray),(⟨#[114]⟩:ByteArray)]:List ByteArray) (by decide),rfl,rfl,rfl,rfl,?_,?_,rfl,?_,?_,?_,trivial⟩<;>(first|(rw[aBf hz0]<;>rfl)|(rw[eM hne hT hR,tB c2]<;>rfl)|(rw[eM hne hT hR,tC c3]<;>rfl)|(rw[eM hne hT hR,tD c2 c3]<;>rfl))
   ·refine dd (fun c3=>?_) fun c3=>?_
    ·refine⟨?_,?_,rfl,?_,?_,?_,trivial⟩<;>(first|(rw[aBf hz0]<;>rfl)|(rw[eM hne hT hR,tB c2]<;>rfl)|(rw[eM hne hT hR,tC c3]<;>rfl)|(rw[eM hne hT hR,tD c2 c3]<;>rfl))
    ·refine⟨?_,?_,rfl,?_,?_,?_,trivial⟩<;>(first|(rw[aBf hz0]<;>rfl)|(rw[eM hne hT hR,tB c2]<;>rfl)|(rw[eM hne hT hR,tC c3]<;>rfl)|(rw[eM hne hT hR,tD c2 c3]<;>rfl))
abbrev rT (l:List Int):AV × List (Nat × Rs):=(.tup [.agg [.p none (.str ((aW l (aI l)).1.name)),vI ((aW l (aI l)).1.arity),vI ((aW l (aI l)).1.rowCount),.p none (.sl 62 3 ((aW l (aI l)).1.groups.map aA))],.agg [.p none (.str (((dJ l (aW l (aI l)).2 ⟨[(bB (aW l (aI l)).1).1]⟩).1).name)),vB (((dJ l (aW l (aI l)).2 ⟨[(bB (aW l (aI l)).1).1]⟩).1).ins),.own 0]],[(0,.arr 3 1 true ((((dJ l (aW l (aI l)).2 ⟨[(bB (aW l (aI l)).1).1]⟩).1).row).map aE))])
abbrev wU (l:List Int):Prop:=Cn 25 [.one (.sl 5 1 (l.map bN))] (rT l).1 (rT l).2
theorem aFz (l:List Int)(hl:l.length<=1048576):wU l:=by
 refine cq Tryz.func25 (bQ (sP l) []<| bQ (oO l (aI l)) [(0,900)]<| bC (kH ((aW l (aI l)).1))<| .bld aJ qS ((bB ((aW l (aI l)).1)).1)<| bQ (wT l ((aW l (aI l)).2) (⟨[((bB ((aW l (aI l)).1)).1)]⟩:dD)) [(0,900),(2,2000)]<| .fin [(0,2201)]) (p:=Lx (l.map bN)<| aD5 l/\l.map bN=l.map bN/\aCl l (aI l)/\l.map bN=l.map bN/\(((aI l).i:Nat):Int)=(((aI l).i:Nat):Int)/\((aI l).h)=((aI l).h)/\nB ((aW l (aI l)).1)/\(((bB ((aW l (aI l)).1)).1).name)=(((bB ((aW l (aI l)).1)).1).name)/\(((bB ((aW l (aI l)).1)).1).arity)=(((bB ((aW l (aI l)).1)).1).arity)/\(((bB ((aW l (aI l)).1)).1).rows).map aB=(((bB ((aW l (aI l)).1)).1).rows).map aB/\aGk l ((aW l (aI l)).2) (⟨[((bB ((aW l (aI l)).1)).1)]⟩:dD)/\l.map bN=l.map bN/\(((aW l (aI l)).2.i:Nat):Int)=(((aW l (aI l)).2.i:Nat):Int)/\((aW l (aI l)).2.h)=((aW l (aI l)).2.h)/\[((bB ((aW l (aI l)).1)).1)].map qS= [((bB ((aW l (aI l)).1)).1)].map qS/\((aW l (aI l)).1.name)=((aW l (aI l)).1.name)/\((aW l (aI l)).1.arity)=((aW l (aI l)).1.arity)/\((aW l (aI l)).1.rowCount)=((aW l (aI l)).1.rowCount)/\(aW l (aI l)).1.groups.map aA=(aW l (aI l)).1.groups.map aA/\(((dJ l ((aW l (aI l)).2) (⟨[((bB ((aW l (aI l)).1)).1)]⟩:dD)).1).name)=(((dJ l (aW l (aI l)).2 ⟨[(bB (aW l (aI l)).1).1]⟩).1).name)/\(((dJ l ((aW l (aI l)).2) (⟨[((bB ((aW l (aI l)).1)).1)]⟩:dD)).1).ins)=(((dJ l (aW l (aI l)).2 ⟨[(bB (aW l (aI l)).1).1]⟩).1).ins)/\(((dJ l ((aW l (aI l)).2) (⟨[((bB ((aW l (aI l)).1)).1)]⟩:dD)).1).row).map aE=(((dJ l (aW l (aI l)).2 ⟨[(bB (aW l (aI l)).1).1]⟩).1).row).map aE/\True) (by kernel_rfl) ?_;refine lx fun n0=>?_;have hs:=aMo l (aI l);have ht:=aJa (aW l (aI l)).1;have hd:lB ⟨[(bB (aW l (aI l)).1).1]⟩=mW [(bB (aW l (aI l)).1).1]:=rfl;have hd2:mW [(bB (aW l (aI l)).1).1]=1+cN (bB (aW l (aI l)).1).1:=by show 1+(cN (bB (aW l (aI l)).1).1+0)=_;omega
 refine⟨aLM l (by assumption),rfl,aLE l (aI l) (by assumption),rfl,rfl,rfl,xW ((aW l (aI l)).1) (by omega),rfl,rfl,rfl,aMt l ((aW l (aI l)).2) (by assumption) (⟨[((bB ((aW l (aI l)).1)).1)]⟩:dD) (by omega),rfl,rfl,rfl,rfl,rfl,rfl,rfl,rfl,?_,?_,?_,trivial⟩<;>(rfl)
abbrev nD (t:aJ)(c:List Int):Prop:=Cn 22 [.agg [.str t.name,.int .i64 t.arity,.sl 38 1 (t.rows.map aB)],.one (.sl 3 1 (c.map aE))] (.p none (.sl 3 1 ((cK (bT t c).2).map aE))) []
theorem yA (t:aJ)(c:List Int)(hl:c.length<=1048576):nD t c:=by
 refine cq Tryz.func22 (.call (.tup [.p none (.sl 38 1 ((bT t c).1.map aB)),.p none (.sl 3 1 ((bT t c).2.map aE))]) []<| .call (.p none (.sl 3 1 ((cK ((bT t c).2)).map aE))) []<| .fin []) (p:=Lx (t.rows.map aB)<| Lx (c.map aE)<| zC Tryz.prog 43 [.agg [.str t.name,.int .i64 t.arity,.sl 38 1 (t.rows.map aB)],.one (.sl 3 1 (c.map aE))] (.tup [.p none (.sl 38 1 ((bT t c).1.map aB)),.p none (.sl 3 1 ((bT t c).2.map aE))]) []/\rH ((bT t c).2)/\(cK ((bT t c).2)).map aE=(cK (bT t c).2).map aE/\True) (by kernel_rfl) ?_;refine lx fun n0=>lx fun n1=>?_;have hgs:=sJ t c;refine⟨aKW (aEd t c (by omega)) rfl,aC6 _ (by omega),?_,trivial⟩
 ·rfl
abbrev rU (t:aJ)(c:List Int):Prop:=Cn 24 [.agg [.str t.name,.int .i64 t.arity,.sl 38 1 (t.rows.map aB)],.one (.sl 3 1 (c.map aE))] (vI ((cK (bT t c).2).getD 0 0)) []
theorem aCm (t:aJ)(c:List Int)(hl:c.length<=1048576):rU t c:=by
 refine cq Tryz.func24 (.call (.p none (.sl 3 1 ((cK (bT t c).2).map aE))) []<| .len ((cK (bT t c).2).length)<| .br (.fin []) (.elem _ aE (cK (bT t c).2) (fun e13=> .fin []))) (p:=Lx (t.rows.map aB)<| Lx (c.map aE)<| nD t c/\Lm aE (cK (bT t c).2)/\Br ((((cK (bT t c).2).length:Nat):Int)=0) (0=((cK (bT t c).2).getD 0 0)/\True) (0<=(0:Int)/\Em aE (cK (bT t c).2) 0 fun e13=>e13=((cK (bT t c).2).getD 0 0)/\True)) (by kernel_rfl) ?_;refine lx fun n0=>lx fun n1=>?_;refine⟨yA _ _ (by omega),aBS _,dd (fun c0=>?_) fun c0=>?_⟩
 ·have hz:cK (bT t c).2= []:=aGC (by omega);apply et1
  ·first|(rw[hz]<;>rfl)|(rw[bW h13])
 ·refine⟨by omega,rfl,by omega,fun e13 h13=>?_⟩;apply et1
  ·first|(rw[hz]<;>rfl)|(rw[bW h13])
theorem uM {α:Type}{a b:List α}{k:Nat}{x y:α}(hx:a[k]? =some x)(hy:b[k]? =some y)(h: ¬x=y): ¬a=b:=by
 intro e;rw[e,hy] at hx;injection hx with hx;exact h hx.symm
theorem uN {α:Type}{a b:List α}{k:Nat}(hl:(a.length:Int)=(b.length:Int))(hk:a.length<=k)(h:a.take k=b.take k):a=b:=by
 rwa [aE4 hk,aE4 (by omega)] at h
abbrev rV (a:List Int)(b:List Int):Prop:=Cn 20 [.one (.sl 3 1 (a.map aE)),.one (.sl 3 1 (b.map aE))] (vB (decide (a=b))) []
theorem aCn (a b:List Int):rV a b:=by
 refine cq Tryz.func20 (.len a.length<| .len b.length<| .br (.fin []) (.loop Nat (Q1 Nat) ([5]++rg 11 15) [] (fun k=>[(5,vI (k:Int))]) (fun k=>[]) (fun k=>k<=a.length/\a.take k=b.take k) (fun k=>a.length - k) (fun k=> .len a.length<| .br (.elem _ aE a (fun e19=> .elem _ aE b (fun e23=> .br (.fin []) (.back [])))) (.fin [])))) (p:=Lx (a.map aE)<| Lx (b.map aE)<| Lm aE a/\(Lm aE b/\Nb ((a.length:Int)=(b.length:Int)) ((false)=(decide (a=b))/\True) ((∃(k:Nat),0=(k:Int)/\k<=a.length/\a.take k=b.take k)/\ ∀(k:Nat),(k<=a.length/\a.take k=b.take k)->Lm aE a/\Br ((k:Int)<(a.length:Int)) (0<=(k:Int)/\Em aE a k fun e19=>0<=(k:Int)/\Em aE b k fun e23=>Nb (e19=e23) ((false)=(decide (a=b))/\True) (dO ((k:Int)+1)/\ ∃(k' :Nat),((k:Int)+1)=(k' :Int)/\(k' <=a.length/\a.take k' =b.take k')/\a.length - k' <a.length - k)) ((true)=(decide (a=b))/\True)))) (by kernel_rfl) ?_;refine lx fun n0=>lx fun n1=>?_;refine⟨aBS _,aBS _,dn (fun c0=>?_) fun c0=>?_⟩
 ·apply et1
  ·first|(exact(decide_eq_false (fun e=>by rw[e] at c0;exact c0 rfl)).symm)|(exact(decide_eq_false (uM h19 h23 (by omega))).symm)|(exact(decide_eq_true (uN (by omega) (by omega) ht)).symm)
 ·refine⟨⟨0,rfl,aB2 _,rfl⟩,fun k ⟨hk,ht⟩=>?_⟩;refine⟨aBS _,dd (fun c1=>?_) fun c1=>?_⟩
  ·refine⟨by omega,rfl,by omega,fun e19 h19=>?_⟩;refine⟨by omega,rfl,by omega,fun e23 h23=>?_⟩;refine dn (fun c2=>?_) fun c2=>?_
   ·apply et1
    ·first|(exact(decide_eq_false (fun e=>by rw[e] at c0;exact c0 rfl)).symm)|(exact(decide_eq_false (uM h19 h23 (by omega))).symm)|(exact(decide_eq_true (uN (by omega) (by omega) ht)).symm)
   ·refine⟨⟨by omega,by omega⟩,?_⟩;exact⟨k+1,rfl,⟨by omega,by rw[bR h19,bR h23,ht,show e19=e23 by omega]⟩,by omega⟩
  ·apply et1
   ·first|(exact(decide_eq_false (fun e=>by rw[e] at c0;exact c0 rfl)).symm)|(exact(decide_eq_false (uM h19 h23 (by omega))).symm)|(exact(decide_eq_true (uN (by omega) (by omega) ht)).symm)
end Go.Proofs.YtgamjlgfnmpcjaaGreatDoor
