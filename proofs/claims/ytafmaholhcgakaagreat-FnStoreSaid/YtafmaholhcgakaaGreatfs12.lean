/-
  Contracts and plain laws, joined: part 13.
-/
import Derived.Test.YtafmaholhcgakaaGreatfs5
import Derived.Test.YtafmaholhcgakaaGreatfs6
import Derived.Shelf.SlicesE.Delete
import Derived.Ground.SlgnProg
import Derived.Test.YtafmaholhcgakaaGreatfs7
import Derived.Test.YtafmaholhcgakaaGreatfs8
import Derived.Test.YtafmaholhcgakaaGreatfs11
import Derived.Test.YtafmaholhcgakaaGreatfs9
namespace Go.Proofs
open Go.Shelf
namespace YtafmaholhcgakaaGreat
def Tryz.dlRows_ren:Go.Shelf.Ren:=⟨fun | 45=>145 | n=>n,fun | 22=>86 | 23=>34 | 3=>3 | 4=>4 | 0=>0 | n=>n,fun | n=>n⟩
theorem Tryz.dlRows:Go.Proofs.SlLaysE.n45 Tryz.prog Tryz.dlRows_ren:={
 mixed:=by kernel_rfl
 f45:=⟨Tryz.f145.name,by decide,Tryz.func145.trans (congrArg some (by kernel_rfl))⟩
 t0:=Tryz.underlying0
 a0:=Tryz.isAgg0
 z0:=Tryz.sizeOf0
 v0:=Tryz.zeroValue0
 t3:=Tryz.underlying3
 a3:=Tryz.isAgg3
 z3:=Tryz.sizeOf3
 v3:=Tryz.zeroValue3
 t4:=Tryz.underlying4
 a4:=Tryz.isAgg4
 z4:=Tryz.sizeOf4
 v4:=Tryz.zeroValue4
 t22:=Tryz.underlying86
 a22:=Tryz.isAgg86
 z22:=Tryz.sizeOf86
 v22:=Tryz.zeroValue86
 a23:=Tryz.isAgg34
 z23:=Tryz.sizeOf34 }
end YtafmaholhcgakaaGreat
end Go.Proofs
namespace Go.Proofs.YtafmaholhcgakaaGreat
open Go.ChangeShapes Go.WideShapes Go.ChangeAt Go.RowKit Go.Shelf Go.Lib
set_option linter.unusedVariables false
set_option linter.unusedSimpArgs false
noncomputable def elI:TypeInfo:=(Tryz.prog.info? 34).get (by kernel_rfl)
theorem aPb:eM Tryz.prog 34=some (false,1,24,.slice none 0 0):=by kernel_rfl
theorem aNe (w:World):(zeroValue 34).run Tryz.prog w= .ok (.slice none 0 0) w:=(eK aPb w).2.2.1
def mL (l:List (List Int))(k:Nat):List Nat:=(List.range l.length).eraseIdx k
theorem aNf {l:List (List Int)}{k i:Nat}(h:i∈mL l k):i<l.length:=aJy.1 ((List.eraseIdx_sublist _ _).mem h)
theorem aGs (l:List (List Int))(k:Nat):l.eraseIdx k=(mL l k).map fun i=>l.getD i []:=by
 have e:l=(List.range l.length).map fun i=>l.getD i []:=by
  apply List.ext_getElem?;intro i;by_cases hi:i<l.length
  ·simp[hi]
  simp[hi,List.getElem?_eq_none (show l.length<=i by omega)]
 conv=>lhs;rw[e]
 rw[mL,List.eraseIdx_eq_take_drop_succ,List.eraseIdx_eq_take_drop_succ,aG0,List.map_take,List.map_drop]
set_option maxHeartbeats 2000000 in
theorem aHm (l:List (List Int))(i j:Int)(k:Nat)(hi:i=(k:Int))(hj:j=(k:Int)+1)(hk:k<l.length)(hl:l.length<4611686018427387904):rA Tryz.prog 145 [.own 0,vI i,vI j] [(0,.arr 34 1 true (l.map aE))] (.own 1) [(1,.arr 34 1 true ((l.eraseIdx k).map aE))]:=by
 refine⟨by kernel_rfl,by simp,fun A φ w vs hI hm=>?_⟩;obtain⟨pl,hp,css,Fs,q1,q2,q3,q4⟩:=hI.dom 0 _ rfl;unfold aL at hm;obtain⟨v,us,e1,m1,hm⟩:=hm;unfold aL at hm;obtain⟨v2,nX,e2,m2,hm⟩:=hm;unfold aL at hm;obtain⟨v3,us3,e3,m3,hm⟩:=hm;unfold aL at hm;unfold aF at m1 m2 m3;unfold fR at m2 m3;have hv:=m1 pl hp;subst hi hj;have ev:vs= #[pl.val,.int .i64 (k:Int),.int .i64 ((k:Int)+1)]:=by apply Array.ext';rw[e1,e2,e3,hm,hv,m2,m3]
 rw[ev];have hnd:=hI.nodup 0 pl hp;have hge:=hI.ge 0 pl hp;have hFe:pl.F=pl.val.ownBlock.toList++Fs.flatten:=by unfold Pl.F;rw[q2,q3]
 have hfoot: ∀b∈pl.F,aDa φ b:=fun b hb=>⟨0,pl,trivial,hp,hb⟩
 have h0: ∀h pl',φ h=some pl' ->h=0:=fun h pl' e' =>by
  cases hr:aS [(0,Rs.arr 34 1 true (l.map aE))] h with
  | none=>rw[hI.non h hr] at e';cases e'
  | some r=>
    simp only[aS] at hr;split at hr
    ·assumption
    cases hr
 obtain⟨lc,lF⟩:=rI q4;rw[aAK] at lc lF
 have hrow: ∀i,i<l.length-> ∃a cap F,css[i]? =some [.slice a (l.getD i []).length cap]/\Fs[i]? =some F/\uO w a (l.getD i [])/\(∀x∈a,x.block∈F)/\(l.getD i []).length<=9223372036854775807/\cD w (aE (l.getD i [])) [.slice a (l.getD i []).length cap] F:=fun i hi=>by
  obtain⟨r,hr⟩:=cT hi;have hg:l.getD i []=r:=by simp[aEP,hr]
  obtain⟨c,F,g1,g2,_,g4⟩:=rJ q4 (show (l.map aE)[i]? =some (aE r) by rw[aMV,hr];rfl);obtain⟨a,cap,rfl,k1,k2,k3⟩:=aLX g4;rw[hg];exact⟨a,cap,F,g1,g2,k1,k2,k3,g4⟩
 have hone: ∀d∈css,d.length=1:=fun d hd=>by
  obtain⟨i,hi⟩:=List.getElem?_of_mem hd;obtain⟨a,cap,F,g1,_⟩:=hrow i (by have:=(aCk.1 hi).1;omega);rw[hi] at g1;injection g1 with g1
  rw[g1];rfl
 let enc:Nat->Value:=fun i=>css.flatten.getD i (.slice none 0 0)
 have henc: ∀i,∃a cap,enc i= .slice a (l.getD i []).length cap/\uO w a (l.getD i [])/\(∀x∈a,x.block∈Fs.flatten)/\(l.getD i []).length<=9223372036854775807:=fun i=>by
  by_cases hi:i<l.length
  ·obtain⟨a,cap,F,g1,g2,g3,g4,g5,_⟩:=hrow i hi;refine⟨a,cap,?_,g3,fun x hx=>List.mem_flatten.2 ⟨F,aBA g2,g4 x hx⟩,g5⟩;show css.flatten.getD i _=_;rw[aEP,jE css i _ hone g1];rfl
  have hg:l.getD i []= []:=by rw[aEP,List.getElem?_eq_none (by omega)];rfl
  rw[hg];refine⟨none,0,?_,fun j x hx=>by simp at hx,by simp,by simp⟩;show css.flatten.getD i _=_;rw[aEP,List.getElem?_eq_none (by rw[rK css hone];omega)];rfl
 have h1:φ 1=none:=hI.non 1 rfl
 have hend: ∀(v' :Value) (w' :World),jH pl.F w w' ->(∀F∈Fs,fT F w w')->(∀b∈v'.ownBlock,b∈pl.val.ownBlock)->w'.ownsRow 0 34 1 v' (mL l k).length ((mL l k).map enc)->
  ∃v K φ',Ending.returned v' = .returned v/\aHY A φ w [(1,.arr 34 1 true ((l.eraseIdx k).map aE))] K φ' w' /\aF K φ' w' (.own 1) v:=by
  intro v' w' hon hkeep hvb howns
  have hFr:(List.range l.length).map (fun i=>Fs.getD i [])=Fs:=by
   apply List.ext_getElem?;intro i;by_cases hi:i<l.length
   ·simp[hi,show i<Fs.length by omega]
   simp[hi,show ¬i<Fs.length by omega]
  have hsub:List.Sublist ((mL l k).map fun i=>Fs.getD i []).flatten Fs.flatten:=by
   have:List.Sublist ((mL l k).map fun i=>Fs.getD i []) ((List.range l.length).map fun i=>Fs.getD i []):=(List.eraseIdx_sublist _ _).map _;rw[hFr] at this;exact aG3 this
  let pl' :Pl:=⟨v',v'.ownBlock.toList,((mL l k).map fun i=>Fs.getD i []).flatten⟩
  have hmem: ∀g,g∈pl'.F->g∈pl.F:=fun g hg=>by
   rw[hFe];simp only[pl',Pl.F,aD4,Option.mem_toList] at hg ⊢;rcases hg with h | h
   ·exact .inl (hvb g h)
   exact .inr (List.Sublist.mem h hsub)
  have hnd' :pl'.F.Nodup:=by
   rw[hFe] at hnd;have hn:=aKM.1 hnd;simp only[pl',Pl.F];refine aKM.2 ⟨by cases v'.ownBlock<;>simp,hsub.nodup hn.2.1,fun x hx y hy=>?_⟩;exact hn.2.2 x (by rw[Option.mem_toList] at hx ⊢;exact hvb x hx) y (List.Sublist.mem hy hsub)
  refine⟨_,A,fun h=>if h=1 then some pl' else none,rfl,⟨⟨hon.os,hon.tape,hon.output,hon.size,fun b hb hn=>hon.block b hb (fun hm=>hn (hfoot b hm))⟩,fun _ h=>h,fun b hb=>⟨aKD (hI.lt b hb) hon.size,.inl hb⟩,fun b hb h pl1 e' hm' =>?_,fun h r hr=>?_,fun h hr=>?_,fun h h' pl1 pl2 hne ea eb=>?_,fun h pl1 e' =>?_,fun h pl1 e' g hg=>?_,fun h pl1 pl0 e' e0=>?_⟩,?_⟩
  ·split at e'
   ·injection e' with e';subst e'
    exact hI.out b hb 0 pl hp (hmem b hm')
   cases e'
  ·simp only[aS] at hr;split at hr
   ·rename_i eh;subst eh;injection hr with hr
    subst hr;refine⟨pl',by simp,(mL l k).map (fun i=>[enc i]),(mL l k).map (fun i=>Fs.getD i []),?_,rfl,rfl,?_⟩
    ·rw[zL enc (mL l k),aAK,aGs,aAK];exact howns
    rw[aGs,List.map_map];refine zK (fun i=>aE (l.getD i [])) (fun i=>[enc i]) (fun i=>Fs.getD i []) fun i hi=>⟨rfl,?_⟩;obtain⟨a,cap,F,g1,g2,g3,g4,g5,g6⟩:=hrow i (aNf hi)
    have ee:enc i= .slice a (l.getD i []).length cap:=by
     show css.flatten.getD i _=_;rw[aEP,jE css i _ hone g1];rfl
    have eF:Fs.getD i []=F:=by simp[aEP,g2]
    rw[ee,eF];exact cD.kept _ _ _ (hkeep F (aBA g2)) g6
   cases hr
  ·simp only[aS] at hr;split at hr
   ·cases hr
   rename_i eh;exact if_neg eh
  ·split at ea
   ·split at eb
    ·rename_i x y;exact absurd (x.trans y.symm) hne
    cases eb
   cases ea
  ·split at e'
   ·injection e' with e';subst e';exact hnd'
   cases e'
  ·split at e'
   ·injection e' with e';subst e'
    have:=hmem g hg;exact⟨.inr (hfoot g this),aKD (hge g this) hon.size⟩
   cases e'
  ·split at e'
   ·rename_i eh;subst eh;rw[h1] at e0;cases e0
   cases e'
  unfold aF;intro pl1 e';simp at e';subst e';rfl
 rw[aAK] at q1;rcases q1.2 with ⟨hvn,hz⟩ | ⟨g,cap,cur,hvv,hg0,hb,hn,hcap,hsz,htk⟩
 ·omega
 have hgF:g ∉ Fs.flatten:=fun hm=>by
  rw[hFe,hvv] at hnd;simp only[Value.ownBlock,Option.toList_some,List.cons_append,aMU,List.nodup_cons] at hnd;exact hnd.1 hm
 have hgs:g<w.heap.size:=(Array.getElem?_eq_some_iff.1 hb).1;have hin: ∀b∈Fs.flatten,b<w.heap.size/\b≠g:=fun b hb' =>⟨hge b (by rw[hFe];exact aDU _ hb'),fun e=>hgF (e▸hb')⟩;have hw0: ∀(dk:Array Nat) (q:Nat),Go.Sort.putRow enc (Go.Sort.ahead w q) g 0 dk=sortWorld enc w g 0 q dk #[]:=fun dk q=>by unfold sortWorld;rw[Go.Sort.grow_empty]
 have htk' :cur.toList.take l.length=css.flatten:=by rw[Nat.mul_one] at htk;exact htk
 have hH:Go.Sort.Holds enc w g 0 (List.range l.length).toArray:=fun j hj=>by
  have hj' :j<l.length:=by simpa using hj
  refine⟨?_,by simp[World.frozen?,hb]⟩;have h1:(cur.toList.take l.length)[j]? =css.flatten[j]? :=by rw[htk']
  rw[List.getElem?_take_of_lt hj'] at h1;simp only[World.cell?,hb,Nat.zero_add,Option.isSome_none,Bool.false_eq_true,if_false];rw[<-Array.getElem?_toList,h1];obtain⟨a,cap',F,g1,_⟩:=hrow j hj';have h2:=jE css j _ hone g1
  have ee:enc j= .slice a (l.getD j []).length cap' :=by
   show css.flatten.getD j _=_;rw[aEP,h2];rfl
  have ej:(List.range l.length).toArray[j]! =j:=by simp[hj']
  rw[h2,ej,ee]
 have hone1:OneCell enc:=fun x=>by
  obtain⟨a,c,ex,_⟩:=henc x;rw[ex];rfl
 have hzr:enc l.length= .slice none 0 0:=by
  show css.flatten.getD l.length _=_;rw[aEP,List.getElem?_eq_none (by rw[rK css hone];omega)];rfl
 have hszd:(List.range l.length).toArray.size=l.length:=by simp
 have hcon:=AnyE.slices_Delete Tryz.dlRows enc hone1 l.length (fun w=>by rw[hzr];exact aNe w) elI (by kernel_rfl) (by kernel_rfl) g 0 cap k (k+1) (List.range l.length).toArray w hH (by rw[hszd];exact hn) hcap (by omega) (by rw[hszd];omega);rw[hszd,show (k:Int)+1=((k+1:Nat):Int) by omega] at*;rw[hvv];refine hcon.mono ?_;rintro en w' ⟨rfl,q,rfl⟩;have hdl:(mL l k).length=l.length - 1:=by simp[mL,List.length_eraseIdx,hk]
 have hls:(List.range l.length).toArray.toList.take k++(List.range l.length).toArray.toList.drop (k+1)++List.replicate (k+1 - k) l.length=mL l k++List.replicate (l.length - (mL l k).length) l.length:=by
  rw[hdl,show k+1 - k=l.length - (l.length - 1) by omega,mL,List.eraseIdx_eq_take_drop_succ]
 rw[hls];have hle:(mL l k).length<=l.length:=by omega
 have hkb: ∀b,b<w.heap.size->b≠g->(Go.Sort.putRow enc (Go.Sort.ahead w q) g 0 (mL l k++List.replicate (l.length - (mL l k).length) l.length).toArray).heap[b]? =w.heap[b]? :=fun b hk hne=>by rw[hw0];exact mE _ hk hne
 rw[show l.length - (k+1 - k)=(mL l k).length by omega]
 refine hend _ _ ⟨rfl,rfl,rfl,by simp,fun b hk hne=>hkb b hk (fun e=>hne (by rw[hFe,hvv,e];simp[Value.ownBlock]))⟩
  (fun F hF b hb' =>hkb b (hin b (List.mem_flatten.2 ⟨F,hF,hb'⟩)).1 (hin b (List.mem_flatten.2 ⟨F,hF,hb'⟩)).2)
  (fun b hb' =>by rw[hvv];exact hb') ?_
 rw[hw0];refine⟨by simp,.inr ⟨g,cap,_,rfl,hg0,aA6 _ hb,by omega,hcap,by simp[Go.Sort.putCells,hsz],?_⟩⟩;rw[Nat.mul_one];have:=aC7 enc cur (mL l k++List.replicate (l.length - (mL l k).length) l.length) (by simp;omega);have h3:=congrArg (List.take (mL l k).length) this;rw[List.take_take,aG0,List.take_append_of_le_length (by simp)] at h3;rw[show min (mL l k).length (mL l k++List.replicate (l.length - (mL l k).length) l.length).length=(mL l k).length by simp] at h3;rw[h3,aCv (by simp)]
end Go.Proofs.YtafmaholhcgakaaGreat
namespace Go.Proofs.YtafmaholhcgakaaGreat
open Go.ChangeShapes Go.WideShapes Go.ChangeAt Go.RowKit
set_option linter.unusedVariables false
set_option linter.unusedSimpArgs false
set_option maxRecDepth 100000
set_option maxHeartbeats 4000000
abbrev yE (t:aJ)(row:List Int):AV × List (Nat × Rs):=(.tup [.agg [.p none (.str ((dK t row).1.name)),vI ((dK t row).1.arity),.own 0],vB ((dK t row).2)],[(0,.arr 34 1 true ((dK t row).1.rows.map aE))])
abbrev aDH (t:aJ)(row:List Int):Prop:=Cn 87 [.agg [.str t.name,.int .i64 t.arity,.sl 34 1 (t.rows.map aE)],.one (.sl 3 1 (row.map intD))] (yE t row).1 (yE t row).2
theorem aLu (t:aJ)(row:List Int)(hc:cY t<=1048576)(hr:row.length<=1048576):aDH t row:=by
 refine cq Tryz.func87 (bC (fZ t)<| .call (vB (aP t)) []<| .br (.fin [(0,800)]) (.call (vB (fG t.arity row)) []<| .lit<| .lit<| .br (.fin [(0,800)]) (.call (vI (dX (kN row) t.rows)) []<| .lit<| .lit<| .br (.fin [(0,800)]) (.len t.rows.length<| .lit<| .lit<| .br (.fin [(0,800)]) (.shal 4 800<| .appr (List Int) aE t.rows ([row]:List (List Int))<| bC (mP (t.rows++[row]))<| .fin [(0,3700)]))))) (p:=Lx (t.rows.map aE)<| Lx (row.map intD)<| gW t/\kJ t/\Nr (aP t) (t.name=((dK t row).1.name)/\t.arity=((dK t row).1.arity)/\(false)=((dK t row).2)/\t.rows.map aE=(dK t row).1.rows.map aE/\True) (xL row t.arity/\Nr (fG t.arity row) (t.name=((dK t row).1.name)/\t.arity=((dK t row).1.arity)/\(false)=((dK t row).2)/\t.rows.map aE=(dK t row).1.rows.map aE/\True) (zS t row/\Br (0<=(dX (kN row) t.rows)) (t.name=((dK t row).1.name)/\t.arity=((dK t row).1.arity)/\(false)=((dK t row).2)/\t.rows.map aE=(dK t row).1.rows.map aE/\True) (Lm aE t.rows/\Br (8<=(t.rows.length:Int)) (t.name=((dK t row).1.name)/\t.arity=((dK t row).1.arity)/\(false)=((dK t row).2)/\t.rows.map aE=(dK t row).1.rows.map aE/\True) (t.rows.map aE=t.rows.map aE/\[[.sl 3 1 (row.map intD)]]=([row]:List (List Int)).map aE/\(t.rows.length+([row]:List (List Int)).length)*24<=140737488355328/\qO (t.rows++[row])/\t.name=((dK t row).1.name)/\t.arity=((dK t row).1.arity)/\(true)=((dK t row).2)/\(eG (cF (t.rows++[row]))).map aE=(dK t row).1.rows.map aE/\True))))) (by kernel_rfl) ?_;refine lx fun n0=>lx fun n1=>?_;have q1:cY t=t.name.size+cM t.rows:=rfl;have q2:=eV t.rows;refine⟨lJ _ (by omega),rG t,dm (fun g12=>?_) fun g12=>?_⟩
 ·have hbad:eX t row=false:=by first|(simp[eX, *];done)|(simp[eX, *];omega)
  apply et4<;>(first|(rw[mS hbad]<;>rfl)|(rw[fY hok]<;>rfl)|(rw[fY hok,hE]))
 ·refine⟨aGT _ _,dm (fun g19=>?_) fun g19=>?_⟩
  ·have hbad:eX t row=false:=by first|(simp[eX, *];done)|(simp[eX, *];omega)
   apply et4<;>(first|(rw[mS hbad]<;>rfl)|(rw[fY hok]<;>rfl)|(rw[fY hok,hE]))
  ·refine⟨aHc _ _,dd (fun g25=>?_) fun g25=>?_⟩
   ·have hbad:eX t row=false:=by first|(simp[eX, *];done)|(simp[eX, *];omega)
    apply et4<;>(first|(rw[mS hbad]<;>rfl)|(rw[fY hok]<;>rfl)|(rw[fY hok,hE]))
   ·refine⟨aAK _,dd (fun c0=>?_) fun c0=>?_⟩
    ·have hbad:eX t row=false:=by first|(simp[eX, *];done)|(simp[eX, *];omega)
     apply et4<;>(first|(rw[mS hbad]<;>rfl)|(rw[fY hok]<;>rfl)|(rw[fY hok,hE]))
    ·have hok:eX t row=true:=by first|(simp[eX, *];done)|(simp[eX, *];omega)
     have hsm:=aJe hok;have hE:=aLe (row:=row) (aBF hok).1;refine⟨rfl,rfl,by first|omega|(simp;omega),aAz (t.rows++[row]) (by omega),?_,?_,?_,?_,trivial⟩<;>(first|(rw[mS hbad]<;>rfl)|(rw[fY hok]<;>rfl)|(rw[fY hok,hE]))
abbrev yF (t:aJ)(row:List Int):AV × List (Nat × Rs):=(.tup [.agg [.p none (.str ((dK t row).1.name)),vI ((dK t row).1.arity),.own 0],vB ((dK t row).2)],[(0,.arr 34 1 true ((dK t row).1.rows.map aE))])
abbrev aDI (t:aJ)(row:List Int):Prop:=Cn 95 [.agg [.str t.name,.int .i64 t.arity,.sl 34 1 (t.rows.map aE)],.one (.sl 3 1 (row.map intD))] (yF t row).1 (yF t row).2
theorem aLv (t:aJ)(row:List Int)(hc:cY t<=1048576)(hr:row.length<=1048576):aDI t row:=by
 refine cq Tryz.func95 (bC (gA t)<| .call (vB (aP t)) []<| .br (.fin [(0,800)]) (.call (vB (fG t.arity row)) []<| .lit<| .lit<| .br (.fin [(0,800)]) (.call (vB (gF t row)) []<| .lit<| .br (.fin [(0,800)]) (.len t.rows.length<| .lit<| .lit<| .br (.fin [(0,800)]) (bC (oZ t.rows row)<| .fin [(0,3400)]))))) (p:=Lx (t.rows.map aE)<| Lx (row.map intD)<| gX t/\kK t/\Nr (aP t) (t.name=((dK t row).1.name)/\t.arity=((dK t row).1.arity)/\(false)=((dK t row).2)/\t.rows.map aE=(dK t row).1.rows.map aE/\True) (xM row t.arity/\Nr (fG t.arity row) (t.name=((dK t row).1.name)/\t.arity=((dK t row).1.arity)/\(false)=((dK t row).2)/\t.rows.map aE=(dK t row).1.rows.map aE/\True) (xV t row/\Bb (gF t row) (t.name=((dK t row).1.name)/\t.arity=((dK t row).1.arity)/\(false)=((dK t row).2)/\t.rows.map aE=(dK t row).1.rows.map aE/\True) (Lm aE t.rows/\Br ((t.rows.length:Int)=8) (t.name=((dK t row).1.name)/\t.arity=((dK t row).1.arity)/\(false)=((dK t row).2)/\t.rows.map aE=(dK t row).1.rows.map aE/\True) (sI t.rows row/\t.name=((dK t row).1.name)/\t.arity=((dK t row).1.arity)/\(true)=((dK t row).2)/\(iY row t.rows).map aE=(dK t row).1.rows.map aE/\True))))) (by kernel_rfl) ?_;refine lx fun n0=>lx fun n1=>?_;have q1:cY t=t.name.size+cM t.rows:=rfl;have q2:=eV t.rows;refine⟨lK _ (by omega),rH t,dm (fun g12=>?_) fun g12=>?_⟩
 ·have hbad:eX t row=false:=by first|(simp[eX,gF, *];done)|(simp[eX,gF, *] at*;omega)
  apply et4<;>(first|(rw[mS hbad]<;>rfl)|(rw[fY hok]<;>rfl))
 ·refine⟨aGU _ _,dm (fun g19=>?_) fun g19=>?_⟩
  ·have hbad:eX t row=false:=by first|(simp[eX,gF, *];done)|(simp[eX,gF, *] at*;omega)
   apply et4<;>(first|(rw[mS hbad]<;>rfl)|(rw[fY hok]<;>rfl))
  ·refine⟨aGf _ _,db (fun g24=>?_) fun g24=>?_⟩
   ·have hbad:eX t row=false:=by first|(simp[eX,gF, *];done)|(simp[eX,gF, *] at*;omega)
    apply et4<;>(first|(rw[mS hbad]<;>rfl)|(rw[fY hok]<;>rfl))
   ·refine⟨aAK _,dd (fun c0=>?_) fun c0=>?_⟩
    ·have hbad:eX t row=false:=by first|(simp[eX,gF, *];done)|(simp[eX,gF, *] at*;omega)
     apply et4<;>(first|(rw[mS hbad]<;>rfl)|(rw[fY hok]<;>rfl))
    ·have hT:aP t=true:=by simpa using g12
     have hT8:=bI hT;have hok:eX t row=true:=by first|(simp[eX,gF, *] at*;done)|(simp[eX,gF, *] at*;omega)
     refine⟨aCa t.rows row (by omega) (by omega) (by omega),?_,?_,?_,?_,trivial⟩<;>(first|(rw[mS hbad]<;>rfl)|(rw[fY hok]<;>rfl))
abbrev yG (t:aJ)(row:List Int):AV × List (Nat × Rs):=(.tup [.agg [.p none (.str ((gV t row).1.name)),vI ((gV t row).1.arity),.own 0],vB ((gV t row).2)],[(0,.arr 34 1 true ((gV t row).1.rows.map aE))])
abbrev aDJ (t:aJ)(row:List Int):Prop:=Cn 88 [.agg [.str t.name,.int .i64 t.arity,.sl 34 1 (t.rows.map aE)],.one (.sl 3 1 (row.map intD))] (yG t row).1 (yG t row).2
theorem aLw (t:aJ)(row:List Int)(hc:cY t<=1048576)(hr:row.length<=1048576):aDJ t row:=by
 refine cq Tryz.func88 (bC (fZ t)<| .call (vB (gF t row)) []<| .br (.fin [(0,900)]) (.call (vI (dX (kN row) t.rows)) []<| .callx [.own 0,vI (dX (kN row) t.rows),vI ((dX (kN row) t.rows)+1)] [(0,.arr 34 1 true (t.rows.map aE))] [(0,900)] (.own 1) [(1,.arr 34 1 true ((t.rows.eraseIdx (dX (kN row) t.rows).toNat).map aE))]<| .fin [(0,2301)])) (p:=Lx (t.rows.map aE)<| Lx (row.map intD)<| gW t/\aCj t row/\Nr (gF t row) (t.name=((gV t row).1.name)/\t.arity=((gV t row).1.arity)/\(false)=((gV t row).2)/\t.rows.map aE=(gV t row).1.rows.map aE/\True) (zS t row/\cW ((dX (kN row) t.rows)+1)/\rA Tryz.prog 145 [.own 0,vI (dX (kN row) t.rows),vI ((dX (kN row) t.rows)+1)] [(0,.arr 34 1 true (t.rows.map aE))] (.own 1) [(1,.arr 34 1 true ((t.rows.eraseIdx (dX (kN row) t.rows).toNat).map aE))]/\(dX (kN row) t.rows)=(dX (kN row) t.rows)/\((dX (kN row) t.rows)+1)=((dX (kN row) t.rows)+1)/\t.rows.map aE=t.rows.map aE/\t.name=((gV t row).1.name)/\t.arity=((gV t row).1.arity)/\(true)=((gV t row).2)/\(t.rows.eraseIdx (dX (kN row) t.rows).toNat).map aE=(gV t row).1.rows.map aE/\True)) (by kernel_rfl) ?_;refine lx fun n0=>lx fun n1=>?_;have q1:cY t=t.name.size+cM t.rows:=rfl;have q2:=eV t.rows;refine⟨lJ _ (by omega),aLg _ _,dm (fun c0=>?_) fun c0=>?_⟩
 ·have hbad:gF t row=false:=by simpa using c0
  apply et4<;>(first|(rw[aB9 hbad]<;>rfl)|(rw[rM hok]<;>rfl))
 ·have hok:gF t row=true:=by simpa using c0
  have hi0:=(xU hok).2;have hi1:=aIg (kN row) t.rows;have hT8:=bI (xU hok).1;refine⟨aHc _ _,⟨by omega,by omega⟩,aHm t.rows _ _ (dX (kN row) t.rows).toNat (by omega) (by omega) (by omega) (by omega),rfl,rfl,rfl,?_,?_,?_,?_,trivial⟩<;>(first|(rw[aB9 hbad]<;>rfl)|(rw[rM hok]<;>rfl))
abbrev yH (t:aJ)(row:List Int):AV × List (Nat × Rs):=(.tup [.agg [.p none (.str ((gV t row).1.name)),vI ((gV t row).1.arity),.own 0],vB ((gV t row).2)],[(0,.arr 34 1 true ((gV t row).1.rows.map aE))])
abbrev aDK (t:aJ)(row:List Int):Prop:=Cn 96 [.agg [.str t.name,.int .i64 t.arity,.sl 34 1 (t.rows.map aE)],.one (.sl 3 1 (row.map intD))] (yH t row).1 (yH t row).2
theorem aLx (t:aJ)(row:List Int)(hc:cY t<=1048576)(hr:row.length<=1048576):aDK t row:=by
 refine cq Tryz.func96 (bC (gA t)<| .call (vB (gF t row)) []<| .br (.fin [(0,900)]) (.loop (Nat × (List (List Int))) (Q2 Nat (List (List Int))) ([7,15]++rg 17 27) [600,1500,3400,4000,4100,4200] (fun yy0=>[(7,vI (yy0.1:Int))]) (fun yy0=>[(600,some (.box 88 [.p none (.str t.name),vI t.arity,.own 1500])),(1500,some (.arr 34 1 true (yy0.2.map aE)))]) (fun yy0=>yy0.1<=t.rows.length/\yy0.2=(t.rows.take yy0.1).filter (fun x=> !kN row x)) (fun yy0=>t.rows.length - yy0.1) (fun yy0=> .len t.rows.length<| .br (.elem _ aE t.rows (fun e27=> .call (vI (bM e27 row)) []<| .br (.elem _ aE t.rows (fun e38=> .app Int intD ([]:List Int) e38<| .appx (List Int) aE yy0.2 (([]:List Int)++e38)<| .back [(600,600),(1500,4200)])) (.back [(600,600),(1500,1500)]))) (.fin [(0,1500)])))) (p:=Lx (t.rows.map aE)<| Lx (row.map intD)<| gX t/\(xV t row/\Nr (gF t row) (t.name=((gV t row).1.name)/\t.arity=((gV t row).1.arity)/\(false)=((gV t row).2)/\t.rows.map aE=(gV t row).1.rows.map aE/\True) ((∃(k:Nat) (out:List (List Int)),0=(k:Int)/\t.name=t.name/\t.arity=t.arity/\[]=out.map aE/\k<=t.rows.length/\out=(t.rows.take k).filter (fun x=> !kN row x))/\ ∀(k:Nat) (out:List (List Int)),(k<=t.rows.length/\out=(t.rows.take k).filter (fun x=> !kN row x))->Lm aE t.rows/\Br ((k:Int)<(t.rows.length:Int)) (0<=(k:Int)/\Em aE t.rows k fun e27=>dA e27 row/\Nb ((bM e27 row)=0) (0<=(k:Int)/\Em aE t.rows k fun e38=>Ap intD ([]:List Int) e38 8 (out.map aE=out.map aE/\(([]:List Int)++e38).map intD=(([]:List Int)++e38).map intD/\(out.length+1)*24<=140737488355328/\cW ((k:Int)+1)/\ ∃(k' :Nat) (out' :List (List Int)),((k:Int)+1)=(k' :Int)/\t.name=t.name/\t.arity=t.arity/\(out++[([]:List Int)++e38]).map aE=out'.map aE/\(k' <=t.rows.length/\out' =(t.rows.take k').filter (fun x=> !kN row x))/\t.rows.length - k' <t.rows.length - k)) (cW ((k:Int)+1)/\ ∃(k' :Nat) (out' :List (List Int)),((k:Int)+1)=(k' :Int)/\t.name=t.name/\t.arity=t.arity/\out.map aE=out'.map aE/\(k' <=t.rows.length/\out' =(t.rows.take k').filter (fun x=> !kN row x))/\t.rows.length - k' <t.rows.length - k)) (t.name=((gV t row).1.name)/\t.arity=((gV t row).1.arity)/\(true)=((gV t row).2)/\out.map aE=(gV t row).1.rows.map aE/\True)))) (by kernel_rfl) ?_;refine lx fun n0=>lx fun n1=>?_;have q1:cY t=t.name.size+cM t.rows:=rfl;have q2:=eV t.rows;refine⟨lK _ (by omega),aGf _ _,dm (fun c0=>?_) fun c0=>?_⟩
 ·have hbad:gF t row=false:=by simpa using c0
  apply et4<;>(first|(rw[aB9 hbad]<;>rfl)|(rw[rM hok]<;>rfl)|(rw[rM hok,ho,aCv (by omega),hE]))
 ·have hok:gF t row=true:=by simpa using c0
  have hE:=aLf hok;refine⟨⟨0,([]:List (List Int)),rfl,rfl,rfl,rfl,aAd _,rfl⟩,fun k out ⟨hk,ho⟩=>?_⟩;have hol:out.length<=k:=by rw[ho];exact Nat.le_trans (List.length_filter_le _ _) (by simp;omega)
  refine⟨aAK _,dd (fun c1=>?_) fun c1=>?_⟩
  ·refine⟨by omega,rfl,by omega,fun e27 h27=>?_⟩
   try (obtain rfl:=(bA h27 h27).symm)
   have hp3:=oF h27;refine⟨eI _ _,dn (fun c2=>?_) fun c2=>?_⟩
   ·refine⟨by omega,rfl,by omega,fun e38 h38=>?_⟩
    try (obtain rfl:=(bA h27 h38).symm)
    refine ap ?_ (fun _=>rfl) (by first|omega|(simp;omega)|(simp[ho];have:=List.length_filter_le (fun x=> !kN row x) (t.rows.take k);simp at this;omega));refine⟨rfl,rfl,by first|omega|(simp;omega)|(simp[ho];have:=List.length_filter_le (fun x=> !kN row x) (t.rows.take k);simp at this;omega),?_⟩;refine⟨⟨by omega,by omega⟩,?_⟩;exact⟨k+1,_,rfl,rfl,rfl,rfl,⟨by omega,by rw[ho,cC h27,List.filter_append,List.filter_cons_of_pos (by simpa [kN] using fun q=>c2 (cQ.2 q))];rfl⟩,by omega⟩
   ·refine⟨⟨by omega,by omega⟩,?_⟩;exact⟨k+1,_,rfl,rfl,rfl,rfl,⟨by omega,by rw[ho,cC h27,List.filter_append,List.filter_cons_of_neg (by simpa [kN] using cQ.1 c2)];simp⟩,by omega⟩
  ·apply et4<;>(first|(rw[aB9 hbad]<;>rfl)|(rw[rM hok]<;>rfl)|(rw[rM hok,ho,aCv (by omega),hE]))
def wN (d:aI)(u:bG):aJ × Bool:=if u.ins=true then dK (aH d u.name).1 u.row else gV (aH d u.name).1 u.row
def cJ (d:aI)(u:bG):aI × Bool:=if ((aH d u.name).2&&(wN d u).2)=true then dL d (wN d u).1 else (d,false)
theorem mM {d:aI}{u:bG}(h:(cJ d u).2=true):aT (cJ d u).1<=1000/\dT (cJ d u).1=true:=by
 unfold cJ at*;split at h
 ·rename_i h1;rw[if_pos h1];unfold dL at*;split at h
  ·rename_i h2;rw[if_pos h2];simp only[aAO,aKQ] at h2;have h3:=vC h2.1 h2.2.1;rw[decide_eq_true h2.2.2] at h3;refine⟨?_,h3⟩;have h4:=pD (c:=cY) (m:=64) (l:=fD (wN d u).1 d.tables) fun x hx=>kB (aDT.1 (zU h3) x hx);show kF cY (fD (wN d u).1 d.tables)<=1000;omega
  cases h
 cases h
abbrev vN (d:aI)(u:bG):AV × List (Nat × Rs):=(.tup [.agg [.own 0],vB ((cJ d u).2)],[(0,.arr 88 3 true ((cJ d u).1.tables.map aB))])
abbrev aBO (d:aI)(u:bG):Prop:=Cn 35 [.agg [.sl 88 3 (d.tables.map aB)],.agg [.str u.name,.bool u.ins,.sl 3 1 (u.row.map intD)]] (vN d u).1 (vN d u).2
theorem aJw (d:aI)(u:bG)(hc:aT d<=1048576)(hu:jJ u<=1048576):aBO d u:=by
 refine cq Tryz.func35 (bC (xX d u.name)<| .br (bC (gY d)<| .fin [(0,1800)]) (.br (bC (yE ((aH d u.name).1) u.row)<| .br (bC (gY d)<| .fin [(0,3800)]) (bC (pX d ((dK ((aH d u.name).1) u.row).1))<| .fin [(0,4100)])) (bC (yG ((aH d u.name).1) u.row)<| .br (bC (gY d)<| .fin [(0,3800)]) (bC (pX d ((gV ((aH d u.name).1) u.row).1))<| .fin [(0,4100)])))) (p:=Lx (d.tables.map aB)<| Lx (u.row.map intD)<| aCl d u.name/\Nr ((aH d u.name).2) (iJ d/\(false)=((cJ d u).2)/\d.tables.map aB=(cJ d u).1.tables.map aB/\True) (Bb (u.ins) (aDH ((aH d u.name).1) u.row/\Nr ((dK ((aH d u.name).1) u.row).2) (iJ d/\(false)=((cJ d u).2)/\d.tables.map aB=(cJ d u).1.tables.map aB/\True) (vL d ((dK ((aH d u.name).1) u.row).1)/\((dL d ((dK ((aH d u.name).1) u.row).1)).2)=((cJ d u).2)/\(((dL d ((dK ((aH d u.name).1) u.row).1)).1).tables).map aB=(cJ d u).1.tables.map aB/\True)) (aDJ ((aH d u.name).1) u.row/\Nr ((gV ((aH d u.name).1) u.row).2) (iJ d/\(false)=((cJ d u).2)/\d.tables.map aB=(cJ d u).1.tables.map aB/\True) (vL d ((gV ((aH d u.name).1) u.row).1)/\((dL d ((gV ((aH d u.name).1) u.row).1)).2)=((cJ d u).2)/\(((dL d ((gV ((aH d u.name).1) u.row).1)).1).tables).map aB=(cJ d u).1.tables.map aB/\True)))) (by kernel_rfl) ?_;refine lx fun n0=>lx fun n1=>?_;have q3:jJ u=u.name.size+fL u.row:=rfl;have q4:fL u.row=u.row.length:=rfl;refine⟨pE _ u.name (by omega),dm (fun c0=>?_) fun c0=>?_⟩
 ·have hbad:cJ d u=(d,false):=by rw[cJ,if_neg (by rw[c0];simp)]
  refine⟨nJ _ (by omega),?_,?_,trivial⟩<;>(first|(rw[hbad]<;>rfl)|(rw[hok,hE]<;>rfl)|(rw[hok,<-hE]<;>rfl))
 ·have hsm:=kB (iM c0).1;refine db (fun c1=>?_) fun c1=>?_
  ·have hE:dK (aH d u.name).1 u.row=wN d u:=by rw[wN,if_pos c1]
   refine⟨aLu ((aH d u.name).1) u.row (by omega) (by omega),dm (fun c2=>?_) fun c2=>?_⟩
   ·have hbad:cJ d u=(d,false):=by rw[cJ,if_neg (by rw[<-hE,c2];simp)]
    refine⟨nJ _ (by omega),?_,?_,trivial⟩<;>(first|(rw[hbad]<;>rfl)|(rw[hok,hE]<;>rfl)|(rw[hok,<-hE]<;>rfl))
   ·have hok:cJ d u=dL d (wN d u).1:=by rw[cJ,if_pos (by rw[<-hE,c2,c0];rfl)]
    refine⟨aEa _ ((dK ((aH d u.name).1) u.row).1) (by omega),?_,?_,trivial⟩<;>(first|(rw[hbad]<;>rfl)|(rw[hok,hE]<;>rfl)|(rw[hok,<-hE]<;>rfl))
  ·have hE:gV (aH d u.name).1 u.row=wN d u:=by rw[wN,if_neg (by rw[c1];decide)]
   refine⟨aLw ((aH d u.name).1) u.row (by omega) (by omega),dm (fun c2=>?_) fun c2=>?_⟩
   ·have hbad:cJ d u=(d,false):=by rw[cJ,if_neg (by rw[<-hE,c2];simp)]
    refine⟨nJ _ (by omega),?_,?_,trivial⟩<;>(first|(rw[hbad]<;>rfl)|(rw[hok,hE]<;>rfl)|(rw[hok,<-hE]<;>rfl))
   ·have hok:cJ d u=dL d (wN d u).1:=by rw[cJ,if_pos (by rw[<-hE,c2,c0];rfl)]
    refine⟨aEa _ ((gV ((aH d u.name).1) u.row).1) (by omega),?_,?_,trivial⟩<;>(first|(rw[hbad]<;>rfl)|(rw[hok,hE]<;>rfl)|(rw[hok,<-hE]<;>rfl))
abbrev pZ (d:aI)(u:bG):AV × List (Nat × Rs):=(.tup [.agg [.own 0],vB ((cJ d u).2)],[(0,.arr 88 3 true ((cJ d u).1.tables.map aB))])
abbrev vO (d:aI)(u:bG):Prop:=Cn 38 [.agg [.sl 88 3 (d.tables.map aB)],.agg [.str u.name,.bool u.ins,.sl 3 1 (u.row.map intD)]] (pZ d u).1 (pZ d u).2
theorem aEc (d:aI)(u:bG)(hc:aT d<=1048576)(hu:jJ u<=1048576):vO d u:=by
 refine cq Tryz.func38 (bC (xY d u.name)<| .br (bC (fI d)<| .fin [(0,2200)]) (.br (bC (yF ((aH d u.name).1) u.row)<| .br (bC (fI d)<| .fin [(0,4300)]) (bC (pY d ((dK ((aH d u.name).1) u.row).1))<| .fin [(0,4700)])) (bC (yH ((aH d u.name).1) u.row)<| .br (bC (fI d)<| .fin [(0,4300)]) (bC (pY d ((gV ((aH d u.name).1) u.row).1))<| .fin [(0,4700)])))) (p:=Lx (d.tables.map aB)<| Lx (u.row.map intD)<| aCm d u.name/\Nr ((aH d u.name).2) (gD d/\(false)=((cJ d u).2)/\d.tables.map aB=(cJ d u).1.tables.map aB/\True) (Bb (u.ins) (aDI ((aH d u.name).1) u.row/\Nr ((dK ((aH d u.name).1) u.row).2) (gD d/\(false)=((cJ d u).2)/\d.tables.map aB=(cJ d u).1.tables.map aB/\True) (vM d ((dK ((aH d u.name).1) u.row).1)/\((dL d ((dK ((aH d u.name).1) u.row).1)).2)=((cJ d u).2)/\(((dL d ((dK ((aH d u.name).1) u.row).1)).1).tables).map aB=(cJ d u).1.tables.map aB/\True)) (aDK ((aH d u.name).1) u.row/\Nr ((gV ((aH d u.name).1) u.row).2) (gD d/\(false)=((cJ d u).2)/\d.tables.map aB=(cJ d u).1.tables.map aB/\True) (vM d ((gV ((aH d u.name).1) u.row).1)/\((dL d ((gV ((aH d u.name).1) u.row).1)).2)=((cJ d u).2)/\(((dL d ((gV ((aH d u.name).1) u.row).1)).1).tables).map aB=(cJ d u).1.tables.map aB/\True)))) (by kernel_rfl) ?_;refine lx fun n0=>lx fun n1=>?_;have q3:jJ u=u.name.size+fL u.row:=rfl;have q4:fL u.row=u.row.length:=rfl;refine⟨pF _ u.name (by omega),dm (fun c0=>?_) fun c0=>?_⟩
 ·have hbad:cJ d u=(d,false):=by rw[cJ,if_neg (by rw[c0];simp)]
  refine⟨kC _ (by omega),?_,?_,trivial⟩<;>(first|(rw[hbad]<;>rfl)|(rw[hok,hE]<;>rfl)|(rw[hok,<-hE]<;>rfl))
 ·have hsm:=kB (iM c0).1;refine db (fun c1=>?_) fun c1=>?_
  ·have hE:dK (aH d u.name).1 u.row=wN d u:=by rw[wN,if_pos c1]
   refine⟨aLv ((aH d u.name).1) u.row (by omega) (by omega),dm (fun c2=>?_) fun c2=>?_⟩
   ·have hbad:cJ d u=(d,false):=by rw[cJ,if_neg (by rw[<-hE,c2];simp)]
    refine⟨kC _ (by omega),?_,?_,trivial⟩<;>(first|(rw[hbad]<;>rfl)|(rw[hok,hE]<;>rfl)|(rw[hok,<-hE]<;>rfl))
   ·have hok:cJ d u=dL d (wN d u).1:=by rw[cJ,if_pos (by rw[<-hE,c2,c0];rfl)]
    refine⟨aEb _ ((dK ((aH d u.name).1) u.row).1) (by omega),?_,?_,trivial⟩<;>(first|(rw[hbad]<;>rfl)|(rw[hok,hE]<;>rfl)|(rw[hok,<-hE]<;>rfl))
  ·have hE:gV (aH d u.name).1 u.row=wN d u:=by rw[wN,if_neg (by rw[c1];decide)]
   refine⟨aLx ((aH d u.name).1) u.row (by omega) (by omega),dm (fun c2=>?_) fun c2=>?_⟩
   ·have hbad:cJ d u=(d,false):=by rw[cJ,if_neg (by rw[<-hE,c2];simp)]
    refine⟨kC _ (by omega),?_,?_,trivial⟩<;>(first|(rw[hbad]<;>rfl)|(rw[hok,hE]<;>rfl)|(rw[hok,<-hE]<;>rfl))
   ·have hok:cJ d u=dL d (wN d u).1:=by rw[cJ,if_pos (by rw[<-hE,c2,c0];rfl)]
    refine⟨aEb _ ((gV ((aH d u.name).1) u.row).1) (by omega),?_,?_,trivial⟩<;>(first|(rw[hbad]<;>rfl)|(rw[hok,hE]<;>rfl)|(rw[hok,<-hE]<;>rfl))
def qA (l:List Int)(u:Cu)(n:Int):List Int × Cu:=cR (cS l 4) n.toNat u
def bY (l:List Int)(u:Cu)(n:Int):List Int × Cu:=
 if (aA l (qA l u n).2 10).1=0 then ((qA l u n).1++[(bJ l (aA l (qA l u n).2 10).2 [0,-1,10]).1],(bJ l (aA l (qA l u n).2 10).2 [0,-1,10]).2) else ((qA l u n).1,(aA l (qA l u n).2 10).2)
theorem aEd (l:List Int)(u:Cu)(n:Int):(bY l u n).1.length<=n.toNat+1:=by
 have h:=uH (cS l 4) u n.toNat;have e:(qA l u n).1.length=n.toNat:=h;unfold bY;split
 ·simp only[aJi,aIl,List.length_nil];omega
 dsimp only;omega
structure US where
 ins:Bool
 row:List Int
 cu:Cu
def iV (t:aJ):Int:=if (0:Int)<(if t.arity<3 then t.arity else (3:Int)) then (if t.arity<3 then t.arity else (3:Int)) else (0:Int)
theorem aLy (t:aJ):iV t<=3/\0<=iV t:=by
 unfold iV;by_cases h:t.arity<3
 ·simp only[h,if_true];split<;>omega
 simp only[h,if_false];decide
def upI (l:List Int)(u:Cu)(t:aJ):Int × Cu:=aA l (aA l u 2).2 t.rows.length
def upR (l:List Int)(u:Cu)(t:aJ):US:=
 if 0<t.rows.length then (if (aA l u 2).1=0 then ⟨false,t.rows.getD (upI l u t).1.toNat [],(upI l u t).2⟩ else ⟨true,(bY l (aA l u 2).2 (iV t)).1,(bY l (aA l u 2).2 (iV t)).2⟩)
 else ⟨true,(bY l u (iV t)).1,(bY l u (iV t)).2⟩
def upN:List ByteArray:=[⟨#[]⟩,⟨#[119]⟩,⟨#[114]⟩]
def upX (l:List Int)(t:aJ)(s:US):bG × Cu:=
 if (aA l s.cu 16).1=0 then (⟨(cG l (aA l s.cu 16).2 upN).1,s.ins,s.row⟩,(cG l (aA l s.cu 16).2 upN).2)
 else if (aA l s.cu 16).1=1 then (⟨t.name,!s.ins,s.row⟩,(aA l s.cu 16).2)
 else (⟨t.name,s.ins,s.row⟩,(aA l s.cu 16).2)
def eB (l:List Int)(u:Cu)(d:aI):Int × Cu:=aA l u d.tables.length
def upT (l:List Int)(u:Cu)(d:aI):aJ:=d.tables.getD (eB l u d).1.toNat nK
def iC (l:List Int)(u:Cu)(d:aI):bG × Cu:=
 if d.tables.length=0 then (⟨⟨#[114]⟩,true,[0,1]⟩,u) else upX l (upT l u d) (upR l (eB l u d).2 (upT l u d))
theorem aNh (l:List Int)(u:Cu)(t:aJ):(upR l u t).row.length<=cY t+4:=by
 have ha:(iV t).toNat<=3:=by have:=aLy t;omega
 have h1:=aEd l (aA l u 2).2 (iV t);have h2:=aEd l u (iV t);have e:cY t=t.name.size+cM t.rows:=rfl;unfold upR;split
 ·split
  ·rename_i h0 _
   dsimp only
   have hb:=cP l (aA l u 2).2 (n:=t.rows.length) (by omega);have hlt:(upI l u t).1.toNat<t.rows.length:=by have e2:(upI l u t).1=(aA l (aA l u 2).2 t.rows.length).1:=rfl;omega
   have h3:t.rows[(upI l u t).1.toNat]? =some (t.rows.getD (upI l u t).1.toNat []):=by rw[aEP,aBI hlt];rfl
   have h4:=oF h3;omega
  dsimp only;omega
 dsimp only;omega
theorem aPd (l:List Int)(t:aJ)(s:US):jJ (upX l t s).1<=cY t+1+s.row.length:=by
 have e:cY t=t.name.size+cM t.rows:=rfl;have hs:(cG l (aA l s.cu 16).2 upN).1.size<=1:=mJ l _ (by decide) (by decide);have e2: ∀x:bG,jJ x=x.name.size+x.row.length:=fun _=>rfl;unfold upX;split
 ·rw[e2];dsimp only;omega
 split
 ·rw[e2];dsimp only;omega
 rw[e2];dsimp only;omega
theorem aMA (l:List Int)(u:Cu)(d:aI):jJ (iC l u d).1<=2*aT d+5:=by
 unfold iC;split
 ·show 1+2<=_;omega
 rename_i h0;have h1:=aPd l (upT l u d) (upR l (eB l u d).2 (upT l u d));have h2:=aNh l (eB l u d).2 (upT l u d);have hb:=cP l u (n:=d.tables.length) (by omega);have hlt:(eB l u d).1.toNat<d.tables.length:=by have e2:(eB l u d).1=(aA l u d.tables.length).1:=rfl;omega
 have h3:d.tables[(eB l u d).1.toNat]? =some (upT l u d):=by rw[upT,aEP,aBI hlt];rfl
 have h4:=gT h3;have e3:aT d=lD d.tables:=rfl;omega
structure VS where
 xs:List bG
 db:aI
 cu:Cu
def lsF (l:List Int)(s:VS):VS:=⟨s.xs++[(iC l s.cu s.db).1],(cJ s.db (iC l s.cu s.db).1).1,(iC l s.cu s.db).2⟩
theorem aJx {d:aI}{u:bG}(h:(cJ d u).2=false):aT (cJ d u).1<=aT d:=by
 unfold cJ at*;split at h
 ·rename_i h1;rw[if_pos h1];unfold dL at*;split at h
  ·cases h
  rename_i h2;rw[if_neg h2];exact aKC _
 rename_i h1;rw[if_neg h1];exact aKC _
theorem aNi (d:aI)(u:bG):aT (cJ d u).1<=aT d\/aT (cJ d u).1<=1000:=by
 cases h:(cJ d u).2 with
 | true=>exact .inr (mM h).1
 | false=>exact .inl (aJx h)
theorem aIm (l:List Int){s:VS}(h:aT s.db<=1000): ∀j,aT (lS (lsF l) j s).db<=1000/\(lS (lsF l) j s).xs.length=s.xs.length+j/\jZ (lS (lsF l) j s).xs<=jZ s.xs+j*2006
 | 0=>⟨h,rfl,aKC _⟩
 | j+1=>by
   obtain⟨h1,h2,h3⟩:=aIm l h j;have h4:=aMA l (lS (lsF l) j s).cu (lS (lsF l) j s).db;have h5:=aNi (lS (lsF l) j s).db (iC l (lS (lsF l) j s).cu (lS (lsF l) j s).db).1;have e2:jZ ((lS (lsF l) j s).xs++[(iC l (lS (lsF l) j s).cu (lS (lsF l) j s).db).1])=jZ (lS (lsF l) j s).xs+1+jJ (iC l (lS (lsF l) j s).cu (lS (lsF l) j s).db).1:=aAc _ _ _;rw[lS,lsF];refine⟨?_,?_,?_⟩
   ·dsimp only;omega
   ·simp only[aJi,aIl,List.length_nil];omega
   dsimp only;rw[e2];omega
def lsN (l:List Int)(u:Cu)(most:Int):Int × Cu:=aA l u (most+1)
def jG (l:List Int)(u:Cu)(d:aI)(most:Int)(j:Nat):VS:=lS (lsF l) j ⟨[],d,(lsN l u most).2⟩
def lsD (l:List Int)(u:Cu)(d:aI)(most:Int):VS:=jG l u d most (lsN l u most).1.toNat
theorem aMB {l:List Int}{u:Cu}{n:Int}(h:(aA l (qA l u n).2 10).1=0):bY l u n=((qA l u n).1++[(bJ l (aA l (qA l u n).2 10).2 [0,-1,10]).1],(bJ l (aA l (qA l u n).2 10).2 [0,-1,10]).2):=by rw[bY,if_pos h]
theorem aMC {l:List Int}{u:Cu}{n:Int}(h: ¬(aA l (qA l u n).2 10).1=0):bY l u n=((qA l u n).1,(aA l (qA l u n).2 10).2):=by rw[bY,if_neg h]
theorem aDe {l:List Int}{u:Cu}{d:aI}(h:d.tables.length=0):iC l u d=(⟨⟨#[114]⟩,true,[0,1]⟩,u):=by rw[iC,if_pos h]
theorem gH {l:List Int}{u:Cu}{d:aI}{t:aJ}{s:US}(h: ¬d.tables.length=0)(hT:upT l u d=t)(hR:upR l (eB l u d).2 t=s):iC l u d=upX l t s:=by rw[iC,if_neg h,hT,hR]
theorem aPe {l:List Int}{u:Cu}{t:aJ}{r:List Int}(h:(0:Int)<(t.rows.length:Int))(h2:(aA l u 2).1=0)(hr:t.rows[(aA l (aA l u 2).2 t.rows.length).1.toNat]? =some r):upR l u t=⟨false,r,(aA l (aA l u 2).2 t.rows.length).2⟩:=by
 rw[upR,if_pos (by omega),if_pos h2];have e:t.rows.getD (upI l u t).1.toNat []=r:=bP hr;rw[e];rfl
theorem aOA {l:List Int}{u:Cu}{t:aJ}(h:(0:Int)<(t.rows.length:Int))(h2: ¬(aA l u 2).1=0):upR l u t=⟨true,(bY l (aA l u 2).2 (iV t)).1,(bY l (aA l u 2).2 (iV t)).2⟩:=by rw[upR,if_pos (by omega),if_neg h2]
theorem aOB {l:List Int}{u:Cu}{t:aJ}(h: ¬0<(t.rows.length:Int)):upR l u t=⟨true,(bY l u (iV t)).1,(bY l u (iV t)).2⟩:=by rw[upR,if_neg (by omega)]
theorem wV {l:List Int}{t:aJ}{b:Bool}{r:List Int}{c:Cu}(h:(aA l c 16).1=0):upX l t ⟨b,r,c⟩=(⟨(cG l (aA l c 16).2 upN).1,b,r⟩,(cG l (aA l c 16).2 upN).2):=by rw[upX,if_pos h]
theorem wW {l:List Int}{t:aJ}{b:Bool}{r:List Int}{c:Cu}(h:(aA l c 16).1=1):upX l t ⟨b,r,c⟩=(⟨t.name,!b,r⟩,(aA l c 16).2):=by
 rw[upX,if_neg (fun e=>by rw[show (aA l (US.mk b r c).cu 16).1=(aA l c 16).1 from rfl,h] at e;exact absurd e (by decide)),if_pos h]
theorem wX {l:List Int}{t:aJ}{b:Bool}{r:List Int}{c:Cu}(h: ¬(aA l c 16).1=0)(h2: ¬(aA l c 16).1=1):upX l t ⟨b,r,c⟩=(⟨t.name,b,r⟩,(aA l c 16).2):=by rw[upX,if_neg h,if_neg h2]
theorem aFW {l:List Int}{u:Cu}{d:aI}{most:Int}(h:aT d<=1000)(j:Nat):aT (jG l u d most j).db<=1000/\(jG l u d most j).xs.length=j/\jZ (jG l u d most j).xs<=j*2006:=by
 have q:=aIm l (s:=⟨[],d,(lsN l u most).2⟩) h j;have e:jZ ([]:List bG)=0:=rfl;simp only[List.length_nil,e,Nat.zero_add] at q;exact q
end Go.Proofs.YtafmaholhcgakaaGreat
