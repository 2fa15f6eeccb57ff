/-
  Contracts and plain laws, joined: part 11.
-/
import Derived.Test.YtokkjaflmcjlhaaGreatQA9
import Derived.Shelf.SlicesE.Compact
import Derived.Ground.SlgnProg
import Derived.Test.YtokkjaflmcjlhaaGreatQA7
import Derived.Test.YtokkjaflmcjlhaaGreatQA4
import Derived.Shelf.SlicesE.Reverse
import Derived.Test.YtokkjaflmcjlhaaGreatQA8
namespace Go.Proofs
open Go.Shelf
namespace YtokkjaflmcjlhaaGreat
def Tryz.compInts_ren : Go.Shelf.Ren := ⟨fun | 43 => 273 | n => n, fun | 22 => 32 | 23 => 3 | 3 => 3 | 4 => 4 | 0 => 0 | n => n, fun | n => n⟩
theorem Tryz.compInts : Go.Proofs.SlLaysE.n43 Tryz.prog Tryz.compInts_ren := {
  mixed := by kernel_rfl
  f43 := ⟨Tryz.f273.name, by decide, Tryz.func273.trans (congrArg some (by kernel_rfl))⟩
  t0 := Tryz.underlying0
  a0 := Tryz.isAgg0
  z0 := Tryz.sizeOf0
  v0 := Tryz.zeroValue0
  t3 := Tryz.underlying3
  a3 := Tryz.isAgg3
  z3 := Tryz.sizeOf3
  v3 := Tryz.zeroValue3
  t4 := Tryz.underlying4
  a4 := Tryz.isAgg4
  z4 := Tryz.sizeOf4
  v4 := Tryz.zeroValue4
  t22 := Tryz.underlying32
  a22 := Tryz.isAgg32
  z22 := Tryz.sizeOf32
  v22 := Tryz.zeroValue32
  a23 := Tryz.isAgg3
  z23 := Tryz.sizeOf3 }
end YtokkjaflmcjlhaaGreat
end Go.Proofs
namespace Go.Proofs.YtokkjaflmcjlhaaGreat
open Go.ChangeShapes Go.WideShapes Go.ChangeAt Go.RowKit Go.Lib
set_option linter.unusedVariables false
set_option linter.unusedSimpArgs false
theorem aJl {P:Program} {f:FuncId} {e:Nat} (l m:List Int) (hc:jI P f=true) (hm:m.length≤l.length) (hm0:l= []→m= [])
 (hn0:l= []→ ∀w,Calls P f #[.slice none 0 0] w (fun ex w' =>ex= .returned (.slice none 0 0)∧w' =w))
 (hs: ∀(blk cap:Nat) (w:World),Go.Sort.Holds (Value.int .i64) w blk 0 l.toArray→blk<w.heap.size→l.length≤cap→Calls P f #[.slice (some ⟨blk,0,none⟩) l.length cap] w (fun ex w' =>ex= .returned (.slice (some ⟨blk,0,none⟩) m.length cap)∧ ∃n os z,(m++z).length=l.length∧w' =Go.Sort.grow (Go.Sort.putRow (Value.int .i64) (Go.Sort.ahead w n) blk 0 (m++z).toArray) os)):
 yX P f [.own 0] [(0,.arr e 1 true (l.map intD))] (.own 1) [(1,.arr e 1 true (m.map intD))]:=by
 refine ⟨hc,by simp,fun A φ w vs hI hM=>?_⟩
 obtain ⟨pl,hp,css,Fs,q1,q2,q3,q4⟩:=hI.dom 0 _ rfl
 unfold aM at hM
 obtain ⟨v,us,e1,m1,hM⟩:=hM
 unfold aM at hM
 unfold aD at m1
 have hv:=m1 pl hp
 have ev:vs= #[pl.val]:=by apply Array.ext';rw [e1,hM,hv]
 rw [ev]
 obtain ⟨c1,c2⟩:=aBj q4
 rw [c1,List.length_map] at q1
 have hge:=hI.ge 0 pl hp
 have hsub:pl.sub= []:=by rw [q3,c2]
 have hfoot: ∀b∈pl.F,aHy φ b:=fun b hb=>⟨0,pl,trivial,hp,hb⟩
 have h1:φ 1=none:=hI.non 1 rfl
 have hend: ∀(v' :Value) (w' :World),jW pl.F w w' →(∀b∈v'.ownBlock,b∈pl.val.ownBlock)→w'.ownsRow 0 e 1 v' m.length (m.map (Value.int .i64))→
  ∃v K φ',Ending.returned v' = .returned v∧aNG A φ w [(1,.arr e 1 true (m.map intD))] K φ' w' ∧aD K φ' w' (.own 1) v:=by
  intro v' w' hon hvb howns
  let pl' :Pl:=⟨v',v'.ownBlock.toList,[]⟩
  have hmem: ∀g,g∈pl'.F→g∈pl.F:=fun g hg=>by
   unfold Pl.F
   simp only [pl',Pl.F,List.append_nil,Option.mem_toList] at hg
   rw [q2]
   exact List.mem_append_left _ (by rw [Option.mem_toList];exact hvb g hg)
  have hnd' :pl'.F.Nodup:=by simp only [pl',Pl.F,List.append_nil];cases v'.ownBlock<;>simp
  refine ⟨_,A,fun h=>if h=1 then some pl' else none,rfl,⟨⟨hon.os,hon.tape,hon.output,hon.size,fun b hb hn=>hon.block b hb (fun hm=>hn (hfoot b hm))⟩,fun _ h=>h,fun b hb=>⟨Nat.lt_of_lt_of_le (hI.lt b hb) hon.size,.inl hb⟩,fun b hb h pl1 e' hm' =>?_,fun h r hr=>?_,fun h hr=>?_,fun h h' pl1 pl2 hne ea eb=>?_,fun h pl1 e' =>?_,fun h pl1 e' g hg=>?_,fun h pl1 pl0 e' e0=>?_⟩,?_⟩
  ·split at e'
   ·injection e' with e';subst e'
    exact hI.out b hb 0 pl hp (hmem b hm')
   ·cases e'
  ·simp only [aY] at hr
   split at hr
   ·rename_i eh
    subst eh
    injection hr with hr
    subst hr
    refine ⟨pl',by simp,m.map fun n=>[Value.int .i64 n],m.map fun _=>[],?_,rfl,?_,sS _ m⟩
    ·rw [aBk,List.length_map];exact howns
    ·simp [pl']
   ·cases hr
  ·simp only [aY] at hr
   split at hr
   ·cases hr
   ·rename_i eh;exact if_neg eh
  ·split at ea
   ·split at eb
    ·rename_i x y;exact absurd (x.trans y.symm) hne
    ·cases eb
   ·cases ea
  ·split at e'
   ·injection e' with e';subst e';exact hnd'
   ·cases e'
  ·split at e'
   ·injection e' with e';subst e'
    have:=hmem g hg
    exact ⟨.inr (hfoot g this),Nat.lt_of_lt_of_le (hge g this) hon.size⟩
   ·cases e'
  ·split at e'
   ·rename_i eh
    subst eh
    rw [h1] at e0;cases e0
   ·cases e'
  ·unfold aD
   intro pl1 e'
   simp at e'
   subst e'
   rfl
 rcases q1.2 with ⟨hvn,hz⟩ | ⟨g,cap,cur,hvv,hg0,hb,hn,hcap,hsz,htk⟩
 ·have hz' :l= []:=List.eq_nil_of_length_eq_zero hz
  rw [hvn]
  refine (hn0 hz' w).mono ?_
  rintro en w' ⟨rfl,rfl⟩
  refine hend (.slice none 0 0) w' (jW.refl _ _) (fun b hb=>by cases hb) ?_
  rw [hm0 hz']
  exact ⟨by simp,.inl ⟨rfl,rfl⟩⟩
 ·have hlt:g<w.heap.size:=(Array.getElem?_eq_some_iff.1 hb).1
  have hH:Go.Sort.Holds (Value.int .i64) w g 0 l.toArray:=holds_of_blockI hb (by rw [Nat.mul_one] at htk;exact htk)
  rw [hvv]
  refine (hs g cap w hH hlt hn).mono ?_
  rintro en w' ⟨rfl,n,os,z,hz,rfl⟩
  have hgb:=grownBy_sortedI (w:=w) (g:=g) (n:=n) (os:=os) (m++z).toArray
  have hown:=ownsRow_sortedI (n:=n) (os:=os) hz hg0 hb hn hcap hsz
  refine hend _ _ ⟨hgb.os,hgb.tape,hgb.output,hgb.size,fun k hk hne=>hgb.block k hk (fun e=>hne (by injection e with e;subst e;unfold Pl.F;rw [q2,hvv];simp [Value.ownBlock]))⟩ (fun b hb' =>by rw [hvv];exact hb') ?_
  rcases hown.2 with ⟨hvn,_⟩ | ⟨g',cap',cur',hv',hg',hb',hn',hcap',hsz',htk'⟩
  ·cases hvn
  ·simp only [Value.slice.injEq,Option.some.injEq,Addr.mk.injEq,and_true] at hv'
   obtain ⟨rfl,_,rfl⟩:=hv'
   refine ⟨by simp,.inr ⟨g,cap,cur',rfl,hg',hb',by omega,hcap',hsz',?_⟩⟩
   rw [Nat.mul_one] at*
   have h3:=congrArg (List.take m.length) htk'
   rw [List.take_take,Nat.min_eq_left hm,List.map_append,List.take_append_of_le_length (by simp)] at h3
   rw [h3,List.take_of_length_le (by simp)]
def qH (l:List Int):List Int:=compactUpTo l.toArray l.toArray.size
theorem aIc (l:List Int):(qH l).length≤l.length:=by
 unfold qH compactUpTo
 rw [List.length_map]
 have:=(List.filter_sublist (l:=List.range l.toArray.size) (p:=keeps l.toArray)).length_le
 simpa using this
theorem aGZ {l:List Int}:qH l= []↔l= []:=by
 constructor
 ·intro h
  by_cases e:l= []
  ·exact e
  ·exfalso
   have hp:0<l.length:=List.length_pos_iff.2 e
   unfold qH compactUpTo at h
   rw [List.map_eq_nil_iff,List.filter_eq_nil_iff] at h
   exact h 0 (List.mem_range.2 (by simpa using hp)) (keeps_lt_one _ 0 (by omega))
 ·rintro rfl;rfl
theorem tyI:fH Tryz.prog 3=some (false,1,8,.int .i64 0):=by kernel_rfl
theorem aRS (w:World):(zeroValue 3).run Tryz.prog w= .ok (.int .i64 0) w:=(fP tyI w).2.2.1
theorem aLg (l:List Int) (hl:l.length<4611686018427387904):yX Tryz.prog 273 [.own 0] [(0,.arr 3 1 true (l.map intD))] (.own 1) [(1,.arr 3 1 true ((qH l).map intD))]:=
 aJl l (qH l) (by kernel_rfl) (aIc l) (fun h=>aGZ.2 h)
  (fun h w=>by
   go_enter Tryz.func273,Tryz.ntmps273
   go_wp2
   go_ret
   exact ⟨rfl,rfl⟩)
  (fun blk cap w hH hblk hn=>(AnyE.slices_Compact Tryz.compInts (Value.int .i64) (fun _=>rfl) (EqlAt.intD _ _ .i64) (NeqAt.intD _ _ .i64) 0 (fun w=>aRS w) blk 0 cap l.toArray w hH (by rw [List.size_toArray];omega) (by rw [List.size_toArray];exact hn)).mono fun e w' ⟨he,q,hw⟩=>
   ⟨by have e1:l.toArray.size=l.length:=by simp
       rw [e1] at he;unfold qH;rw [e1];exact he,q,#[],List.replicate (l.length - (qH l).length) 0,by have:=aIc l;simp;omega,by rw [hw,Go.Sort.grow_empty];simp [qH]⟩)
end Go.Proofs.YtokkjaflmcjlhaaGreat
namespace Go.Proofs.YtokkjaflmcjlhaaGreat
open Go.ChangeShapes Go.WideShapes Go.ChangeAt Go.RowKit
set_option linter.unusedVariables false
set_option linter.unusedSimpArgs false
set_option maxRecDepth 100000
set_option maxHeartbeats 4000000
def dU (d:aR) (x:aU):Bool:=(aE d x.name).2&&((aE d x.into).2&&(dM x.column 0 ((aE d x.name).1.arity - 1)&&dM x.intoColumn 0 ((aE d x.into).1.arity - 1)))
def gF (rows:List (List Int)) (c:Int):List Int:=rows.map fun r=>r.getD c.toNat 0
def aCP (d:aR) (x:aU):List Int:=(gF (aE d x.name).1.rows x.column).filter fun v=> !decide (v∈gF (aE d x.into).1.rows x.intoColumn)
def tX (d:aR) (x:aU):List Int:=if dU d x=true then qH (iE (aCP d x)) else []
def aAr (d:aR) (x:aU) (v:Nat):Bool:=decide ((v:Int)∈gF (aE d x.name).1.rows x.column)&& !decide ((v:Int)∈gF (aE d x.into).1.rows x.intoColumn)
def lU (d:aR) (x:aU) (n:Nat):List Int:=((List.range n).filter (aAr d x)).map fun v:Nat=>(v:Int)
def tY (d:aR) (x:aU):List Int:=if dU d x=true then lU d x 10 else []
def gM (d:aR) (x:aU):Bool:=dU d x&&decide (aCP d x= [])
theorem aLh {d:aR} {x:aU} {v:Nat} (h:aAr d x v=true):lU d x (v+1)=lU d x v++[(v:Int)]:=by
 rw [lU,List.range_succ,List.filter_append,List.map_append]
 simp [lU,h]
theorem aId {d:aR} {x:aU} {v:Nat} (h:aAr d x v=false):lU d x (v+1)=lU d x v:=by
 rw [lU,List.range_succ,List.filter_append,List.map_append]
 simp [lU,h]
theorem aLi (d:aR) (x:aU) (v:Nat):(lU d x v).length≤v:=by
 rw [lU,List.length_map]
 have:=List.length_filter_le (aAr d x) (List.range v)
 rwa [List.length_range] at this
theorem kN (rows:List (List Int)) (c:Int) {k:Nat} {r:List Int} (h:rows[k]? =some r):gF (rows.take (k+1)) c=gF (rows.take k) c++[r.getD c.toNat 0]:=by rw [cI h,gF,List.map_append];rfl
theorem rM {l:List Int} {v y:Int}:decide (v∈l++[y])=(decide (v∈l) || decide (v=y)):=by simp [Bool.decide_or]
theorem aLj {t:aS} {c:Int} {v:Int} (h:aL t=true) (hc:0≤c∧c≤t.arity - 1) (hv:v∈gF t.rows c):0≤v∧v≤9:=by
 obtain ⟨r,hr,rfl⟩:=List.mem_map.1 hv
 have hl:=mO h hr
 have hk:=List.all_eq_true.1 (mN h).1 r hr
 simp only [fW,Bool.and_eq_true,decide_eq_true_eq] at hk
 have hlt:c.toNat<r.length:=by omega
 have hm:r.getD c.toNat 0∈r:=by rw [List.getD_eq_getElem?_getD,List.getElem?_eq_getElem hlt];exact List.getElem_mem hlt
 exact dP (List.all_eq_true.1 hk.1 _ hm)
theorem wB {d:aR} {x:aU} (h:dU d x=true):aL (aE d x.name).1=true∧aL (aE d x.into).1=true∧(0≤x.column∧x.column≤(aE d x.name).1.arity - 1)∧(0≤x.intoColumn∧x.intoColumn≤(aE d x.into).1.arity - 1):=by
 simp only [dU,Bool.and_eq_true] at h
 obtain ⟨h1,h2,h3,h4⟩:=h
 exact ⟨(kF h1).1,(kF h2).1,dP h3,dP h4⟩
theorem aG0 {d:aR} {x:aU} (h:dU d x=true):decide (tX d x= [])=decide (aCP d x= []):=by
 rw [tX,if_pos h]
 apply Bool.eq_iff_iff.2
 rw [decide_eq_true_eq,decide_eq_true_eq,aGZ]
 constructor
 ·intro q
  have:=rL (aCP d x)
  rw [q] at this
  exact List.eq_nil_of_length_eq_zero this.symm
 ·intro q
  have:=rL (aCP d x)
  rw [q] at this
  rw [q]
  exact List.eq_nil_of_length_eq_zero this
theorem aG1 {d:aR} {x:aU} (h:dU d x=true):decide (tY d x= [])=decide (aCP d x= []):=by
 obtain ⟨h1,_,h3,_⟩:=wB h
 rw [tY,if_pos h]
 apply Bool.eq_iff_iff.2
 rw [decide_eq_true_eq,decide_eq_true_eq,lU,List.map_eq_nil_iff,List.filter_eq_nil_iff,aCP,List.filter_eq_nil_iff]
 constructor
 ·intro q v hv hb
  have hr:=aLj h1 h3 hv
  refine q v.toNat (List.mem_range.2 (by omega)) ?_
  rw [aAr,Int.toNat_of_nonneg hr.1]
  simp only [Bool.and_eq_true,decide_eq_true_eq]
  exact ⟨hv,hb⟩
 ·intro q v _ hb
  rw [aAr,Bool.and_eq_true,decide_eq_true_eq] at hb
  exact q _ hb.1 hb.2
abbrev sT (d:aR) (x:aU):Prop:=cO Tryz.prog 233 [.agg [.sl 162 3 (d.tables.map aO)],.agg [.str x.name,.int .i64 x.column,.str x.into,.int .i64 x.intoColumn]] (vB (dU d x)) []
theorem aE0 (d:aR) (x:aU) (hc:bD d≤1048576):sT d x:=by
 refine aT bF aQ Tryz.func233 (by kernel_rfl) (.call (.tup [.agg [.p none (.str (((aE d x.name).1).name)),vI (((aE d x.name).1).arity),.p none (.sl 32 1 ((((aE d x.name).1).rows).map aC))],vB ((aE d x.name).2)]) []<| .call (.tup [.agg [.p none (.str (((aE d x.into).1).name)),vI (((aE d x.into).1).arity),.p none (.sl 32 1 ((((aE d x.into).1).rows).map aC))],vB ((aE d x.into).2)]) []<| .br (.lit<| .br (.raw<| .call (vB (dM x.column (0:Int) (IntKind.i64.wrap ((((aE d x.name).1).arity) - (1:Int))))) []<| .lit<| .br (.raw<| .call (vB (dM x.intoColumn (0:Int) (IntKind.i64.wrap ((((aE d x.into).1).arity) - (1:Int))))) []<| .fin []) (.fin [])) (.fin [])) (.fin [])) (p:=(d.tables.map aO).length≤9223372036854775807→cO Tryz.prog 148 [.agg [.sl 162 3 (d.tables.map aO)],.one (.str x.name)] (.tup [.agg [.p none (.str (((aE d x.name).1).name)),vI (((aE d x.name).1).arity),.p none (.sl 32 1 ((((aE d x.name).1).rows).map aC))],vB ((aE d x.name).2)]) []∧(cO Tryz.prog 148 [.agg [.sl 162 3 (d.tables.map aO)],.one (.str x.into)] (.tup [.agg [.p none (.str (((aE d x.into).1).name)),vI (((aE d x.into).1).arity),.p none (.sl 32 1 ((((aE d x.into).1).rows).map aC))],vB ((aE d x.into).2)]) []∧((((aE d x.name).2)=true→(((aE d x.into).2)=true→eD x.column (0:Int) (IntKind.i64.wrap ((((aE d x.name).1).arity) - (1:Int)))∧(((dM x.column (0:Int) (IntKind.i64.wrap ((((aE d x.name).1).arity) - (1:Int))))=true→eD x.intoColumn (0:Int) (IntKind.i64.wrap ((((aE d x.into).1).arity) - (1:Int)))∧(dM x.intoColumn (0:Int) (IntKind.i64.wrap ((((aE d x.into).1).arity) - (1:Int))))=(dU d x)∧True)∧((dM x.column (0:Int) (IntKind.i64.wrap ((((aE d x.name).1).arity) - (1:Int))))=false→(false)=(dU d x)∧True)))∧(((aE d x.into).2)=false→(false)=(dU d x)∧True))∧(((aE d x.name).2)=false→(false)=(dU d x)∧True)))) (by kernel_rfl) ?_
 intro n0
 simp only [List.length_map] at n0
 refine ⟨iF (pG _ x.name (by omega)) rfl,iF (pG _ x.into (by omega)) rfl,fun g24=>?_,fun g24=>?_⟩
 ·have hT:=(kF g24).1
  have hA:=bT hT
  have hw:IntKind.i64.wrap ((aE d x.name).1.arity - 1)=(aE d x.name).1.arity - 1:=IntWalk.i64_in _ ⟨by omega,by omega⟩
  try rw [hw]
  refine ⟨fun g27=>?_,fun g27=>?_⟩
  ·have hT2:=(kF g27).1
   have hA2:=bT hT2
   have hw2:IntKind.i64.wrap ((aE d x.into).1.arity - 1)=(aE d x.into).1.arity - 1:=IntWalk.i64_in _ ⟨by omega,by omega⟩
   try rw [hw2]
   refine ⟨gB _ _ _,fun g35=>?_,fun g35=>?_⟩
   ·refine ⟨gB _ _ _,?_,trivial⟩
    ·first | (simp [dU, *];done) | (simp [dU, *] at*;simp [*];done) | (simp_all [dU];done)
   ·refine ⟨?_,trivial⟩
    ·first | (simp [dU, *];done) | (simp [dU, *] at*;simp [*];done) | (simp_all [dU];done)
  ·refine ⟨?_,trivial⟩
   ·first | (simp [dU, *];done) | (simp [dU, *] at*;simp [*];done) | (simp_all [dU];done)
 ·refine ⟨?_,trivial⟩
  ·first | (simp [dU, *];done) | (simp [dU, *] at*;simp [*];done) | (simp_all [dU];done)
abbrev sU (d:aR) (x:aU):Prop:=cO Tryz.prog 214 [.agg [.sl 162 3 (d.tables.map aO)],.agg [.str x.name,.int .i64 x.column,.str x.into,.int .i64 x.intoColumn]] (vB (dU d x)) []
theorem aE1 (d:aR) (x:aU) (hc:bD d≤1048576):sU d x:=by
 refine aT bF aQ Tryz.func214 (by kernel_rfl) (.call (.tup [.agg [.p none (.str (((aE d x.name).1).name)),vI (((aE d x.name).1).arity),.p none (.sl 32 1 ((((aE d x.name).1).rows).map aC))],vB ((aE d x.name).2)]) []<| .call (.tup [.agg [.p none (.str (((aE d x.into).1).name)),vI (((aE d x.into).1).arity),.p none (.sl 32 1 ((((aE d x.into).1).rows).map aC))],vB ((aE d x.into).2)]) []<| .br (.lit<| .br (.raw<| .call (vB (dM x.column (0:Int) (IntKind.i64.wrap ((((aE d x.name).1).arity) - (1:Int))))) []<| .lit<| .br (.raw<| .call (vB (dM x.intoColumn (0:Int) (IntKind.i64.wrap ((((aE d x.into).1).arity) - (1:Int))))) []<| .fin []) (.fin [])) (.fin [])) (.fin [])) (p:=(d.tables.map aO).length≤9223372036854775807→cO Tryz.prog 132 [.agg [.sl 162 3 (d.tables.map aO)],.one (.str x.name)] (.tup [.agg [.p none (.str (((aE d x.name).1).name)),vI (((aE d x.name).1).arity),.p none (.sl 32 1 ((((aE d x.name).1).rows).map aC))],vB ((aE d x.name).2)]) []∧(cO Tryz.prog 132 [.agg [.sl 162 3 (d.tables.map aO)],.one (.str x.into)] (.tup [.agg [.p none (.str (((aE d x.into).1).name)),vI (((aE d x.into).1).arity),.p none (.sl 32 1 ((((aE d x.into).1).rows).map aC))],vB ((aE d x.into).2)]) []∧((((aE d x.name).2)=true→(((aE d x.into).2)=true→eL x.column (0:Int) (IntKind.i64.wrap ((((aE d x.name).1).arity) - (1:Int)))∧(((dM x.column (0:Int) (IntKind.i64.wrap ((((aE d x.name).1).arity) - (1:Int))))=true→eL x.intoColumn (0:Int) (IntKind.i64.wrap ((((aE d x.into).1).arity) - (1:Int)))∧(dM x.intoColumn (0:Int) (IntKind.i64.wrap ((((aE d x.into).1).arity) - (1:Int))))=(dU d x)∧True)∧((dM x.column (0:Int) (IntKind.i64.wrap ((((aE d x.name).1).arity) - (1:Int))))=false→(false)=(dU d x)∧True)))∧(((aE d x.into).2)=false→(false)=(dU d x)∧True))∧(((aE d x.name).2)=false→(false)=(dU d x)∧True)))) (by kernel_rfl) ?_
 intro n0
 simp only [List.length_map] at n0
 refine ⟨iF (pH _ x.name (by omega)) rfl,iF (pH _ x.into (by omega)) rfl,fun g24=>?_,fun g24=>?_⟩
 ·have hT:=(kF g24).1
  have hA:=bT hT
  have hw:IntKind.i64.wrap ((aE d x.name).1.arity - 1)=(aE d x.name).1.arity - 1:=IntWalk.i64_in _ ⟨by omega,by omega⟩
  try rw [hw]
  refine ⟨fun g27=>?_,fun g27=>?_⟩
  ·have hT2:=(kF g27).1
   have hA2:=bT hT2
   have hw2:IntKind.i64.wrap ((aE d x.into).1.arity - 1)=(aE d x.into).1.arity - 1:=IntWalk.i64_in _ ⟨by omega,by omega⟩
   try rw [hw2]
   refine ⟨gP _ _ _,fun g35=>?_,fun g35=>?_⟩
   ·refine ⟨gP _ _ _,?_,trivial⟩
    ·first | (simp [dU, *];done) | (simp [dU, *] at*;simp [*];done) | (simp_all [dU];done)
   ·refine ⟨?_,trivial⟩
    ·first | (simp [dU, *];done) | (simp [dU, *] at*;simp [*];done) | (simp_all [dU];done)
  ·refine ⟨?_,trivial⟩
   ·first | (simp [dU, *];done) | (simp [dU, *] at*;simp [*];done) | (simp_all [dU];done)
 ·refine ⟨?_,trivial⟩
  ·first | (simp [dU, *];done) | (simp [dU, *] at*;simp [*];done) | (simp_all [dU];done)
def b4 (a b c d:Bool):Int:=(if a then 1 else 0)+(if b then 2 else 0)+(if c then 4 else 0)+(if d then 8 else 0)
def m4 (p:Nat→Bool):Int:=b4 (p 0) (p 1) (p 2) (p 3)
theorem lt4 {P:Nat→Prop} (h0:P 0) (h1:P 1) (h2:P 2) (h3:P 3) {i:Nat} (hi:i<4):P i:=by
 have h:i=0∨i=1∨i=2∨i=3:=by omega
 rcases h with rfl | rfl | rfl | rfl<;>assumption
theorem aNz {p q:Nat→Bool} (h: ∀i,i<4→p i=q i):m4 p=m4 q:=by
 rw [m4,m4,h 0 (by omega),h 1 (by omega),h 2 (by omega),h 3 (by omega)]
theorem aQs (a b c d:Bool):dL (b4 a b c d) 0=a∧dL (b4 a b c d) 1=b∧dL (b4 a b c d) 2=c∧dL (b4 a b c d) 3=d:=by
 cases a<;>cases b<;>cases c<;>cases d<;>decide
theorem aHN {p:Nat→Bool} {v:Nat} (hv:v<4):dL (m4 p) v=p v:=by
 have h:=aQs (p 0) (p 1) (p 2) (p 3)
 exact lt4 (P:=fun v=>dL (m4 p) v=p v) h.1 h.2.1 h.2.2.1 h.2.2.2 hv
theorem aOA (a b c d:Bool):0≤b4 a b c d∧b4 a b c d≤15:=by cases a<;>cases b<;>cases c<;>cases d<;>decide
theorem aIe (p:Nat→Bool):0≤m4 p∧m4 p≤15:=aOA _ _ _ _
theorem aRU (a b c d:Bool):fL .or .i64 (b4 a b c d) (1*2^0)=b4 true b c d∧fL .or .i64 (b4 a b c d) (1*2^1)=b4 a true c d∧fL .or .i64 (b4 a b c d) (1*2^2)=b4 a b true d∧fL .or .i64 (b4 a b c d) (1*2^3)=b4 a b c true:=by
 cases a<;>cases b<;>cases c<;>cases d<;>decide
theorem aKh {p:Nat→Bool} {v:Nat} (hv:v<4):fL .or .i64 (m4 p) ((1:Int)*2^v)=m4 (fun i=>p i || decide (i=v)):=by
 have h:=aRU (p 0) (p 1) (p 2) (p 3)
 refine lt4 (P:=fun v=>fL .or .i64 (m4 p) ((1:Int)*2^v)=m4 (fun i=>p i || decide (i=v))) ?_ ?_ ?_ ?_ hv
 ·simpa [m4] using h.1
 ·simpa [m4] using h.2.1
 ·simpa [m4] using h.2.2.1
 ·simpa [m4] using h.2.2.2
theorem aQt (a b c d:Bool):fL .andNot .i64 (b4 a b c d) (1*2^0)=b4 false b c d∧fL .andNot .i64 (b4 a b c d) (1*2^1)=b4 a false c d∧fL .andNot .i64 (b4 a b c d) (1*2^2)=b4 a b false d∧fL .andNot .i64 (b4 a b c d) (1*2^3)=b4 a b c false:=by
 cases a<;>cases b<;>cases c<;>cases d<;>decide
theorem aQu {p:Nat→Bool} {v:Nat} (hv:v<4):fL .andNot .i64 (m4 p) ((1:Int)*2^v)=m4 (fun i=>p i&& !decide (i=v)):=by
 have h:=aQt (p 0) (p 1) (p 2) (p 3)
 refine lt4 (P:=fun v=>fL .andNot .i64 (m4 p) ((1:Int)*2^v)=m4 (fun i=>p i&& !decide (i=v))) ?_ ?_ ?_ ?_ hv
 ·simpa [m4] using h.1
 ·simpa [m4] using h.2.1
 ·simpa [m4] using h.2.2.1
 ·simpa [m4] using h.2.2.2
theorem aQv {a b c d a' b' c' d' :Bool} (h:b4 a b c d=b4 a' b' c' d'):a=a' ∧b=b' ∧c=c' ∧d=d' :=by
 revert h;cases a<;>cases b<;>cases c<;>cases d<;>cases a' <;>cases b' <;>cases c' <;>cases d' <;>decide
theorem aQw {p q:Nat→Bool} (h:m4 p=m4 q) {i:Nat} (hi:i<4):p i=q i:=by
 have h:=aQv h
 exact lt4 (P:=fun i=>p i=q i) h.1 h.2.1 h.2.2.1 h.2.2.2 hi
theorem aHO {m:Int} (h:0≤m∧m≤15):m=m4 (dL m):=by
 have h1:m=0∨m=1∨m=2∨m=3∨m=4∨m=5∨m=6∨m=7∨m=8∨m=9∨m=10∨m=11∨m=12∨m=13∨m=14∨m=15:=by omega
 rcases h1 with rfl | rfl | rfl | rfl | rfl | rfl | rfl | rfl | rfl | rfl | rfl | rfl | rfl | rfl | rfl | rfl<;>decide
theorem aP6 (a b c d:Bool):decide (b4 a b c d=(1:Int)*2^(4:Int).toNat - 1)=(a&&(b&&(c&&(d&&true)))):=by cases a<;>cases b<;>cases c<;>cases d<;>decide
theorem sV {p:Nat→Bool} {n:Int} (hn:1≤n∧n≤4) (hp: ∀i,n.toNat≤i→p i=false):decide (m4 p=(1:Int)*2^n.toNat - 1)=(List.range n.toNat).all p:=by
 have h:n=1∨n=2∨n=3∨n=4:=by omega
 rcases h with rfl | rfl | rfl | rfl
 ·have h1:=hp 1 (by decide);have h2:=hp 2 (by decide);have h3:=hp 3 (by decide)
  simp only [m4,h1,h2,h3];show _=(List.range 1).all p
  simp only [List.range,List.range.loop,List.all_cons,List.all_nil]
  cases p 0<;>decide
 ·have h2:=hp 2 (by decide);have h3:=hp 3 (by decide)
  simp only [m4,h2,h3];show _=(List.range 2).all p
  simp only [List.range,List.range.loop,List.all_cons,List.all_nil]
  cases p 0<;>cases p 1<;>decide
 ·have h3:=hp 3 (by decide)
  simp only [m4,h3];show _=(List.range 3).all p
  simp only [List.range,List.range.loop,List.all_cons,List.all_nil]
  cases p 0<;>cases p 1<;>cases p 2<;>decide
 ·simp only [m4];show _=(List.range 4).all p
  simp only [List.range,List.range.loop,List.all_cons,List.all_nil]
  exact aP6 _ _ _ _
theorem aQx {m:Int} {v:Nat} (h:0≤m∧m≤15) (hv:v<4):fL .and .i64 (m/2^v) 1=if dL m v=true then 1 else 0:=by
 have h1:m=0∨m=1∨m=2∨m=3∨m=4∨m=5∨m=6∨m=7∨m=8∨m=9∨m=10∨m=11∨m=12∨m=13∨m=14∨m=15:=by omega
 refine lt4 (P:=fun v=>fL .and .i64 (m/2^v) 1=if dL m v=true then 1 else 0) ?_ ?_ ?_ ?_ hv<;>rcases h1 with rfl | rfl | rfl | rfl | rfl | rfl | rfl | rfl | rfl | rfl | rfl | rfl | rfl | rfl | rfl | rfl<;>decide
theorem mP {m:Int} {v:Nat} (h:fL .and .i64 (m/2^v) 1=1):dL m v=true:=by rw [dL,h];rfl
theorem pI {m:Int} {v:Nat} (h: ¬fL .and .i64 (m/2^v) 1=1):dL m v=false:=by rw [dL];simpa using h
theorem aIf {m:Int} {v:Nat} (h:0≤m∧m≤15) (hv:v<4):decide (fL .and .i64 (m/2^v) 1=0)= !dL m v:=by
 rw [aQx h hv];cases dL m v<;>rfl
def dE (p:Nat→Bool) (k:Nat):List Int:=((List.range k).filter p).map fun v:Nat=>(v:Int)
theorem iH {p:Nat→Bool} {k:Nat} (h:p k=true):dE p (k+1)=dE p k++[(k:Int)]:=by
 rw [dE,List.range_succ,List.filter_append,List.map_append]
 simp [dE,h]
theorem gQ {p:Nat→Bool} {k:Nat} (h:p k=false):dE p (k+1)=dE p k:=by
 rw [dE,List.range_succ,List.filter_append,List.map_append]
 simp [dE,h]
theorem lJ (p:Nat→Bool) (k:Nat):(dE p k).length≤k:=by
 rw [dE,List.length_map]
 have:=(List.filter_sublist (l:=List.range k) (p:=p)).length_le
 rw [List.length_range] at this
 exact this
theorem aE2 {p q:Nat→Bool} {k:Nat} (h: ∀v,v<k→p v=q v):dE p k=dE q k:=by
 rw [dE,dE,List.filter_congr fun v hv=>h v (List.mem_range.1 hv)]
theorem aAs {p:Nat→Bool} {k:Nat} {x:Int}:x∈dE p k↔0≤x∧x.toNat<k∧p x.toNat=true:=by
 rw [dE,List.mem_map]
 constructor
 ·rintro ⟨v,hv,rfl⟩
  rw [List.mem_filter,List.mem_range] at hv
  exact ⟨by omega,by simpa using hv.1,by simpa using hv.2⟩
 ·rintro ⟨h0,h1,h2⟩
  exact ⟨x.toNat,List.mem_filter.2 ⟨List.mem_range.2 h1,h2⟩,by omega⟩
theorem aAt {p:Nat→Bool} {n:Nat}: ∀{k:Nat},n≤k→(∀v,n≤v→v<k→p v=false)→dE p k=dE p n
 | 0,h,_=>by rw [show n=0 by omega]
 | k+1,h,hp=>by
   by_cases e:n=k+1
   ·rw [e]
   ·rw [gQ (hp k (by omega) (by omega)),aAt (by omega) fun v h1 h2=>hp v h1 (by omega)]
def iL (n:Int) (l:List Int) (k:Nat):Bool:=dM (l.getD k 0) 0 (n - 1)&& !decide (l.getD k 0∈l.take k)
def wC (n:Int) (l:List Int):Bool:=(List.range l.length).all (iL n l)
def dW (n:Int) (a:dF):Bool:=dR a.name&&(dM (a.vars.length:Nat) 1 3&&wC n a.vars)
def aCk (l:List dF) (v:Nat):Bool:=l.any fun a=>decide ((v:Int)∈a.vars)
def bP (q:QueryD):Bool:=(dM q.variableCount 1 4&&dM (q.atoms.length:Nat) 1 4)&&(q.atoms.all (dW q.variableCount)&&(List.range q.variableCount.toNat).all (aCk q.atoms))
def fY (l:List dF) (k:Nat) (a:List Int) (i v:Nat):Bool:=aCk (l.take k) v || decide ((v:Int)∈a.take i)
theorem aE3 (l:List dF) (k:Nat) (a b:List Int):fY l k a 0=fY l k b 0:=by funext v;simp [fY]
theorem aE4 {l:List dF} {k i:Nat} {a:List Int} {x:Int} (h:a[i]? =some x) (hx:0≤x):(fun v=>fY l k a i v || decide (v=x.toNat))=fY l k a (i+1):=by
 funext v
 rw [fY,fY,cI h,rM,Bool.or_assoc]
 congr 2
 exact decide_eq_decide.2 (by omega)
theorem aLk {l:List dF} {k:Nat} {a:dF} (h:l[k]? =some a) (v:Nat):aCk (l.take (k+1)) v=(aCk (l.take k) v || decide ((v:Int)∈a.vars)):=by
 rw [aCk,cI h,List.any_append]
 simp [aCk]
theorem aE5 {l:List dF} {k i:Nat} {a:dF} (h:l[k]? =some a) (hi:a.vars.length≤i) (b:List Int):fY l k a.vars i=fY l (k+1) b 0:=by
 funext v
 rw [fY,fY,aLk h,List.take_of_length_le hi]
 simp
theorem fR {l:List dF} {k:Nat} (hk:l.length≤k) (b:List Int):fY l k b 0=aCk l:=by
 funext v
 rw [fY,List.take_of_length_le hk]
 simp
theorem aOB {n v:Nat} (p:Nat→Bool):((List.range n).map p).set v true=(List.range n).map fun i=>p i || decide (i=v):=by
 apply List.ext_getElem?
 intro i
 rw [List.getElem?_set,List.getElem?_map,List.getElem?_map]
 by_cases hi:i<n
 ·rw [List.getElem?_range hi,List.length_map,List.length_range]
  by_cases e:v=i
  ·subst e;simp [hi]
  ·simp [e,show ¬i=v from fun q=>e q.symm]
 ·rw [show (List.range n)[i]? =none from List.getElem?_eq_none (by simp;omega)]
  by_cases e:v=i
  ·subst e;simp [hi]
  ·simp [e]
theorem pJ {n:Nat} (p:Nat→Bool):(!decide (false∈(List.range n).map p))=(List.range n).all p:=by
 apply Bool.eq_iff_iff.2
 rw [Bool.not_eq_true',decide_eq_false_iff_not,List.all_eq_true]
 constructor
 ·intro h x hx
  cases e:p x with
  | true=>rfl
  | false=>exact absurd (List.mem_map.2 ⟨x,hx,e⟩) h
 ·intro h hm
  obtain ⟨x,hx,e⟩:=List.mem_map.1 hm
  rw [h x hx] at e;cases e
theorem lK {q:QueryD} (h:(dM q.variableCount 1 4&&dM (q.atoms.length:Nat) 1 4)=false):bP q=false:=by rw [bP,h];rfl
theorem gY {q:QueryD} {k:Nat} {a:dF} (h:q.atoms[k]? =some a) (ha:dW q.variableCount a=false):bP q=false:=by rw [bP,bY h ha];simp
theorem jF {q:QueryD} (h:(dM q.variableCount 1 4&&dM (q.atoms.length:Nat) 1 4)=true) (ha:q.atoms.all (dW q.variableCount)=true):bP q=(List.range q.variableCount.toNat).all (aCk q.atoms):=by rw [bP,h,ha];rfl
theorem aLl {n:Int} {l:List Int} (h:wC n l=true) {x:Int} (hx:x∈l):0≤x∧x≤n - 1:=by
 obtain ⟨i,hi,rfl⟩:=List.mem_iff_getElem.1 hx
 have:=List.all_eq_true.1 h i (List.mem_range.2 hi)
 simp only [iL,Bool.and_eq_true] at this
 have:=dP this.1
 rwa [List.getD_eq_getElem?_getD,List.getElem?_eq_getElem hi,Option.getD_some] at this
theorem sW {n:Int} {a:dF} (h:dW n a=true):dR a.name=true∧(1≤a.vars.length∧a.vars.length≤3)∧ ∀x∈a.vars,0≤x∧x≤n - 1:=by
 simp only [dW,Bool.and_eq_true] at h
 have h2:=dP h.2.1
 exact ⟨h.1,⟨by omega,by omega⟩,fun x hx=>aLl h.2.2 hx⟩
theorem dZ {q:QueryD} (h:bP q=true):(1≤q.variableCount∧q.variableCount≤4)∧(1≤q.atoms.length∧q.atoms.length≤4)∧ ∀a∈q.atoms,dW q.variableCount a=true:=by
 simp only [bP,Bool.and_eq_true] at h
 have h1:=dP h.1.1
 have h2:=dP h.1.2
 exact ⟨h1,⟨by omega,by omega⟩,fun a ha=>List.all_eq_true.1 h.2.1 a ha⟩
theorem pK {n:Int} {l:List dF} (h:l.all (dW n)=true) (h0:1≤n) {v:Nat} (hv:n.toNat≤v):aCk l v=false:=by
 rw [aCk,List.any_eq_false]
 intro a ha hm
 have:=(sW (List.all_eq_true.1 h a ha)).2.2 v (by simpa using hm)
 omega
def sX (q:QueryD) (m:Int) (i v:Nat):Bool:=(List.range i).any fun j=>dL m j&&decide ((v:Int)∈(q.atoms.getD j gJ).vars)
def qI (q:QueryD) (m:Int) (v:Nat):Bool:=sX q m q.atoms.length v
def iI (q:QueryD) (m:Int):List Int:=dE (qI q m) q.variableCount.toNat
def gC (q:QueryD) (m:Int):Bool:=bP q&&dM m 0 ((1:Int)*2^q.atoms.length - 1)
def dN (q:QueryD) (m:Int):List Int:=if gC q m=true then iI q m else []
def kG (a b:List Int):List Int:=a.filter fun x=>decide (x∈b)
def cD (q:QueryD) (a b:Int):List Int:=kG (dN q a) (dN q b)
def bO (a:dF) (l:List Int):List Int:=dE (fun i=>decide (a.vars.getD i 0∈l)) a.vars.length
def cW (m:Int):List Int:=if dM m 0 15=true then dE (dL m) 4 else []
def iM (q:QueryD):Int:=if bP q=true then (1:Int)*2^q.atoms.length - 1 else 0
theorem rN {q:QueryD} {m:Int} (h:gC q m=true):dN q m=iI q m:=by rw [dN,if_pos h]
theorem wD {q:QueryD} {m:Int} (h:gC q m=false):dN q m= []:=by rw [dN,if_neg (by rw [h];decide)]
theorem rO {m:Int} (h:dM m 0 15=true):cW m=dE (dL m) 4:=by rw [cW,if_pos h]
theorem aE6 {m:Int} (h:dM m 0 15=false):cW m= []:=by rw [cW,if_neg (by rw [h];decide)]
theorem oI {q:QueryD} (h:bP q=true):iM q=(1:Int)*2^q.atoms.length - 1:=by rw [iM,if_pos h]
theorem aAu {q:QueryD} (h:bP q=false):iM q=0:=by rw [iM,if_neg (by rw [h];decide)]
theorem xY (q:QueryD) (m:Int) (i v:Nat):sX q m (i+1) v=(sX q m i v || (dL m i&&decide ((v:Int)∈(q.atoms.getD i gJ).vars))):=by
 rw [sX,List.range_succ,List.any_append]
 simp [sX]
theorem aIg {q:QueryD} (h:bP q=true) (m:Int) {v:Nat} (hv:q.variableCount.toNat≤v): ∀{i},i≤q.atoms.length→sX q m i v=false
 | 0,_=>rfl
 | i+1,hi=>by
   obtain ⟨h1,_,h2⟩:=dZ h
   obtain ⟨a,ha⟩:=cJ (l:=q.atoms) (k:=i) (by omega)
   have ht:=(sW (h2 a (List.mem_of_getElem? ha))).2.2
   rw [xY,aIg h m hv (by omega),aP ha]
   have: ¬(v:Int)∈a.vars:=fun q=>by have:=ht _ q;omega
   simp [this]
theorem aP7 {q:QueryD} (h:bP q=true) (m:Int) {v:Nat} (hv:q.variableCount.toNat≤v):qI q m v=false:=aIg h m hv (Nat.le_refl _)
def aCl (q:QueryD) (m:Int) (a:dF) (i k v:Nat):Bool:=sX q m i v || (dL m i&&decide ((v:Int)∈a.vars.take k))
theorem aLm (q:QueryD) (m:Int) (a:dF) (i:Nat):aCl q m a i 0=sX q m i:=by funext v;simp [aCl]
theorem aLn {q:QueryD} {m:Int} {a:dF} {i k:Nat} {x:Int} (hb:dL m i=true) (h:a.vars[k]? =some x) (hx:0≤x):(fun v=>aCl q m a i k v || decide (v=x.toNat))=aCl q m a i (k+1):=by
 funext v
 rw [aCl,aCl,cI h,rM,hb,Bool.true_and,Bool.true_and,Bool.or_assoc]
 congr 2
 exact decide_eq_decide.2 (by omega)
theorem xZ {q:QueryD} {m:Int} {a:dF} {i k:Nat} (h:q.atoms[i]? =some a) (hk:dL m i=false∨a.vars.length≤k):aCl q m a i k=sX q m (i+1):=by
 funext v
 rw [aCl,xY,aP h]
 rcases hk with hk | hk
 ·rw [hk];rfl
 ·rw [List.take_of_length_le hk]
theorem zT {q:QueryD} (h:bP q=true) (m:Int):dE (dL (m4 (qI q m))) 4=iI q m:=by
 obtain ⟨h1,_,_⟩:=dZ h
 rw [iI,aE2 (q:=qI q m) fun v hv=>aHN hv]
 exact aAt (by omega) fun v hv _=>aP7 h m hv
theorem aG2 (q:QueryD) (m:Int) (h:bP q=true):(iI q m).length≤4:=by
 have:=lJ (qI q m) q.variableCount.toNat
 obtain ⟨h1,_,_⟩:=dZ h
 unfold iI
 omega
theorem aP8 {q:QueryD} {m:Int} {i v:Nat} {a:dF} (h:q.atoms[i]? =some a) (hb:dL m i=true) (hv:decide ((v:Int)∈a.vars)=true):qI q m v=true:=
 List.any_eq_true.2 ⟨i,List.mem_range.2 (List.getElem?_eq_some_iff.1 h).1,by rw [hb,aP h,hv];rfl⟩
theorem iP {n:Nat} (h:1≤n∧n≤4):1≤(1:Int)*2^n - 1∧(1:Int)*2^n - 1≤15:=by
 have:n=1∨n=2∨n=3∨n=4:=by omega
 rcases this with rfl | rfl | rfl | rfl<;>decide
theorem iQ {q:QueryD} {m:Int} (h:gC q m=true):bP q=true∧0≤m∧m≤15∧m≤(1:Int)*2^q.atoms.length - 1:=by
 simp only [gC,Bool.and_eq_true] at h
 have h1:=dP h.2
 have h2:=iP (dZ h.1).2.1
 exact ⟨h.1,by omega,by omega,by omega⟩
theorem aE7 {m:Int} {n i:Nat} (h:0≤m∧m≤(1:Int)*2^n - 1) (hi:n≤i) (h4:i<4):dL m i=false:=by
 have hn:n=0∨n=1∨n=2∨n=3:=by omega
 have hi4:i=0∨i=1∨i=2∨i=3:=by omega
 have key:m/2^i=0:=by
  rcases hn with rfl | rfl | rfl | rfl<;>rcases hi4 with rfl | rfl | rfl | rfl<;>first | omega | (simp at h ⊢;omega)
 rw [dL,key];decide
theorem aOC {m:Int} {n:Nat} (h:0≤m∧m≤(1:Int)*2^n - 1) (hn:n≤4):cW m=dE (dL m) n:=by
 have h15:m≤15:=by
  have:n=0∨n=1∨n=2∨n=3∨n=4:=by omega
  rcases this with rfl | rfl | rfl | rfl | rfl<;>simp at h<;>omega
 rw [rO (jV h.1 h15)]
 exact aAt hn fun v h1 h2=>aE7 h h1 h2
theorem jO (a:dF) (l:List Int):(bO a l).length≤a.vars.length:=lJ _ _
end Go.Proofs.YtokkjaflmcjlhaaGreat
namespace Go.Proofs
open Go.Shelf
namespace YtokkjaflmcjlhaaGreat
def Tryz.revInts_ren : Go.Shelf.Ren := ⟨fun | 35 => 249 | n => n, fun | 22 => 32 | 23 => 3 | 3 => 3 | 4 => 4 | 0 => 0 | n => n, fun | n => n⟩
theorem Tryz.revInts : Go.Proofs.SlLaysE.n35 Tryz.prog Tryz.revInts_ren := {
  mixed := by kernel_rfl
  f35 := ⟨Tryz.f249.name, by decide, Tryz.func249.trans (congrArg some (by kernel_rfl))⟩
  t0 := Tryz.underlying0
  a0 := Tryz.isAgg0
  z0 := Tryz.sizeOf0
  v0 := Tryz.zeroValue0
  t3 := Tryz.underlying3
  a3 := Tryz.isAgg3
  z3 := Tryz.sizeOf3
  v3 := Tryz.zeroValue3
  t4 := Tryz.underlying4
  a4 := Tryz.isAgg4
  z4 := Tryz.sizeOf4
  v4 := Tryz.zeroValue4
  t22 := Tryz.underlying32
  a22 := Tryz.isAgg32
  z22 := Tryz.sizeOf32
  v22 := Tryz.zeroValue32
  a23 := Tryz.isAgg3
  z23 := Tryz.sizeOf3 }
end YtokkjaflmcjlhaaGreat
end Go.Proofs
namespace Go.Proofs.YtokkjaflmcjlhaaGreat
open Go.ChangeShapes Go.WideShapes Go.ChangeAt Go.RowKit
set_option linter.unusedVariables false
theorem aOD (l:List Int) (hl:l.length<4611686018427387904):yX Tryz.prog 249 [.own 0] [(0,.arr 3 1 true (l.map intD))] (.tup []) [(0,.arr 3 1 true (l.reverse.map intD))]:=
 aGX l l.reverse (by kernel_rfl) List.length_reverse
  (fun h w=>AnyE.slices_Reverse_empty Tryz.revInts none 0 w)
  (fun blk cap w hH hblk hn=>(AnyE.slices_Reverse Tryz.revInts (Value.int .i64) (fun _=>rfl) blk 0 cap l w hH (by omega)).mono fun e w' ⟨he,q,hw⟩=>⟨he,q,#[],by rw [hw,Go.Sort.grow_empty]⟩)
end Go.Proofs.YtokkjaflmcjlhaaGreat
namespace Go.Proofs.YtokkjaflmcjlhaaGreat
open Go.ChangeShapes Go.WideShapes Go.ChangeAt Go.RowKit
set_option linter.unusedVariables false
set_option linter.unusedSimpArgs false
set_option maxRecDepth 100000
set_option maxHeartbeats 4000000
abbrev yJ (l:List Int):Prop:=l.Pairwise fun a b=>b≤a
def gZ (l:List Int):List Int:=(iE l).reverse
theorem sY (l:List Int):(gZ l).Perm l:=(List.reverse_perm _).trans (aEZ l)
theorem aBl (l:List Int):(gZ l).length=l.length:=(sY l).length_eq
theorem aJm (l:List Int):yJ (gZ l):=List.pairwise_reverse.2 (aJk l)
theorem aIh {l m:List Int} (hp:l.Perm m) (h1:yJ l) (h2:yJ m):l=m:=
 List.Perm.eq_of_pairwise (le:=fun a b:Int=>b≤a) (fun a b _ _ h1 h2=>by omega) h1 h2 hp
theorem aIi {l out:List Int} {k j:Nat} {x:Int} (hp:out.Perm (l.take k)) (hx:l[k]? =some x):((([]:List Int)++out.take j)++[x]++out.drop j).Perm (l.take (k+1)):=by
 rw [cI hx,List.nil_append]
 have h1:(out.take j++[x]++out.drop j).Perm (out.take j++out.drop j++[x]):=by
  rw [List.append_assoc,List.append_assoc]
  exact List.Perm.append_left _ List.perm_append_comm
 rw [List.take_append_drop] at h1
 exact h1.trans (hp.append_right _)
theorem aIj {out:List Int} {j:Nat} {x:Int} (hd:yJ out) (hj:j≤out.length) (hs: ∀i,j≤i→i<out.length→out.getD i 0<x) (hx:j=0∨ ¬out.getD (j - 1) 0<x):yJ ((([]:List Int)++out.take j)++[x]++out.drop j):=by
 rw [List.nil_append,List.append_assoc]
 have hd' :=hd
 rw [←List.take_append_drop j out] at hd'
 obtain ⟨d1,d2,d3⟩:=List.pairwise_append.1 hd'
 have hlo: ∀a∈out.drop j,a≤x:=fun a ha=>by
  obtain ⟨i,hi,rfl⟩:=List.mem_iff_getElem.1 ha
  have hi' :i<out.length - j:=by simpa using hi
  have:=hs (j+i) (by omega) (by omega)
  rw [List.getElem_drop]
  rw [List.getD_eq_getElem?_getD,List.getElem?_eq_getElem (by omega)] at this
  simp only [Option.getD_some] at this
  omega
 have hhi: ∀a∈out.take j,x≤a:=fun a ha=>by
  obtain ⟨i,hi,rfl⟩:=List.mem_iff_getElem.1 ha
  have hi' :i<j:=by
   have:=hi
   rw [List.length_take] at this
   omega
  rcases hx with h | h
  ·omega
  ·have hp:=List.pairwise_iff_getElem.1 hd
   rw [List.getD_eq_getElem?_getD,List.getElem?_eq_getElem (by omega)] at h
   simp only [Option.getD_some] at h
   rw [List.getElem_take]
   by_cases e:i=j - 1
   ·subst e;omega
   ·have:=hp i (j - 1) (by omega) (by omega) (by omega)
    omega
 refine List.pairwise_append.2 ⟨d1,List.pairwise_append.2 ⟨List.pairwise_singleton _ _,d2,fun a ha b hb=>?_⟩,fun a ha b hb=>?_⟩
 ·rw [List.mem_singleton] at ha
  subst ha;exact hlo b hb
 ·rcases List.mem_append.1 hb with q | q
  ·rw [List.mem_singleton] at q
   subst q;exact hhi a ha
  ·exact d3 a ha b q
theorem aLo {out:List Int} {j:Nat} {x e:Int} (h:out[j - 1]? =some e) (hc:e<x) (hs: ∀i,j≤i→i<out.length→out.getD i 0<x): ∀i,j - 1≤i→i<out.length→out.getD i 0<x:=fun i h1 h2=>by
 by_cases q:i=j - 1
 ·rw [q,aP h];exact hc
 ·exact hs i (by omega) h2
abbrev zU (t:aS) (cols:List Int):AV × List (Nat × Rs):=(.own 0,[(0,.arr 3 1 true ((gZ (dG t cols).2).map intD))])
abbrev aE8 (t:aS) (cols:List Int):Prop:=cO Tryz.prog 182 [.agg [.str t.name,.int .i64 t.arity,.sl 32 1 (t.rows.map aC)],.one (.sl 3 1 (cols.map intD))] (zU t cols).1 (zU t cols).2
theorem aOE (t:aS) (cols:List Int) (hl:cols.length≤1048576):aE8 t cols:=by
 refine aT bF aQ Tryz.func182 (by kernel_rfl) (bH (sN t cols)<| bH (aGP ((dG t cols).2))<| .callx [.own 0] [(0,.arr 3 1 true (((dG t cols).2).map intD))] [(0,1500)] (.tup []) [(0,.arr 3 1 true ((iE ((dG t cols).2)).map intD))]<| .callx [.own 0] [(0,.arr 3 1 true ((iE ((dG t cols).2)).map intD))] [(0,1500)] (.tup []) [(0,.arr 3 1 true (((iE ((dG t cols).2)).reverse).map intD))]<| .fin [(0,1500)]) (p:=(t.rows.map aC).length≤9223372036854775807→(cols.map intD).length≤9223372036854775807→zK t cols∧aIN ((dG t cols).2)∧yX Tryz.prog 248 [.own 0] [(0,.arr 3 1 true (((dG t cols).2).map intD))] (.tup []) [(0,.arr 3 1 true ((iE ((dG t cols).2)).map intD))]∧((dG t cols).2).map intD=((dG t cols).2).map intD∧yX Tryz.prog 249 [.own 0] [(0,.arr 3 1 true ((iE ((dG t cols).2)).map intD))] (.tup []) [(0,.arr 3 1 true (((iE ((dG t cols).2)).reverse).map intD))]∧(iE ((dG t cols).2)).map intD=(iE ((dG t cols).2)).map intD∧((iE ((dG t cols).2)).reverse).map intD=(gZ (dG t cols).2).map intD∧True) (by kernel_rfl) ?_
 intro n0 n1
 simp only [List.length_map] at n0 n1
 have hg:=xW t cols
 refine ⟨aIX t cols (by omega),cpI _ (by omega),aGY ((dG t cols).2) (by omega),rfl,aOD (iE ((dG t cols).2)) (by first | omega | (rw [rL];omega)),rfl,?_,trivial⟩
 ·rfl
abbrev wE (name:ByteArray) (arity:Int) (rows:List (List Int)):AV × List (Nat × Rs):=(.tup [.agg [.p none (.str (((kY name arity rows).1).name)),vI (((kY name arity rows).1).arity),.own 0],vB ((kY name arity rows).2)],[(0,.arr 32 1 true ((((kY name arity rows).1).rows).map aC))])
abbrev aCQ (name:ByteArray) (arity:Int) (rows:List (List Int)):Prop:=cO Tryz.prog 276 [.one (.str name),.one (.int .i64 arity),.one (.sl 32 1 (rows.map aC))] (wE name arity rows).1 (wE name arity rows).2
theorem aLp (name:ByteArray) (arity:Int) (rows:List (List Int)) (hc:cK rows≤1048576):aCQ name arity rows:=by
 refine aT bF aQ Tryz.func276 (by kernel_rfl) (.loop (Nat × (List (List Int))) (Q2 Nat (List (List Int))) [9,13,14,15,16,17,18,19,20,21,22,23,24,25,26,27,28,29,30,31,32] [800,3100,9000] (fun yy0=>[(9,vI (yy0.1:Int))]) (fun yy0=>[(800,some (.box 162 [.p none (.str name),vI arity,.own 9000])),(9000,some (.arr 32 1 true (yy0.2.map aC)))]) (fun yy0=>yy0.1≤rows.length∧yy0.2=cB (rows.take yy0.1)) (fun yy0=>rows.length - yy0.1) (fun yy0=> .len rows.length<| .br (.len yy0.2.length<| .lit<| .lit<| .br (.elem _ aC rows (fun e29=>bH (sO yy0.2 e29)<| .back [(800,800),(9000,3100)])) (.call (vB (aL (⟨name,arity,yy0.2⟩:aS))) []<| .br (.fin []) (.fin [(0,9000)]))) (.call (vB (aL (⟨name,arity,yy0.2⟩:aS))) []<| .br (.fin []) (.fin [(0,9000)])))) (p:=(rows.map aC).length≤9223372036854775807→(∃(k:Nat) (acc:List (List Int)),(0:Int)=(k:Int)∧name=name∧arity=arity∧[]=acc.map aC∧k≤rows.length∧acc=cB (rows.take k))∧ ∀(k:Nat) (acc:List (List Int)),(k≤rows.length∧acc=cB (rows.take k))→Lm aC rows∧(((decide ((k:Int)<((rows.length:Nat):Int)))=true→Lm aC acc∧(((decide (((acc.length:Nat):Int)≤(8:Int)))=true→0≤(k:Int)∧Em aC rows k fun e29=>zL acc e29∧cL ((k:Int)+(1:Int))∧ ∃(k' :Nat) (acc' :List (List Int)),((k:Int)+(1:Int))=(k' :Int)∧name=name∧arity=arity∧(iZ e29 acc).map aC=acc'.map aC∧(k' ≤rows.length∧acc' =cB (rows.take k'))∧rows.length - k' <rows.length - k)∧((decide (((acc.length:Nat):Int)≤(8:Int)))=false→mE (⟨name,arity,acc⟩:aS)∧(((!(aL (⟨name,arity,acc⟩:aS)))=true→ByteArray.empty=(((kY name arity rows).1).name)∧(0:Int)=(((kY name arity rows).1).arity)∧(false)=((kY name arity rows).2)∧[]=(((kY name arity rows).1).rows).map aC∧True)∧((!(aL (⟨name,arity,acc⟩:aS)))=false→name=(((kY name arity rows).1).name)∧arity=(((kY name arity rows).1).arity)∧(true)=((kY name arity rows).2)∧acc.map aC=(((kY name arity rows).1).rows).map aC∧True)))))∧((decide ((k:Int)<((rows.length:Nat):Int)))=false→mE (⟨name,arity,acc⟩:aS)∧(((!(aL (⟨name,arity,acc⟩:aS)))=true→ByteArray.empty=(((kY name arity rows).1).name)∧(0:Int)=(((kY name arity rows).1).arity)∧(false)=((kY name arity rows).2)∧[]=(((kY name arity rows).1).rows).map aC∧True)∧((!(aL (⟨name,arity,acc⟩:aS)))=false→name=(((kY name arity rows).1).name)∧arity=(((kY name arity rows).1).arity)∧(true)=((kY name arity rows).2)∧acc.map aC=(((kY name arity rows).1).rows).map aC∧True))))) (by kernel_rfl) ?_
 intro n0
 simp only [List.length_map] at n0
 have hlen:=fA rows
 refine ⟨⟨0,([]:List (List Int)),rfl,rfl,rfl,rfl,Nat.zero_le _,rfl⟩,fun k acc ⟨hk,ha⟩=>?_⟩
 refine ⟨List.length_map _,fun g17=>?_,fun g17=>?_⟩
 ·replace g17:=yq g17
  refine ⟨List.length_map _,fun c0=>?_,fun c0=>?_⟩
  ·replace c0:=yq c0
   have hp:=aI6 rows k
   rw [←ha] at hp
   refine ⟨by omega,rfl,by omega,fun e29 h29=>?_⟩
   have hp3:=xS h29
   refine ⟨aIZ acc e29 (by omega) (by omega) (by omega),⟨by omega,by omega⟩,?_⟩
   exact ⟨k+1,_,rfl,rfl,rfl,rfl,⟨by omega,by rw [ha,cI h29,aAn]⟩,by omega⟩
  ·replace c0:=nq c0
   have hend:=aI7 (name:=name) (arity:=arity) ha (by omega)
   refine ⟨vP (⟨name,arity,acc⟩:aS),fun c1=>?_,fun c1=>?_⟩
   ·replace c1:=nt c1
    have hbad:aL ⟨name,arity,cB rows⟩=false:=by rw [←hend.1];simpa using c1
    refine ⟨?_,?_,?_,?_,trivial⟩
    ·first | (rw [gX hbad]<;>rfl) | (rw [cU hok]<;>rfl) | (rw [cU hok];exact congrArg (List.map aC) hacc)
    ·first | (rw [gX hbad]<;>rfl) | (rw [cU hok]<;>rfl) | (rw [cU hok];exact congrArg (List.map aC) hacc)
    ·first | (rw [gX hbad]<;>rfl) | (rw [cU hok]<;>rfl) | (rw [cU hok];exact congrArg (List.map aC) hacc)
    ·first | (rw [gX hbad]<;>rfl) | (rw [cU hok]<;>rfl) | (rw [cU hok];exact congrArg (List.map aC) hacc)
   ·replace c1:=nf c1
    have hok0:aL ⟨name,arity,acc⟩=true:=by simpa using c1
    have hok:aL ⟨name,arity,cB rows⟩=true:=by rw [←hend.1];exact hok0
    have hacc:=hend.2 hok0
    refine ⟨?_,?_,?_,?_,trivial⟩
    ·first | (rw [gX hbad]<;>rfl) | (rw [cU hok]<;>rfl) | (rw [cU hok];exact congrArg (List.map aC) hacc)
    ·first | (rw [gX hbad]<;>rfl) | (rw [cU hok]<;>rfl) | (rw [cU hok];exact congrArg (List.map aC) hacc)
    ·first | (rw [gX hbad]<;>rfl) | (rw [cU hok]<;>rfl) | (rw [cU hok];exact congrArg (List.map aC) hacc)
    ·first | (rw [gX hbad]<;>rfl) | (rw [cU hok]<;>rfl) | (rw [cU hok];exact congrArg (List.map aC) hacc)
 ·replace g17:=nq g17
  have hend:=aI7 (name:=name) (arity:=arity) ha (by omega)
  refine ⟨vP (⟨name,arity,acc⟩:aS),fun c1=>?_,fun c1=>?_⟩
  ·replace c1:=nt c1
   have hbad:aL ⟨name,arity,cB rows⟩=false:=by rw [←hend.1];simpa using c1
   refine ⟨?_,?_,?_,?_,trivial⟩
   ·first | (rw [gX hbad]<;>rfl) | (rw [cU hok]<;>rfl) | (rw [cU hok];exact congrArg (List.map aC) hacc)
   ·first | (rw [gX hbad]<;>rfl) | (rw [cU hok]<;>rfl) | (rw [cU hok];exact congrArg (List.map aC) hacc)
   ·first | (rw [gX hbad]<;>rfl) | (rw [cU hok]<;>rfl) | (rw [cU hok];exact congrArg (List.map aC) hacc)
   ·first | (rw [gX hbad]<;>rfl) | (rw [cU hok]<;>rfl) | (rw [cU hok];exact congrArg (List.map aC) hacc)
  ·replace c1:=nf c1
   have hok0:aL ⟨name,arity,acc⟩=true:=by simpa using c1
   have hok:aL ⟨name,arity,cB rows⟩=true:=by rw [←hend.1];exact hok0
   have hacc:=hend.2 hok0
   refine ⟨?_,?_,?_,?_,trivial⟩
   ·first | (rw [gX hbad]<;>rfl) | (rw [cU hok]<;>rfl) | (rw [cU hok];exact congrArg (List.map aC) hacc)
   ·first | (rw [gX hbad]<;>rfl) | (rw [cU hok]<;>rfl) | (rw [cU hok];exact congrArg (List.map aC) hacc)
   ·first | (rw [gX hbad]<;>rfl) | (rw [cU hok]<;>rfl) | (rw [cU hok];exact congrArg (List.map aC) hacc)
   ·first | (rw [gX hbad]<;>rfl) | (rw [cU hok]<;>rfl) | (rw [cU hok];exact congrArg (List.map aC) hacc)
abbrev wF (x:aF):AV × List (Nat × Rs):=(.tup [.agg [.p none (.str (((kZ x).1).name)),vI (((kZ x).1).arity),.own 0],vB ((kZ x).2)],[(0,.arr 32 1 true ((((kZ x).1).rows).map aC))])
abbrev aCR (x:aF):Prop:=cO Tryz.prog 245 [.agg [.str x.name,.int .i64 x.arity,.int .i64 x.rowCount,.sl 218 3 (x.groups.map aA)]] (wF x).1 (wF x).2
theorem aLq (x:aF) (hc:aZ x≤1048576):aCR x:=by
 refine aT bF aQ Tryz.func245 (by kernel_rfl) (.len x.groups.length<| .br (.fin []) (.len x.groups.length<| .elem _ aA x.groups (fun e22=>bH (wE x.name x.arity e22.values)<| .fin [(0,2500)]))) (p:=(x.groups.map aA).length≤9223372036854775807→Lm aA x.groups∧(((decide (((x.groups.length:Nat):Int)=(0:Int)))=true→ByteArray.empty=(((kZ x).1).name)∧(0:Int)=(((kZ x).1).arity)∧(false)=((kZ x).2)∧[]=(((kZ x).1).rows).map aC∧True)∧((decide (((x.groups.length:Nat):Int)=(0:Int)))=false→Lm aA x.groups∧cL (((x.groups.length:Nat):Int) - (1:Int))∧0≤(((x.groups.length:Nat):Int) - (1:Int))∧Em aA x.groups ((((x.groups.length:Nat):Int) - (1:Int)).toNat) fun e22=>aCQ x.name x.arity e22.values∧(((kY x.name x.arity e22.values).1).name)=(((kZ x).1).name)∧(((kY x.name x.arity e22.values).1).arity)=(((kZ x).1).arity)∧((kY x.name x.arity e22.values).2)=((kZ x).2)∧(((kY x.name x.arity e22.values).1).rows).map aC=(((kZ x).1).rows).map aC∧True))) (by kernel_rfl) ?_
 intro n0
 simp only [List.length_map] at n0
 have q2:aZ x=x.name.size+dB x.groups:=rfl
 have q5:=fJ x.groups
 refine ⟨List.length_map _,fun c0=>?_,fun c0=>?_⟩
 ·replace c0:=yq c0
  have hT:kZ x=(fI,false):=by rw [kZ,if_pos (by omega)]
  refine ⟨?_,?_,?_,?_,trivial⟩
  ·(rw [hT]<;>rfl)
  ·(rw [hT]<;>rfl)
  ·(rw [hT]<;>rfl)
  ·(rw [hT]<;>rfl)
 ·replace c0:=nq c0
  have hT:kZ x=kY x.name x.arity (jD x):=by rw [kZ,if_neg (by omega)]
  refine ⟨List.length_map _,⟨by omega,by omega⟩,by omega,rfl,by omega,fun e22 h22=>?_⟩
  have i22:x.groups[x.groups.length - 1]? =some e22:=by rw [←h22];congr 1;omega
  have hL:jD x=e22.values:=aI2 i22
  rw [hL] at hT
  have q1:=fT i22
  have q3:bN e22=cG e22.columns+cK e22.values+cG e22.counts:=rfl
  have q6:cG e22.columns=e22.columns.length:=rfl
  have q7:cG e22.counts=e22.counts.length:=rfl
  have q8:=fA e22.values
  refine ⟨aLp _ _ _ (by omega),?_,?_,?_,?_,trivial⟩
  ·(rw [hT]<;>rfl)
  ·(rw [hT]<;>rfl)
  ·(rw [hT]<;>rfl)
  ·(rw [hT]<;>rfl)
abbrev zV (x:aF):Prop:=cO Tryz.prog 178 [.agg [.str x.name,.int .i64 x.arity,.int .i64 x.rowCount,.sl 218 3 (x.groups.map aA)]] (vB (bM x)) []
theorem aIk (x:aF) (hc:aZ x≤1048576):zV x:=by
 refine aT bF aQ Tryz.func178 (by kernel_rfl) (bH (wF x)<| .br (bH (xV ((kZ x).1))<| .call (vB (decide ((aX ((kZ x).1))=x))) []<| .fin []) (.fin [])) (p:=(x.groups.map aA).length≤9223372036854775807→aCR x∧((((kZ x).2)=true→aBf ((kZ x).1)∧pA (aX ((kZ x).1)) x∧(decide ((aX ((kZ x).1))=x))=(bM x)∧True)∧(((kZ x).2)=false→(false)=(bM x)∧True))) (by kernel_rfl) ?_
 intro n0
 simp only [List.length_map] at n0
 have hst:=aCN (kZ x).1
 have hsame:=aLd x
 refine ⟨aLq x (by omega),fun g11=>?_,fun g11=>?_⟩
 ·refine ⟨aKc ((kZ x).1),aAc _ _ (by omega),?_,trivial⟩
  ·first | (rw [←hsame,g11];simp;done) | (rw [←hsame];simp [*];done)
 ·refine ⟨?_,trivial⟩
  ·first | (rw [←hsame,g11];simp;done) | (rw [←hsame];simp [*];done)
end Go.Proofs.YtokkjaflmcjlhaaGreat
