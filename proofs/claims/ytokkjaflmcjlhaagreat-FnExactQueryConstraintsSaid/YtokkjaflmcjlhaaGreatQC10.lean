/-
  Contracts and plain laws, joined: part 11.
-/
import Derived.Test.YtokkjaflmcjlhaaGreatQC9
import Derived.Shelf.SlicesE.Compact
import Derived.Ground.SlgnProg
import Derived.Test.YtokkjaflmcjlhaaGreatQC7
import Derived.Test.YtokkjaflmcjlhaaGreatQC4
import Derived.Shelf.SlicesE.Reverse
import Derived.Test.YtokkjaflmcjlhaaGreatQC8
namespace Go.Proofs
open Go.Shelf
namespace YtokkjaflmcjlhaaGreat
def Tryz.compInts_ren : Go.Shelf.Ren := ⟨fun | 43 => 273 | n => n, fun | 22 => 32 | 23 => 3 | 3 => 3 | 4 => 4 | 0 => 0 | n => n, fun | n => n⟩
theorem Tryz.compInts : Go.Proofs.SlLaysE.n43 Tryz.prog Tryz.compInts_ren := {
  mixed := by kernel_rfl
  f43 := ⟨Tryz.f273.name, by decide, Tryz.func273.trans (congrArg some (by kernel_rfl))⟩
  t0 := Tryz.underlying0
  a0 := Tryz.isAgg0
  z0 := Tryz.sizeOf0
  v0 := Tryz.zeroValue0
  t3 := Tryz.underlying3
  a3 := Tryz.isAgg3
  z3 := Tryz.sizeOf3
  v3 := Tryz.zeroValue3
  t4 := Tryz.underlying4
  a4 := Tryz.isAgg4
  z4 := Tryz.sizeOf4
  v4 := Tryz.zeroValue4
  t22 := Tryz.underlying32
  a22 := Tryz.isAgg32
  z22 := Tryz.sizeOf32
  v22 := Tryz.zeroValue32
  a23 := Tryz.isAgg3
  z23 := Tryz.sizeOf3 }
end YtokkjaflmcjlhaaGreat
end Go.Proofs
namespace Go.Proofs.YtokkjaflmcjlhaaGreat
open Go.ChangeShapes Go.WideShapes Go.ChangeAt Go.RowKit Go.Lib
set_option linter.unusedVariables false
set_option linter.unusedSimpArgs false
theorem aKR {P:Program} {f:FuncId} {e:Nat} (l m:List Int) (hc:jL P f=true) (hm:m.length≤l.length) (hm0:l= []→m= [])
 (hn0:l= []→ ∀w,Calls P f #[.slice none 0 0] w (fun ex w' =>ex= .returned (.slice none 0 0)∧w' =w))
 (hs: ∀(blk cap:Nat) (w:World),Go.Sort.Holds (Value.int .i64) w blk 0 l.toArray→blk<w.heap.size→l.length≤cap→Calls P f #[.slice (some ⟨blk,0,none⟩) l.length cap] w (fun ex w' =>ex= .returned (.slice (some ⟨blk,0,none⟩) m.length cap)∧ ∃n os z,(m++z).length=l.length∧w' =Go.Sort.grow (Go.Sort.putRow (Value.int .i64) (Go.Sort.ahead w n) blk 0 (m++z).toArray) os)):
 lX P f [.own 0] [(0,.arr e 1 true (l.map intD))] (.own 1) [(1,.arr e 1 true (m.map intD))]:=by
 refine ⟨hc,by simp,fun A φ w vs hI hM=>?_⟩
 obtain ⟨pl,hp,css,Fs,q1,q2,q3,q4⟩:=hI.dom 0 _ rfl
 unfold aS at hM
 obtain ⟨v,us,e1,m1,hM⟩:=hM
 unfold aS at hM
 unfold aH at m1
 have hv:=m1 pl hp
 have ev:vs= #[pl.val]:=by apply Array.ext';rw [e1,hM,hv]
 rw [ev]
 obtain ⟨c1,c2⟩:=aCN q4
 rw [c1,List.length_map] at q1
 have hge:=hI.ge 0 pl hp
 have hsub:pl.sub= []:=by rw [q3,c2]
 have hfoot: ∀b∈pl.F,aH3 φ b:=fun b hb=>⟨0,pl,trivial,hp,hb⟩
 have h1:φ 1=none:=hI.non 1 rfl
 have hend: ∀(v' :Value) (w' :World),kW pl.F w w' →(∀b∈v'.ownBlock,b∈pl.val.ownBlock)→w'.ownsRow 0 e 1 v' m.length (m.map (Value.int .i64))→
  ∃v K φ',Ending.returned v' = .returned v∧aLi A φ w [(1,.arr e 1 true (m.map intD))] K φ' w' ∧aH K φ' w' (.own 1) v:=by
  intro v' w' hon hvb howns
  let pl' :Pl:=⟨v',v'.ownBlock.toList,[]⟩
  have hmem: ∀g,g∈pl'.F→g∈pl.F:=fun g hg=>by
   unfold Pl.F
   simp only [pl',Pl.F,List.append_nil,Option.mem_toList] at hg
   rw [q2]
   exact List.mem_append_left _ (by rw [Option.mem_toList];exact hvb g hg)
  have hnd' :pl'.F.Nodup:=by simp only [pl',Pl.F,List.append_nil];cases v'.ownBlock<;>simp
  refine ⟨_,A,fun h=>if h=1 then some pl' else none,rfl,⟨⟨hon.os,hon.tape,hon.output,hon.size,fun b hb hn=>hon.block b hb (fun hm=>hn (hfoot b hm))⟩,fun _ h=>h,fun b hb=>⟨Nat.lt_of_lt_of_le (hI.lt b hb) hon.size,.inl hb⟩,fun b hb h pl1 e' hm' =>?_,fun h r hr=>?_,fun h hr=>?_,fun h h' pl1 pl2 hne ea eb=>?_,fun h pl1 e' =>?_,fun h pl1 e' g hg=>?_,fun h pl1 pl0 e' e0=>?_⟩,?_⟩
  ·split at e'
   ·injection e' with e';subst e'
    exact hI.out b hb 0 pl hp (hmem b hm')
   ·cases e'
  ·simp only [aZ] at hr
   split at hr
   ·rename_i eh
    subst eh
    injection hr with hr
    subst hr
    refine ⟨pl',by simp,m.map fun n=>[Value.int .i64 n],m.map fun _=>[],?_,rfl,?_,uA _ m⟩
    ·rw [aCO,List.length_map];exact howns
    ·simp [pl']
   ·cases hr
  ·simp only [aZ] at hr
   split at hr
   ·cases hr
   ·rename_i eh;exact if_neg eh
  ·split at ea
   ·split at eb
    ·rename_i x y;exact absurd (x.trans y.symm) hne
    ·cases eb
   ·cases ea
  ·split at e'
   ·injection e' with e';subst e';exact hnd'
   ·cases e'
  ·split at e'
   ·injection e' with e';subst e'
    have:=hmem g hg
    exact ⟨.inr (hfoot g this),Nat.lt_of_lt_of_le (hge g this) hon.size⟩
   ·cases e'
  ·split at e'
   ·rename_i eh
    subst eh
    rw [h1] at e0;cases e0
   ·cases e'
  ·unfold aH
   intro pl1 e'
   simp at e'
   subst e'
   rfl
 rcases q1.2 with ⟨hvn,hz⟩ | ⟨g,cap,cur,hvv,hg0,hb,hn,hcap,hsz,htk⟩
 ·have hz' :l= []:=List.eq_nil_of_length_eq_zero hz
  rw [hvn]
  refine (hn0 hz' w).mono ?_
  rintro en w' ⟨rfl,rfl⟩
  refine hend (.slice none 0 0) w' (kW.refl _ _) (fun b hb=>by cases hb) ?_
  rw [hm0 hz']
  exact ⟨by simp,.inl ⟨rfl,rfl⟩⟩
 ·have hlt:g<w.heap.size:=(Array.getElem?_eq_some_iff.1 hb).1
  have hH:Go.Sort.Holds (Value.int .i64) w g 0 l.toArray:=holds_of_blockI hb (by rw [Nat.mul_one] at htk;exact htk)
  rw [hvv]
  refine (hs g cap w hH hlt hn).mono ?_
  rintro en w' ⟨rfl,n,os,z,hz,rfl⟩
  have hgb:=grownBy_sortedI (w:=w) (g:=g) (n:=n) (os:=os) (m++z).toArray
  have hown:=ownsRow_sortedI (n:=n) (os:=os) hz hg0 hb hn hcap hsz
  refine hend _ _ ⟨hgb.os,hgb.tape,hgb.output,hgb.size,fun k hk hne=>hgb.block k hk (fun e=>hne (by injection e with e;subst e;unfold Pl.F;rw [q2,hvv];simp [Value.ownBlock]))⟩ (fun b hb' =>by rw [hvv];exact hb') ?_
  rcases hown.2 with ⟨hvn,_⟩ | ⟨g',cap',cur',hv',hg',hb',hn',hcap',hsz',htk'⟩
  ·cases hvn
  ·simp only [Value.slice.injEq,Option.some.injEq,Addr.mk.injEq,and_true] at hv'
   obtain ⟨rfl,_,rfl⟩:=hv'
   refine ⟨by simp,.inr ⟨g,cap,cur',rfl,hg',hb',by omega,hcap',hsz',?_⟩⟩
   rw [Nat.mul_one] at*
   have h3:=congrArg (List.take m.length) htk'
   rw [List.take_take,Nat.min_eq_left hm,List.map_append,List.take_append_of_le_length (by simp)] at h3
   rw [h3,List.take_of_length_le (by simp)]
def rT (l:List Int):List Int:=compactUpTo l.toArray l.toArray.size
theorem aJN (l:List Int):(rT l).length≤l.length:=by
 unfold rT compactUpTo
 rw [List.length_map]
 have:=(List.filter_sublist (l:=List.range l.toArray.size) (p:=keeps l.toArray)).length_le
 simpa using this
theorem aHD {l:List Int}:rT l= []↔l= []:=by
 constructor
 ·intro h
  by_cases e:l= []
  ·exact e
  ·exfalso
   have hp:0<l.length:=List.length_pos_iff.2 e
   unfold rT compactUpTo at h
   rw [List.map_eq_nil_iff,List.filter_eq_nil_iff] at h
   exact h 0 (List.mem_range.2 (by simpa using hp)) (keeps_lt_one _ 0 (by omega))
 ·rintro rfl;rfl
theorem tyI:fS Tryz.prog 3=some (false,1,8,.int .i64 0):=by kernel_rfl
theorem aR7 (w:World):(zeroValue 3).run Tryz.prog w= .ok (.int .i64 0) w:=(gC tyI w).2.2.1
theorem aMF (l:List Int) (hl:l.length<4611686018427387904):lX Tryz.prog 273 [.own 0] [(0,.arr 3 1 true (l.map intD))] (.own 1) [(1,.arr 3 1 true ((rT l).map intD))]:=
 aKR l (rT l) (by kernel_rfl) (aJN l) (fun h=>aHD.2 h)
  (fun h w=>by
   go_enter Tryz.func273,Tryz.ntmps273
   go_wp2
   go_ret
   exact ⟨rfl,rfl⟩)
  (fun blk cap w hH hblk hn=>(AnyE.slices_Compact Tryz.compInts (Value.int .i64) (fun _=>rfl) (EqlAt.intD _ _ .i64) (NeqAt.intD _ _ .i64) 0 (fun w=>aR7 w) blk 0 cap l.toArray w hH (by rw [List.size_toArray];omega) (by rw [List.size_toArray];exact hn)).mono fun e w' ⟨he,q,hw⟩=>
   ⟨by have e1:l.toArray.size=l.length:=by simp
       rw [e1] at he;unfold rT;rw [e1];exact he,q,#[],List.replicate (l.length - (rT l).length) 0,by have:=aJN l;simp;omega,by rw [hw,Go.Sort.grow_empty];simp [rT]⟩)
end Go.Proofs.YtokkjaflmcjlhaaGreat
namespace Go.Proofs.YtokkjaflmcjlhaaGreat
open Go.ChangeShapes Go.WideShapes Go.ChangeAt Go.RowKit
set_option linter.unusedVariables false
set_option linter.unusedSimpArgs false
set_option maxRecDepth 100000
set_option maxHeartbeats 4000000
def dX (d:aV) (x:aL):Bool:=(aI d x.name).2&&((aI d x.into).2&&(dP x.column 0 ((aI d x.name).1.arity - 1)&&dP x.intoColumn 0 ((aI d x.into).1.arity - 1)))
def gQ (rows:List (List Int)) (c:Int):List Int:=rows.map fun r=>r.getD c.toNat 0
def aCf (d:aV) (x:aL):List Int:=(gQ (aI d x.name).1.rows x.column).filter fun v=> !decide (v∈gQ (aI d x.into).1.rows x.intoColumn)
def uT (d:aV) (x:aL):List Int:=if dX d x=true then rT (iW (aCf d x)) else []
def aBV (d:aV) (x:aL) (v:Nat):Bool:=decide ((v:Int)∈gQ (aI d x.name).1.rows x.column)&& !decide ((v:Int)∈gQ (aI d x.into).1.rows x.intoColumn)
def mQ (d:aV) (x:aL) (n:Nat):List Int:=((List.range n).filter (aBV d x)).map fun v:Nat=>(v:Int)
def uU (d:aV) (x:aL):List Int:=if dX d x=true then mQ d x 10 else []
def gZ (d:aV) (x:aL):Bool:=dX d x&&decide (aCf d x= [])
theorem aMG {d:aV} {x:aL} {v:Nat} (h:aBV d x v=true):mQ d x (v+1)=mQ d x v++[(v:Int)]:=by
 rw [mQ,List.range_succ,List.filter_append,List.map_append]
 simp [mQ,h]
theorem aJO {d:aV} {x:aL} {v:Nat} (h:aBV d x v=false):mQ d x (v+1)=mQ d x v:=by
 rw [mQ,List.range_succ,List.filter_append,List.map_append]
 simp [mQ,h]
theorem aMH (d:aV) (x:aL) (v:Nat):(mQ d x v).length≤v:=by
 rw [mQ,List.length_map]
 have:=List.length_filter_le (aBV d x) (List.range v)
 rwa [List.length_range] at this
theorem lM (rows:List (List Int)) (c:Int) {k:Nat} {r:List Int} (h:rows[k]? =some r):gQ (rows.take (k+1)) c=gQ (rows.take k) c++[r.getD c.toNat 0]:=by rw [cA h,gQ,List.map_append];rfl
theorem xB {l:List Int} {v y:Int}:decide (v∈l++[y])=(decide (v∈l) || decide (v=y)):=by simp [Bool.decide_or]
theorem aMI {t:aR} {c:Int} {v:Int} (h:aT t=true) (hc:0≤c∧c≤t.arity - 1) (hv:v∈gQ t.rows c):0≤v∧v≤9:=by
 obtain ⟨r,hr,rfl⟩:=List.mem_map.1 hv
 have hl:=nS h hr
 have hk:=List.all_eq_true.1 (nR h).1 r hr
 simp only [gH,Bool.and_eq_true,decide_eq_true_eq] at hk
 have hlt:c.toNat<r.length:=by omega
 have hm:r.getD c.toNat 0∈r:=by rw [List.getD_eq_getElem?_getD,List.getElem?_eq_getElem hlt];exact List.getElem_mem hlt
 exact eL (List.all_eq_true.1 hk.1 _ hm)
theorem xC {d:aV} {x:aL} (h:dX d x=true):aT (aI d x.name).1=true∧aT (aI d x.into).1=true∧(0≤x.column∧x.column≤(aI d x.name).1.arity - 1)∧(0≤x.intoColumn∧x.intoColumn≤(aI d x.into).1.arity - 1):=by
 simp only [dX,Bool.and_eq_true] at h
 obtain ⟨h1,h2,h3,h4⟩:=h
 exact ⟨(mI h1).1,(mI h2).1,eL h3,eL h4⟩
theorem aHE {d:aV} {x:aL} (h:dX d x=true):decide (uT d x= [])=decide (aCf d x= []):=by
 rw [uT,if_pos h]
 apply Bool.eq_iff_iff.2
 rw [decide_eq_true_eq,decide_eq_true_eq,aHD]
 constructor
 ·intro q
  have:=sW (aCf d x)
  rw [q] at this
  exact List.eq_nil_of_length_eq_zero this.symm
 ·intro q
  have:=sW (aCf d x)
  rw [q] at this
  rw [q]
  exact List.eq_nil_of_length_eq_zero this
theorem aHF {d:aV} {x:aL} (h:dX d x=true):decide (uU d x= [])=decide (aCf d x= []):=by
 obtain ⟨h1,_,h3,_⟩:=xC h
 rw [uU,if_pos h]
 apply Bool.eq_iff_iff.2
 rw [decide_eq_true_eq,decide_eq_true_eq,mQ,List.map_eq_nil_iff,List.filter_eq_nil_iff,aCf,List.filter_eq_nil_iff]
 constructor
 ·intro q v hv hb
  have hr:=aMI h1 h3 hv
  refine q v.toNat (List.mem_range.2 (by omega)) ?_
  rw [aBV,Int.toNat_of_nonneg hr.1]
  simp only [Bool.and_eq_true,decide_eq_true_eq]
  exact ⟨hv,hb⟩
 ·intro q v _ hb
  rw [aBV,Bool.and_eq_true,decide_eq_true_eq] at hb
  exact q _ hb.1 hb.2
abbrev uB (d:aV) (x:aL):Prop:=dG Tryz.prog 233 [.agg [.sl 162 3 (d.tables.map aP)],.agg [.str x.name,.int .i64 x.column,.str x.into,.int .i64 x.intoColumn]] (vB (dX d x)) []
theorem aEv (d:aV) (x:aL) (hc:bF d≤1048576):uB d x:=by
 refine aY bK aU Tryz.func233 (by kernel_rfl) (.call (.tup [.agg [.p none (.str (((aI d x.name).1).name)),vI (((aI d x.name).1).arity),.p none (.sl 32 1 ((((aI d x.name).1).rows).map aE))],vB ((aI d x.name).2)]) []<| .call (.tup [.agg [.p none (.str (((aI d x.into).1).name)),vI (((aI d x.into).1).arity),.p none (.sl 32 1 ((((aI d x.into).1).rows).map aE))],vB ((aI d x.into).2)]) []<| .br (.lit<| .br (.raw<| .call (vB (dP x.column (0:Int) (IntKind.i64.wrap ((((aI d x.name).1).arity) - (1:Int))))) []<| .lit<| .br (.raw<| .call (vB (dP x.intoColumn (0:Int) (IntKind.i64.wrap ((((aI d x.into).1).arity) - (1:Int))))) []<| .fin []) (.fin [])) (.fin [])) (.fin [])) (p:=(d.tables.map aP).length≤9223372036854775807→dG Tryz.prog 148 [.agg [.sl 162 3 (d.tables.map aP)],.one (.str x.name)] (.tup [.agg [.p none (.str (((aI d x.name).1).name)),vI (((aI d x.name).1).arity),.p none (.sl 32 1 ((((aI d x.name).1).rows).map aE))],vB ((aI d x.name).2)]) []∧(dG Tryz.prog 148 [.agg [.sl 162 3 (d.tables.map aP)],.one (.str x.into)] (.tup [.agg [.p none (.str (((aI d x.into).1).name)),vI (((aI d x.into).1).arity),.p none (.sl 32 1 ((((aI d x.into).1).rows).map aE))],vB ((aI d x.into).2)]) []∧((((aI d x.name).2)=true→(((aI d x.into).2)=true→eY x.column (0:Int) (IntKind.i64.wrap ((((aI d x.name).1).arity) - (1:Int)))∧(((dP x.column (0:Int) (IntKind.i64.wrap ((((aI d x.name).1).arity) - (1:Int))))=true→eY x.intoColumn (0:Int) (IntKind.i64.wrap ((((aI d x.into).1).arity) - (1:Int)))∧(dP x.intoColumn (0:Int) (IntKind.i64.wrap ((((aI d x.into).1).arity) - (1:Int))))=(dX d x)∧True)∧((dP x.column (0:Int) (IntKind.i64.wrap ((((aI d x.name).1).arity) - (1:Int))))=false→(false)=(dX d x)∧True)))∧(((aI d x.into).2)=false→(false)=(dX d x)∧True))∧(((aI d x.name).2)=false→(false)=(dX d x)∧True)))) (by kernel_rfl) ?_
 intro n0
 simp only [List.length_map] at n0
 refine ⟨iX (qO _ x.name (by omega)) rfl,iX (qO _ x.into (by omega)) rfl,fun g24=>?_,fun g24=>?_⟩
 ·have hT:=(mI g24).1
  have hA:=bZ hT
  have hw:IntKind.i64.wrap ((aI d x.name).1.arity - 1)=(aI d x.name).1.arity - 1:=IntWalk.i64_in _ ⟨by omega,by omega⟩
  try rw [hw]
  refine ⟨fun g27=>?_,fun g27=>?_⟩
  ·have hT2:=(mI g27).1
   have hA2:=bZ hT2
   have hw2:IntKind.i64.wrap ((aI d x.into).1.arity - 1)=(aI d x.into).1.arity - 1:=IntWalk.i64_in _ ⟨by omega,by omega⟩
   try rw [hw2]
   refine ⟨iJ _ _ _,fun g35=>?_,fun g35=>?_⟩
   ·refine ⟨iJ _ _ _,?_,trivial⟩
    ·first | (simp [dX, *];done) | (simp [dX, *] at*;simp [*];done) | (simp_all [dX];done)
   ·refine ⟨?_,trivial⟩
    ·first | (simp [dX, *];done) | (simp [dX, *] at*;simp [*];done) | (simp_all [dX];done)
  ·refine ⟨?_,trivial⟩
   ·first | (simp [dX, *];done) | (simp [dX, *] at*;simp [*];done) | (simp_all [dX];done)
 ·refine ⟨?_,trivial⟩
  ·first | (simp [dX, *];done) | (simp [dX, *] at*;simp [*];done) | (simp_all [dX];done)
abbrev uC (d:aV) (x:aL):Prop:=dG Tryz.prog 214 [.agg [.sl 162 3 (d.tables.map aP)],.agg [.str x.name,.int .i64 x.column,.str x.into,.int .i64 x.intoColumn]] (vB (dX d x)) []
theorem aEw (d:aV) (x:aL) (hc:bF d≤1048576):uC d x:=by
 refine aY bK aU Tryz.func214 (by kernel_rfl) (.call (.tup [.agg [.p none (.str (((aI d x.name).1).name)),vI (((aI d x.name).1).arity),.p none (.sl 32 1 ((((aI d x.name).1).rows).map aE))],vB ((aI d x.name).2)]) []<| .call (.tup [.agg [.p none (.str (((aI d x.into).1).name)),vI (((aI d x.into).1).arity),.p none (.sl 32 1 ((((aI d x.into).1).rows).map aE))],vB ((aI d x.into).2)]) []<| .br (.lit<| .br (.raw<| .call (vB (dP x.column (0:Int) (IntKind.i64.wrap ((((aI d x.name).1).arity) - (1:Int))))) []<| .lit<| .br (.raw<| .call (vB (dP x.intoColumn (0:Int) (IntKind.i64.wrap ((((aI d x.into).1).arity) - (1:Int))))) []<| .fin []) (.fin [])) (.fin [])) (.fin [])) (p:=(d.tables.map aP).length≤9223372036854775807→dG Tryz.prog 132 [.agg [.sl 162 3 (d.tables.map aP)],.one (.str x.name)] (.tup [.agg [.p none (.str (((aI d x.name).1).name)),vI (((aI d x.name).1).arity),.p none (.sl 32 1 ((((aI d x.name).1).rows).map aE))],vB ((aI d x.name).2)]) []∧(dG Tryz.prog 132 [.agg [.sl 162 3 (d.tables.map aP)],.one (.str x.into)] (.tup [.agg [.p none (.str (((aI d x.into).1).name)),vI (((aI d x.into).1).arity),.p none (.sl 32 1 ((((aI d x.into).1).rows).map aE))],vB ((aI d x.into).2)]) []∧((((aI d x.name).2)=true→(((aI d x.into).2)=true→eZ x.column (0:Int) (IntKind.i64.wrap ((((aI d x.name).1).arity) - (1:Int)))∧(((dP x.column (0:Int) (IntKind.i64.wrap ((((aI d x.name).1).arity) - (1:Int))))=true→eZ x.intoColumn (0:Int) (IntKind.i64.wrap ((((aI d x.into).1).arity) - (1:Int)))∧(dP x.intoColumn (0:Int) (IntKind.i64.wrap ((((aI d x.into).1).arity) - (1:Int))))=(dX d x)∧True)∧((dP x.column (0:Int) (IntKind.i64.wrap ((((aI d x.name).1).arity) - (1:Int))))=false→(false)=(dX d x)∧True)))∧(((aI d x.into).2)=false→(false)=(dX d x)∧True))∧(((aI d x.name).2)=false→(false)=(dX d x)∧True)))) (by kernel_rfl) ?_
 intro n0
 simp only [List.length_map] at n0
 refine ⟨iX (qP _ x.name (by omega)) rfl,iX (qP _ x.into (by omega)) rfl,fun g24=>?_,fun g24=>?_⟩
 ·have hT:=(mI g24).1
  have hA:=bZ hT
  have hw:IntKind.i64.wrap ((aI d x.name).1.arity - 1)=(aI d x.name).1.arity - 1:=IntWalk.i64_in _ ⟨by omega,by omega⟩
  try rw [hw]
  refine ⟨fun g27=>?_,fun g27=>?_⟩
  ·have hT2:=(mI g27).1
   have hA2:=bZ hT2
   have hw2:IntKind.i64.wrap ((aI d x.into).1.arity - 1)=(aI d x.into).1.arity - 1:=IntWalk.i64_in _ ⟨by omega,by omega⟩
   try rw [hw2]
   refine ⟨iK _ _ _,fun g35=>?_,fun g35=>?_⟩
   ·refine ⟨iK _ _ _,?_,trivial⟩
    ·first | (simp [dX, *];done) | (simp [dX, *] at*;simp [*];done) | (simp_all [dX];done)
   ·refine ⟨?_,trivial⟩
    ·first | (simp [dX, *];done) | (simp [dX, *] at*;simp [*];done) | (simp_all [dX];done)
  ·refine ⟨?_,trivial⟩
   ·first | (simp [dX, *];done) | (simp [dX, *] at*;simp [*];done) | (simp_all [dX];done)
 ·refine ⟨?_,trivial⟩
  ·first | (simp [dX, *];done) | (simp [dX, *] at*;simp [*];done) | (simp_all [dX];done)
def b4 (a b c d:Bool):Int:=(if a then 1 else 0)+(if b then 2 else 0)+(if c then 4 else 0)+(if d then 8 else 0)
def m4 (p:Nat→Bool):Int:=b4 (p 0) (p 1) (p 2) (p 3)
theorem lt4 {P:Nat→Prop} (h0:P 0) (h1:P 1) (h2:P 2) (h3:P 3) {i:Nat} (hi:i<4):P i:=by
 have h:i=0∨i=1∨i=2∨i=3:=by omega
 rcases h with rfl | rfl | rfl | rfl<;>assumption
theorem aR8 (a b c d:Bool):hZ .or .i64 (b4 a b c d) (1*2^0)=b4 true b c d∧hZ .or .i64 (b4 a b c d) (1*2^1)=b4 a true c d∧hZ .or .i64 (b4 a b c d) (1*2^2)=b4 a b true d∧hZ .or .i64 (b4 a b c d) (1*2^3)=b4 a b c true:=by
 cases a<;>cases b<;>cases c<;>cases d<;>decide
theorem aR9 {p:Nat→Bool} {v:Nat} (hv:v<4):hZ .or .i64 (m4 p) ((1:Int)*2^v)=m4 (fun i=>p i || decide (i=v)):=by
 have h:=aR8 (p 0) (p 1) (p 2) (p 3)
 refine lt4 (P:=fun v=>hZ .or .i64 (m4 p) ((1:Int)*2^v)=m4 (fun i=>p i || decide (i=v))) ?_ ?_ ?_ ?_ hv
 ·simpa [m4] using h.1
 ·simpa [m4] using h.2.1
 ·simpa [m4] using h.2.2.1
 ·simpa [m4] using h.2.2.2
theorem aPv (a b c d:Bool):decide (b4 a b c d=(1:Int)*2^(4:Int).toNat - 1)=(a&&(b&&(c&&(d&&true)))):=by cases a<;>cases b<;>cases c<;>cases d<;>decide
theorem uD {p:Nat→Bool} {n:Int} (hn:1≤n∧n≤4) (hp: ∀i,n.toNat≤i→p i=false):decide (m4 p=(1:Int)*2^n.toNat - 1)=(List.range n.toNat).all p:=by
 have h:n=1∨n=2∨n=3∨n=4:=by omega
 rcases h with rfl | rfl | rfl | rfl
 ·have h1:=hp 1 (by decide);have h2:=hp 2 (by decide);have h3:=hp 3 (by decide)
  simp only [m4,h1,h2,h3];show _=(List.range 1).all p
  simp only [List.range,List.range.loop,List.all_cons,List.all_nil]
  cases p 0<;>decide
 ·have h2:=hp 2 (by decide);have h3:=hp 3 (by decide)
  simp only [m4,h2,h3];show _=(List.range 2).all p
  simp only [List.range,List.range.loop,List.all_cons,List.all_nil]
  cases p 0<;>cases p 1<;>decide
 ·have h3:=hp 3 (by decide)
  simp only [m4,h3];show _=(List.range 3).all p
  simp only [List.range,List.range.loop,List.all_cons,List.all_nil]
  cases p 0<;>cases p 1<;>cases p 2<;>decide
 ·simp only [m4];show _=(List.range 4).all p
  simp only [List.range,List.range.loop,List.all_cons,List.all_nil]
  exact aPv _ _ _ _
theorem aRK {m:Int} {v:Nat} (h:0≤m∧m≤15) (hv:v<4):hZ .and .i64 (m/2^v) 1=if jQ m v=true then 1 else 0:=by
 have h1:m=0∨m=1∨m=2∨m=3∨m=4∨m=5∨m=6∨m=7∨m=8∨m=9∨m=10∨m=11∨m=12∨m=13∨m=14∨m=15:=by omega
 refine lt4 (P:=fun v=>hZ .and .i64 (m/2^v) 1=if jQ m v=true then 1 else 0) ?_ ?_ ?_ ?_ hv<;>rcases h1 with rfl | rfl | rfl | rfl | rfl | rfl | rfl | rfl | rfl | rfl | rfl | rfl | rfl | rfl | rfl | rfl<;>decide
theorem aLM {m:Int} {v:Nat} (h:hZ .and .i64 (m/2^v) 1=1):jQ m v=true:=by rw [jQ,h];rfl
theorem aCP {m:Int} {v:Nat} (h: ¬hZ .and .i64 (m/2^v) 1=1):jQ m v=false:=by rw [jQ];simpa using h
theorem aOX {m:Int} {v:Nat} (h:0≤m∧m≤15) (hv:v<4):decide (hZ .and .i64 (m/2^v) 1=0)= !jQ m v:=by
 rw [aRK h hv];cases jQ m v<;>rfl
def kT (p:Nat→Bool) (k:Nat):List Int:=((List.range k).filter p).map fun v:Nat=>(v:Int)
theorem sX {p:Nat→Bool} {k:Nat} (h:p k=true):kT p (k+1)=kT p k++[(k:Int)]:=by
 rw [kT,List.range_succ,List.filter_append,List.map_append]
 simp [kT,h]
theorem uE {p:Nat→Bool} {k:Nat} (h:p k=false):kT p (k+1)=kT p k:=by
 rw [kT,List.range_succ,List.filter_append,List.map_append]
 simp [kT,h]
theorem aEx (p:Nat→Bool) (k:Nat):(kT p k).length≤k:=by
 rw [kT,List.length_map]
 have:=(List.filter_sublist (l:=List.range k) (p:=p)).length_le
 rw [List.length_range] at this
 exact this
theorem aJP {p:Nat→Bool} {k:Nat} {x:Int}:x∈kT p k↔0≤x∧x.toNat<k∧p x.toNat=true:=by
 rw [kT,List.mem_map]
 constructor
 ·rintro ⟨v,hv,rfl⟩
  rw [List.mem_filter,List.mem_range] at hv
  exact ⟨by omega,by simpa using hv.1,by simpa using hv.2⟩
 ·rintro ⟨h0,h1,h2⟩
  exact ⟨x.toNat,List.mem_filter.2 ⟨List.mem_range.2 h1,h2⟩,by omega⟩
theorem aJQ {p:Nat→Bool} {n:Nat}: ∀{k:Nat},n≤k→(∀v,n≤v→v<k→p v=false)→kT p k=kT p n
 | 0,h,_=>by rw [show n=0 by omega]
 | k+1,h,hp=>by
   by_cases e:n=k+1
   ·rw [e]
   ·rw [uE (hp k (by omega) (by omega)),aJQ (by omega) fun v h1 h2=>hp v h1 (by omega)]
def jD (n:Int) (l:List Int) (k:Nat):Bool:=dP (l.getD k 0) 0 (n - 1)&& !decide (l.getD k 0∈l.take k)
def xD (n:Int) (l:List Int):Bool:=(List.range l.length).all (jD n l)
def dZ (n:Int) (a:bR):Bool:=dV a.name&&(dP (a.vars.length:Nat) 1 3&&xD n a.vars)
def aDQ (l:List bR) (v:Nat):Bool:=l.any fun a=>decide ((v:Int)∈a.vars)
def cY (q:QueryD):Bool:=(dP q.variableCount 1 4&&dP (q.atoms.length:Nat) 1 4)&&(q.atoms.all (dZ q.variableCount)&&(List.range q.variableCount.toNat).all (aDQ q.atoms))
def gJ (l:List bR) (k:Nat) (a:List Int) (i v:Nat):Bool:=aDQ (l.take k) v || decide ((v:Int)∈a.take i)
theorem aEy (l:List bR) (k:Nat) (a b:List Int):gJ l k a 0=gJ l k b 0:=by funext v;simp [gJ]
theorem aEz {l:List bR} {k i:Nat} {a:List Int} {x:Int} (h:a[i]? =some x) (hx:0≤x):(fun v=>gJ l k a i v || decide (v=x.toNat))=gJ l k a (i+1):=by
 funext v
 rw [gJ,gJ,cA h,xB,Bool.or_assoc]
 congr 2
 exact decide_eq_decide.2 (by omega)
theorem aMJ {l:List bR} {k:Nat} {a:bR} (h:l[k]? =some a) (v:Nat):aDQ (l.take (k+1)) v=(aDQ (l.take k) v || decide ((v:Int)∈a.vars)):=by
 rw [aDQ,cA h,List.any_append]
 simp [aDQ]
theorem aFA {l:List bR} {k i:Nat} {a:bR} (h:l[k]? =some a) (hi:a.vars.length≤i) (b:List Int):gJ l k a.vars i=gJ l (k+1) b 0:=by
 funext v
 rw [gJ,gJ,aMJ h,List.take_of_length_le hi]
 simp
theorem gD {l:List bR} {k:Nat} (hk:l.length≤k) (b:List Int):gJ l k b 0=aDQ l:=by
 funext v
 rw [gJ,List.take_of_length_le hk]
 simp
theorem aOY {n v:Nat} (p:Nat→Bool):((List.range n).map p).set v true=(List.range n).map fun i=>p i || decide (i=v):=by
 apply List.ext_getElem?
 intro i
 rw [List.getElem?_set,List.getElem?_map,List.getElem?_map]
 by_cases hi:i<n
 ·rw [List.getElem?_range hi,List.length_map,List.length_range]
  by_cases e:v=i
  ·subst e;simp [hi]
  ·simp [e,show ¬i=v from fun q=>e q.symm]
 ·rw [show (List.range n)[i]? =none from List.getElem?_eq_none (by simp;omega)]
  by_cases e:v=i
  ·subst e;simp [hi]
  ·simp [e]
theorem qQ {n:Nat} (p:Nat→Bool):(!decide (false∈(List.range n).map p))=(List.range n).all p:=by
 apply Bool.eq_iff_iff.2
 rw [Bool.not_eq_true',decide_eq_false_iff_not,List.all_eq_true]
 constructor
 ·intro h x hx
  cases e:p x with
  | true=>rfl
  | false=>exact absurd (List.mem_map.2 ⟨x,hx,e⟩) h
 ·intro h hm
  obtain ⟨x,hx,e⟩:=List.mem_map.1 hm
  rw [h x hx] at e;cases e
theorem mJ {q:QueryD} (h:(dP q.variableCount 1 4&&dP (q.atoms.length:Nat) 1 4)=false):cY q=false:=by rw [cY,h];rfl
theorem iM {q:QueryD} {k:Nat} {a:bR} (h:q.atoms[k]? =some a) (ha:dZ q.variableCount a=false):cY q=false:=by rw [cY,cG h ha];simp
theorem kF {q:QueryD} (h:(dP q.variableCount 1 4&&dP (q.atoms.length:Nat) 1 4)=true) (ha:q.atoms.all (dZ q.variableCount)=true):cY q=(List.range q.variableCount.toNat).all (aDQ q.atoms):=by rw [cY,h,ha];rfl
theorem aMK {n:Int} {l:List Int} (h:xD n l=true) {x:Int} (hx:x∈l):0≤x∧x≤n - 1:=by
 obtain ⟨i,hi,rfl⟩:=List.mem_iff_getElem.1 hx
 have:=List.all_eq_true.1 h i (List.mem_range.2 hi)
 simp only [jD,Bool.and_eq_true] at this
 have:=eL this.1
 rwa [List.getD_eq_getElem?_getD,List.getElem?_eq_getElem hi,Option.getD_some] at this
theorem aKS {n:Int} {a:bR} (h:dZ n a=true):dV a.name=true∧(1≤a.vars.length∧a.vars.length≤3)∧ ∀x∈a.vars,0≤x∧x≤n - 1:=by
 simp only [dZ,Bool.and_eq_true] at h
 have h2:=eL h.2.1
 exact ⟨h.1,⟨by omega,by omega⟩,fun x hx=>aMK h.2.2 hx⟩
theorem sY {q:QueryD} (h:cY q=true):(1≤q.variableCount∧q.variableCount≤4)∧(1≤q.atoms.length∧q.atoms.length≤4)∧ ∀a∈q.atoms,dZ q.variableCount a=true:=by
 simp only [cY,Bool.and_eq_true] at h
 have h1:=eL h.1.1
 have h2:=eL h.1.2
 exact ⟨h1,⟨by omega,by omega⟩,fun a ha=>List.all_eq_true.1 h.2.1 a ha⟩
theorem qR {n:Int} {l:List bR} (h:l.all (dZ n)=true) (h0:1≤n) {v:Nat} (hv:n.toNat≤v):aDQ l v=false:=by
 rw [aDQ,List.any_eq_false]
 intro a ha hm
 have:=(aKS (List.all_eq_true.1 h a ha)).2.2 v (by simpa using hm)
 omega
def aOZ (q:QueryD) (m:Int):Bool:=cY q&&dP m 0 ((1:Int)*2^q.atoms.length - 1)
def eX (m:Int):List Int:=if dP m 0 15=true then kT (jQ m) 4 else []
def lU (q:QueryD):Int:=if cY q=true then (1:Int)*2^q.atoms.length - 1 else 0
theorem yV {m:Int} (h:dP m 0 15=true):eX m=kT (jQ m) 4:=by rw [eX,if_pos h]
theorem aFB {m:Int} (h:dP m 0 15=false):eX m= []:=by rw [eX,if_neg (by rw [h];decide)]
theorem sZ {q:QueryD} (h:cY q=true):lU q=(1:Int)*2^q.atoms.length - 1:=by rw [lU,if_pos h]
theorem aBW {q:QueryD} (h:cY q=false):lU q=0:=by rw [lU,if_neg (by rw [h];decide)]
theorem uF {n:Nat} (h:1≤n∧n≤4):1≤(1:Int)*2^n - 1∧(1:Int)*2^n - 1≤15:=by
 have:n=1∨n=2∨n=3∨n=4:=by omega
 rcases this with rfl | rfl | rfl | rfl<;>decide
theorem aO0 {m:Int} {n i:Nat} (h:0≤m∧m≤(1:Int)*2^n - 1) (hi:n≤i) (h4:i<4):jQ m i=false:=by
 have hn:n=0∨n=1∨n=2∨n=3:=by omega
 have hi4:i=0∨i=1∨i=2∨i=3:=by omega
 have key:m/2^i=0:=by
  rcases hn with rfl | rfl | rfl | rfl<;>rcases hi4 with rfl | rfl | rfl | rfl<;>first | omega | (simp at h ⊢;omega)
 rw [jQ,key];decide
theorem aO1 {m:Int} {n:Nat} (h:0≤m∧m≤(1:Int)*2^n - 1) (hn:n≤4):eX m=kT (jQ m) n:=by
 have h15:m≤15:=by
  have:n=0∨n=1∨n=2∨n=3∨n=4:=by omega
  rcases this with rfl | rfl | rfl | rfl | rfl<;>simp at h<;>omega
 rw [yV (aBg h.1 h15)]
 exact aJQ hn fun v h1 h2=>aO0 h h1 h2
end Go.Proofs.YtokkjaflmcjlhaaGreat
namespace Go.Proofs
open Go.Shelf
namespace YtokkjaflmcjlhaaGreat
def Tryz.revInts_ren : Go.Shelf.Ren := ⟨fun | 35 => 249 | n => n, fun | 22 => 32 | 23 => 3 | 3 => 3 | 4 => 4 | 0 => 0 | n => n, fun | n => n⟩
theorem Tryz.revInts : Go.Proofs.SlLaysE.n35 Tryz.prog Tryz.revInts_ren := {
  mixed := by kernel_rfl
  f35 := ⟨Tryz.f249.name, by decide, Tryz.func249.trans (congrArg some (by kernel_rfl))⟩
  t0 := Tryz.underlying0
  a0 := Tryz.isAgg0
  z0 := Tryz.sizeOf0
  v0 := Tryz.zeroValue0
  t3 := Tryz.underlying3
  a3 := Tryz.isAgg3
  z3 := Tryz.sizeOf3
  v3 := Tryz.zeroValue3
  t4 := Tryz.underlying4
  a4 := Tryz.isAgg4
  z4 := Tryz.sizeOf4
  v4 := Tryz.zeroValue4
  t22 := Tryz.underlying32
  a22 := Tryz.isAgg32
  z22 := Tryz.sizeOf32
  v22 := Tryz.zeroValue32
  a23 := Tryz.isAgg3
  z23 := Tryz.sizeOf3 }
end YtokkjaflmcjlhaaGreat
end Go.Proofs
namespace Go.Proofs.YtokkjaflmcjlhaaGreat
open Go.ChangeShapes Go.WideShapes Go.ChangeAt Go.RowKit
set_option linter.unusedVariables false
theorem aO2 (l:List Int) (hl:l.length<4611686018427387904):lX Tryz.prog 249 [.own 0] [(0,.arr 3 1 true (l.map intD))] (.tup []) [(0,.arr 3 1 true (l.reverse.map intD))]:=
 aHB l l.reverse (by kernel_rfl) List.length_reverse
  (fun h w=>AnyE.slices_Reverse_empty Tryz.revInts none 0 w)
  (fun blk cap w hH hblk hn=>(AnyE.slices_Reverse Tryz.revInts (Value.int .i64) (fun _=>rfl) blk 0 cap l w hH (by omega)).mono fun e w' ⟨he,q,hw⟩=>⟨he,q,#[],by rw [hw,Go.Sort.grow_empty]⟩)
end Go.Proofs.YtokkjaflmcjlhaaGreat
namespace Go.Proofs.YtokkjaflmcjlhaaGreat
open Go.ChangeShapes Go.WideShapes Go.ChangeAt Go.RowKit
set_option linter.unusedVariables false
set_option linter.unusedSimpArgs false
set_option maxRecDepth 100000
set_option maxHeartbeats 4000000
abbrev zI (l:List Int):Prop:=l.Pairwise fun a b=>b≤a
def kV (l:List Int):List Int:=(iW l).reverse
theorem aAV (l:List Int):(kV l).Perm l:=(List.reverse_perm _).trans (aEu l)
theorem aML (l:List Int):(kV l).length=l.length:=(aAV l).length_eq
theorem aKT (l:List Int):zI (kV l):=List.pairwise_reverse.2 (aKQ l)
theorem aJR {l m:List Int} (hp:l.Perm m) (h1:zI l) (h2:zI m):l=m:=
 List.Perm.eq_of_pairwise (le:=fun a b:Int=>b≤a) (fun a b _ _ h1 h2=>by omega) h1 h2 hp
theorem aJS {l out:List Int} {k j:Nat} {x:Int} (hp:out.Perm (l.take k)) (hx:l[k]? =some x):((([]:List Int)++out.take j)++[x]++out.drop j).Perm (l.take (k+1)):=by
 rw [cA hx,List.nil_append]
 have h1:(out.take j++[x]++out.drop j).Perm (out.take j++out.drop j++[x]):=by
  rw [List.append_assoc,List.append_assoc]
  exact List.Perm.append_left _ List.perm_append_comm
 rw [List.take_append_drop] at h1
 exact h1.trans (hp.append_right _)
theorem aJT {out:List Int} {j:Nat} {x:Int} (hd:zI out) (hj:j≤out.length) (hs: ∀i,j≤i→i<out.length→out.getD i 0<x) (hx:j=0∨ ¬out.getD (j - 1) 0<x):zI ((([]:List Int)++out.take j)++[x]++out.drop j):=by
 rw [List.nil_append,List.append_assoc]
 have hd' :=hd
 rw [←List.take_append_drop j out] at hd'
 obtain ⟨d1,d2,d3⟩:=List.pairwise_append.1 hd'
 have hlo: ∀a∈out.drop j,a≤x:=fun a ha=>by
  obtain ⟨i,hi,rfl⟩:=List.mem_iff_getElem.1 ha
  have hi' :i<out.length - j:=by simpa using hi
  have:=hs (j+i) (by omega) (by omega)
  rw [List.getElem_drop]
  rw [List.getD_eq_getElem?_getD,List.getElem?_eq_getElem (by omega)] at this
  simp only [Option.getD_some] at this
  omega
 have hhi: ∀a∈out.take j,x≤a:=fun a ha=>by
  obtain ⟨i,hi,rfl⟩:=List.mem_iff_getElem.1 ha
  have hi' :i<j:=by
   have:=hi
   rw [List.length_take] at this
   omega
  rcases hx with h | h
  ·omega
  ·have hp:=List.pairwise_iff_getElem.1 hd
   rw [List.getD_eq_getElem?_getD,List.getElem?_eq_getElem (by omega)] at h
   simp only [Option.getD_some] at h
   rw [List.getElem_take]
   by_cases e:i=j - 1
   ·subst e;omega
   ·have:=hp i (j - 1) (by omega) (by omega) (by omega)
    omega
 refine List.pairwise_append.2 ⟨d1,List.pairwise_append.2 ⟨List.pairwise_singleton _ _,d2,fun a ha b hb=>?_⟩,fun a ha b hb=>?_⟩
 ·rw [List.mem_singleton] at ha
  subst ha;exact hlo b hb
 ·rcases List.mem_append.1 hb with q | q
  ·rw [List.mem_singleton] at q
   subst q;exact hhi a ha
  ·exact d3 a ha b q
theorem aMM {out:List Int} {j:Nat} {x e:Int} (h:out[j - 1]? =some e) (hc:e<x) (hs: ∀i,j≤i→i<out.length→out.getD i 0<x): ∀i,j - 1≤i→i<out.length→out.getD i 0<x:=fun i h1 h2=>by
 by_cases q:i=j - 1
 ·rw [q,bD h];exact hc
 ·exact hs i (by omega) h2
abbrev aAW (t:aR) (cols:List Int):AV × List (Nat × Rs):=(.own 0,[(0,.arr 3 1 true ((kV (dW t cols).2).map intD))])
abbrev aFC (t:aR) (cols:List Int):Prop:=dG Tryz.prog 182 [.agg [.str t.name,.int .i64 t.arity,.sl 32 1 (t.rows.map aE)],.one (.sl 3 1 (cols.map intD))] (aAW t cols).1 (aAW t cols).2
theorem aO3 (t:aR) (cols:List Int) (hl:cols.length≤1048576):aFC t cols:=by
 refine aY bK aU Tryz.func182 (by kernel_rfl) (cI (tV t cols)<| cI (aGp ((dW t cols).2))<| .callx [.own 0] [(0,.arr 3 1 true (((dW t cols).2).map intD))] [(0,1500)] (.tup []) [(0,.arr 3 1 true ((iW ((dW t cols).2)).map intD))]<| .callx [.own 0] [(0,.arr 3 1 true ((iW ((dW t cols).2)).map intD))] [(0,1500)] (.tup []) [(0,.arr 3 1 true (((iW ((dW t cols).2)).reverse).map intD))]<| .fin [(0,1500)]) (p:=(t.rows.map aE).length≤9223372036854775807→(cols.map intD).length≤9223372036854775807→aAK t cols∧aIo ((dW t cols).2)∧lX Tryz.prog 248 [.own 0] [(0,.arr 3 1 true (((dW t cols).2).map intD))] (.tup []) [(0,.arr 3 1 true ((iW ((dW t cols).2)).map intD))]∧((dW t cols).2).map intD=((dW t cols).2).map intD∧lX Tryz.prog 249 [.own 0] [(0,.arr 3 1 true ((iW ((dW t cols).2)).map intD))] (.tup []) [(0,.arr 3 1 true (((iW ((dW t cols).2)).reverse).map intD))]∧(iW ((dW t cols).2)).map intD=(iW ((dW t cols).2)).map intD∧((iW ((dW t cols).2)).reverse).map intD=(kV (dW t cols).2).map intD∧True) (by kernel_rfl) ?_
 intro n0 n1
 simp only [List.length_map] at n0 n1
 have hg:=aGy t cols
 refine ⟨aIz t cols (by omega),cpI _ (by omega),aHC ((dW t cols).2) (by omega),rfl,aO2 (iW ((dW t cols).2)) (by first | omega | (rw [sW];omega)),rfl,?_,trivial⟩
 ·rfl
abbrev aCg (l:List Int):Prop:=dG Tryz.prog 244 [.one (.sl 3 1 (l.map intD))] (.p none (.sl 3 1 ((kV l).map intD))) []
theorem aMN (l:List Int) (hc:l.length≤1048576):aCg l:=by
 refine aY bK aU Tryz.func244 (by kernel_rfl) (.stl 3<| .loop (Nat × (List Int)) (Q2 Nat (List Int)) [3,4,5,7,8,9,10,11,12,13,14,15,16,17,18,19,20,21,22,23,24,25,26,27,28,29,30,31,32,33,34,35,36,37,38,39,40,41,42,43,44,45] [3100,3500,4000,4100,4500] (fun yy0=>[(4,vI (yy0.1:Int)),(3,.p none (.sl 3 1 (yy0.2.map intD)))]) (fun yy0=>[]) (fun yy0=>yy0.1≤l.length∧yy0.2.Perm (l.take yy0.1)∧zI yy0.2) (fun yy0=>l.length - yy0.1) (fun yy0=> .len l.length<| .br (.len yy0.2.length<| .loop Nat (Q1 Nat) [5,15,16,17,18,19,20,21,22,23,24,25,26,27,28,29,30] [] (fun j=>[(5,vI (j:Int))]) (fun j=>[]) (fun j=>j≤yy0.2.length∧(∀i,j≤i→i<yy0.2.length→yy0.2.getD i 0<l.getD yy0.1 0)) (fun j=>j) (fun j=> .br (.elem _ intD yy0.2 (fun e21=> .elem _ intD l (fun e25=> .lit<| .lit<| .lit<| .br (.back []) (.sub Int intD yy0.2<| .app Int intD ([]:List Int) (yy0.2.take j)<| .elem _ intD l (fun e38=> .app Int intD (([]:List Int)++(yy0.2.take j)) ([e38]:List Int)<| .sub Int intD yy0.2<| .app Int intD ((([]:List Int)++(yy0.2.take j))++[e38]) (yy0.2.drop j)<| .stl 3<| .back []))))) (.sub Int intD yy0.2<| .app Int intD ([]:List Int) (yy0.2.take j)<| .elem _ intD l (fun e38=> .app Int intD (([]:List Int)++(yy0.2.take j)) ([e38]:List Int)<| .sub Int intD yy0.2<| .app Int intD ((([]:List Int)++(yy0.2.take j))++[e38]) (yy0.2.drop j)<| .stl 3<| .back [])))) (.fin []))) (p:=(l.map intD).length≤9223372036854775807→(∃(k:Nat) (out:List Int),(0:Int)=(k:Int)∧[]=out.map intD∧k≤l.length∧out.Perm (l.take k)∧zI out)∧ ∀(k:Nat) (out:List Int),(k≤l.length∧out.Perm (l.take k)∧zI out)→Lm intD l∧(((decide ((k:Int)<((l.length:Nat):Int)))=true→Lm intD out∧((∃(j:Nat),((out.length:Nat):Int)=(j:Int)∧j≤out.length∧(∀i,j≤i→i<out.length→out.getD i 0<l.getD k 0))∧ ∀(j:Nat),(j≤out.length∧(∀i,j≤i→i<out.length→out.getD i 0<l.getD k 0))→((decide ((0:Int)<(j:Int)))=true→dB ((j:Int) - (1:Int))∧(0≤((j:Int) - (1:Int))∧Em intD out (((j:Int) - (1:Int)).toNat) fun e21=>0≤(k:Int)∧Em intD l k fun e25=>((decide (e21<e25))=true→dB ((j:Int) - (1:Int))∧ ∃(j' :Nat),((j:Int) - (1:Int))=(j' :Int)∧(j' ≤out.length∧(∀i,j' ≤i→i<out.length→out.getD i 0<l.getD k 0))∧j' <j)∧((decide (e21<e25))=false→out.map intD=out.map intD∧0≤(j:Int)∧(j:Int)≤((out.length:Nat):Int)∧[]=([]:List Int).map intD∧(out.take j).map intD=(out.take j).map intD∧(∀x,eC (intD x)=true)∧(([]:List Int).length+(out.take j).length)*8≤140737488355328∧0≤(k:Int)∧Em intD l k fun e38=>(([]:List Int)++(out.take j)).map intD=(([]:List Int)++(out.take j)).map intD∧[[.int .i64 e38]]=([e38]:List Int).map intD∧(∀x,eC (intD x)=true)∧((([]:List Int)++(out.take j)).length+([e38]:List Int).length)*8≤140737488355328∧out.map intD=out.map intD∧0≤(j:Int)∧(j:Int)≤((out.length:Nat):Int)∧((([]:List Int)++(out.take j))++[e38]).map intD=((([]:List Int)++(out.take j))++[e38]).map intD∧(out.drop j).map intD=(out.drop j).map intD∧(∀x,eC (intD x)=true)∧(((([]:List Int)++(out.take j))++[e38]).length+(out.drop j).length)*8≤140737488355328∧dB ((k:Int)+(1:Int))∧ ∃(k' :Nat) (out' :List Int),((k:Int)+(1:Int))=(k' :Int)∧(((([]:List Int)++(out.take j))++[e38])++(out.drop j)).map intD=out'.map intD∧(k' ≤l.length∧out'.Perm (l.take k')∧zI out')∧l.length - k' <l.length - k)))∧((decide ((0:Int)<(j:Int)))=false→out.map intD=out.map intD∧0≤(j:Int)∧(j:Int)≤((out.length:Nat):Int)∧[]=([]:List Int).map intD∧(out.take j).map intD=(out.take j).map intD∧(∀x,eC (intD x)=true)∧(([]:List Int).length+(out.take j).length)*8≤140737488355328∧0≤(k:Int)∧Em intD l k fun e38=>(([]:List Int)++(out.take j)).map intD=(([]:List Int)++(out.take j)).map intD∧[[.int .i64 e38]]=([e38]:List Int).map intD∧(∀x,eC (intD x)=true)∧((([]:List Int)++(out.take j)).length+([e38]:List Int).length)*8≤140737488355328∧out.map intD=out.map intD∧0≤(j:Int)∧(j:Int)≤((out.length:Nat):Int)∧((([]:List Int)++(out.take j))++[e38]).map intD=((([]:List Int)++(out.take j))++[e38]).map intD∧(out.drop j).map intD=(out.drop j).map intD∧(∀x,eC (intD x)=true)∧(((([]:List Int)++(out.take j))++[e38]).length+(out.drop j).length)*8≤140737488355328∧dB ((k:Int)+(1:Int))∧ ∃(k' :Nat) (out' :List Int),((k:Int)+(1:Int))=(k' :Int)∧(((([]:List Int)++(out.take j))++[e38])++(out.drop j)).map intD=out'.map intD∧(k' ≤l.length∧out'.Perm (l.take k')∧zI out')∧l.length - k' <l.length - k)))∧((decide ((k:Int)<((l.length:Nat):Int)))=false→out.map intD=(kV l).map intD∧True))) (by kernel_rfl) ?_
 intro n0
 simp only [List.length_map] at n0
 refine ⟨⟨0,([]:List Int),rfl,rfl,Nat.zero_le _,List.Perm.refl _,List.Pairwise.nil⟩,fun k out ⟨hk,hp,hd⟩=>?_⟩
 have hpl:=hp.length_eq
 rw [List.length_take] at hpl
 refine ⟨List.length_map _,fun c0=>?_,fun c0=>?_⟩
 ·replace c0:=yq c0
  refine ⟨List.length_map _,⟨out.length,(by first | rfl | omega),Nat.le_refl _,fun i h1 h2=>by omega⟩,fun j ⟨hj,hs⟩=>?_⟩
  refine ⟨fun g17=>?_,fun g17=>?_⟩
  ·replace g17:=yq g17
   refine ⟨⟨by omega,by omega⟩,by omega,rfl,by omega,fun e21 h21=>?_⟩
   have i21:out[j - 1]? =some e21:=by rw [←h21];congr 1;omega
   refine ⟨by omega,rfl,by omega,fun e25 h25=>?_⟩
   refine ⟨fun c1=>?_,fun c1=>?_⟩
   ·replace c1:=yq c1
    have hlt:=aMM i21 (by rw [bD h25];exact c1:e21<l.getD k 0) hs
    refine ⟨⟨by omega,by omega⟩,?_⟩
    exact ⟨j - 1,(by first | rfl | omega),⟨by omega,hlt⟩,by omega⟩
   ·replace c1:=nq c1
    have hx:j=0∨ ¬out.getD (j - 1) 0<l.getD k 0:=by first | (left;omega) | (right;rw [bD i21,bD h25];exact c1)
    refine ⟨rfl,by omega,by omega,rfl,rfl,fun _=>rfl,by first | omega | (simp;omega),?_⟩
    refine ⟨by omega,rfl,by omega,fun e38 h38=>?_⟩
    rw [bD h38] at hx hs
    refine ⟨rfl,rfl,fun _=>rfl,by first | omega | (simp;omega),?_⟩
    refine ⟨rfl,by omega,by omega,rfl,rfl,fun _=>rfl,by first | omega | (simp;omega),?_⟩
    refine ⟨⟨by omega,by omega⟩,?_⟩
    exact ⟨k+1,((([]:List Int)++(out.take j))++[e38])++(out.drop j),rfl,rfl,⟨by omega,aJS hp h38,aJT hd hj hs hx⟩,by omega⟩
  ·replace g17:=nq g17
   have hx:j=0∨ ¬out.getD (j - 1) 0<l.getD k 0:=by first | (left;omega) | (right;rw [bD i21,bD h25];exact c1)
   refine ⟨rfl,by omega,by omega,rfl,rfl,fun _=>rfl,by first | omega | (simp;omega),?_⟩
   refine ⟨by omega,rfl,by omega,fun e38 h38=>?_⟩
   rw [bD h38] at hx hs
   refine ⟨rfl,rfl,fun _=>rfl,by first | omega | (simp;omega),?_⟩
   refine ⟨rfl,by omega,by omega,rfl,rfl,fun _=>rfl,by first | omega | (simp;omega),?_⟩
   refine ⟨⟨by omega,by omega⟩,?_⟩
   exact ⟨k+1,((([]:List Int)++(out.take j))++[e38])++(out.drop j),rfl,rfl,⟨by omega,aJS hp h38,aJT hd hj hs hx⟩,by omega⟩
 ·replace c0:=nq c0
  have hE:out=kV l:=aJR ((by rw [List.take_of_length_le (by omega)] at hp;exact hp:out.Perm l).trans (aAV l).symm) hd (aKT l)
  refine ⟨?_,trivial⟩
  ·rw [hE]
abbrev xE (name:ByteArray) (arity:Int) (rows:List (List Int)):AV × List (Nat × Rs):=(.tup [.agg [.p none (.str (((lY name arity rows).1).name)),vI (((lY name arity rows).1).arity),.own 0],vB ((lY name arity rows).2)],[(0,.arr 32 1 true ((((lY name arity rows).1).rows).map aE))])
abbrev aCh (name:ByteArray) (arity:Int) (rows:List (List Int)):Prop:=dG Tryz.prog 276 [.one (.str name),.one (.int .i64 arity),.one (.sl 32 1 (rows.map aE))] (xE name arity rows).1 (xE name arity rows).2
theorem aMO (name:ByteArray) (arity:Int) (rows:List (List Int)) (hc:cM rows≤1048576):aCh name arity rows:=by
 refine aY bK aU Tryz.func276 (by kernel_rfl) (.loop (Nat × (List (List Int))) (Q2 Nat (List (List Int))) [9,13,14,15,16,17,18,19,20,21,22,23,24,25,26,27,28,29,30,31,32] [800,3100,9000] (fun yy0=>[(9,vI (yy0.1:Int))]) (fun yy0=>[(800,some (.box 162 [.p none (.str name),vI arity,.own 9000])),(9000,some (.arr 32 1 true (yy0.2.map aE)))]) (fun yy0=>yy0.1≤rows.length∧yy0.2=cJ (rows.take yy0.1)) (fun yy0=>rows.length - yy0.1) (fun yy0=> .len rows.length<| .br (.len yy0.2.length<| .lit<| .lit<| .br (.elem _ aE rows (fun e29=>cI (tW yy0.2 e29)<| .back [(800,800),(9000,3100)])) (.call (vB (aT (⟨name,arity,yy0.2⟩:aR))) []<| .br (.fin []) (.fin [(0,9000)]))) (.call (vB (aT (⟨name,arity,yy0.2⟩:aR))) []<| .br (.fin []) (.fin [(0,9000)])))) (p:=(rows.map aE).length≤9223372036854775807→(∃(k:Nat) (acc:List (List Int)),(0:Int)=(k:Int)∧name=name∧arity=arity∧[]=acc.map aE∧k≤rows.length∧acc=cJ (rows.take k))∧ ∀(k:Nat) (acc:List (List Int)),(k≤rows.length∧acc=cJ (rows.take k))→Lm aE rows∧(((decide ((k:Int)<((rows.length:Nat):Int)))=true→Lm aE acc∧(((decide (((acc.length:Nat):Int)≤(8:Int)))=true→0≤(k:Int)∧Em aE rows k fun e29=>aAL acc e29∧dB ((k:Int)+(1:Int))∧ ∃(k' :Nat) (acc' :List (List Int)),((k:Int)+(1:Int))=(k' :Int)∧name=name∧arity=arity∧(kA e29 acc).map aE=acc'.map aE∧(k' ≤rows.length∧acc' =cJ (rows.take k'))∧rows.length - k' <rows.length - k)∧((decide (((acc.length:Nat):Int)≤(8:Int)))=false→nC (⟨name,arity,acc⟩:aR)∧(((!(aT (⟨name,arity,acc⟩:aR)))=true→ByteArray.empty=(((lY name arity rows).1).name)∧(0:Int)=(((lY name arity rows).1).arity)∧(false)=((lY name arity rows).2)∧[]=(((lY name arity rows).1).rows).map aE∧True)∧((!(aT (⟨name,arity,acc⟩:aR)))=false→name=(((lY name arity rows).1).name)∧arity=(((lY name arity rows).1).arity)∧(true)=((lY name arity rows).2)∧acc.map aE=(((lY name arity rows).1).rows).map aE∧True)))))∧((decide ((k:Int)<((rows.length:Nat):Int)))=false→nC (⟨name,arity,acc⟩:aR)∧(((!(aT (⟨name,arity,acc⟩:aR)))=true→ByteArray.empty=(((lY name arity rows).1).name)∧(0:Int)=(((lY name arity rows).1).arity)∧(false)=((lY name arity rows).2)∧[]=(((lY name arity rows).1).rows).map aE∧True)∧((!(aT (⟨name,arity,acc⟩:aR)))=false→name=(((lY name arity rows).1).name)∧arity=(((lY name arity rows).1).arity)∧(true)=((lY name arity rows).2)∧acc.map aE=(((lY name arity rows).1).rows).map aE∧True))))) (by kernel_rfl) ?_
 intro n0
 simp only [List.length_map] at n0
 have hlen:=fL rows
 refine ⟨⟨0,([]:List (List Int)),rfl,rfl,rfl,rfl,Nat.zero_le _,rfl⟩,fun k acc ⟨hk,ha⟩=>?_⟩
 refine ⟨List.length_map _,fun g17=>?_,fun g17=>?_⟩
 ·replace g17:=yq g17
  refine ⟨List.length_map _,fun c0=>?_,fun c0=>?_⟩
  ·replace c0:=yq c0
   have hp:=aJJ rows k
   rw [←ha] at hp
   refine ⟨by omega,rfl,by omega,fun e29 h29=>?_⟩
   have hp3:=yR h29
   refine ⟨aJB acc e29 (by omega) (by omega) (by omega),⟨by omega,by omega⟩,?_⟩
   exact ⟨k+1,_,rfl,rfl,rfl,rfl,⟨by omega,by rw [ha,cA h29,aBR]⟩,by omega⟩
  ·replace c0:=nq c0
   have hend:=aJK (name:=name) (arity:=arity) ha (by omega)
   refine ⟨wR (⟨name,arity,acc⟩:aR),fun c1=>?_,fun c1=>?_⟩
   ·replace c1:=nt c1
    have hbad:aT ⟨name,arity,cJ rows⟩=false:=by rw [←hend.1];simpa using c1
    refine ⟨?_,?_,?_,?_,trivial⟩
    ·first | (rw [iL hbad]<;>rfl) | (rw [dF hok]<;>rfl) | (rw [dF hok];exact congrArg (List.map aE) hacc)
    ·first | (rw [iL hbad]<;>rfl) | (rw [dF hok]<;>rfl) | (rw [dF hok];exact congrArg (List.map aE) hacc)
    ·first | (rw [iL hbad]<;>rfl) | (rw [dF hok]<;>rfl) | (rw [dF hok];exact congrArg (List.map aE) hacc)
    ·first | (rw [iL hbad]<;>rfl) | (rw [dF hok]<;>rfl) | (rw [dF hok];exact congrArg (List.map aE) hacc)
   ·replace c1:=nf c1
    have hok0:aT ⟨name,arity,acc⟩=true:=by simpa using c1
    have hok:aT ⟨name,arity,cJ rows⟩=true:=by rw [←hend.1];exact hok0
    have hacc:=hend.2 hok0
    refine ⟨?_,?_,?_,?_,trivial⟩
    ·first | (rw [iL hbad]<;>rfl) | (rw [dF hok]<;>rfl) | (rw [dF hok];exact congrArg (List.map aE) hacc)
    ·first | (rw [iL hbad]<;>rfl) | (rw [dF hok]<;>rfl) | (rw [dF hok];exact congrArg (List.map aE) hacc)
    ·first | (rw [iL hbad]<;>rfl) | (rw [dF hok]<;>rfl) | (rw [dF hok];exact congrArg (List.map aE) hacc)
    ·first | (rw [iL hbad]<;>rfl) | (rw [dF hok]<;>rfl) | (rw [dF hok];exact congrArg (List.map aE) hacc)
 ·replace g17:=nq g17
  have hend:=aJK (name:=name) (arity:=arity) ha (by omega)
  refine ⟨wR (⟨name,arity,acc⟩:aR),fun c1=>?_,fun c1=>?_⟩
  ·replace c1:=nt c1
   have hbad:aT ⟨name,arity,cJ rows⟩=false:=by rw [←hend.1];simpa using c1
   refine ⟨?_,?_,?_,?_,trivial⟩
   ·first | (rw [iL hbad]<;>rfl) | (rw [dF hok]<;>rfl) | (rw [dF hok];exact congrArg (List.map aE) hacc)
   ·first | (rw [iL hbad]<;>rfl) | (rw [dF hok]<;>rfl) | (rw [dF hok];exact congrArg (List.map aE) hacc)
   ·first | (rw [iL hbad]<;>rfl) | (rw [dF hok]<;>rfl) | (rw [dF hok];exact congrArg (List.map aE) hacc)
   ·first | (rw [iL hbad]<;>rfl) | (rw [dF hok]<;>rfl) | (rw [dF hok];exact congrArg (List.map aE) hacc)
  ·replace c1:=nf c1
   have hok0:aT ⟨name,arity,acc⟩=true:=by simpa using c1
   have hok:aT ⟨name,arity,cJ rows⟩=true:=by rw [←hend.1];exact hok0
   have hacc:=hend.2 hok0
   refine ⟨?_,?_,?_,?_,trivial⟩
   ·first | (rw [iL hbad]<;>rfl) | (rw [dF hok]<;>rfl) | (rw [dF hok];exact congrArg (List.map aE) hacc)
   ·first | (rw [iL hbad]<;>rfl) | (rw [dF hok]<;>rfl) | (rw [dF hok];exact congrArg (List.map aE) hacc)
   ·first | (rw [iL hbad]<;>rfl) | (rw [dF hok]<;>rfl) | (rw [dF hok];exact congrArg (List.map aE) hacc)
   ·first | (rw [iL hbad]<;>rfl) | (rw [dF hok]<;>rfl) | (rw [dF hok];exact congrArg (List.map aE) hacc)
abbrev xF (x:aB):AV × List (Nat × Rs):=(.tup [.agg [.p none (.str (((lZ x).1).name)),vI (((lZ x).1).arity),.own 0],vB ((lZ x).2)],[(0,.arr 32 1 true ((((lZ x).1).rows).map aE))])
abbrev aCi (x:aB):Prop:=dG Tryz.prog 245 [.agg [.str x.name,.int .i64 x.arity,.int .i64 x.rowCount,.sl 218 3 (x.groups.map aA)]] (xF x).1 (xF x).2
theorem aMP (x:aB) (hc:aW x≤1048576):aCi x:=by
 refine aY bK aU Tryz.func245 (by kernel_rfl) (.len x.groups.length<| .br (.fin []) (.len x.groups.length<| .elem _ aA x.groups (fun e22=>cI (xE x.name x.arity e22.values)<| .fin [(0,2500)]))) (p:=(x.groups.map aA).length≤9223372036854775807→Lm aA x.groups∧(((decide (((x.groups.length:Nat):Int)=(0:Int)))=true→ByteArray.empty=(((lZ x).1).name)∧(0:Int)=(((lZ x).1).arity)∧(false)=((lZ x).2)∧[]=(((lZ x).1).rows).map aE∧True)∧((decide (((x.groups.length:Nat):Int)=(0:Int)))=false→Lm aA x.groups∧dB (((x.groups.length:Nat):Int) - (1:Int))∧0≤(((x.groups.length:Nat):Int) - (1:Int))∧Em aA x.groups ((((x.groups.length:Nat):Int) - (1:Int)).toNat) fun e22=>aCh x.name x.arity e22.values∧(((lY x.name x.arity e22.values).1).name)=(((lZ x).1).name)∧(((lY x.name x.arity e22.values).1).arity)=(((lZ x).1).arity)∧((lY x.name x.arity e22.values).2)=((lZ x).2)∧(((lY x.name x.arity e22.values).1).rows).map aE=(((lZ x).1).rows).map aE∧True))) (by kernel_rfl) ?_
 intro n0
 simp only [List.length_map] at n0
 have q2:aW x=x.name.size+cQ x.groups:=rfl
 have q5:=fU x.groups
 refine ⟨List.length_map _,fun c0=>?_,fun c0=>?_⟩
 ·replace c0:=yq c0
  have hT:lZ x=(fT,false):=by rw [lZ,if_pos (by omega)]
  refine ⟨?_,?_,?_,?_,trivial⟩
  ·(rw [hT]<;>rfl)
  ·(rw [hT]<;>rfl)
  ·(rw [hT]<;>rfl)
  ·(rw [hT]<;>rfl)
 ·replace c0:=nq c0
  have hT:lZ x=lY x.name x.arity (kD x):=by rw [lZ,if_neg (by omega)]
  refine ⟨List.length_map _,⟨by omega,by omega⟩,by omega,rfl,by omega,fun e22 h22=>?_⟩
  have i22:x.groups[x.groups.length - 1]? =some e22:=by rw [←h22];congr 1;omega
  have hL:kD x=e22.values:=aJE i22
  rw [hL] at hT
  have q1:=gE i22
  have q3:bH e22=bX e22.columns+cM e22.values+bX e22.counts:=rfl
  have q6:bX e22.columns=e22.columns.length:=rfl
  have q7:bX e22.counts=e22.counts.length:=rfl
  have q8:=fL e22.values
  refine ⟨aMO _ _ _ (by omega),?_,?_,?_,?_,trivial⟩
  ·(rw [hT]<;>rfl)
  ·(rw [hT]<;>rfl)
  ·(rw [hT]<;>rfl)
  ·(rw [hT]<;>rfl)
abbrev uG (x:aB):Prop:=dG Tryz.prog 178 [.agg [.str x.name,.int .i64 x.arity,.int .i64 x.rowCount,.sl 218 3 (x.groups.map aA)]] (vB (bP x)) []
theorem aFD (x:aB) (hc:aW x≤1048576):uG x:=by
 refine aY bK aU Tryz.func178 (by kernel_rfl) (cI (xF x)<| .br (cI (yT ((lZ x).1))<| .call (vB (decide ((bB ((lZ x).1))=x))) []<| .fin []) (.fin [])) (p:=(x.groups.map aA).length≤9223372036854775807→aCi x∧((((lZ x).2)=true→aCK ((lZ x).1)∧qI (bB ((lZ x).1)) x∧(decide ((bB ((lZ x).1))=x))=(bP x)∧True)∧(((lZ x).2)=false→(false)=(bP x)∧True))) (by kernel_rfl) ?_
 intro n0
 simp only [List.length_map] at n0
 have hst:=aCd (lZ x).1
 have hsame:=aMD x
 refine ⟨aMP x (by omega),fun g11=>?_,fun g11=>?_⟩
 ·refine ⟨aLG ((lZ x).1),aBF _ _ (by omega),?_,trivial⟩
  ·first | (rw [←hsame,g11];simp;done) | (rw [←hsame];simp [*];done)
 ·refine ⟨?_,trivial⟩
  ·first | (rw [←hsame,g11];simp;done) | (rw [←hsame];simp [*];done)
end Go.Proofs.YtokkjaflmcjlhaaGreat
