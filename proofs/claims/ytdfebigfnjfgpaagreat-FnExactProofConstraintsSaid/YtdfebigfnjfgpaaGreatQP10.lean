/-
  Contracts and plain laws, joined: part 11.
-/
import Derived.Test.YtdfebigfnjfgpaaGreatQP9
import Derived.Shelf.SlicesE.Compact
import Derived.Ground.SlgnProg
import Derived.Test.YtdfebigfnjfgpaaGreatQP7
import Derived.Test.YtdfebigfnjfgpaaGreatQP4
import Derived.Shelf.SlicesE.Reverse
import Derived.Test.YtdfebigfnjfgpaaGreatQP8
namespace Go.Proofs
open Go.Shelf
namespace YtdfebigfnjfgpaaGreat
def Tryz.compInts_ren : Go.Shelf.Ren := ⟨fun | 43 => 229 | n => n, fun | 22 => 39 | 23 => 3 | 3 => 3 | 4 => 4 | 0 => 0 | n => n, fun | n => n⟩
theorem Tryz.compInts : Go.Proofs.SlLaysE.n43 Tryz.prog Tryz.compInts_ren := {
  mixed := by kernel_rfl
  f43 := ⟨Tryz.f229.name, by decide, Tryz.func229.trans (congrArg some (by kernel_rfl))⟩
  t0 := Tryz.underlying0
  a0 := Tryz.isAgg0
  z0 := Tryz.sizeOf0
  v0 := Tryz.zeroValue0
  t3 := Tryz.underlying3
  a3 := Tryz.isAgg3
  z3 := Tryz.sizeOf3
  v3 := Tryz.zeroValue3
  t4 := Tryz.underlying4
  a4 := Tryz.isAgg4
  z4 := Tryz.sizeOf4
  v4 := Tryz.zeroValue4
  t22 := Tryz.underlying39
  a22 := Tryz.isAgg39
  z22 := Tryz.sizeOf39
  v22 := Tryz.zeroValue39
  a23 := Tryz.isAgg3
  z23 := Tryz.sizeOf3 }
end YtdfebigfnjfgpaaGreat
end Go.Proofs
namespace Go.Proofs.YtdfebigfnjfgpaaGreat
open Go.ChangeShapes Go.WideShapes Go.ChangeAt Go.RowKit Go.Lib
set_option linter.unusedVariables false
set_option linter.unusedSimpArgs false
theorem aNK {P:Program} {f:FuncId} {e:Nat} (l m:List Int) (hc:lC P f=true) (hm:m.length≤l.length) (hm0:l= []→m= [])
 (hn0:l= []→ ∀w,Calls P f #[.slice none 0 0] w (fun ex w' =>ex= .returned (.slice none 0 0)∧w' =w))
 (hs: ∀(blk cap:Nat) (w:World),Go.Sort.Holds (Value.int .i64) w blk 0 l.toArray→blk<w.heap.size→l.length≤cap→Calls P f #[.slice (some ⟨blk,0,none⟩) l.length cap] w (fun ex w' =>ex= .returned (.slice (some ⟨blk,0,none⟩) m.length cap)∧ ∃n os z,(m++z).length=l.length∧w' =Go.Sort.grow (Go.Sort.putRow (Value.int .i64) (Go.Sort.ahead w n) blk 0 (m++z).toArray) os)):
 nA P f [.own 0] [(0,.arr e 1 true (l.map intD))] (.own 1) [(1,.arr e 1 true (m.map intD))]:=by
 refine ⟨hc,by simp,fun A φ w vs hI hM=>?_⟩
 obtain ⟨pl,hp,css,Fs,q1,q2,q3,q4⟩:=hI.dom 0 _ rfl
 unfold aT at hM
 obtain ⟨v,us,e1,m1,hM⟩:=hM
 unfold aT at hM
 unfold aH at m1
 have hv:=m1 pl hp
 have ev:vs= #[pl.val]:=by apply Array.ext';rw [e1,hM,hv]
 rw [ev]
 obtain ⟨c1,c2⟩:=aDt q4
 rw [c1,List.length_map] at q1
 have hge:=hI.ge 0 pl hp
 have hsub:pl.sub= []:=by rw [q3,c2]
 have hfoot: ∀b∈pl.F,aKG φ b:=fun b hb=>⟨0,pl,trivial,hp,hb⟩
 have h1:φ 1=none:=hI.non 1 rfl
 have hend: ∀(v' :Value) (w' :World),mN pl.F w w' →(∀b∈v'.ownBlock,b∈pl.val.ownBlock)→w'.ownsRow 0 e 1 v' m.length (m.map (Value.int .i64))→
  ∃v K φ',Ending.returned v' = .returned v∧aOq A φ w [(1,.arr e 1 true (m.map intD))] K φ' w' ∧aH K φ' w' (.own 1) v:=by
  intro v' w' hon hvb howns
  let pl' :Pl:=⟨v',v'.ownBlock.toList,[]⟩
  have hmem: ∀g,g∈pl'.F→g∈pl.F:=fun g hg=>by
   unfold Pl.F
   simp only [pl',Pl.F,List.append_nil,Option.mem_toList] at hg
   rw [q2]
   exact List.mem_append_left _ (by rw [Option.mem_toList];exact hvb g hg)
  have hnd' :pl'.F.Nodup:=by simp only [pl',Pl.F,List.append_nil];cases v'.ownBlock<;>simp
  refine ⟨_,A,fun h=>if h=1 then some pl' else none,rfl,⟨⟨hon.os,hon.tape,hon.output,hon.size,fun b hb hn=>hon.block b hb (fun hm=>hn (hfoot b hm))⟩,fun _ h=>h,fun b hb=>⟨Nat.lt_of_lt_of_le (hI.lt b hb) hon.size,.inl hb⟩,fun b hb h pl1 e' hm' =>?_,fun h r hr=>?_,fun h hr=>?_,fun h h' pl1 pl2 hne ea eb=>?_,fun h pl1 e' =>?_,fun h pl1 e' g hg=>?_,fun h pl1 pl0 e' e0=>?_⟩,?_⟩
  ·split at e'
   ·injection e' with e';subst e'
    exact hI.out b hb 0 pl hp (hmem b hm')
   ·cases e'
  ·simp only [bC] at hr
   split at hr
   ·rename_i eh
    subst eh
    injection hr with hr
    subst hr
    refine ⟨pl',by simp,m.map fun n=>[Value.int .i64 n],m.map fun _=>[],?_,rfl,?_,wM _ m⟩
    ·rw [aDu,List.length_map];exact howns
    ·simp [pl']
   ·cases hr
  ·simp only [bC] at hr
   split at hr
   ·cases hr
   ·rename_i eh;exact if_neg eh
  ·split at ea
   ·split at eb
    ·rename_i x y;exact absurd (x.trans y.symm) hne
    ·cases eb
   ·cases ea
  ·split at e'
   ·injection e' with e';subst e';exact hnd'
   ·cases e'
  ·split at e'
   ·injection e' with e';subst e'
    have:=hmem g hg
    exact ⟨.inr (hfoot g this),Nat.lt_of_lt_of_le (hge g this) hon.size⟩
   ·cases e'
  ·split at e'
   ·rename_i eh
    subst eh
    rw [h1] at e0;cases e0
   ·cases e'
  ·unfold aH
   intro pl1 e'
   simp at e'
   subst e'
   rfl
 rcases q1.2 with ⟨hvn,hz⟩ | ⟨g,cap,cur,hvv,hg0,hb,hn,hcap,hsz,htk⟩
 ·have hz' :l= []:=List.eq_nil_of_length_eq_zero hz
  rw [hvn]
  refine (hn0 hz' w).mono ?_
  rintro en w' ⟨rfl,rfl⟩
  refine hend (.slice none 0 0) w' (mN.refl _ _) (fun b hb=>by cases hb) ?_
  rw [hm0 hz']
  exact ⟨by simp,.inl ⟨rfl,rfl⟩⟩
 ·have hlt:g<w.heap.size:=(Array.getElem?_eq_some_iff.1 hb).1
  have hH:Go.Sort.Holds (Value.int .i64) w g 0 l.toArray:=holds_of_blockI hb (by rw [Nat.mul_one] at htk;exact htk)
  rw [hvv]
  refine (hs g cap w hH hlt hn).mono ?_
  rintro en w' ⟨rfl,n,os,z,hz,rfl⟩
  have hgb:=grownBy_sortedI (w:=w) (g:=g) (n:=n) (os:=os) (m++z).toArray
  have hown:=ownsRow_sortedI (n:=n) (os:=os) hz hg0 hb hn hcap hsz
  refine hend _ _ ⟨hgb.os,hgb.tape,hgb.output,hgb.size,fun k hk hne=>hgb.block k hk (fun e=>hne (by injection e with e;subst e;unfold Pl.F;rw [q2,hvv];simp [Value.ownBlock]))⟩ (fun b hb' =>by rw [hvv];exact hb') ?_
  rcases hown.2 with ⟨hvn,_⟩ | ⟨g',cap',cur',hv',hg',hb',hn',hcap',hsz',htk'⟩
  ·cases hvn
  ·simp only [Value.slice.injEq,Option.some.injEq,Addr.mk.injEq,and_true] at hv'
   obtain ⟨rfl,_,rfl⟩:=hv'
   refine ⟨by simp,.inr ⟨g,cap,cur',rfl,hg',hb',by omega,hcap',hsz',?_⟩⟩
   rw [Nat.mul_one] at*
   have h3:=congrArg (List.take m.length) htk'
   rw [List.take_take,Nat.min_eq_left hm,List.map_append,List.take_append_of_le_length (by simp)] at h3
   rw [h3,List.take_of_length_le (by simp)]
def tZ (l:List Int):List Int:=compactUpTo l.toArray l.toArray.size
theorem aLx (l:List Int):(tZ l).length≤l.length:=by
 unfold tZ compactUpTo
 rw [List.length_map]
 have:=(List.filter_sublist (l:=List.range l.toArray.size) (p:=keeps l.toArray)).length_le
 simpa using this
theorem aJ7 {l:List Int}:tZ l= []↔l= []:=by
 constructor
 ·intro h
  by_cases e:l= []
  ·exact e
  ·exfalso
   have hp:0<l.length:=List.length_pos_iff.2 e
   unfold tZ compactUpTo at h
   rw [List.map_eq_nil_iff,List.filter_eq_nil_iff] at h
   exact h 0 (List.mem_range.2 (by simpa using hp)) (keeps_lt_one _ 0 (by omega))
 ·rintro rfl;rfl
theorem tyI:gU Tryz.prog 3=some (false,1,8,.int .i64 0):=by kernel_rfl
theorem aVS (w:World):(zeroValue 3).run Tryz.prog w= .ok (.int .i64 0) w:=(iE tyI w).2.2.1
theorem aPN (l:List Int) (hl:l.length<4611686018427387904):nA Tryz.prog 229 [.own 0] [(0,.arr 3 1 true (l.map intD))] (.own 1) [(1,.arr 3 1 true ((tZ l).map intD))]:=
 aNK l (tZ l) (by kernel_rfl) (aLx l) (fun h=>aJ7.2 h)
  (fun h w=>by
   go_enter Tryz.func229,Tryz.ntmps229
   go_wp2
   go_ret
   exact ⟨rfl,rfl⟩)
  (fun blk cap w hH hblk hn=>(AnyE.slices_Compact Tryz.compInts (Value.int .i64) (fun _=>rfl) (EqlAt.intD _ _ .i64) (NeqAt.intD _ _ .i64) 0 (fun w=>aVS w) blk 0 cap l.toArray w hH (by rw [List.size_toArray];omega) (by rw [List.size_toArray];exact hn)).mono fun e w' ⟨he,q,hw⟩=>
   ⟨by have e1:l.toArray.size=l.length:=by simp
       rw [e1] at he;unfold tZ;rw [e1];exact he,q,#[],List.replicate (l.length - (tZ l).length) 0,by have:=aLx l;simp;omega,by rw [hw,Go.Sort.grow_empty];simp [tZ]⟩)
end Go.Proofs.YtdfebigfnjfgpaaGreat
namespace Go.Proofs.YtdfebigfnjfgpaaGreat
open Go.ChangeShapes Go.WideShapes Go.ChangeAt Go.RowKit
set_option linter.unusedVariables false
set_option linter.unusedSimpArgs false
set_option maxRecDepth 100000
set_option maxHeartbeats 4000000
def eL (d:aV) (x:aL):Bool:=(aI d x.name).2&&((aI d x.into).2&&(dW x.column 0 ((aI d x.name).1.arity - 1)&&dW x.intoColumn 0 ((aI d x.into).1.arity - 1)))
def iS (rows:List (List Int)) (c:Int):List Int:=rows.map fun r=>r.getD c.toNat 0
def aEZ (d:aV) (x:aL):List Int:=(iS (aI d x.name).1.rows x.column).filter fun v=> !decide (v∈iS (aI d x.into).1.rows x.intoColumn)
def xJ (d:aV) (x:aL):List Int:=if eL d x=true then tZ (kH (aEZ d x)) else []
def aCv (d:aV) (x:aL) (v:Nat):Bool:=decide ((v:Int)∈iS (aI d x.name).1.rows x.column)&& !decide ((v:Int)∈iS (aI d x.into).1.rows x.intoColumn)
def oQ (d:aV) (x:aL) (n:Nat):List Int:=((List.range n).filter (aCv d x)).map fun v:Nat=>(v:Int)
def xK (d:aV) (x:aL):List Int:=if eL d x=true then oQ d x 10 else []
def jE (d:aV) (x:aL):Bool:=eL d x&&decide (aEZ d x= [])
theorem aPO {d:aV} {x:aL} {v:Nat} (h:aCv d x v=true):oQ d x (v+1)=oQ d x v++[(v:Int)]:=by
 rw [oQ,List.range_succ,List.filter_append,List.map_append]
 simp [oQ,h]
theorem aLy {d:aV} {x:aL} {v:Nat} (h:aCv d x v=false):oQ d x (v+1)=oQ d x v:=by
 rw [oQ,List.range_succ,List.filter_append,List.map_append]
 simp [oQ,h]
theorem aPP (d:aV) (x:aL) (v:Nat):(oQ d x v).length≤v:=by
 rw [oQ,List.length_map]
 have:=List.length_filter_le (aCv d x) (List.range v)
 rwa [List.length_range] at this
theorem nC (rows:List (List Int)) (c:Int) {k:Nat} {r:List Int} (h:rows[k]? =some r):iS (rows.take (k+1)) c=iS (rows.take k) c++[r.getD c.toNat 0]:=by rw [bP h,iS,List.map_append];rfl
theorem vH {l:List Int} {v y:Int}:decide (v∈l++[y])=(decide (v∈l) || decide (v=y)):=by simp [Bool.decide_or]
theorem aPQ {t:aS} {c:Int} {v:Int} (h:aU t=true) (hc:0≤c∧c≤t.arity - 1) (hv:v∈iS t.rows c):0≤v∧v≤9:=by
 obtain ⟨r,hr,rfl⟩:=List.mem_map.1 hv
 have hl:=pV h hr
 have hk:=List.all_eq_true.1 (pU h).1 r hr
 simp only [iK,Bool.and_eq_true,decide_eq_true_eq] at hk
 have hlt:c.toNat<r.length:=by omega
 have hm:r.getD c.toNat 0∈r:=by rw [List.getD_eq_getElem?_getD,List.getElem?_eq_getElem hlt];exact List.getElem_mem hlt
 exact eY (List.all_eq_true.1 hk.1 _ hm)
theorem zU {d:aV} {x:aL} (h:eL d x=true):aU (aI d x.name).1=true∧aU (aI d x.into).1=true∧(0≤x.column∧x.column≤(aI d x.name).1.arity - 1)∧(0≤x.intoColumn∧x.intoColumn≤(aI d x.into).1.arity - 1):=by
 simp only [eL,Bool.and_eq_true] at h
 obtain ⟨h1,h2,h3,h4⟩:=h
 exact ⟨(oF h1).1,(oF h2).1,eY h3,eY h4⟩
theorem aJ8 {d:aV} {x:aL} (h:eL d x=true):decide (xJ d x= [])=decide (aEZ d x= []):=by
 rw [xJ,if_pos h]
 apply Bool.eq_iff_iff.2
 rw [decide_eq_true_eq,decide_eq_true_eq,aJ7]
 constructor
 ·intro q
  have:=vG (aEZ d x)
  rw [q] at this
  exact List.eq_nil_of_length_eq_zero this.symm
 ·intro q
  have:=vG (aEZ d x)
  rw [q] at this
  rw [q]
  exact List.eq_nil_of_length_eq_zero this
theorem aJ9 {d:aV} {x:aL} (h:eL d x=true):decide (xK d x= [])=decide (aEZ d x= []):=by
 obtain ⟨h1,_,h3,_⟩:=zU h
 rw [xK,if_pos h]
 apply Bool.eq_iff_iff.2
 rw [decide_eq_true_eq,decide_eq_true_eq,oQ,List.map_eq_nil_iff,List.filter_eq_nil_iff,aEZ,List.filter_eq_nil_iff]
 constructor
 ·intro q v hv hb
  have hr:=aPQ h1 h3 hv
  refine q v.toNat (List.mem_range.2 (by omega)) ?_
  rw [aCv,Int.toNat_of_nonneg hr.1]
  simp only [Bool.and_eq_true,decide_eq_true_eq]
  exact ⟨hv,hb⟩
 ·intro q v _ hb
  rw [aCv,Bool.and_eq_true,decide_eq_true_eq] at hb
  exact q _ hb.1 hb.2
abbrev wN (d:aV) (x:aL):Prop:=cX Tryz.prog 209 [.agg [.sl 167 3 (d.tables.map aP)],.agg [.str x.name,.int .i64 x.column,.str x.into,.int .i64 x.intoColumn]] (vB (eL d x)) []
theorem aGx (d:aV) (x:aL) (hc:bH d≤1048576):wN d x:=by
 refine aX bG aR Tryz.func209 (by kernel_rfl) (.call (.tup [.agg [.p none (.str (((aI d x.name).1).name)),vI (((aI d x.name).1).arity),.p none (.sl 39 1 ((((aI d x.name).1).rows).map aC))],vB ((aI d x.name).2)]) []<| .call (.tup [.agg [.p none (.str (((aI d x.into).1).name)),vI (((aI d x.into).1).arity),.p none (.sl 39 1 ((((aI d x.into).1).rows).map aC))],vB ((aI d x.into).2)]) []<| .br (.lit<| .br (.raw<| .call (vB (dW x.column (0:Int) (IntKind.i64.wrap ((((aI d x.name).1).arity) - (1:Int))))) []<| .lit<| .br (.raw<| .call (vB (dW x.intoColumn (0:Int) (IntKind.i64.wrap ((((aI d x.into).1).arity) - (1:Int))))) []<| .fin []) (.fin [])) (.fin [])) (.fin [])) (p:=(d.tables.map aP).length≤9223372036854775807→cX Tryz.prog 150 [.agg [.sl 167 3 (d.tables.map aP)],.one (.str x.name)] (.tup [.agg [.p none (.str (((aI d x.name).1).name)),vI (((aI d x.name).1).arity),.p none (.sl 39 1 ((((aI d x.name).1).rows).map aC))],vB ((aI d x.name).2)]) []∧(cX Tryz.prog 150 [.agg [.sl 167 3 (d.tables.map aP)],.one (.str x.into)] (.tup [.agg [.p none (.str (((aI d x.into).1).name)),vI (((aI d x.into).1).arity),.p none (.sl 39 1 ((((aI d x.into).1).rows).map aC))],vB ((aI d x.into).2)]) []∧((((aI d x.name).2)=true→(((aI d x.into).2)=true→fN x.column (0:Int) (IntKind.i64.wrap ((((aI d x.name).1).arity) - (1:Int)))∧(((dW x.column (0:Int) (IntKind.i64.wrap ((((aI d x.name).1).arity) - (1:Int))))=true→fN x.intoColumn (0:Int) (IntKind.i64.wrap ((((aI d x.into).1).arity) - (1:Int)))∧(dW x.intoColumn (0:Int) (IntKind.i64.wrap ((((aI d x.into).1).arity) - (1:Int))))=(eL d x)∧True)∧((dW x.column (0:Int) (IntKind.i64.wrap ((((aI d x.name).1).arity) - (1:Int))))=false→(false)=(eL d x)∧True)))∧(((aI d x.into).2)=false→(false)=(eL d x)∧True))∧(((aI d x.name).2)=false→(false)=(eL d x)∧True)))) (by kernel_rfl) ?_
 intro n0
 simp only [List.length_map] at n0
 refine ⟨kJ (sR _ x.name (by omega)) rfl,kJ (sR _ x.into (by omega)) rfl,fun g24=>?_,fun g24=>?_⟩
 ·have hT:=(oF g24).1
  have hA:=cN hT
  have hw:IntKind.i64.wrap ((aI d x.name).1.arity - 1)=(aI d x.name).1.arity - 1:=IntWalk.i64_in _ ⟨by omega,by omega⟩
  try rw [hw]
  refine ⟨fun g27=>?_,fun g27=>?_⟩
  ·have hT2:=(oF g27).1
   have hA2:=cN hT2
   have hw2:IntKind.i64.wrap ((aI d x.into).1.arity - 1)=(aI d x.into).1.arity - 1:=IntWalk.i64_in _ ⟨by omega,by omega⟩
   try rw [hw2]
   refine ⟨jG _ _ _,fun g35=>?_,fun g35=>?_⟩
   ·refine ⟨jG _ _ _,?_,trivial⟩
    ·first | (simp [eL, *];done) | (simp [eL, *] at*;simp [*];done) | (simp_all [eL];done)
   ·refine ⟨?_,trivial⟩
    ·first | (simp [eL, *];done) | (simp [eL, *] at*;simp [*];done) | (simp_all [eL];done)
  ·refine ⟨?_,trivial⟩
   ·first | (simp [eL, *];done) | (simp [eL, *] at*;simp [*];done) | (simp_all [eL];done)
 ·refine ⟨?_,trivial⟩
  ·first | (simp [eL, *];done) | (simp [eL, *] at*;simp [*];done) | (simp_all [eL];done)
abbrev wO (d:aV) (x:aL):Prop:=cX Tryz.prog 215 [.agg [.sl 167 3 (d.tables.map aP)],.agg [.str x.name,.int .i64 x.column,.str x.into,.int .i64 x.intoColumn]] (vB (eL d x)) []
theorem aGy (d:aV) (x:aL) (hc:bH d≤1048576):wO d x:=by
 refine aX bG aR Tryz.func215 (by kernel_rfl) (.call (.tup [.agg [.p none (.str (((aI d x.name).1).name)),vI (((aI d x.name).1).arity),.p none (.sl 39 1 ((((aI d x.name).1).rows).map aC))],vB ((aI d x.name).2)]) []<| .call (.tup [.agg [.p none (.str (((aI d x.into).1).name)),vI (((aI d x.into).1).arity),.p none (.sl 39 1 ((((aI d x.into).1).rows).map aC))],vB ((aI d x.into).2)]) []<| .br (.lit<| .br (.raw<| .call (vB (dW x.column (0:Int) (IntKind.i64.wrap ((((aI d x.name).1).arity) - (1:Int))))) []<| .lit<| .br (.raw<| .call (vB (dW x.intoColumn (0:Int) (IntKind.i64.wrap ((((aI d x.into).1).arity) - (1:Int))))) []<| .fin []) (.fin [])) (.fin [])) (.fin [])) (p:=(d.tables.map aP).length≤9223372036854775807→cX Tryz.prog 168 [.agg [.sl 167 3 (d.tables.map aP)],.one (.str x.name)] (.tup [.agg [.p none (.str (((aI d x.name).1).name)),vI (((aI d x.name).1).arity),.p none (.sl 39 1 ((((aI d x.name).1).rows).map aC))],vB ((aI d x.name).2)]) []∧(cX Tryz.prog 168 [.agg [.sl 167 3 (d.tables.map aP)],.one (.str x.into)] (.tup [.agg [.p none (.str (((aI d x.into).1).name)),vI (((aI d x.into).1).arity),.p none (.sl 39 1 ((((aI d x.into).1).rows).map aC))],vB ((aI d x.into).2)]) []∧((((aI d x.name).2)=true→(((aI d x.into).2)=true→fO x.column (0:Int) (IntKind.i64.wrap ((((aI d x.name).1).arity) - (1:Int)))∧(((dW x.column (0:Int) (IntKind.i64.wrap ((((aI d x.name).1).arity) - (1:Int))))=true→fO x.intoColumn (0:Int) (IntKind.i64.wrap ((((aI d x.into).1).arity) - (1:Int)))∧(dW x.intoColumn (0:Int) (IntKind.i64.wrap ((((aI d x.into).1).arity) - (1:Int))))=(eL d x)∧True)∧((dW x.column (0:Int) (IntKind.i64.wrap ((((aI d x.name).1).arity) - (1:Int))))=false→(false)=(eL d x)∧True)))∧(((aI d x.into).2)=false→(false)=(eL d x)∧True))∧(((aI d x.name).2)=false→(false)=(eL d x)∧True)))) (by kernel_rfl) ?_
 intro n0
 simp only [List.length_map] at n0
 refine ⟨kJ (sS _ x.name (by omega)) rfl,kJ (sS _ x.into (by omega)) rfl,fun g24=>?_,fun g24=>?_⟩
 ·have hT:=(oF g24).1
  have hA:=cN hT
  have hw:IntKind.i64.wrap ((aI d x.name).1.arity - 1)=(aI d x.name).1.arity - 1:=IntWalk.i64_in _ ⟨by omega,by omega⟩
  try rw [hw]
  refine ⟨fun g27=>?_,fun g27=>?_⟩
  ·have hT2:=(oF g27).1
   have hA2:=cN hT2
   have hw2:IntKind.i64.wrap ((aI d x.into).1.arity - 1)=(aI d x.into).1.arity - 1:=IntWalk.i64_in _ ⟨by omega,by omega⟩
   try rw [hw2]
   refine ⟨jH _ _ _,fun g35=>?_,fun g35=>?_⟩
   ·refine ⟨jH _ _ _,?_,trivial⟩
    ·first | (simp [eL, *];done) | (simp [eL, *] at*;simp [*];done) | (simp_all [eL];done)
   ·refine ⟨?_,trivial⟩
    ·first | (simp [eL, *];done) | (simp [eL, *] at*;simp [*];done) | (simp_all [eL];done)
  ·refine ⟨?_,trivial⟩
   ·first | (simp [eL, *];done) | (simp [eL, *] at*;simp [*];done) | (simp_all [eL];done)
 ·refine ⟨?_,trivial⟩
  ·first | (simp [eL, *];done) | (simp [eL, *] at*;simp [*];done) | (simp_all [eL];done)
def b4 (a b c d:Bool):Int:=(if a then 1 else 0)+(if b then 2 else 0)+(if c then 4 else 0)+(if d then 8 else 0)
def m4 (p:Nat→Bool):Int:=b4 (p 0) (p 1) (p 2) (p 3)
theorem lt4 {P:Nat→Prop} (h0:P 0) (h1:P 1) (h2:P 2) (h3:P 3) {i:Nat} (hi:i<4):P i:=by
 have h:i=0∨i=1∨i=2∨i=3:=by omega
 rcases h with rfl | rfl | rfl | rfl<;>assumption
theorem aUs (a b c d:Bool):gH (b4 a b c d) 0=a∧gH (b4 a b c d) 1=b∧gH (b4 a b c d) 2=c∧gH (b4 a b c d) 3=d:=by
 cases a<;>cases b<;>cases c<;>cases d<;>decide
theorem aUt {p:Nat→Bool} {v:Nat} (hv:v<4):gH (m4 p) v=p v:=by
 have h:=aUs (p 0) (p 1) (p 2) (p 3)
 exact lt4 (P:=fun v=>gH (m4 p) v=p v) h.1 h.2.1 h.2.2.1 h.2.2.2 hv
theorem aRg (a b c d:Bool):0≤b4 a b c d∧b4 a b c d≤15:=by cases a<;>cases b<;>cases c<;>cases d<;>decide
theorem aRh (p:Nat→Bool):0≤m4 p∧m4 p≤15:=aRg _ _ _ _
theorem aVT (a b c d:Bool):cH .or .i64 (b4 a b c d) (1*2^0)=b4 true b c d∧cH .or .i64 (b4 a b c d) (1*2^1)=b4 a true c d∧cH .or .i64 (b4 a b c d) (1*2^2)=b4 a b true d∧cH .or .i64 (b4 a b c d) (1*2^3)=b4 a b c true:=by
 cases a<;>cases b<;>cases c<;>cases d<;>decide
theorem aRi {p:Nat→Bool} {v:Nat} (hv:v<4):cH .or .i64 (m4 p) ((1:Int)*2^v)=m4 (fun i=>p i || decide (i=v)):=by
 have h:=aVT (p 0) (p 1) (p 2) (p 3)
 refine lt4 (P:=fun v=>cH .or .i64 (m4 p) ((1:Int)*2^v)=m4 (fun i=>p i || decide (i=v))) ?_ ?_ ?_ ?_ hv
 ·simpa [m4] using h.1
 ·simpa [m4] using h.2.1
 ·simpa [m4] using h.2.2.1
 ·simpa [m4] using h.2.2.2
theorem aT7 (a b c d:Bool):decide (b4 a b c d=(1:Int)*2^(4:Int).toNat - 1)=(a&&(b&&(c&&(d&&true)))):=by cases a<;>cases b<;>cases c<;>cases d<;>decide
theorem wP {p:Nat→Bool} {n:Int} (hn:1≤n∧n≤4) (hp: ∀i,n.toNat≤i→p i=false):decide (m4 p=(1:Int)*2^n.toNat - 1)=(List.range n.toNat).all p:=by
 have h:n=1∨n=2∨n=3∨n=4:=by omega
 rcases h with rfl | rfl | rfl | rfl
 ·have h1:=hp 1 (by decide);have h2:=hp 2 (by decide);have h3:=hp 3 (by decide)
  simp only [m4,h1,h2,h3];show _=(List.range 1).all p
  simp only [List.range,List.range.loop,List.all_cons,List.all_nil]
  cases p 0<;>decide
 ·have h2:=hp 2 (by decide);have h3:=hp 3 (by decide)
  simp only [m4,h2,h3];show _=(List.range 2).all p
  simp only [List.range,List.range.loop,List.all_cons,List.all_nil]
  cases p 0<;>cases p 1<;>decide
 ·have h3:=hp 3 (by decide)
  simp only [m4,h3];show _=(List.range 3).all p
  simp only [List.range,List.range.loop,List.all_cons,List.all_nil]
  cases p 0<;>cases p 1<;>cases p 2<;>decide
 ·simp only [m4];show _=(List.range 4).all p
  simp only [List.range,List.range.loop,List.all_cons,List.all_nil]
  exact aT7 _ _ _ _
theorem aUu {m:Int} {v:Nat} (h:0≤m∧m≤15) (hv:v<4):cH .and .i64 (m/2^v) 1=if gH m v=true then 1 else 0:=by
 have h1:m=0∨m=1∨m=2∨m=3∨m=4∨m=5∨m=6∨m=7∨m=8∨m=9∨m=10∨m=11∨m=12∨m=13∨m=14∨m=15:=by omega
 refine lt4 (P:=fun v=>cH .and .i64 (m/2^v) 1=if gH m v=true then 1 else 0) ?_ ?_ ?_ ?_ hv<;>rcases h1 with rfl | rfl | rfl | rfl | rfl | rfl | rfl | rfl | rfl | rfl | rfl | rfl | rfl | rfl | rfl | rfl<;>decide
theorem aAp {m:Int} {v:Nat} (h:cH .and .i64 (m/2^v) 1=1):gH m v=true:=by rw [gH,h];rfl
theorem qW {m:Int} {v:Nat} (h: ¬cH .and .i64 (m/2^v) 1=1):gH m v=false:=by rw [gH];simpa using h
theorem aRj {m:Int} {v:Nat} (h:0≤m∧m≤15) (hv:v<4):decide (cH .and .i64 (m/2^v) 1=0)= !gH m v:=by
 rw [aUu h hv];cases gH m v<;>rfl
def fX (p:Nat→Bool) (k:Nat):List Int:=((List.range k).filter p).map fun v:Nat=>(v:Int)
theorem jS {p:Nat→Bool} {k:Nat} (h:p k=true):fX p (k+1)=fX p k++[(k:Int)]:=by
 rw [fX,List.range_succ,List.filter_append,List.map_append]
 simp [fX,h]
theorem kW {p:Nat→Bool} {k:Nat} (h:p k=false):fX p (k+1)=fX p k:=by
 rw [fX,List.range_succ,List.filter_append,List.map_append]
 simp [fX,h]
theorem qO (p:Nat→Bool) (k:Nat):(fX p k).length≤k:=by
 rw [fX,List.length_map]
 have:=(List.filter_sublist (l:=List.range k) (p:=p)).length_le
 rw [List.length_range] at this
 exact this
theorem aNL {p q:Nat→Bool} {k:Nat} (h: ∀v,v<k→p v=q v):fX p k=fX q k:=by
 rw [fX,fX,List.filter_congr fun v hv=>h v (List.mem_range.1 hv)]
theorem aLz {p:Nat→Bool} {k:Nat} {x:Int}:x∈fX p k↔0≤x∧x.toNat<k∧p x.toNat=true:=by
 rw [fX,List.mem_map]
 constructor
 ·rintro ⟨v,hv,rfl⟩
  rw [List.mem_filter,List.mem_range] at hv
  exact ⟨by omega,by simpa using hv.1,by simpa using hv.2⟩
 ·rintro ⟨h0,h1,h2⟩
  exact ⟨x.toNat,List.mem_filter.2 ⟨List.mem_range.2 h1,h2⟩,by omega⟩
theorem aGz {p:Nat→Bool} {n:Nat}: ∀{k:Nat},n≤k→(∀v,n≤v→v<k→p v=false)→fX p k=fX p n
 | 0,h,_=>by rw [show n=0 by omega]
 | k+1,h,hp=>by
   by_cases e:n=k+1
   ·rw [e]
   ·rw [kW (hp k (by omega) (by omega)),aGz (by omega) fun v h1 h2=>hp v h1 (by omega)]
def kT (n:Int) (l:List Int) (k:Nat):Bool:=dW (l.getD k 0) 0 (n - 1)&& !decide (l.getD k 0∈l.take k)
def zV (n:Int) (l:List Int):Bool:=(List.range l.length).all (kT n l)
def eP (n:Int) (a:bZ):Bool:=eJ a.name&&(dW (a.vars.length:Nat) 1 3&&zV n a.vars)
def aFP (l:List bZ) (v:Nat):Bool:=l.any fun a=>decide ((v:Int)∈a.vars)
def cL (q:QueryD):Bool:=(dW q.variableCount 1 4&&dW (q.atoms.length:Nat) 1 4)&&(q.atoms.all (eP q.variableCount)&&(List.range q.variableCount.toNat).all (aFP q.atoms))
def iM (l:List bZ) (k:Nat) (a:List Int) (i v:Nat):Bool:=aFP (l.take k) v || decide ((v:Int)∈a.take i)
theorem aHA (l:List bZ) (k:Nat) (a b:List Int):iM l k a 0=iM l k b 0:=by funext v;simp [iM]
theorem aHB {l:List bZ} {k i:Nat} {a:List Int} {x:Int} (h:a[i]? =some x) (hx:0≤x):(fun v=>iM l k a i v || decide (v=x.toNat))=iM l k a (i+1):=by
 funext v
 rw [iM,iM,bP h,vH,Bool.or_assoc]
 congr 2
 exact decide_eq_decide.2 (by omega)
theorem aPR {l:List bZ} {k:Nat} {a:bZ} (h:l[k]? =some a) (v:Nat):aFP (l.take (k+1)) v=(aFP (l.take k) v || decide ((v:Int)∈a.vars)):=by
 rw [aFP,bP h,List.any_append]
 simp [aFP]
theorem aHC {l:List bZ} {k i:Nat} {a:bZ} (h:l[k]? =some a) (hi:a.vars.length≤i) (b:List Int):iM l k a.vars i=iM l (k+1) b 0:=by
 funext v
 rw [iM,iM,aPR h,List.take_of_length_le hi]
 simp
theorem iF {l:List bZ} {k:Nat} (hk:l.length≤k) (b:List Int):iM l k b 0=aFP l:=by
 funext v
 rw [iM,List.take_of_length_le hk]
 simp
theorem aRk {n v:Nat} (p:Nat→Bool):((List.range n).map p).set v true=(List.range n).map fun i=>p i || decide (i=v):=by
 apply List.ext_getElem?
 intro i
 rw [List.getElem?_set,List.getElem?_map,List.getElem?_map]
 by_cases hi:i<n
 ·rw [List.getElem?_range hi,List.length_map,List.length_range]
  by_cases e:v=i
  ·subst e;simp [hi]
  ·simp [e,show ¬i=v from fun q=>e q.symm]
 ·rw [show (List.range n)[i]? =none from List.getElem?_eq_none (by simp;omega)]
  by_cases e:v=i
  ·subst e;simp [hi]
  ·simp [e]
theorem sT {n:Nat} (p:Nat→Bool):(!decide (false∈(List.range n).map p))=(List.range n).all p:=by
 apply Bool.eq_iff_iff.2
 rw [Bool.not_eq_true',decide_eq_false_iff_not,List.all_eq_true]
 constructor
 ·intro h x hx
  cases e:p x with
  | true=>rfl
  | false=>exact absurd (List.mem_map.2 ⟨x,hx,e⟩) h
 ·intro h hm
  obtain ⟨x,hx,e⟩:=List.mem_map.1 hm
  rw [h x hx] at e;cases e
theorem oG {q:QueryD} (h:(dW q.variableCount 1 4&&dW (q.atoms.length:Nat) 1 4)=false):cL q=false:=by rw [cL,h];rfl
theorem jT {q:QueryD} {k:Nat} {a:bZ} (h:q.atoms[k]? =some a) (ha:eP q.variableCount a=false):cL q=false:=by rw [cL,bU h ha];simp
theorem lU {q:QueryD} (h:(dW q.variableCount 1 4&&dW (q.atoms.length:Nat) 1 4)=true) (ha:q.atoms.all (eP q.variableCount)=true):cL q=(List.range q.variableCount.toNat).all (aFP q.atoms):=by rw [cL,h,ha];rfl
theorem aPS {n:Int} {l:List Int} (h:zV n l=true) {x:Int} (hx:x∈l):0≤x∧x≤n - 1:=by
 obtain ⟨i,hi,rfl⟩:=List.mem_iff_getElem.1 hx
 have:=List.all_eq_true.1 h i (List.mem_range.2 hi)
 simp only [kT,Bool.and_eq_true] at this
 have:=eY this.1
 rwa [List.getD_eq_getElem?_getD,List.getElem?_eq_getElem hi,Option.getD_some] at this
theorem aBq {n:Int} {a:bZ} (h:eP n a=true):eJ a.name=true∧(1≤a.vars.length∧a.vars.length≤3)∧ ∀x∈a.vars,0≤x∧x≤n - 1:=by
 simp only [eP,Bool.and_eq_true] at h
 have h2:=eY h.2.1
 exact ⟨h.1,⟨by omega,by omega⟩,fun x hx=>aPS h.2.2 hx⟩
theorem gR {q:QueryD} (h:cL q=true):(1≤q.variableCount∧q.variableCount≤4)∧(1≤q.atoms.length∧q.atoms.length≤4)∧ ∀a∈q.atoms,eP q.variableCount a=true:=by
 simp only [cL,Bool.and_eq_true] at h
 have h1:=eY h.1.1
 have h2:=eY h.1.2
 exact ⟨h1,⟨by omega,by omega⟩,fun a ha=>List.all_eq_true.1 h.2.1 a ha⟩
theorem sU {n:Int} {l:List bZ} (h:l.all (eP n)=true) (h0:1≤n) {v:Nat} (hv:n.toNat≤v):aFP l v=false:=by
 rw [aFP,List.any_eq_false]
 intro a ha hm
 have:=(aBq (List.all_eq_true.1 h a ha)).2.2 v (by simpa using hm)
 omega
def wQ (q:QueryD) (m:Int) (i v:Nat):Bool:=(List.range i).any fun j=>gH m j&&decide ((v:Int)∈(q.atoms.getD j iZ).vars)
def inM (q:QueryD) (m:Int) (v:Nat):Bool:=wQ q m q.atoms.length v
def aE0 (q:QueryD) (m:Int):List Int:=fX (inM q m) q.variableCount.toNat
def jF (q:QueryD) (m:Int):Bool:=cL q&&dW m 0 ((1:Int)*2^q.atoms.length - 1)
def cJ (q:QueryD) (m:Int):List Int:=if jF q m=true then aE0 q m else []
def fV (m:Int):List Int:=if dW m 0 15=true then fX (gH m) 4 else []
def nK (q:QueryD):Int:=if cL q=true then (1:Int)*2^q.atoms.length - 1 else 0
theorem aAq {q:QueryD} {m:Int} (h:jF q m=true):cJ q m=aE0 q m:=by rw [cJ,if_pos h]
theorem aCw {q:QueryD} {m:Int} (h:jF q m=false):cJ q m= []:=by rw [cJ,if_neg (by rw [h];decide)]
theorem aAr {m:Int} (h:dW m 0 15=true):fV m=fX (gH m) 4:=by rw [fV,if_pos h]
theorem aHD {m:Int} (h:dW m 0 15=false):fV m= []:=by rw [fV,if_neg (by rw [h];decide)]
theorem vJ {q:QueryD} (h:cL q=true):nK q=(1:Int)*2^q.atoms.length - 1:=by rw [nK,if_pos h]
theorem aCx {q:QueryD} (h:cL q=false):nK q=0:=by rw [nK,if_neg (by rw [h];decide)]
theorem aAs (q:QueryD) (m:Int) (i v:Nat):wQ q m (i+1) v=(wQ q m i v || (gH m i&&decide ((v:Int)∈(q.atoms.getD i iZ).vars))):=by
 rw [wQ,List.range_succ,List.any_append]
 simp [wQ]
theorem aMA {q:QueryD} (h:cL q=true) (m:Int) {v:Nat} (hv:q.variableCount.toNat≤v): ∀{i},i≤q.atoms.length→wQ q m i v=false
 | 0,_=>rfl
 | i+1,hi=>by
   obtain ⟨h1,_,h2⟩:=gR h
   obtain ⟨a,ha⟩:=cK (l:=q.atoms) (k:=i) (by omega)
   have ht:=(aBq (h2 a (List.mem_of_getElem? ha))).2.2
   rw [aAs,aMA h m hv (by omega),bD ha]
   have: ¬(v:Int)∈a.vars:=fun q=>by have:=ht _ q;omega
   simp [this]
theorem aT8 {q:QueryD} (h:cL q=true) (m:Int) {v:Nat} (hv:q.variableCount.toNat≤v):inM q m v=false:=aMA h m hv (Nat.le_refl _)
def aFQ (q:QueryD) (m:Int) (a:bZ) (i k v:Nat):Bool:=wQ q m i v || (gH m i&&decide ((v:Int)∈a.vars.take k))
theorem aPT (q:QueryD) (m:Int) (a:bZ) (i:Nat):aFQ q m a i 0=wQ q m i:=by funext v;simp [aFQ]
theorem aPU {q:QueryD} {m:Int} {a:bZ} {i k:Nat} {x:Int} (hb:gH m i=true) (h:a.vars[k]? =some x) (hx:0≤x):(fun v=>aFQ q m a i k v || decide (v=x.toNat))=aFQ q m a i (k+1):=by
 funext v
 rw [aFQ,aFQ,bP h,vH,hb,Bool.true_and,Bool.true_and,Bool.or_assoc]
 congr 2
 exact decide_eq_decide.2 (by omega)
theorem aAt {q:QueryD} {m:Int} {a:bZ} {i k:Nat} (h:q.atoms[i]? =some a) (hk:gH m i=false∨a.vars.length≤k):aFQ q m a i k=wQ q m (i+1):=by
 funext v
 rw [aFQ,aAs,bD h]
 rcases hk with hk | hk
 ·rw [hk];rfl
 ·rw [List.take_of_length_le hk]
theorem aHE {q:QueryD} (h:cL q=true) (m:Int):fX (gH (m4 (inM q m))) 4=aE0 q m:=by
 obtain ⟨h1,_,_⟩:=gR h
 rw [aE0,aNL (q:=inM q m) fun v hv=>aUt hv]
 exact aGz (by omega) fun v hv _=>aT8 h m hv
theorem aT9 {q:QueryD} {m:Int} {i v:Nat} {a:bZ} (h:q.atoms[i]? =some a) (hb:gH m i=true) (hv:decide ((v:Int)∈a.vars)=true):inM q m v=true:=
 List.any_eq_true.2 ⟨i,List.mem_range.2 (List.getElem?_eq_some_iff.1 h).1,by rw [hb,bD h,hv];rfl⟩
theorem nD {n:Nat} (h:1≤n∧n≤4):1≤(1:Int)*2^n - 1∧(1:Int)*2^n - 1≤15:=by
 have:n=1∨n=2∨n=3∨n=4:=by omega
 rcases this with rfl | rfl | rfl | rfl<;>decide
theorem rK {q:QueryD} {m:Int} (h:jF q m=true):cL q=true∧0≤m∧m≤15∧m≤(1:Int)*2^q.atoms.length - 1:=by
 simp only [jF,Bool.and_eq_true] at h
 have h1:=eY h.2
 have h2:=nD (gR h.1).2.1
 exact ⟨h.1,by omega,by omega,by omega⟩
theorem aRl {m:Int} {n i:Nat} (h:0≤m∧m≤(1:Int)*2^n - 1) (hi:n≤i) (h4:i<4):gH m i=false:=by
 have hn:n=0∨n=1∨n=2∨n=3:=by omega
 have hi4:i=0∨i=1∨i=2∨i=3:=by omega
 have key:m/2^i=0:=by
  rcases hn with rfl | rfl | rfl | rfl<;>rcases hi4 with rfl | rfl | rfl | rfl<;>first | omega | (simp at h ⊢;omega)
 rw [gH,key];decide
theorem aRm {m:Int} {n:Nat} (h:0≤m∧m≤(1:Int)*2^n - 1) (hn:n≤4):fV m=fX (gH m) n:=by
 have h15:m≤15:=by
  have:n=0∨n=1∨n=2∨n=3∨n=4:=by omega
  rcases this with rfl | rfl | rfl | rfl | rfl<;>simp at h<;>omega
 rw [aAr (aBX h.1 h15)]
 exact aGz hn fun v h1 h2=>aRl h h1 h2
end Go.Proofs.YtdfebigfnjfgpaaGreat
namespace Go.Proofs
open Go.Shelf
namespace YtdfebigfnjfgpaaGreat
def Tryz.revInts_ren : Go.Shelf.Ren := ⟨fun | 35 => 230 | n => n, fun | 22 => 39 | 23 => 3 | 3 => 3 | 4 => 4 | 0 => 0 | n => n, fun | n => n⟩
theorem Tryz.revInts : Go.Proofs.SlLaysE.n35 Tryz.prog Tryz.revInts_ren := {
  mixed := by kernel_rfl
  f35 := ⟨Tryz.f230.name, by decide, Tryz.func230.trans (congrArg some (by kernel_rfl))⟩
  t0 := Tryz.underlying0
  a0 := Tryz.isAgg0
  z0 := Tryz.sizeOf0
  v0 := Tryz.zeroValue0
  t3 := Tryz.underlying3
  a3 := Tryz.isAgg3
  z3 := Tryz.sizeOf3
  v3 := Tryz.zeroValue3
  t4 := Tryz.underlying4
  a4 := Tryz.isAgg4
  z4 := Tryz.sizeOf4
  v4 := Tryz.zeroValue4
  t22 := Tryz.underlying39
  a22 := Tryz.isAgg39
  z22 := Tryz.sizeOf39
  v22 := Tryz.zeroValue39
  a23 := Tryz.isAgg3
  z23 := Tryz.sizeOf3 }
end YtdfebigfnjfgpaaGreat
end Go.Proofs
namespace Go.Proofs.YtdfebigfnjfgpaaGreat
open Go.ChangeShapes Go.WideShapes Go.ChangeAt Go.RowKit
set_option linter.unusedVariables false
theorem aRn (l:List Int) (hl:l.length<4611686018427387904):nA Tryz.prog 230 [.own 0] [(0,.arr 3 1 true (l.map intD))] (.tup []) [(0,.arr 3 1 true (l.reverse.map intD))]:=
 aJ5 l l.reverse (by kernel_rfl) List.length_reverse
  (fun h w=>AnyE.slices_Reverse_empty Tryz.revInts none 0 w)
  (fun blk cap w hH hblk hn=>(AnyE.slices_Reverse Tryz.revInts (Value.int .i64) (fun _=>rfl) blk 0 cap l w hH (by omega)).mono fun e w' ⟨he,q,hw⟩=>⟨he,q,#[],by rw [hw,Go.Sort.grow_empty]⟩)
end Go.Proofs.YtdfebigfnjfgpaaGreat
namespace Go.Proofs.YtdfebigfnjfgpaaGreat
open Go.ChangeShapes Go.WideShapes Go.ChangeAt Go.RowKit
set_option linter.unusedVariables false
set_option linter.unusedSimpArgs false
set_option maxRecDepth 100000
set_option maxHeartbeats 4000000
abbrev aBJ (l:List Int):Prop:=l.Pairwise fun a b=>b≤a
def mM (l:List Int):List Int:=(kH l).reverse
theorem aBr (l:List Int):(mM l).Perm l:=(List.reverse_perm _).trans (aGw l)
theorem aPV (l:List Int):(mM l).length=l.length:=(aBr l).length_eq
theorem aNM (l:List Int):aBJ (mM l):=List.pairwise_reverse.2 (aNJ l)
theorem aMB {l m:List Int} (hp:l.Perm m) (h1:aBJ l) (h2:aBJ m):l=m:=
 List.Perm.eq_of_pairwise (le:=fun a b:Int=>b≤a) (fun a b _ _ h1 h2=>by omega) h1 h2 hp
theorem aMC {l out:List Int} {k j:Nat} {x:Int} (hp:out.Perm (l.take k)) (hx:l[k]? =some x):((([]:List Int)++out.take j)++[x]++out.drop j).Perm (l.take (k+1)):=by
 rw [bP hx,List.nil_append]
 have h1:(out.take j++[x]++out.drop j).Perm (out.take j++out.drop j++[x]):=by
  rw [List.append_assoc,List.append_assoc]
  exact List.Perm.append_left _ List.perm_append_comm
 rw [List.take_append_drop] at h1
 exact h1.trans (hp.append_right _)
theorem aMD {out:List Int} {j:Nat} {x:Int} (hd:aBJ out) (hj:j≤out.length) (hs: ∀i,j≤i→i<out.length→out.getD i 0<x) (hx:j=0∨ ¬out.getD (j - 1) 0<x):aBJ ((([]:List Int)++out.take j)++[x]++out.drop j):=by
 rw [List.nil_append,List.append_assoc]
 have hd' :=hd
 rw [←List.take_append_drop j out] at hd'
 obtain ⟨d1,d2,d3⟩:=List.pairwise_append.1 hd'
 have hlo: ∀a∈out.drop j,a≤x:=fun a ha=>by
  obtain ⟨i,hi,rfl⟩:=List.mem_iff_getElem.1 ha
  have hi' :i<out.length - j:=by simpa using hi
  have:=hs (j+i) (by omega) (by omega)
  rw [List.getElem_drop]
  rw [List.getD_eq_getElem?_getD,List.getElem?_eq_getElem (by omega)] at this
  simp only [Option.getD_some] at this
  omega
 have hhi: ∀a∈out.take j,x≤a:=fun a ha=>by
  obtain ⟨i,hi,rfl⟩:=List.mem_iff_getElem.1 ha
  have hi' :i<j:=by
   have:=hi
   rw [List.length_take] at this
   omega
  rcases hx with h | h
  ·omega
  ·have hp:=List.pairwise_iff_getElem.1 hd
   rw [List.getD_eq_getElem?_getD,List.getElem?_eq_getElem (by omega)] at h
   simp only [Option.getD_some] at h
   rw [List.getElem_take]
   by_cases e:i=j - 1
   ·subst e;omega
   ·have:=hp i (j - 1) (by omega) (by omega) (by omega)
    omega
 refine List.pairwise_append.2 ⟨d1,List.pairwise_append.2 ⟨List.pairwise_singleton _ _,d2,fun a ha b hb=>?_⟩,fun a ha b hb=>?_⟩
 ·rw [List.mem_singleton] at ha
  subst ha;exact hlo b hb
 ·rcases List.mem_append.1 hb with q | q
  ·rw [List.mem_singleton] at q
   subst q;exact hhi a ha
  ·exact d3 a ha b q
theorem aPW {out:List Int} {j:Nat} {x e:Int} (h:out[j - 1]? =some e) (hc:e<x) (hs: ∀i,j≤i→i<out.length→out.getD i 0<x): ∀i,j - 1≤i→i<out.length→out.getD i 0<x:=fun i h1 h2=>by
 by_cases q:i=j - 1
 ·rw [q,bD h];exact hc
 ·exact hs i (by omega) h2
abbrev aBs (t:aS) (cols:List Int):AV × List (Nat × Rs):=(.own 0,[(0,.arr 3 1 true ((mM (eK t cols).2).map intD))])
abbrev aHF (t:aS) (cols:List Int):Prop:=cX Tryz.prog 212 [.agg [.str t.name,.int .i64 t.arity,.sl 39 1 (t.rows.map aC)],.one (.sl 3 1 (cols.map intD))] (aBs t cols).1 (aBs t cols).2
theorem aRo (t:aS) (cols:List Int) (hl:cols.length≤1048576):aHF t cols:=by
 refine aX bG aR Tryz.func212 (by kernel_rfl) (cB (wH t cols)<| cB (aJT ((eK t cols).2))<| .callx [.own 0] [(0,.arr 3 1 true (((eK t cols).2).map intD))] [(0,1500)] (.tup []) [(0,.arr 3 1 true ((kH ((eK t cols).2)).map intD))]<| .callx [.own 0] [(0,.arr 3 1 true ((kH ((eK t cols).2)).map intD))] [(0,1500)] (.tup []) [(0,.arr 3 1 true (((kH ((eK t cols).2)).reverse).map intD))]<| .fin [(0,1500)]) (p:=(t.rows.map aC).length≤9223372036854775807→(cols.map intD).length≤9223372036854775807→aBf t cols∧aL7 ((eK t cols).2)∧nA Tryz.prog 228 [.own 0] [(0,.arr 3 1 true (((eK t cols).2).map intD))] (.tup []) [(0,.arr 3 1 true ((kH ((eK t cols).2)).map intD))]∧((eK t cols).2).map intD=((eK t cols).2).map intD∧nA Tryz.prog 230 [.own 0] [(0,.arr 3 1 true ((kH ((eK t cols).2)).map intD))] (.tup []) [(0,.arr 3 1 true (((kH ((eK t cols).2)).reverse).map intD))]∧(kH ((eK t cols).2)).map intD=(kH ((eK t cols).2)).map intD∧((kH ((eK t cols).2)).reverse).map intD=(mM (eK t cols).2).map intD∧True) (by kernel_rfl) ?_
 intro n0 n1
 simp only [List.length_map] at n0 n1
 have hg:=aJ2 t cols
 refine ⟨aLi t cols (by omega),cpI _ (by omega),aJ6 ((eK t cols).2) (by omega),rfl,aRn (kH ((eK t cols).2)) (by first | omega | (rw [vG];omega)),rfl,?_,trivial⟩
 ·rfl
abbrev aE1 (l:List Int):Prop:=cX Tryz.prog 221 [.one (.sl 3 1 (l.map intD))] (.p none (.sl 3 1 ((mM l).map intD))) []
theorem aPX (l:List Int) (hc:l.length≤1048576):aE1 l:=by
 refine aX bG aR Tryz.func221 (by kernel_rfl) (.stl 3<| .loop (Nat × (List Int)) (Q2 Nat (List Int)) [3,4,5,7,8,9,10,11,12,13,14,15,16,17,18,19,20,21,22,23,24,25,26,27,28,29,30,31,32,33,34,35,36,37,38,39,40,41,42,43,44,45] [3100,3500,4000,4100,4500] (fun yy0=>[(4,vI (yy0.1:Int)),(3,.p none (.sl 3 1 (yy0.2.map intD)))]) (fun yy0=>[]) (fun yy0=>yy0.1≤l.length∧yy0.2.Perm (l.take yy0.1)∧aBJ yy0.2) (fun yy0=>l.length - yy0.1) (fun yy0=> .len l.length<| .br (.len yy0.2.length<| .loop Nat (Q1 Nat) [5,15,16,17,18,19,20,21,22,23,24,25,26,27,28,29,30] [] (fun j=>[(5,vI (j:Int))]) (fun j=>[]) (fun j=>j≤yy0.2.length∧(∀i,j≤i→i<yy0.2.length→yy0.2.getD i 0<l.getD yy0.1 0)) (fun j=>j) (fun j=> .br (.elem _ intD yy0.2 (fun e21=> .elem _ intD l (fun e25=> .lit<| .lit<| .lit<| .br (.back []) (.sub Int intD yy0.2<| .app Int intD ([]:List Int) (yy0.2.take j)<| .elem _ intD l (fun e38=> .app Int intD (([]:List Int)++(yy0.2.take j)) ([e38]:List Int)<| .sub Int intD yy0.2<| .app Int intD ((([]:List Int)++(yy0.2.take j))++[e38]) (yy0.2.drop j)<| .stl 3<| .back []))))) (.sub Int intD yy0.2<| .app Int intD ([]:List Int) (yy0.2.take j)<| .elem _ intD l (fun e38=> .app Int intD (([]:List Int)++(yy0.2.take j)) ([e38]:List Int)<| .sub Int intD yy0.2<| .app Int intD ((([]:List Int)++(yy0.2.take j))++[e38]) (yy0.2.drop j)<| .stl 3<| .back [])))) (.fin []))) (p:=(l.map intD).length≤9223372036854775807→(∃(k:Nat) (out:List Int),(0:Int)=(k:Int)∧[]=out.map intD∧k≤l.length∧out.Perm (l.take k)∧aBJ out)∧ ∀(k:Nat) (out:List Int),(k≤l.length∧out.Perm (l.take k)∧aBJ out)→Lm intD l∧(((decide ((k:Int)<((l.length:Nat):Int)))=true→Lm intD out∧((∃(j:Nat),((out.length:Nat):Int)=(j:Int)∧j≤out.length∧(∀i,j≤i→i<out.length→out.getD i 0<l.getD k 0))∧ ∀(j:Nat),(j≤out.length∧(∀i,j≤i→i<out.length→out.getD i 0<l.getD k 0))→((decide ((0:Int)<(j:Int)))=true→cC ((j:Int) - (1:Int))∧(0≤((j:Int) - (1:Int))∧Em intD out (((j:Int) - (1:Int)).toNat) fun e21=>0≤(k:Int)∧Em intD l k fun e25=>((decide (e21<e25))=true→cC ((j:Int) - (1:Int))∧ ∃(j' :Nat),((j:Int) - (1:Int))=(j' :Int)∧(j' ≤out.length∧(∀i,j' ≤i→i<out.length→out.getD i 0<l.getD k 0))∧j' <j)∧((decide (e21<e25))=false→out.map intD=out.map intD∧0≤(j:Int)∧(j:Int)≤((out.length:Nat):Int)∧[]=([]:List Int).map intD∧(out.take j).map intD=(out.take j).map intD∧(∀x,dT (intD x)=true)∧(([]:List Int).length+(out.take j).length)*8≤140737488355328∧0≤(k:Int)∧Em intD l k fun e38=>(([]:List Int)++(out.take j)).map intD=(([]:List Int)++(out.take j)).map intD∧[[.int .i64 e38]]=([e38]:List Int).map intD∧(∀x,dT (intD x)=true)∧((([]:List Int)++(out.take j)).length+([e38]:List Int).length)*8≤140737488355328∧out.map intD=out.map intD∧0≤(j:Int)∧(j:Int)≤((out.length:Nat):Int)∧((([]:List Int)++(out.take j))++[e38]).map intD=((([]:List Int)++(out.take j))++[e38]).map intD∧(out.drop j).map intD=(out.drop j).map intD∧(∀x,dT (intD x)=true)∧(((([]:List Int)++(out.take j))++[e38]).length+(out.drop j).length)*8≤140737488355328∧cC ((k:Int)+(1:Int))∧ ∃(k' :Nat) (out' :List Int),((k:Int)+(1:Int))=(k' :Int)∧(((([]:List Int)++(out.take j))++[e38])++(out.drop j)).map intD=out'.map intD∧(k' ≤l.length∧out'.Perm (l.take k')∧aBJ out')∧l.length - k' <l.length - k)))∧((decide ((0:Int)<(j:Int)))=false→out.map intD=out.map intD∧0≤(j:Int)∧(j:Int)≤((out.length:Nat):Int)∧[]=([]:List Int).map intD∧(out.take j).map intD=(out.take j).map intD∧(∀x,dT (intD x)=true)∧(([]:List Int).length+(out.take j).length)*8≤140737488355328∧0≤(k:Int)∧Em intD l k fun e38=>(([]:List Int)++(out.take j)).map intD=(([]:List Int)++(out.take j)).map intD∧[[.int .i64 e38]]=([e38]:List Int).map intD∧(∀x,dT (intD x)=true)∧((([]:List Int)++(out.take j)).length+([e38]:List Int).length)*8≤140737488355328∧out.map intD=out.map intD∧0≤(j:Int)∧(j:Int)≤((out.length:Nat):Int)∧((([]:List Int)++(out.take j))++[e38]).map intD=((([]:List Int)++(out.take j))++[e38]).map intD∧(out.drop j).map intD=(out.drop j).map intD∧(∀x,dT (intD x)=true)∧(((([]:List Int)++(out.take j))++[e38]).length+(out.drop j).length)*8≤140737488355328∧cC ((k:Int)+(1:Int))∧ ∃(k' :Nat) (out' :List Int),((k:Int)+(1:Int))=(k' :Int)∧(((([]:List Int)++(out.take j))++[e38])++(out.drop j)).map intD=out'.map intD∧(k' ≤l.length∧out'.Perm (l.take k')∧aBJ out')∧l.length - k' <l.length - k)))∧((decide ((k:Int)<((l.length:Nat):Int)))=false→out.map intD=(mM l).map intD∧True))) (by kernel_rfl) ?_
 intro n0
 simp only [List.length_map] at n0
 refine ⟨⟨0,([]:List Int),rfl,rfl,Nat.zero_le _,List.Perm.refl _,List.Pairwise.nil⟩,fun k out ⟨hk,hp,hd⟩=>?_⟩
 have hpl:=hp.length_eq
 rw [List.length_take] at hpl
 refine ⟨List.length_map _,fun c0=>?_,fun c0=>?_⟩
 ·replace c0:=yq c0
  refine ⟨List.length_map _,⟨out.length,(by first | rfl | omega),Nat.le_refl _,fun i h1 h2=>by omega⟩,fun j ⟨hj,hs⟩=>?_⟩
  refine ⟨fun g17=>?_,fun g17=>?_⟩
  ·replace g17:=yq g17
   refine ⟨⟨by omega,by omega⟩,by omega,rfl,by omega,fun e21 h21=>?_⟩
   have i21:out[j - 1]? =some e21:=by rw [←h21];congr 1;omega
   refine ⟨by omega,rfl,by omega,fun e25 h25=>?_⟩
   refine ⟨fun c1=>?_,fun c1=>?_⟩
   ·replace c1:=yq c1
    have hlt:=aPW i21 (by rw [bD h25];exact c1:e21<l.getD k 0) hs
    refine ⟨⟨by omega,by omega⟩,?_⟩
    exact ⟨j - 1,(by first | rfl | omega),⟨by omega,hlt⟩,by omega⟩
   ·replace c1:=nq c1
    have hx:j=0∨ ¬out.getD (j - 1) 0<l.getD k 0:=by first | (left;omega) | (right;rw [bD i21,bD h25];exact c1)
    refine ⟨rfl,by omega,by omega,rfl,rfl,fun _=>rfl,by first | omega | (simp;omega),?_⟩
    refine ⟨by omega,rfl,by omega,fun e38 h38=>?_⟩
    rw [bD h38] at hx hs
    refine ⟨rfl,rfl,fun _=>rfl,by first | omega | (simp;omega),?_⟩
    refine ⟨rfl,by omega,by omega,rfl,rfl,fun _=>rfl,by first | omega | (simp;omega),?_⟩
    refine ⟨⟨by omega,by omega⟩,?_⟩
    exact ⟨k+1,((([]:List Int)++(out.take j))++[e38])++(out.drop j),rfl,rfl,⟨by omega,aMC hp h38,aMD hd hj hs hx⟩,by omega⟩
  ·replace g17:=nq g17
   have hx:j=0∨ ¬out.getD (j - 1) 0<l.getD k 0:=by first | (left;omega) | (right;rw [bD i21,bD h25];exact c1)
   refine ⟨rfl,by omega,by omega,rfl,rfl,fun _=>rfl,by first | omega | (simp;omega),?_⟩
   refine ⟨by omega,rfl,by omega,fun e38 h38=>?_⟩
   rw [bD h38] at hx hs
   refine ⟨rfl,rfl,fun _=>rfl,by first | omega | (simp;omega),?_⟩
   refine ⟨rfl,by omega,by omega,rfl,rfl,fun _=>rfl,by first | omega | (simp;omega),?_⟩
   refine ⟨⟨by omega,by omega⟩,?_⟩
   exact ⟨k+1,((([]:List Int)++(out.take j))++[e38])++(out.drop j),rfl,rfl,⟨by omega,aMC hp h38,aMD hd hj hs hx⟩,by omega⟩
 ·replace c0:=nq c0
  have hE:out=mM l:=aMB ((by rw [List.take_of_length_le (by omega)] at hp;exact hp:out.Perm l).trans (aBr l).symm) hd (aNM l)
  refine ⟨?_,trivial⟩
  ·rw [hE]
end Go.Proofs.YtdfebigfnjfgpaaGreat
