/-
  Contracts and plain laws, joined: part 11.
-/
import Derived.Test.YtokkjaflmcjlhaaGreatQD9
import Derived.Shelf.SlicesE.Compact
import Derived.Ground.SlgnProg
import Derived.Test.YtokkjaflmcjlhaaGreatQD7
import Derived.Test.YtokkjaflmcjlhaaGreatQD4
import Derived.Shelf.SlicesE.Reverse
import Derived.Test.YtokkjaflmcjlhaaGreatQD8
import Derived.IntWalk
namespace Go.Proofs
open Go.Shelf
namespace YtokkjaflmcjlhaaGreat
def Tryz.compInts_ren : Go.Shelf.Ren := ⟨fun | 43 => 273 | n => n, fun | 22 => 32 | 23 => 3 | 3 => 3 | 4 => 4 | 0 => 0 | n => n, fun | n => n⟩
theorem Tryz.compInts : Go.Proofs.SlLaysE.n43 Tryz.prog Tryz.compInts_ren := {
  mixed := by kernel_rfl
  f43 := ⟨Tryz.f273.name, by decide, Tryz.func273.trans (congrArg some (by kernel_rfl))⟩
  t0 := Tryz.underlying0
  a0 := Tryz.isAgg0
  z0 := Tryz.sizeOf0
  v0 := Tryz.zeroValue0
  t3 := Tryz.underlying3
  a3 := Tryz.isAgg3
  z3 := Tryz.sizeOf3
  v3 := Tryz.zeroValue3
  t4 := Tryz.underlying4
  a4 := Tryz.isAgg4
  z4 := Tryz.sizeOf4
  v4 := Tryz.zeroValue4
  t22 := Tryz.underlying32
  a22 := Tryz.isAgg32
  z22 := Tryz.sizeOf32
  v22 := Tryz.zeroValue32
  a23 := Tryz.isAgg3
  z23 := Tryz.sizeOf3 }
end YtokkjaflmcjlhaaGreat
end Go.Proofs
namespace Go.Proofs.YtokkjaflmcjlhaaGreat
open Go.ChangeShapes Go.WideShapes Go.ChangeAt Go.RowKit Go.Lib
set_option linter.unusedVariables false
set_option linter.unusedSimpArgs false
theorem aLc {P:Program} {f:FuncId} {e:Nat} (l m:List Int) (hc:kL P f=true) (hm:m.length≤l.length) (hm0:l= []→m= [])
 (hn0:l= []→ ∀w,Calls P f #[.slice none 0 0] w (fun ex w' =>ex= .returned (.slice none 0 0)∧w' =w))
 (hs: ∀(blk cap:Nat) (w:World),Go.Sort.Holds (Value.int .i64) w blk 0 l.toArray→blk<w.heap.size→l.length≤cap→Calls P f #[.slice (some ⟨blk,0,none⟩) l.length cap] w (fun ex w' =>ex= .returned (.slice (some ⟨blk,0,none⟩) m.length cap)∧ ∃n os z,(m++z).length=l.length∧w' =Go.Sort.grow (Go.Sort.putRow (Value.int .i64) (Go.Sort.ahead w n) blk 0 (m++z).toArray) os)):
 lT P f [.own 0] [(0,.arr e 1 true (l.map intD))] (.own 1) [(1,.arr e 1 true (m.map intD))]:=by
 refine ⟨hc,by simp,fun A φ w vs hI hM=>?_⟩
 obtain ⟨pl,hp,css,Fs,q1,q2,q3,q4⟩:=hI.dom 0 _ rfl
 unfold aP at hM
 obtain ⟨v,us,e1,m1,hM⟩:=hM
 unfold aP at hM
 unfold aI at m1
 have hv:=m1 pl hp
 have ev:vs= #[pl.val]:=by apply Array.ext';rw [e1,hM,hv]
 rw [ev]
 obtain ⟨c1,c2⟩:=aDJ q4
 rw [c1,List.length_map] at q1
 have hge:=hI.ge 0 pl hp
 have hsub:pl.sub= []:=by rw [q3,c2]
 have hfoot: ∀b∈pl.F,aIf φ b:=fun b hb=>⟨0,pl,trivial,hp,hb⟩
 have h1:φ 1=none:=hI.non 1 rfl
 have hend: ∀(v' :Value) (w' :World),lR pl.F w w' →(∀b∈v'.ownBlock,b∈pl.val.ownBlock)→w'.ownsRow 0 e 1 v' m.length (m.map (Value.int .i64))→
  ∃v K φ',Ending.returned v' = .returned v∧aNR A φ w [(1,.arr e 1 true (m.map intD))] K φ' w' ∧aI K φ' w' (.own 1) v:=by
  intro v' w' hon hvb howns
  let pl' :Pl:=⟨v',v'.ownBlock.toList,[]⟩
  have hmem: ∀g,g∈pl'.F→g∈pl.F:=fun g hg=>by
   unfold Pl.F
   simp only [pl',Pl.F,List.append_nil,Option.mem_toList] at hg
   rw [q2]
   exact List.mem_append_left _ (by rw [Option.mem_toList];exact hvb g hg)
  have hnd' :pl'.F.Nodup:=by simp only [pl',Pl.F,List.append_nil];cases v'.ownBlock<;>simp
  refine ⟨_,A,fun h=>if h=1 then some pl' else none,rfl,⟨⟨hon.os,hon.tape,hon.output,hon.size,fun b hb hn=>hon.block b hb (fun hm=>hn (hfoot b hm))⟩,fun _ h=>h,fun b hb=>⟨Nat.lt_of_lt_of_le (hI.lt b hb) hon.size,.inl hb⟩,fun b hb h pl1 e' hm' =>?_,fun h r hr=>?_,fun h hr=>?_,fun h h' pl1 pl2 hne ea eb=>?_,fun h pl1 e' =>?_,fun h pl1 e' g hg=>?_,fun h pl1 pl0 e' e0=>?_⟩,?_⟩
  ·split at e'
   ·injection e' with e';subst e'
    exact hI.out b hb 0 pl hp (hmem b hm')
   ·cases e'
  ·simp only [aY] at hr
   split at hr
   ·rename_i eh
    subst eh
    injection hr with hr
    subst hr
    refine ⟨pl',by simp,m.map fun n=>[Value.int .i64 n],m.map fun _=>[],?_,rfl,?_,vD _ m⟩
    ·rw [aDK,List.length_map];exact howns
    ·simp [pl']
   ·cases hr
  ·simp only [aY] at hr
   split at hr
   ·cases hr
   ·rename_i eh;exact if_neg eh
  ·split at ea
   ·split at eb
    ·rename_i x y;exact absurd (x.trans y.symm) hne
    ·cases eb
   ·cases ea
  ·split at e'
   ·injection e' with e';subst e';exact hnd'
   ·cases e'
  ·split at e'
   ·injection e' with e';subst e'
    have:=hmem g hg
    exact ⟨.inr (hfoot g this),Nat.lt_of_lt_of_le (hge g this) hon.size⟩
   ·cases e'
  ·split at e'
   ·rename_i eh
    subst eh
    rw [h1] at e0;cases e0
   ·cases e'
  ·unfold aI
   intro pl1 e'
   simp at e'
   subst e'
   rfl
 rcases q1.2 with ⟨hvn,hz⟩ | ⟨g,cap,cur,hvv,hg0,hb,hn,hcap,hsz,htk⟩
 ·have hz' :l= []:=List.eq_nil_of_length_eq_zero hz
  rw [hvn]
  refine (hn0 hz' w).mono ?_
  rintro en w' ⟨rfl,rfl⟩
  refine hend (.slice none 0 0) w' (lR.refl _ _) (fun b hb=>by cases hb) ?_
  rw [hm0 hz']
  exact ⟨by simp,.inl ⟨rfl,rfl⟩⟩
 ·have hlt:g<w.heap.size:=(Array.getElem?_eq_some_iff.1 hb).1
  have hH:Go.Sort.Holds (Value.int .i64) w g 0 l.toArray:=holds_of_blockI hb (by rw [Nat.mul_one] at htk;exact htk)
  rw [hvv]
  refine (hs g cap w hH hlt hn).mono ?_
  rintro en w' ⟨rfl,n,os,z,hz,rfl⟩
  have hgb:=grownBy_sortedI (w:=w) (g:=g) (n:=n) (os:=os) (m++z).toArray
  have hown:=ownsRow_sortedI (n:=n) (os:=os) hz hg0 hb hn hcap hsz
  refine hend _ _ ⟨hgb.os,hgb.tape,hgb.output,hgb.size,fun k hk hne=>hgb.block k hk (fun e=>hne (by injection e with e;subst e;unfold Pl.F;rw [q2,hvv];simp [Value.ownBlock]))⟩ (fun b hb' =>by rw [hvv];exact hb') ?_
  rcases hown.2 with ⟨hvn,_⟩ | ⟨g',cap',cur',hv',hg',hb',hn',hcap',hsz',htk'⟩
  ·cases hvn
  ·simp only [Value.slice.injEq,Option.some.injEq,Addr.mk.injEq,and_true] at hv'
   obtain ⟨rfl,_,rfl⟩:=hv'
   refine ⟨by simp,.inr ⟨g,cap,cur',rfl,hg',hb',by omega,hcap',hsz',?_⟩⟩
   rw [Nat.mul_one] at*
   have h3:=congrArg (List.take m.length) htk'
   rw [List.take_take,Nat.min_eq_left hm,List.map_append,List.take_append_of_le_length (by simp)] at h3
   rw [h3,List.take_of_length_le (by simp)]
def sP (l:List Int):List Int:=compactUpTo l.toArray l.toArray.size
theorem aK0 (l:List Int):(sP l).length≤l.length:=by
 unfold sP compactUpTo
 rw [List.length_map]
 have:=(List.filter_sublist (l:=List.range l.toArray.size) (p:=keeps l.toArray)).length_le
 simpa using this
theorem aIB {l:List Int}:sP l= []↔l= []:=by
 constructor
 ·intro h
  by_cases e:l= []
  ·exact e
  ·exfalso
   have hp:0<l.length:=List.length_pos_iff.2 e
   unfold sP compactUpTo at h
   rw [List.map_eq_nil_iff,List.filter_eq_nil_iff] at h
   exact h 0 (List.mem_range.2 (by simpa using hp)) (keeps_lt_one _ 0 (by omega))
 ·rintro rfl;rfl
theorem tyI:fZ Tryz.prog 3=some (false,1,8,.int .i64 0):=by kernel_rfl
theorem aTc (w:World):(zeroValue 3).run Tryz.prog w= .ok (.int .i64 0) w:=(gK tyI w).2.2.1
theorem aNj (l:List Int) (hl:l.length<4611686018427387904):lT Tryz.prog 273 [.own 0] [(0,.arr 3 1 true (l.map intD))] (.own 1) [(1,.arr 3 1 true ((sP l).map intD))]:=
 aLc l (sP l) (by kernel_rfl) (aK0 l) (fun h=>aIB.2 h)
  (fun h w=>by
   go_enter Tryz.func273,Tryz.ntmps273
   go_wp2
   go_ret
   exact ⟨rfl,rfl⟩)
  (fun blk cap w hH hblk hn=>(AnyE.slices_Compact Tryz.compInts (Value.int .i64) (fun _=>rfl) (EqlAt.intD _ _ .i64) (NeqAt.intD _ _ .i64) 0 (fun w=>aTc w) blk 0 cap l.toArray w hH (by rw [List.size_toArray];omega) (by rw [List.size_toArray];exact hn)).mono fun e w' ⟨he,q,hw⟩=>
   ⟨by have e1:l.toArray.size=l.length:=by simp
       rw [e1] at he;unfold sP;rw [e1];exact he,q,#[],List.replicate (l.length - (sP l).length) 0,by have:=aK0 l;simp;omega,by rw [hw,Go.Sort.grow_empty];simp [sP]⟩)
end Go.Proofs.YtokkjaflmcjlhaaGreat
namespace Go.Proofs.YtokkjaflmcjlhaaGreat
open Go.ChangeShapes Go.WideShapes Go.ChangeAt Go.RowKit
set_option linter.unusedVariables false
set_option linter.unusedSimpArgs false
set_option maxRecDepth 100000
set_option maxHeartbeats 4000000
def dX (d:aT) (x:aG):Bool:=(aJ d x.name).2&&((aJ d x.into).2&&(dY x.column 0 ((aJ d x.name).1.arity - 1)&&dY x.intoColumn 0 ((aJ d x.into).1.arity - 1)))
def iC (rows:List (List Int)) (c:Int):List Int:=rows.map fun r=>r.getD c.toNat 0
def aDi (d:aT) (x:aG):List Int:=(iC (aJ d x.name).1.rows x.column).filter fun v=> !decide (v∈iC (aJ d x.into).1.rows x.intoColumn)
def wL (d:aT) (x:aG):List Int:=if dX d x=true then sP (qD (aDi d x)) else []
def aCF (d:aT) (x:aG) (v:Nat):Bool:=decide ((v:Int)∈iC (aJ d x.name).1.rows x.column)&& !decide ((v:Int)∈iC (aJ d x.into).1.rows x.intoColumn)
def nQ (d:aT) (x:aG) (n:Nat):List Int:=((List.range n).filter (aCF d x)).map fun v:Nat=>(v:Int)
def wM (d:aT) (x:aG):List Int:=if dX d x=true then nQ d x 10 else []
def iL (d:aT) (x:aG):Bool:=dX d x&&decide (aDi d x= [])
theorem aNk {d:aT} {x:aG} {v:Nat} (h:aCF d x v=true):nQ d x (v+1)=nQ d x v++[(v:Int)]:=by
 rw [nQ,List.range_succ,List.filter_append,List.map_append]
 simp [nQ,h]
theorem aK1 {d:aT} {x:aG} {v:Nat} (h:aCF d x v=false):nQ d x (v+1)=nQ d x v:=by
 rw [nQ,List.range_succ,List.filter_append,List.map_append]
 simp [nQ,h]
theorem aNl (d:aT) (x:aG) (v:Nat):(nQ d x v).length≤v:=by
 rw [nQ,List.length_map]
 have:=List.length_filter_le (aCF d x) (List.range v)
 rwa [List.length_range] at this
theorem mH (rows:List (List Int)) (c:Int) {k:Nat} {r:List Int} (h:rows[k]? =some r):iC (rows.take (k+1)) c=iC (rows.take k) c++[r.getD c.toNat 0]:=by rw [cN h,iC,List.map_append];rfl
theorem tU {l:List Int} {v y:Int}:decide (v∈l++[y])=(decide (v∈l) || decide (v=y)):=by simp [Bool.decide_or]
theorem aNm {t:aR} {c:Int} {v:Int} (h:aQ t=true) (hc:0≤c∧c≤t.arity - 1) (hv:v∈iC t.rows c):0≤v∧v≤9:=by
 obtain ⟨r,hr,rfl⟩:=List.mem_map.1 hv
 have hl:=oR h hr
 have hk:=List.all_eq_true.1 (oQ h).1 r hr
 simp only [gU,Bool.and_eq_true,decide_eq_true_eq] at hk
 have hlt:c.toNat<r.length:=by omega
 have hm:r.getD c.toNat 0∈r:=by rw [List.getD_eq_getElem?_getD,List.getElem?_eq_getElem hlt];exact List.getElem_mem hlt
 exact eJ (List.all_eq_true.1 hk.1 _ hm)
theorem yW {d:aT} {x:aG} (h:dX d x=true):aQ (aJ d x.name).1=true∧aQ (aJ d x.into).1=true∧(0≤x.column∧x.column≤(aJ d x.name).1.arity - 1)∧(0≤x.intoColumn∧x.intoColumn≤(aJ d x.into).1.arity - 1):=by
 simp only [dX,Bool.and_eq_true] at h
 obtain ⟨h1,h2,h3,h4⟩:=h
 exact ⟨(nD h1).1,(nD h2).1,eJ h3,eJ h4⟩
theorem aIC {d:aT} {x:aG} (h:dX d x=true):decide (wL d x= [])=decide (aDi d x= []):=by
 rw [wL,if_pos h]
 apply Bool.eq_iff_iff.2
 rw [decide_eq_true_eq,decide_eq_true_eq,aIB]
 constructor
 ·intro q
  have:=aAS (aDi d x)
  rw [q] at this
  exact List.eq_nil_of_length_eq_zero this.symm
 ·intro q
  have:=aAS (aDi d x)
  rw [q] at this
  rw [q]
  exact List.eq_nil_of_length_eq_zero this
theorem aID {d:aT} {x:aG} (h:dX d x=true):decide (wM d x= [])=decide (aDi d x= []):=by
 obtain ⟨h1,_,h3,_⟩:=yW h
 rw [wM,if_pos h]
 apply Bool.eq_iff_iff.2
 rw [decide_eq_true_eq,decide_eq_true_eq,nQ,List.map_eq_nil_iff,List.filter_eq_nil_iff,aDi,List.filter_eq_nil_iff]
 constructor
 ·intro q v hv hb
  have hr:=aNm h1 h3 hv
  refine q v.toNat (List.mem_range.2 (by omega)) ?_
  rw [aCF,Int.toNat_of_nonneg hr.1]
  simp only [Bool.and_eq_true,decide_eq_true_eq]
  exact ⟨hv,hb⟩
 ·intro q v _ hb
  rw [aCF,Bool.and_eq_true,decide_eq_true_eq] at hb
  exact q _ hb.1 hb.2
abbrev vE (d:aT) (x:aG):Prop:=cU Tryz.prog 233 [.agg [.sl 162 3 (d.tables.map aL)],.agg [.str x.name,.int .i64 x.column,.str x.into,.int .i64 x.intoColumn]] (vB (dX d x)) []
theorem aFw (d:aT) (x:aG) (hc:bD d≤1048576):vE d x:=by
 refine aV bF aS Tryz.func233 (by kernel_rfl) (.call (.tup [.agg [.p none (.str (((aJ d x.name).1).name)),vI (((aJ d x.name).1).arity),.p none (.sl 32 1 ((((aJ d x.name).1).rows).map aF))],vB ((aJ d x.name).2)]) []<| .call (.tup [.agg [.p none (.str (((aJ d x.into).1).name)),vI (((aJ d x.into).1).arity),.p none (.sl 32 1 ((((aJ d x.into).1).rows).map aF))],vB ((aJ d x.into).2)]) []<| .br (.lit<| .br (.raw<| .call (vB (dY x.column (0:Int) (IntKind.i64.wrap ((((aJ d x.name).1).arity) - (1:Int))))) []<| .lit<| .br (.raw<| .call (vB (dY x.intoColumn (0:Int) (IntKind.i64.wrap ((((aJ d x.into).1).arity) - (1:Int))))) []<| .fin []) (.fin [])) (.fin [])) (.fin [])) (p:=(d.tables.map aL).length≤9223372036854775807→cU Tryz.prog 148 [.agg [.sl 162 3 (d.tables.map aL)],.one (.str x.name)] (.tup [.agg [.p none (.str (((aJ d x.name).1).name)),vI (((aJ d x.name).1).arity),.p none (.sl 32 1 ((((aJ d x.name).1).rows).map aF))],vB ((aJ d x.name).2)]) []∧(cU Tryz.prog 148 [.agg [.sl 162 3 (d.tables.map aL)],.one (.str x.into)] (.tup [.agg [.p none (.str (((aJ d x.into).1).name)),vI (((aJ d x.into).1).arity),.p none (.sl 32 1 ((((aJ d x.into).1).rows).map aF))],vB ((aJ d x.into).2)]) []∧((((aJ d x.name).2)=true→(((aJ d x.into).2)=true→fU x.column (0:Int) (IntKind.i64.wrap ((((aJ d x.name).1).arity) - (1:Int)))∧(((dY x.column (0:Int) (IntKind.i64.wrap ((((aJ d x.name).1).arity) - (1:Int))))=true→fU x.intoColumn (0:Int) (IntKind.i64.wrap ((((aJ d x.into).1).arity) - (1:Int)))∧(dY x.intoColumn (0:Int) (IntKind.i64.wrap ((((aJ d x.into).1).arity) - (1:Int))))=(dX d x)∧True)∧((dY x.column (0:Int) (IntKind.i64.wrap ((((aJ d x.name).1).arity) - (1:Int))))=false→(false)=(dX d x)∧True)))∧(((aJ d x.into).2)=false→(false)=(dX d x)∧True))∧(((aJ d x.name).2)=false→(false)=(dX d x)∧True)))) (by kernel_rfl) ?_
 intro n0
 simp only [List.length_map] at n0
 refine ⟨jJ (rR _ x.name (by omega)) rfl,jJ (rR _ x.into (by omega)) rfl,fun g24=>?_,fun g24=>?_⟩
 ·have hT:=(nD g24).1
  have hA:=cD hT
  have hw:IntKind.i64.wrap ((aJ d x.name).1.arity - 1)=(aJ d x.name).1.arity - 1:=IntWalk.i64_in _ ⟨by omega,by omega⟩
  try rw [hw]
  refine ⟨fun g27=>?_,fun g27=>?_⟩
  ·have hT2:=(nD g27).1
   have hA2:=cD hT2
   have hw2:IntKind.i64.wrap ((aJ d x.into).1.arity - 1)=(aJ d x.into).1.arity - 1:=IntWalk.i64_in _ ⟨by omega,by omega⟩
   try rw [hw2]
   refine ⟨kE _ _ _,fun g35=>?_,fun g35=>?_⟩
   ·refine ⟨kE _ _ _,?_,trivial⟩
    ·first | (simp [dX, *];done) | (simp [dX, *] at*;simp [*];done) | (simp_all [dX];done)
   ·refine ⟨?_,trivial⟩
    ·first | (simp [dX, *];done) | (simp [dX, *] at*;simp [*];done) | (simp_all [dX];done)
  ·refine ⟨?_,trivial⟩
   ·first | (simp [dX, *];done) | (simp [dX, *] at*;simp [*];done) | (simp_all [dX];done)
 ·refine ⟨?_,trivial⟩
  ·first | (simp [dX, *];done) | (simp [dX, *] at*;simp [*];done) | (simp_all [dX];done)
abbrev vF (d:aT) (x:aG):Prop:=cU Tryz.prog 214 [.agg [.sl 162 3 (d.tables.map aL)],.agg [.str x.name,.int .i64 x.column,.str x.into,.int .i64 x.intoColumn]] (vB (dX d x)) []
theorem aFx (d:aT) (x:aG) (hc:bD d≤1048576):vF d x:=by
 refine aV bF aS Tryz.func214 (by kernel_rfl) (.call (.tup [.agg [.p none (.str (((aJ d x.name).1).name)),vI (((aJ d x.name).1).arity),.p none (.sl 32 1 ((((aJ d x.name).1).rows).map aF))],vB ((aJ d x.name).2)]) []<| .call (.tup [.agg [.p none (.str (((aJ d x.into).1).name)),vI (((aJ d x.into).1).arity),.p none (.sl 32 1 ((((aJ d x.into).1).rows).map aF))],vB ((aJ d x.into).2)]) []<| .br (.lit<| .br (.raw<| .call (vB (dY x.column (0:Int) (IntKind.i64.wrap ((((aJ d x.name).1).arity) - (1:Int))))) []<| .lit<| .br (.raw<| .call (vB (dY x.intoColumn (0:Int) (IntKind.i64.wrap ((((aJ d x.into).1).arity) - (1:Int))))) []<| .fin []) (.fin [])) (.fin [])) (.fin [])) (p:=(d.tables.map aL).length≤9223372036854775807→cU Tryz.prog 132 [.agg [.sl 162 3 (d.tables.map aL)],.one (.str x.name)] (.tup [.agg [.p none (.str (((aJ d x.name).1).name)),vI (((aJ d x.name).1).arity),.p none (.sl 32 1 ((((aJ d x.name).1).rows).map aF))],vB ((aJ d x.name).2)]) []∧(cU Tryz.prog 132 [.agg [.sl 162 3 (d.tables.map aL)],.one (.str x.into)] (.tup [.agg [.p none (.str (((aJ d x.into).1).name)),vI (((aJ d x.into).1).arity),.p none (.sl 32 1 ((((aJ d x.into).1).rows).map aF))],vB ((aJ d x.into).2)]) []∧((((aJ d x.name).2)=true→(((aJ d x.into).2)=true→fB x.column (0:Int) (IntKind.i64.wrap ((((aJ d x.name).1).arity) - (1:Int)))∧(((dY x.column (0:Int) (IntKind.i64.wrap ((((aJ d x.name).1).arity) - (1:Int))))=true→fB x.intoColumn (0:Int) (IntKind.i64.wrap ((((aJ d x.into).1).arity) - (1:Int)))∧(dY x.intoColumn (0:Int) (IntKind.i64.wrap ((((aJ d x.into).1).arity) - (1:Int))))=(dX d x)∧True)∧((dY x.column (0:Int) (IntKind.i64.wrap ((((aJ d x.name).1).arity) - (1:Int))))=false→(false)=(dX d x)∧True)))∧(((aJ d x.into).2)=false→(false)=(dX d x)∧True))∧(((aJ d x.name).2)=false→(false)=(dX d x)∧True)))) (by kernel_rfl) ?_
 intro n0
 simp only [List.length_map] at n0
 refine ⟨jJ (rS _ x.name (by omega)) rfl,jJ (rS _ x.into (by omega)) rfl,fun g24=>?_,fun g24=>?_⟩
 ·have hT:=(nD g24).1
  have hA:=cD hT
  have hw:IntKind.i64.wrap ((aJ d x.name).1.arity - 1)=(aJ d x.name).1.arity - 1:=IntWalk.i64_in _ ⟨by omega,by omega⟩
  try rw [hw]
  refine ⟨fun g27=>?_,fun g27=>?_⟩
  ·have hT2:=(nD g27).1
   have hA2:=cD hT2
   have hw2:IntKind.i64.wrap ((aJ d x.into).1.arity - 1)=(aJ d x.into).1.arity - 1:=IntWalk.i64_in _ ⟨by omega,by omega⟩
   try rw [hw2]
   refine ⟨iW _ _ _,fun g35=>?_,fun g35=>?_⟩
   ·refine ⟨iW _ _ _,?_,trivial⟩
    ·first | (simp [dX, *];done) | (simp [dX, *] at*;simp [*];done) | (simp_all [dX];done)
   ·refine ⟨?_,trivial⟩
    ·first | (simp [dX, *];done) | (simp [dX, *] at*;simp [*];done) | (simp_all [dX];done)
  ·refine ⟨?_,trivial⟩
   ·first | (simp [dX, *];done) | (simp [dX, *] at*;simp [*];done) | (simp_all [dX];done)
 ·refine ⟨?_,trivial⟩
  ·first | (simp [dX, *];done) | (simp [dX, *] at*;simp [*];done) | (simp_all [dX];done)
def b4 (a b c d:Bool):Int:=(if a then 1 else 0)+(if b then 2 else 0)+(if c then 4 else 0)+(if d then 8 else 0)
def m4 (p:Nat→Bool):Int:=b4 (p 0) (p 1) (p 2) (p 3)
theorem lt4 {P:Nat→Prop} (h0:P 0) (h1:P 1) (h2:P 2) (h3:P 3) {i:Nat} (hi:i<4):P i:=by
 have h:i=0∨i=1∨i=2∨i=3:=by omega
 rcases h with rfl | rfl | rfl | rfl<;>assumption
theorem aK2 {p q:Nat→Bool} (h: ∀i,i<4→p i=q i):m4 p=m4 q:=by
 rw [m4,m4,h 0 (by omega),h 1 (by omega),h 2 (by omega),h 3 (by omega)]
theorem aTH (a b c d:Bool):cP (b4 a b c d) 0=a∧cP (b4 a b c d) 1=b∧cP (b4 a b c d) 2=c∧cP (b4 a b c d) 3=d:=by
 cases a<;>cases b<;>cases c<;>cases d<;>decide
theorem aFy {p:Nat→Bool} {v:Nat} (hv:v<4):cP (m4 p) v=p v:=by
 have h:=aTH (p 0) (p 1) (p 2) (p 3)
 exact lt4 (P:=fun v=>cP (m4 p) v=p v) h.1 h.2.1 h.2.2.1 h.2.2.2 hv
theorem aQF (a b c d:Bool):0≤b4 a b c d∧b4 a b c d≤15:=by cases a<;>cases b<;>cases c<;>cases d<;>decide
theorem aCG (p:Nat→Bool):0≤m4 p∧m4 p≤15:=aQF _ _ _ _
theorem aTe (a b c d:Bool):dD .or .i64 (b4 a b c d) (1*2^0)=b4 true b c d∧dD .or .i64 (b4 a b c d) (1*2^1)=b4 a true c d∧dD .or .i64 (b4 a b c d) (1*2^2)=b4 a b true d∧dD .or .i64 (b4 a b c d) (1*2^3)=b4 a b c true:=by
 cases a<;>cases b<;>cases c<;>cases d<;>decide
theorem aA6 {p:Nat→Bool} {v:Nat} (hv:v<4):dD .or .i64 (m4 p) ((1:Int)*2^v)=m4 (fun i=>p i || decide (i=v)):=by
 have h:=aTe (p 0) (p 1) (p 2) (p 3)
 refine lt4 (P:=fun v=>dD .or .i64 (m4 p) ((1:Int)*2^v)=m4 (fun i=>p i || decide (i=v))) ?_ ?_ ?_ ?_ hv
 ·simpa [m4] using h.1
 ·simpa [m4] using h.2.1
 ·simpa [m4] using h.2.2.1
 ·simpa [m4] using h.2.2.2
theorem aTI (a b c d:Bool):dD .andNot .i64 (b4 a b c d) (1*2^0)=b4 false b c d∧dD .andNot .i64 (b4 a b c d) (1*2^1)=b4 a false c d∧dD .andNot .i64 (b4 a b c d) (1*2^2)=b4 a b false d∧dD .andNot .i64 (b4 a b c d) (1*2^3)=b4 a b c false:=by
 cases a<;>cases b<;>cases c<;>cases d<;>decide
theorem aQG {p:Nat→Bool} {v:Nat} (hv:v<4):dD .andNot .i64 (m4 p) ((1:Int)*2^v)=m4 (fun i=>p i&& !decide (i=v)):=by
 have h:=aTI (p 0) (p 1) (p 2) (p 3)
 refine lt4 (P:=fun v=>dD .andNot .i64 (m4 p) ((1:Int)*2^v)=m4 (fun i=>p i&& !decide (i=v))) ?_ ?_ ?_ ?_ hv
 ·simpa [m4] using h.1
 ·simpa [m4] using h.2.1
 ·simpa [m4] using h.2.2.1
 ·simpa [m4] using h.2.2.2
theorem aTJ (a b c d a' b' c' d' :Bool):dD .and .i64 (b4 a b c d) (b4 a' b' c' d')=b4 (a&&a') (b&&b') (c&&c') (d&&d'):=by
 cases a<;>cases b<;>cases c<;>cases d<;>cases a' <;>cases b' <;>cases c' <;>cases d' <;>decide
theorem aQH (p q:Nat→Bool):dD .and .i64 (m4 p) (m4 q)=m4 (fun i=>p i&&q i):=aTJ _ _ _ _ _ _ _ _
theorem aTK (a b c d a' b' c' d' :Bool):dD .or .i64 (b4 a b c d) (b4 a' b' c' d')=b4 (a || a') (b || b') (c || c') (d || d'):=by
 cases a<;>cases b<;>cases c<;>cases d<;>cases a' <;>cases b' <;>cases c' <;>cases d' <;>decide
theorem aTL (p q:Nat→Bool):dD .or .i64 (m4 p) (m4 q)=m4 (fun i=>p i || q i):=aTK _ _ _ _ _ _ _ _
theorem aTM {a b c d a' b' c' d' :Bool} (h:b4 a b c d=b4 a' b' c' d'):a=a' ∧b=b' ∧c=c' ∧d=d' :=by
 revert h;cases a<;>cases b<;>cases c<;>cases d<;>cases a' <;>cases b' <;>cases c' <;>cases d' <;>decide
theorem aQI {p q:Nat→Bool} (h:m4 p=m4 q) {i:Nat} (hi:i<4):p i=q i:=by
 have h:=aTM h
 exact lt4 (P:=fun i=>p i=q i) h.1 h.2.1 h.2.2.1 h.2.2.2 hi
theorem aE0 {m:Int} (h:0≤m∧m≤15):m=m4 (cP m):=by
 have h1:m=0∨m=1∨m=2∨m=3∨m=4∨m=5∨m=6∨m=7∨m=8∨m=9∨m=10∨m=11∨m=12∨m=13∨m=14∨m=15:=by omega
 rcases h1 with rfl | rfl | rfl | rfl | rfl | rfl | rfl | rfl | rfl | rfl | rfl | rfl | rfl | rfl | rfl | rfl<;>decide
theorem aRh (a b c d:Bool):decide (b4 a b c d=(1:Int)*2^(4:Int).toNat - 1)=(a&&(b&&(c&&(d&&true)))):=by cases a<;>cases b<;>cases c<;>cases d<;>decide
theorem vG {p:Nat→Bool} {n:Int} (hn:1≤n∧n≤4) (hp: ∀i,n.toNat≤i→p i=false):decide (m4 p=(1:Int)*2^n.toNat - 1)=(List.range n.toNat).all p:=by
 have h:n=1∨n=2∨n=3∨n=4:=by omega
 rcases h with rfl | rfl | rfl | rfl
 ·have h1:=hp 1 (by decide);have h2:=hp 2 (by decide);have h3:=hp 3 (by decide)
  simp only [m4,h1,h2,h3];show _=(List.range 1).all p
  simp only [List.range,List.range.loop,List.all_cons,List.all_nil]
  cases p 0<;>decide
 ·have h2:=hp 2 (by decide);have h3:=hp 3 (by decide)
  simp only [m4,h2,h3];show _=(List.range 2).all p
  simp only [List.range,List.range.loop,List.all_cons,List.all_nil]
  cases p 0<;>cases p 1<;>decide
 ·have h3:=hp 3 (by decide)
  simp only [m4,h3];show _=(List.range 3).all p
  simp only [List.range,List.range.loop,List.all_cons,List.all_nil]
  cases p 0<;>cases p 1<;>cases p 2<;>decide
 ·simp only [m4];show _=(List.range 4).all p
  simp only [List.range,List.range.loop,List.all_cons,List.all_nil]
  exact aRh _ _ _ _
theorem aTN {m:Int} {v:Nat} (h:0≤m∧m≤15) (hv:v<4):dD .and .i64 (m/2^v) 1=if cP m v=true then 1 else 0:=by
 have h1:m=0∨m=1∨m=2∨m=3∨m=4∨m=5∨m=6∨m=7∨m=8∨m=9∨m=10∨m=11∨m=12∨m=13∨m=14∨m=15:=by omega
 refine lt4 (P:=fun v=>dD .and .i64 (m/2^v) 1=if cP m v=true then 1 else 0) ?_ ?_ ?_ ?_ hv<;>rcases h1 with rfl | rfl | rfl | rfl | rfl | rfl | rfl | rfl | rfl | rfl | rfl | rfl | rfl | rfl | rfl | rfl<;>decide
theorem oS {m:Int} {v:Nat} (h:dD .and .i64 (m/2^v) 1=1):cP m v=true:=by rw [cP,h];rfl
theorem kT {m:Int} {v:Nat} (h: ¬dD .and .i64 (m/2^v) 1=1):cP m v=false:=by rw [cP];simpa using h
theorem aCH {m:Int} {v:Nat} (h:0≤m∧m≤15) (hv:v<4):decide (dD .and .i64 (m/2^v) 1=0)= !cP m v:=by
 rw [aTN h hv];cases cP m v<;>rfl
def dZ (p:Nat→Bool) (k:Nat):List Int:=((List.range k).filter p).map fun v:Nat=>(v:Int)
theorem kO {p:Nat→Bool} {k:Nat} (h:p k=true):dZ p (k+1)=dZ p k++[(k:Int)]:=by
 rw [dZ,List.range_succ,List.filter_append,List.map_append]
 simp [dZ,h]
theorem mC {p:Nat→Bool} {k:Nat} (h:p k=false):dZ p (k+1)=dZ p k:=by
 rw [dZ,List.range_succ,List.filter_append,List.map_append]
 simp [dZ,h]
theorem yX (p:Nat→Bool) (k:Nat):(dZ p k).length≤k:=by
 rw [dZ,List.length_map]
 have:=(List.filter_sublist (l:=List.range k) (p:=p)).length_le
 rw [List.length_range] at this
 exact this
theorem aFz {p q:Nat→Bool} {k:Nat} (h: ∀v,v<k→p v=q v):dZ p k=dZ q k:=by
 rw [dZ,dZ,List.filter_congr fun v hv=>h v (List.mem_range.1 hv)]
theorem nE {p:Nat→Bool} {k:Nat} {x:Int}:x∈dZ p k↔0≤x∧x.toNat<k∧p x.toNat=true:=by
 rw [dZ,List.mem_map]
 constructor
 ·rintro ⟨v,hv,rfl⟩
  rw [List.mem_filter,List.mem_range] at hv
  exact ⟨by omega,by simpa using hv.1,by simpa using hv.2⟩
 ·rintro ⟨h0,h1,h2⟩
  exact ⟨x.toNat,List.mem_filter.2 ⟨List.mem_range.2 h1,h2⟩,by omega⟩
theorem aCI {p:Nat→Bool} {n:Nat}: ∀{k:Nat},n≤k→(∀v,n≤v→v<k→p v=false)→dZ p k=dZ p n
 | 0,h,_=>by rw [show n=0 by omega]
 | k+1,h,hp=>by
   by_cases e:n=k+1
   ·rw [e]
   ·rw [mC (hp k (by omega) (by omega)),aCI (by omega) fun v h1 h2=>hp v h1 (by omega)]
def jN (n:Int) (l:List Int) (k:Nat):Bool:=dY (l.getD k 0) 0 (n - 1)&& !decide (l.getD k 0∈l.take k)
def vH (n:Int) (l:List Int):Bool:=(List.range l.length).all (jN n l)
def eA (n:Int) (a:bK):Bool:=dW a.name&&(dY (a.vars.length:Nat) 1 3&&vH n a.vars)
def aEJ (l:List bK) (v:Nat):Bool:=l.any fun a=>decide ((v:Int)∈a.vars)
def bM (q:QueryD):Bool:=(dY q.variableCount 1 4&&dY (q.atoms.length:Nat) 1 4)&&(q.atoms.all (eA q.variableCount)&&(List.range q.variableCount.toNat).all (aEJ q.atoms))
def gW (l:List bK) (k:Nat) (a:List Int) (i v:Nat):Bool:=aEJ (l.take k) v || decide ((v:Int)∈a.take i)
theorem aGA (l:List bK) (k:Nat) (a b:List Int):gW l k a 0=gW l k b 0:=by funext v;simp [gW]
theorem aGB {l:List bK} {k i:Nat} {a:List Int} {x:Int} (h:a[i]? =some x) (hx:0≤x):(fun v=>gW l k a i v || decide (v=x.toNat))=gW l k a (i+1):=by
 funext v
 rw [gW,gW,cN h,tU,Bool.or_assoc]
 congr 2
 exact decide_eq_decide.2 (by omega)
theorem aNn {l:List bK} {k:Nat} {a:bK} (h:l[k]? =some a) (v:Nat):aEJ (l.take (k+1)) v=(aEJ (l.take k) v || decide ((v:Int)∈a.vars)):=by
 rw [aEJ,cN h,List.any_append]
 simp [aEJ]
theorem aGC {l:List bK} {k i:Nat} {a:bK} (h:l[k]? =some a) (hi:a.vars.length≤i) (b:List Int):gW l k a.vars i=gW l (k+1) b 0:=by
 funext v
 rw [gW,gW,aNn h,List.take_of_length_le hi]
 simp
theorem gM {l:List bK} {k:Nat} (hk:l.length≤k) (b:List Int):gW l k b 0=aEJ l:=by
 funext v
 rw [gW,List.take_of_length_le hk]
 simp
theorem aQJ {n v:Nat} (p:Nat→Bool):((List.range n).map p).set v true=(List.range n).map fun i=>p i || decide (i=v):=by
 apply List.ext_getElem?
 intro i
 rw [List.getElem?_set,List.getElem?_map,List.getElem?_map]
 by_cases hi:i<n
 ·rw [List.getElem?_range hi,List.length_map,List.length_range]
  by_cases e:v=i
  ·subst e;simp [hi]
  ·simp [e,show ¬i=v from fun q=>e q.symm]
 ·rw [show (List.range n)[i]? =none from List.getElem?_eq_none (by simp;omega)]
  by_cases e:v=i
  ·subst e;simp [hi]
  ·simp [e]
theorem rT {n:Nat} (p:Nat→Bool):(!decide (false∈(List.range n).map p))=(List.range n).all p:=by
 apply Bool.eq_iff_iff.2
 rw [Bool.not_eq_true',decide_eq_false_iff_not,List.all_eq_true]
 constructor
 ·intro h x hx
  cases e:p x with
  | true=>rfl
  | false=>exact absurd (List.mem_map.2 ⟨x,hx,e⟩) h
 ·intro h hm
  obtain ⟨x,hx,e⟩:=List.mem_map.1 hm
  rw [h x hx] at e;cases e
theorem nF {q:QueryD} (h:(dY q.variableCount 1 4&&dY (q.atoms.length:Nat) 1 4)=false):bM q=false:=by rw [bM,h];rfl
theorem iZ {q:QueryD} {k:Nat} {a:bK} (h:q.atoms[k]? =some a) (ha:eA q.variableCount a=false):bM q=false:=by rw [bM,cE h ha];simp
theorem kZ {q:QueryD} (h:(dY q.variableCount 1 4&&dY (q.atoms.length:Nat) 1 4)=true) (ha:q.atoms.all (eA q.variableCount)=true):bM q=(List.range q.variableCount.toNat).all (aEJ q.atoms):=by rw [bM,h,ha];rfl
theorem aNo {n:Int} {l:List Int} (h:vH n l=true) {x:Int} (hx:x∈l):0≤x∧x≤n - 1:=by
 obtain ⟨i,hi,rfl⟩:=List.mem_iff_getElem.1 hx
 have:=List.all_eq_true.1 h i (List.mem_range.2 hi)
 simp only [jN,Bool.and_eq_true] at this
 have:=eJ this.1
 rwa [List.getD_eq_getElem?_getD,List.getElem?_eq_getElem hi,Option.getD_some] at this
theorem oE {n:Int} {a:bK} (h:eA n a=true):dW a.name=true∧(1≤a.vars.length∧a.vars.length≤3)∧ ∀x∈a.vars,0≤x∧x≤n - 1:=by
 simp only [eA,Bool.and_eq_true] at h
 have h2:=eJ h.2.1
 exact ⟨h.1,⟨by omega,by omega⟩,fun x hx=>aNo h.2.2 hx⟩
theorem cX {q:QueryD} (h:bM q=true):(1≤q.variableCount∧q.variableCount≤4)∧(1≤q.atoms.length∧q.atoms.length≤4)∧ ∀a∈q.atoms,eA q.variableCount a=true:=by
 simp only [bM,Bool.and_eq_true] at h
 have h1:=eJ h.1.1
 have h2:=eJ h.1.2
 exact ⟨h1,⟨by omega,by omega⟩,fun a ha=>List.all_eq_true.1 h.2.1 a ha⟩
theorem rU {n:Int} {l:List bK} (h:l.all (eA n)=true) (h0:1≤n) {v:Nat} (hv:n.toNat≤v):aEJ l v=false:=by
 rw [aEJ,List.any_eq_false]
 intro a ha hm
 have:=(oE (List.all_eq_true.1 h a ha)).2.2 v (by simpa using hm)
 omega
def vJ (q:QueryD) (m:Int) (i v:Nat):Bool:=(List.range i).any fun j=>cP m j&&decide ((v:Int)∈(q.atoms.getD j dL).vars)
def inM (q:QueryD) (m:Int) (v:Nat):Bool:=vJ q m q.atoms.length v
def gN (q:QueryD) (m:Int):List Int:=dZ (inM q m) q.variableCount.toNat
def gP (q:QueryD) (m:Int):Bool:=bM q&&dY m 0 ((1:Int)*2^q.atoms.length - 1)
def eI (q:QueryD) (m:Int):List Int:=if gP q m=true then gN q m else []
def fQ (a b:List Int):List Int:=a.filter fun x=>decide (x∈b)
def eN (q:QueryD) (a b:Int):List Int:=fQ (eI q a) (eI q b)
def bR (m:Int):List Int:=if dY m 0 15=true then dZ (cP m) 4 else []
def eG (q:QueryD):Int:=if bM q=true then (1:Int)*2^q.atoms.length - 1 else 0
theorem tV {q:QueryD} {m:Int} (h:gP q m=true):eI q m=gN q m:=by rw [eI,if_pos h]
theorem aGD {q:QueryD} {m:Int} (h:gP q m=false):eI q m= []:=by rw [eI,if_neg (by rw [h];decide)]
theorem tW {m:Int} (h:dY m 0 15=true):bR m=dZ (cP m) 4:=by rw [bR,if_pos h]
theorem aGE {m:Int} (h:dY m 0 15=false):bR m= []:=by rw [bR,if_neg (by rw [h];decide)]
theorem jO {q:QueryD} (h:bM q=true):eG q=(1:Int)*2^q.atoms.length - 1:=by rw [eG,if_pos h]
theorem aCJ {q:QueryD} (h:bM q=false):eG q=0:=by rw [eG,if_neg (by rw [h];decide)]
theorem aAT (q:QueryD) (m:Int) (i v:Nat):vJ q m (i+1) v=(vJ q m i v || (cP m i&&decide ((v:Int)∈(q.atoms.getD i dL).vars))):=by
 rw [vJ,List.range_succ,List.any_append]
 simp [vJ]
theorem aK3 {q:QueryD} (h:bM q=true) (m:Int) {v:Nat} (hv:q.variableCount.toNat≤v): ∀{i},i≤q.atoms.length→vJ q m i v=false
 | 0,_=>rfl
 | i+1,hi=>by
   obtain ⟨h1,_,h2⟩:=cX h
   obtain ⟨a,ha⟩:=bY (l:=q.atoms) (k:=i) (by omega)
   have ht:=(oE (h2 a (List.mem_of_getElem? ha))).2.2
   rw [aAT,aK3 h m hv (by omega),aZ ha]
   have: ¬(v:Int)∈a.vars:=fun q=>by have:=ht _ q;omega
   simp [this]
theorem aJD {q:QueryD} (h:bM q=true) (m:Int) {v:Nat} (hv:q.variableCount.toNat≤v):inM q m v=false:=aK3 h m hv (Nat.le_refl _)
def aEK (q:QueryD) (m:Int) (a:bK) (i k v:Nat):Bool:=vJ q m i v || (cP m i&&decide ((v:Int)∈a.vars.take k))
theorem aNp (q:QueryD) (m:Int) (a:bK) (i:Nat):aEK q m a i 0=vJ q m i:=by funext v;simp [aEK]
theorem aNq {q:QueryD} {m:Int} {a:bK} {i k:Nat} {x:Int} (hb:cP m i=true) (h:a.vars[k]? =some x) (hx:0≤x):(fun v=>aEK q m a i k v || decide (v=x.toNat))=aEK q m a i (k+1):=by
 funext v
 rw [aEK,aEK,cN h,tU,hb,Bool.true_and,Bool.true_and,Bool.or_assoc]
 congr 2
 exact decide_eq_decide.2 (by omega)
theorem aAU {q:QueryD} {m:Int} {a:bK} {i k:Nat} (h:q.atoms[i]? =some a) (hk:cP m i=false∨a.vars.length≤k):aEK q m a i k=vJ q m (i+1):=by
 funext v
 rw [aEK,aAT,aZ h]
 rcases hk with hk | hk
 ·rw [hk];rfl
 ·rw [List.take_of_length_le hk]
theorem aGF {q:QueryD} (h:bM q=true) (m:Int):dZ (cP (m4 (inM q m))) 4=gN q m:=by
 obtain ⟨h1,_,_⟩:=cX h
 rw [gN,aFz (q:=inM q m) fun v hv=>aFy hv]
 exact aCI (by omega) fun v hv _=>aJD h m hv
theorem aNr (q:QueryD) (m:Int) (h:bM q=true):(gN q m).length≤4:=by
 have:=yX (inM q m) q.variableCount.toNat
 obtain ⟨h1,_,_⟩:=cX h
 unfold gN
 omega
theorem aMd {q:QueryD} {m:Int} {i v:Nat} {a:bK} (h:q.atoms[i]? =some a) (hb:cP m i=true) (hv:decide ((v:Int)∈a.vars)=true):inM q m v=true:=
 List.any_eq_true.2 ⟨i,List.mem_range.2 (List.getElem?_eq_some_iff.1 h).1,by rw [hb,aZ h,hv];rfl⟩
theorem aCK {q:QueryD} {m:Int} {x:Int} (h:bM q=true):x∈gN q m↔0≤x∧inM q m x.toNat=true:=by
 rw [gN,nE]
 constructor
 ·rintro ⟨h0,_,h2⟩;exact ⟨h0,h2⟩
 ·rintro ⟨h0,h2⟩
  refine ⟨h0,?_,h2⟩
  by_cases e:x.toNat<q.variableCount.toNat
  ·exact e
  ·rw [aJD h m (by omega)] at h2;cases h2
theorem fR {n:Nat} (h:1≤n∧n≤4):1≤(1:Int)*2^n - 1∧(1:Int)*2^n - 1≤15:=by
 have:n=1∨n=2∨n=3∨n=4:=by omega
 rcases this with rfl | rfl | rfl | rfl<;>decide
theorem iA {q:QueryD} {m:Int} (h:gP q m=true):bM q=true∧0≤m∧m≤15∧m≤(1:Int)*2^q.atoms.length - 1:=by
 simp only [gP,Bool.and_eq_true] at h
 have h1:=eJ h.2
 have h2:=fR (cX h.1).2.1
 exact ⟨h.1,by omega,by omega,by omega⟩
theorem aCL {m:Int} {n i:Nat} (h:0≤m∧m≤(1:Int)*2^n - 1) (hi:n≤i) (h4:i<4):cP m i=false:=by
 have hn:n=0∨n=1∨n=2∨n=3:=by omega
 have hi4:i=0∨i=1∨i=2∨i=3:=by omega
 have key:m/2^i=0:=by
  rcases hn with rfl | rfl | rfl | rfl<;>rcases hi4 with rfl | rfl | rfl | rfl<;>first | omega | (simp at h ⊢;omega)
 rw [cP,key];decide
theorem aK4 {m:Int} {n:Nat} (h:0≤m∧m≤(1:Int)*2^n - 1) (hn:n≤4):bR m=dZ (cP m) n:=by
 have h15:m≤15:=by
  have:n=0∨n=1∨n=2∨n=3∨n=4:=by omega
  rcases this with rfl | rfl | rfl | rfl | rfl<;>simp at h<;>omega
 rw [tW (iG h.1 h15)]
 exact aCI hn fun v h1 h2=>aCL h h1 h2
end Go.Proofs.YtokkjaflmcjlhaaGreat
namespace Go.Proofs
open Go.Shelf
namespace YtokkjaflmcjlhaaGreat
def Tryz.revInts_ren : Go.Shelf.Ren := ⟨fun | 35 => 249 | n => n, fun | 22 => 32 | 23 => 3 | 3 => 3 | 4 => 4 | 0 => 0 | n => n, fun | n => n⟩
theorem Tryz.revInts : Go.Proofs.SlLaysE.n35 Tryz.prog Tryz.revInts_ren := {
  mixed := by kernel_rfl
  f35 := ⟨Tryz.f249.name, by decide, Tryz.func249.trans (congrArg some (by kernel_rfl))⟩
  t0 := Tryz.underlying0
  a0 := Tryz.isAgg0
  z0 := Tryz.sizeOf0
  v0 := Tryz.zeroValue0
  t3 := Tryz.underlying3
  a3 := Tryz.isAgg3
  z3 := Tryz.sizeOf3
  v3 := Tryz.zeroValue3
  t4 := Tryz.underlying4
  a4 := Tryz.isAgg4
  z4 := Tryz.sizeOf4
  v4 := Tryz.zeroValue4
  t22 := Tryz.underlying32
  a22 := Tryz.isAgg32
  z22 := Tryz.sizeOf32
  v22 := Tryz.zeroValue32
  a23 := Tryz.isAgg3
  z23 := Tryz.sizeOf3 }
end YtokkjaflmcjlhaaGreat
end Go.Proofs
namespace Go.Proofs.YtokkjaflmcjlhaaGreat
open Go.ChangeShapes Go.WideShapes Go.ChangeAt Go.RowKit
set_option linter.unusedVariables false
end Go.Proofs.YtokkjaflmcjlhaaGreat
namespace Go.Proofs.YtokkjaflmcjlhaaGreat
open Go.ChangeShapes Go.WideShapes Go.ChangeAt Go.RowKit
set_option linter.unusedVariables false
set_option linter.unusedSimpArgs false
set_option maxRecDepth 100000
set_option maxHeartbeats 4000000
abbrev yY (name:ByteArray) (arity:Int) (rows:List (List Int)):AV × List (Nat × Rs):=(.tup [.agg [.p none (.str (((mS name arity rows).1).name)),vI (((mS name arity rows).1).arity),.own 0],vB ((mS name arity rows).2)],[(0,.arr 32 1 true ((((mS name arity rows).1).rows).map aF))])
abbrev aDj (name:ByteArray) (arity:Int) (rows:List (List Int)):Prop:=cU Tryz.prog 276 [.one (.str name),.one (.int .i64 arity),.one (.sl 32 1 (rows.map aF))] (yY name arity rows).1 (yY name arity rows).2
theorem aNs (name:ByteArray) (arity:Int) (rows:List (List Int)) (hc:cI rows≤1048576):aDj name arity rows:=by
 refine aV bF aS Tryz.func276 (by kernel_rfl) (.loop (Nat × (List (List Int))) (Q2 Nat (List (List Int))) [9,13,14,15,16,17,18,19,20,21,22,23,24,25,26,27,28,29,30,31,32] [800,3100,9000] (fun yy0=>[(9,vI (yy0.1:Int))]) (fun yy0=>[(800,some (.box 162 [.p none (.str name),vI arity,.own 9000])),(9000,some (.arr 32 1 true (yy0.2.map aF)))]) (fun yy0=>yy0.1≤rows.length∧yy0.2=cL (rows.take yy0.1)) (fun yy0=>rows.length - yy0.1) (fun yy0=> .len rows.length<| .br (.len yy0.2.length<| .lit<| .lit<| .br (.elem _ aF rows (fun e29=>bP (uX yy0.2 e29)<| .back [(800,800),(9000,3100)])) (.call (vB (aQ (⟨name,arity,yy0.2⟩:aR))) []<| .br (.fin []) (.fin [(0,9000)]))) (.call (vB (aQ (⟨name,arity,yy0.2⟩:aR))) []<| .br (.fin []) (.fin [(0,9000)])))) (p:=(rows.map aF).length≤9223372036854775807→(∃(k:Nat) (acc:List (List Int)),(0:Int)=(k:Int)∧name=name∧arity=arity∧[]=acc.map aF∧k≤rows.length∧acc=cL (rows.take k))∧ ∀(k:Nat) (acc:List (List Int)),(k≤rows.length∧acc=cL (rows.take k))→Lm aF rows∧(((decide ((k:Int)<((rows.length:Nat):Int)))=true→Lm aF acc∧(((decide (((acc.length:Nat):Int)≤(8:Int)))=true→0≤(k:Int)∧Em aF rows k fun e29=>aAy acc e29∧cG ((k:Int)+(1:Int))∧ ∃(k' :Nat) (acc' :List (List Int)),((k:Int)+(1:Int))=(k' :Int)∧name=name∧arity=arity∧(kS e29 acc).map aF=acc'.map aF∧(k' ≤rows.length∧acc' =cL (rows.take k'))∧rows.length - k' <rows.length - k)∧((decide (((acc.length:Nat):Int)≤(8:Int)))=false→oB (⟨name,arity,acc⟩:aR)∧(((!(aQ (⟨name,arity,acc⟩:aR)))=true→ByteArray.empty=(((mS name arity rows).1).name)∧(0:Int)=(((mS name arity rows).1).arity)∧(false)=((mS name arity rows).2)∧[]=(((mS name arity rows).1).rows).map aF∧True)∧((!(aQ (⟨name,arity,acc⟩:aR)))=false→name=(((mS name arity rows).1).name)∧arity=(((mS name arity rows).1).arity)∧(true)=((mS name arity rows).2)∧acc.map aF=(((mS name arity rows).1).rows).map aF∧True)))))∧((decide ((k:Int)<((rows.length:Nat):Int)))=false→oB (⟨name,arity,acc⟩:aR)∧(((!(aQ (⟨name,arity,acc⟩:aR)))=true→ByteArray.empty=(((mS name arity rows).1).name)∧(0:Int)=(((mS name arity rows).1).arity)∧(false)=((mS name arity rows).2)∧[]=(((mS name arity rows).1).rows).map aF∧True)∧((!(aQ (⟨name,arity,acc⟩:aR)))=false→name=(((mS name arity rows).1).name)∧arity=(((mS name arity rows).1).arity)∧(true)=((mS name arity rows).2)∧acc.map aF=(((mS name arity rows).1).rows).map aF∧True))))) (by kernel_rfl) ?_
 intro n0
 simp only [List.length_map] at n0
 have hlen:=gA rows
 refine ⟨⟨0,([]:List (List Int)),rfl,rfl,rfl,rfl,Nat.zero_le _,rfl⟩,fun k acc ⟨hk,ha⟩=>?_⟩
 refine ⟨List.length_map _,fun g17=>?_,fun g17=>?_⟩
 ·replace g17:=yq g17
  refine ⟨List.length_map _,fun c0=>?_,fun c0=>?_⟩
  ·replace c0:=yq c0
   have hp:=aKW rows k
   rw [←ha] at hp
   refine ⟨by omega,rfl,by omega,fun e29 h29=>?_⟩
   have hp3:=aAN h29
   refine ⟨aKP acc e29 (by omega) (by omega) (by omega),⟨by omega,by omega⟩,?_⟩
   exact ⟨k+1,_,rfl,rfl,rfl,rfl,⟨by omega,by rw [ha,cN h29,aCA]⟩,by omega⟩
  ·replace c0:=nq c0
   have hend:=aKX (name:=name) (arity:=arity) ha (by omega)
   refine ⟨yK (⟨name,arity,acc⟩:aR),fun c1=>?_,fun c1=>?_⟩
   ·replace c1:=nt c1
    have hbad:aQ ⟨name,arity,cL rows⟩=false:=by rw [←hend.1];simpa using c1
    refine ⟨?_,?_,?_,?_,trivial⟩
    ·first | (rw [iY hbad]<;>rfl) | (rw [dF hok]<;>rfl) | (rw [dF hok];exact congrArg (List.map aF) hacc)
    ·first | (rw [iY hbad]<;>rfl) | (rw [dF hok]<;>rfl) | (rw [dF hok];exact congrArg (List.map aF) hacc)
    ·first | (rw [iY hbad]<;>rfl) | (rw [dF hok]<;>rfl) | (rw [dF hok];exact congrArg (List.map aF) hacc)
    ·first | (rw [iY hbad]<;>rfl) | (rw [dF hok]<;>rfl) | (rw [dF hok];exact congrArg (List.map aF) hacc)
   ·replace c1:=nf c1
    have hok0:aQ ⟨name,arity,acc⟩=true:=by simpa using c1
    have hok:aQ ⟨name,arity,cL rows⟩=true:=by rw [←hend.1];exact hok0
    have hacc:=hend.2 hok0
    refine ⟨?_,?_,?_,?_,trivial⟩
    ·first | (rw [iY hbad]<;>rfl) | (rw [dF hok]<;>rfl) | (rw [dF hok];exact congrArg (List.map aF) hacc)
    ·first | (rw [iY hbad]<;>rfl) | (rw [dF hok]<;>rfl) | (rw [dF hok];exact congrArg (List.map aF) hacc)
    ·first | (rw [iY hbad]<;>rfl) | (rw [dF hok]<;>rfl) | (rw [dF hok];exact congrArg (List.map aF) hacc)
    ·first | (rw [iY hbad]<;>rfl) | (rw [dF hok]<;>rfl) | (rw [dF hok];exact congrArg (List.map aF) hacc)
 ·replace g17:=nq g17
  have hend:=aKX (name:=name) (arity:=arity) ha (by omega)
  refine ⟨yK (⟨name,arity,acc⟩:aR),fun c1=>?_,fun c1=>?_⟩
  ·replace c1:=nt c1
   have hbad:aQ ⟨name,arity,cL rows⟩=false:=by rw [←hend.1];simpa using c1
   refine ⟨?_,?_,?_,?_,trivial⟩
   ·first | (rw [iY hbad]<;>rfl) | (rw [dF hok]<;>rfl) | (rw [dF hok];exact congrArg (List.map aF) hacc)
   ·first | (rw [iY hbad]<;>rfl) | (rw [dF hok]<;>rfl) | (rw [dF hok];exact congrArg (List.map aF) hacc)
   ·first | (rw [iY hbad]<;>rfl) | (rw [dF hok]<;>rfl) | (rw [dF hok];exact congrArg (List.map aF) hacc)
   ·first | (rw [iY hbad]<;>rfl) | (rw [dF hok]<;>rfl) | (rw [dF hok];exact congrArg (List.map aF) hacc)
  ·replace c1:=nf c1
   have hok0:aQ ⟨name,arity,acc⟩=true:=by simpa using c1
   have hok:aQ ⟨name,arity,cL rows⟩=true:=by rw [←hend.1];exact hok0
   have hacc:=hend.2 hok0
   refine ⟨?_,?_,?_,?_,trivial⟩
   ·first | (rw [iY hbad]<;>rfl) | (rw [dF hok]<;>rfl) | (rw [dF hok];exact congrArg (List.map aF) hacc)
   ·first | (rw [iY hbad]<;>rfl) | (rw [dF hok]<;>rfl) | (rw [dF hok];exact congrArg (List.map aF) hacc)
   ·first | (rw [iY hbad]<;>rfl) | (rw [dF hok]<;>rfl) | (rw [dF hok];exact congrArg (List.map aF) hacc)
   ·first | (rw [iY hbad]<;>rfl) | (rw [dF hok]<;>rfl) | (rw [dF hok];exact congrArg (List.map aF) hacc)
abbrev yZ (x:aC):AV × List (Nat × Rs):=(.tup [.agg [.p none (.str (((mT x).1).name)),vI (((mT x).1).arity),.own 0],vB ((mT x).2)],[(0,.arr 32 1 true ((((mT x).1).rows).map aF))])
abbrev aDk (x:aC):Prop:=cU Tryz.prog 245 [.agg [.str x.name,.int .i64 x.arity,.int .i64 x.rowCount,.sl 218 3 (x.groups.map aB)]] (yZ x).1 (yZ x).2
theorem aNt (x:aC) (hc:bA x≤1048576):aDk x:=by
 refine aV bF aS Tryz.func245 (by kernel_rfl) (.len x.groups.length<| .br (.fin []) (.len x.groups.length<| .elem _ aB x.groups (fun e22=>bP (yY x.name x.arity e22.values)<| .fin [(0,2500)]))) (p:=(x.groups.map aB).length≤9223372036854775807→Lm aB x.groups∧(((decide (((x.groups.length:Nat):Int)=(0:Int)))=true→ByteArray.empty=(((mT x).1).name)∧(0:Int)=(((mT x).1).arity)∧(false)=((mT x).2)∧[]=(((mT x).1).rows).map aF∧True)∧((decide (((x.groups.length:Nat):Int)=(0:Int)))=false→Lm aB x.groups∧cG (((x.groups.length:Nat):Int) - (1:Int))∧0≤(((x.groups.length:Nat):Int) - (1:Int))∧Em aB x.groups ((((x.groups.length:Nat):Int) - (1:Int)).toNat) fun e22=>aDj x.name x.arity e22.values∧(((mS x.name x.arity e22.values).1).name)=(((mT x).1).name)∧(((mS x.name x.arity e22.values).1).arity)=(((mT x).1).arity)∧((mS x.name x.arity e22.values).2)=((mT x).2)∧(((mS x.name x.arity e22.values).1).rows).map aF=(((mT x).1).rows).map aF∧True))) (by kernel_rfl) ?_
 intro n0
 simp only [List.length_map] at n0
 have q2:bA x=x.name.size+cR x.groups:=rfl
 have q5:=iF x.groups
 refine ⟨List.length_map _,fun c0=>?_,fun c0=>?_⟩
 ·replace c0:=yq c0
  have hT:mT x=(gB,false):=by rw [mT,if_pos (by omega)]
  refine ⟨?_,?_,?_,?_,trivial⟩
  ·(rw [hT]<;>rfl)
  ·(rw [hT]<;>rfl)
  ·(rw [hT]<;>rfl)
  ·(rw [hT]<;>rfl)
 ·replace c0:=nq c0
  have hT:mT x=mS x.name x.arity (qC x):=by rw [mT,if_neg (by omega)]
  refine ⟨List.length_map _,⟨by omega,by omega⟩,by omega,rfl,by omega,fun e22 h22=>?_⟩
  have i22:x.groups[x.groups.length - 1]? =some e22:=by rw [←h22];congr 1;omega
  have hL:qC x=e22.values:=aKS i22
  rw [hL] at hT
  have q1:=iR i22
  have q3:bH e22=bZ e22.columns+cI e22.values+bZ e22.counts:=rfl
  have q6:bZ e22.columns=e22.columns.length:=rfl
  have q7:bZ e22.counts=e22.counts.length:=rfl
  have q8:=gA e22.values
  refine ⟨aNs _ _ _ (by omega),?_,?_,?_,?_,trivial⟩
  ·(rw [hT]<;>rfl)
  ·(rw [hT]<;>rfl)
  ·(rw [hT]<;>rfl)
  ·(rw [hT]<;>rfl)
abbrev aGG (x:aC):Prop:=cU Tryz.prog 178 [.agg [.str x.name,.int .i64 x.arity,.int .i64 x.rowCount,.sl 218 3 (x.groups.map aB)]] (vB (dK x)) []
theorem aQK (x:aC) (hc:bA x≤1048576):aGG x:=by
 refine aV bF aS Tryz.func178 (by kernel_rfl) (bP (yZ x)<| .br (bP (aAQ ((mT x).1))<| .call (vB (decide ((bB ((mT x).1))=x))) []<| .fin []) (.fin [])) (p:=(x.groups.map aB).length≤9223372036854775807→aDk x∧((((mT x).2)=true→aDG ((mT x).1)∧rL (bB ((mT x).1)) x∧(decide ((bB ((mT x).1))=x))=(dK x)∧True)∧(((mT x).2)=false→(false)=(dK x)∧True))) (by kernel_rfl) ?_
 intro n0
 simp only [List.length_map] at n0
 have hst:=aDg (mT x).1
 have hsame:=aNf x
 refine ⟨aNt x (by omega),fun g11=>?_,fun g11=>?_⟩
 ·refine ⟨aM7 ((mT x).1),aBq _ _ (by omega),?_,trivial⟩
  ·first | (rw [←hsame,g11];simp;done) | (rw [←hsame];simp [*];done)
 ·refine ⟨?_,trivial⟩
  ·first | (rw [←hsame,g11];simp;done) | (rw [←hsame];simp [*];done)
theorem tF {x:Int} (h:dY x 0 3=true):cG ((1:Int)*2^x.toNat)∧0≤x∧x≤64:=by
 have h2:=eJ h
 have h1:x=0∨x=1∨x=2∨x=3:=by omega
 refine ⟨?_,by omega,by omega⟩
 unfold cG
 rcases h1 with rfl | rfl | rfl | rfl<;>exact ⟨by decide,by decide⟩
end Go.Proofs.YtokkjaflmcjlhaaGreat
