/-
  Contracts and plain laws, joined: part 11.
-/
import Derived.Test.YtdfebigfnjfgpaaGreatQI9
import Derived.Shelf.SlicesE.Compact
import Derived.Ground.SlgnProg
import Derived.Test.YtdfebigfnjfgpaaGreatQI7
import Derived.Test.YtdfebigfnjfgpaaGreatQI4
import Derived.Shelf.SlicesE.Reverse
import Derived.Test.YtdfebigfnjfgpaaGreatQI8
namespace Go.Proofs
open Go.Shelf
namespace YtdfebigfnjfgpaaGreat
def Tryz.compInts_ren : Go.Shelf.Ren := ⟨fun | 43 => 229 | n => n, fun | 22 => 39 | 23 => 3 | 3 => 3 | 4 => 4 | 0 => 0 | n => n, fun | n => n⟩
theorem Tryz.compInts : Go.Proofs.SlLaysE.n43 Tryz.prog Tryz.compInts_ren := {
  mixed := by kernel_rfl
  f43 := ⟨Tryz.f229.name, by decide, Tryz.func229.trans (congrArg some (by kernel_rfl))⟩
  t0 := Tryz.underlying0
  a0 := Tryz.isAgg0
  z0 := Tryz.sizeOf0
  v0 := Tryz.zeroValue0
  t3 := Tryz.underlying3
  a3 := Tryz.isAgg3
  z3 := Tryz.sizeOf3
  v3 := Tryz.zeroValue3
  t4 := Tryz.underlying4
  a4 := Tryz.isAgg4
  z4 := Tryz.sizeOf4
  v4 := Tryz.zeroValue4
  t22 := Tryz.underlying39
  a22 := Tryz.isAgg39
  z22 := Tryz.sizeOf39
  v22 := Tryz.zeroValue39
  a23 := Tryz.isAgg3
  z23 := Tryz.sizeOf3 }
end YtdfebigfnjfgpaaGreat
end Go.Proofs
namespace Go.Proofs.YtdfebigfnjfgpaaGreat
open Go.ChangeShapes Go.WideShapes Go.ChangeAt Go.RowKit Go.Lib
set_option linter.unusedVariables false
set_option linter.unusedSimpArgs false
theorem aMY {P:Program} {f:FuncId} {e:Nat} (l m:List Int) (hc:lC P f=true) (hm:m.length≤l.length) (hm0:l= []→m= [])
 (hn0:l= []→ ∀w,Calls P f #[.slice none 0 0] w (fun ex w' =>ex= .returned (.slice none 0 0)∧w' =w))
 (hs: ∀(blk cap:Nat) (w:World),Go.Sort.Holds (Value.int .i64) w blk 0 l.toArray→blk<w.heap.size→l.length≤cap→Calls P f #[.slice (some ⟨blk,0,none⟩) l.length cap] w (fun ex w' =>ex= .returned (.slice (some ⟨blk,0,none⟩) m.length cap)∧ ∃n os z,(m++z).length=l.length∧w' =Go.Sort.grow (Go.Sort.putRow (Value.int .i64) (Go.Sort.ahead w n) blk 0 (m++z).toArray) os)):
 wQ P f [.own 0] [(0,.arr e 1 true (l.map intD))] (.own 1) [(1,.arr e 1 true (m.map intD))]:=by
 refine ⟨hc,by simp,fun A φ w vs hI hM=>?_⟩
 obtain ⟨pl,hp,css,Fs,q1,q2,q3,q4⟩:=hI.dom 0 _ rfl
 unfold aN at hM
 obtain ⟨v,us,e1,m1,hM⟩:=hM
 unfold aN at hM
 unfold aF at m1
 have hv:=m1 pl hp
 have ev:vs= #[pl.val]:=by apply Array.ext';rw [e1,hM,hv]
 rw [ev]
 obtain ⟨c1,c2⟩:=aDP q4
 rw [c1,List.length_map] at q1
 have hge:=hI.ge 0 pl hp
 have hsub:pl.sub= []:=by rw [q3,c2]
 have hfoot: ∀b∈pl.F,aJU φ b:=fun b hb=>⟨0,pl,trivial,hp,hb⟩
 have h1:φ 1=none:=hI.non 1 rfl
 have hend: ∀(v' :Value) (w' :World),mH pl.F w w' →(∀b∈v'.ownBlock,b∈pl.val.ownBlock)→w'.ownsRow 0 e 1 v' m.length (m.map (Value.int .i64))→
  ∃v K φ',Ending.returned v' = .returned v∧aOD A φ w [(1,.arr e 1 true (m.map intD))] K φ' w' ∧aF K φ' w' (.own 1) v:=by
  intro v' w' hon hvb howns
  let pl' :Pl:=⟨v',v'.ownBlock.toList,[]⟩
  have hmem: ∀g,g∈pl'.F→g∈pl.F:=fun g hg=>by
   unfold Pl.F
   simp only [pl',Pl.F,List.append_nil,Option.mem_toList] at hg
   rw [q2]
   exact List.mem_append_left _ (by rw [Option.mem_toList];exact hvb g hg)
  have hnd' :pl'.F.Nodup:=by simp only [pl',Pl.F,List.append_nil];cases v'.ownBlock<;>simp
  refine ⟨_,A,fun h=>if h=1 then some pl' else none,rfl,⟨⟨hon.os,hon.tape,hon.output,hon.size,fun b hb hn=>hon.block b hb (fun hm=>hn (hfoot b hm))⟩,fun _ h=>h,fun b hb=>⟨Nat.lt_of_lt_of_le (hI.lt b hb) hon.size,.inl hb⟩,fun b hb h pl1 e' hm' =>?_,fun h r hr=>?_,fun h hr=>?_,fun h h' pl1 pl2 hne ea eb=>?_,fun h pl1 e' =>?_,fun h pl1 e' g hg=>?_,fun h pl1 pl0 e' e0=>?_⟩,?_⟩
  ·split at e'
   ·injection e' with e';subst e'
    exact hI.out b hb 0 pl hp (hmem b hm')
   ·cases e'
  ·simp only [aZ] at hr
   split at hr
   ·rename_i eh
    subst eh
    injection hr with hr
    subst hr
    refine ⟨pl',by simp,m.map fun n=>[Value.int .i64 n],m.map fun _=>[],?_,rfl,?_,vC _ m⟩
    ·rw [aDQ,List.length_map];exact howns
    ·simp [pl']
   ·cases hr
  ·simp only [aZ] at hr
   split at hr
   ·cases hr
   ·rename_i eh;exact if_neg eh
  ·split at ea
   ·split at eb
    ·rename_i x y;exact absurd (x.trans y.symm) hne
    ·cases eb
   ·cases ea
  ·split at e'
   ·injection e' with e';subst e';exact hnd'
   ·cases e'
  ·split at e'
   ·injection e' with e';subst e'
    have:=hmem g hg
    exact ⟨.inr (hfoot g this),Nat.lt_of_lt_of_le (hge g this) hon.size⟩
   ·cases e'
  ·split at e'
   ·rename_i eh
    subst eh
    rw [h1] at e0;cases e0
   ·cases e'
  ·unfold aF
   intro pl1 e'
   simp at e'
   subst e'
   rfl
 rcases q1.2 with ⟨hvn,hz⟩ | ⟨g,cap,cur,hvv,hg0,hb,hn,hcap,hsz,htk⟩
 ·have hz' :l= []:=List.eq_nil_of_length_eq_zero hz
  rw [hvn]
  refine (hn0 hz' w).mono ?_
  rintro en w' ⟨rfl,rfl⟩
  refine hend (.slice none 0 0) w' (mH.refl _ _) (fun b hb=>by cases hb) ?_
  rw [hm0 hz']
  exact ⟨by simp,.inl ⟨rfl,rfl⟩⟩
 ·have hlt:g<w.heap.size:=(Array.getElem?_eq_some_iff.1 hb).1
  have hH:Go.Sort.Holds (Value.int .i64) w g 0 l.toArray:=holds_of_blockI hb (by rw [Nat.mul_one] at htk;exact htk)
  rw [hvv]
  refine (hs g cap w hH hlt hn).mono ?_
  rintro en w' ⟨rfl,n,os,z,hz,rfl⟩
  have hgb:=grownBy_sortedI (w:=w) (g:=g) (n:=n) (os:=os) (m++z).toArray
  have hown:=ownsRow_sortedI (n:=n) (os:=os) hz hg0 hb hn hcap hsz
  refine hend _ _ ⟨hgb.os,hgb.tape,hgb.output,hgb.size,fun k hk hne=>hgb.block k hk (fun e=>hne (by injection e with e;subst e;unfold Pl.F;rw [q2,hvv];simp [Value.ownBlock]))⟩ (fun b hb' =>by rw [hvv];exact hb') ?_
  rcases hown.2 with ⟨hvn,_⟩ | ⟨g',cap',cur',hv',hg',hb',hn',hcap',hsz',htk'⟩
  ·cases hvn
  ·simp only [Value.slice.injEq,Option.some.injEq,Addr.mk.injEq,and_true] at hv'
   obtain ⟨rfl,_,rfl⟩:=hv'
   refine ⟨by simp,.inr ⟨g,cap,cur',rfl,hg',hb',by omega,hcap',hsz',?_⟩⟩
   rw [Nat.mul_one] at*
   have h3:=congrArg (List.take m.length) htk'
   rw [List.take_take,Nat.min_eq_left hm,List.map_append,List.take_append_of_le_length (by simp)] at h3
   rw [h3,List.take_of_length_le (by simp)]
def sV (l:List Int):List Int:=compactUpTo l.toArray l.toArray.size
theorem aLK (l:List Int):(sV l).length≤l.length:=by
 unfold sV compactUpTo
 rw [List.length_map]
 have:=(List.filter_sublist (l:=List.range l.toArray.size) (p:=keeps l.toArray)).length_le
 simpa using this
theorem aIp {l:List Int}:sV l= []↔l= []:=by
 constructor
 ·intro h
  by_cases e:l= []
  ·exact e
  ·exfalso
   have hp:0<l.length:=List.length_pos_iff.2 e
   unfold sV compactUpTo at h
   rw [List.map_eq_nil_iff,List.filter_eq_nil_iff] at h
   exact h 0 (List.mem_range.2 (by simpa using hp)) (keeps_lt_one _ 0 (by omega))
 ·rintro rfl;rfl
theorem tyI:hY Tryz.prog 3=some (false,1,8,.int .i64 0):=by kernel_rfl
theorem aUc (w:World):(zeroValue 3).run Tryz.prog w= .ok (.int .i64 0) w:=(iQ tyI w).2.2.1
theorem aO0 (l:List Int) (hl:l.length<4611686018427387904):wQ Tryz.prog 229 [.own 0] [(0,.arr 3 1 true (l.map intD))] (.own 1) [(1,.arr 3 1 true ((sV l).map intD))]:=
 aMY l (sV l) (by kernel_rfl) (aLK l) (fun h=>aIp.2 h)
  (fun h w=>by
   go_enter Tryz.func229,Tryz.ntmps229
   go_wp2
   go_ret
   exact ⟨rfl,rfl⟩)
  (fun blk cap w hH hblk hn=>(AnyE.slices_Compact Tryz.compInts (Value.int .i64) (fun _=>rfl) (EqlAt.intD _ _ .i64) (NeqAt.intD _ _ .i64) 0 (fun w=>aUc w) blk 0 cap l.toArray w hH (by rw [List.size_toArray];omega) (by rw [List.size_toArray];exact hn)).mono fun e w' ⟨he,q,hw⟩=>
   ⟨by have e1:l.toArray.size=l.length:=by simp
       rw [e1] at he;unfold sV;rw [e1];exact he,q,#[],List.replicate (l.length - (sV l).length) 0,by have:=aLK l;simp;omega,by rw [hw,Go.Sort.grow_empty];simp [sV]⟩)
end Go.Proofs.YtdfebigfnjfgpaaGreat
namespace Go.Proofs.YtdfebigfnjfgpaaGreat
open Go.ChangeShapes Go.WideShapes Go.ChangeAt Go.RowKit
set_option linter.unusedVariables false
set_option linter.unusedSimpArgs false
set_option maxRecDepth 100000
set_option maxHeartbeats 4000000
def eS (d:aS) (x:aW):Bool:=(aG d x.name).2&&((aG d x.into).2&&(eB x.column 0 ((aG d x.name).1.arity - 1)&&eB x.intoColumn 0 ((aG d x.into).1.arity - 1)))
def jC (rows:List (List Int)) (c:Int):List Int:=rows.map fun r=>r.getD c.toNat 0
def aDn (d:aS) (x:aW):List Int:=(jC (aG d x.name).1.rows x.column).filter fun v=> !decide (v∈jC (aG d x.into).1.rows x.intoColumn)
def wC (d:aS) (x:aW):List Int:=if eS d x=true then sV (kM (aDn d x)) else []
def aCU (d:aS) (x:aW) (v:Nat):Bool:=decide ((v:Int)∈jC (aG d x.name).1.rows x.column)&& !decide ((v:Int)∈jC (aG d x.into).1.rows x.intoColumn)
def oI (d:aS) (x:aW) (n:Nat):List Int:=((List.range n).filter (aCU d x)).map fun v:Nat=>(v:Int)
def wD (d:aS) (x:aW):List Int:=if eS d x=true then oI d x 10 else []
def jN (d:aS) (x:aW):Bool:=eS d x&&decide (aDn d x= [])
theorem aO1 {d:aS} {x:aW} {v:Nat} (h:aCU d x v=true):oI d x (v+1)=oI d x v++[(v:Int)]:=by
 rw [oI,List.range_succ,List.filter_append,List.map_append]
 simp [oI,h]
theorem aLL {d:aS} {x:aW} {v:Nat} (h:aCU d x v=false):oI d x (v+1)=oI d x v:=by
 rw [oI,List.range_succ,List.filter_append,List.map_append]
 simp [oI,h]
theorem aO2 (d:aS) (x:aW) (v:Nat):(oI d x v).length≤v:=by
 rw [oI,List.length_map]
 have:=List.length_filter_le (aCU d x) (List.range v)
 rwa [List.length_range] at this
theorem mY (rows:List (List Int)) (c:Int) {k:Nat} {r:List Int} (h:rows[k]? =some r):jC (rows.take (k+1)) c=jC (rows.take k) c++[r.getD c.toNat 0]:=by rw [bO h,jC,List.map_append];rfl
theorem uA {l:List Int} {v y:Int}:decide (v∈l++[y])=(decide (v∈l) || decide (v=y)):=by simp [Bool.decide_or]
theorem aO3 {t:aV} {c:Int} {v:Int} (h:aO t=true) (hc:0≤c∧c≤t.arity - 1) (hv:v∈jC t.rows c):0≤v∧v≤9:=by
 obtain ⟨r,hr,rfl⟩:=List.mem_map.1 hv
 have hl:=pH h hr
 have hk:=List.all_eq_true.1 (pG h).1 r hr
 simp only [iX,Bool.and_eq_true,decide_eq_true_eq] at hk
 have hlt:c.toNat<r.length:=by omega
 have hm:r.getD c.toNat 0∈r:=by rw [List.getD_eq_getElem?_getD,List.getElem?_eq_getElem hlt];exact List.getElem_mem hlt
 exact eU (List.all_eq_true.1 hk.1 _ hm)
theorem yJ {d:aS} {x:aW} (h:eS d x=true):aO (aG d x.name).1=true∧aO (aG d x.into).1=true∧(0≤x.column∧x.column≤(aG d x.name).1.arity - 1)∧(0≤x.intoColumn∧x.intoColumn≤(aG d x.into).1.arity - 1):=by
 simp only [eS,Bool.and_eq_true] at h
 obtain ⟨h1,h2,h3,h4⟩:=h
 exact ⟨(nZ h1).1,(nZ h2).1,eU h3,eU h4⟩
theorem aIq {d:aS} {x:aW} (h:eS d x=true):decide (wC d x= [])=decide (aDn d x= []):=by
 rw [wC,if_pos h]
 apply Bool.eq_iff_iff.2
 rw [decide_eq_true_eq,decide_eq_true_eq,aIp]
 constructor
 ·intro q
  have:=tZ (aDn d x)
  rw [q] at this
  exact List.eq_nil_of_length_eq_zero this.symm
 ·intro q
  have:=tZ (aDn d x)
  rw [q] at this
  rw [q]
  exact List.eq_nil_of_length_eq_zero this
theorem aIr {d:aS} {x:aW} (h:eS d x=true):decide (wD d x= [])=decide (aDn d x= []):=by
 obtain ⟨h1,_,h3,_⟩:=yJ h
 rw [wD,if_pos h]
 apply Bool.eq_iff_iff.2
 rw [decide_eq_true_eq,decide_eq_true_eq,oI,List.map_eq_nil_iff,List.filter_eq_nil_iff,aDn,List.filter_eq_nil_iff]
 constructor
 ·intro q v hv hb
  have hr:=aO3 h1 h3 hv
  refine q v.toNat (List.mem_range.2 (by omega)) ?_
  rw [aCU,Int.toNat_of_nonneg hr.1]
  simp only [Bool.and_eq_true,decide_eq_true_eq]
  exact ⟨hv,hb⟩
 ·intro q v _ hb
  rw [aCU,Bool.and_eq_true,decide_eq_true_eq] at hb
  exact q _ hb.1 hb.2
abbrev vD (d:aS) (x:aW):Prop:=cT Tryz.prog 209 [.agg [.sl 167 3 (d.tables.map aR)],.agg [.str x.name,.int .i64 x.column,.str x.into,.int .i64 x.intoColumn]] (vB (eS d x)) []
theorem aGW (d:aS) (x:aW) (hc:bN d≤1048576):vD d x:=by
 refine aT bE aL Tryz.func209 (by kernel_rfl) (.call (.tup [.agg [.p none (.str (((aG d x.name).1).name)),vI (((aG d x.name).1).arity),.p none (.sl 39 1 ((((aG d x.name).1).rows).map aA))],vB ((aG d x.name).2)]) []<| .call (.tup [.agg [.p none (.str (((aG d x.into).1).name)),vI (((aG d x.into).1).arity),.p none (.sl 39 1 ((((aG d x.into).1).rows).map aA))],vB ((aG d x.into).2)]) []<| .br (.lit<| .br (.raw<| .call (vB (eB x.column (0:Int) (IntKind.i64.wrap ((((aG d x.name).1).arity) - (1:Int))))) []<| .lit<| .br (.raw<| .call (vB (eB x.intoColumn (0:Int) (IntKind.i64.wrap ((((aG d x.into).1).arity) - (1:Int))))) []<| .fin []) (.fin [])) (.fin [])) (.fin [])) (p:=(d.tables.map aR).length≤9223372036854775807→cT Tryz.prog 150 [.agg [.sl 167 3 (d.tables.map aR)],.one (.str x.name)] (.tup [.agg [.p none (.str (((aG d x.name).1).name)),vI (((aG d x.name).1).arity),.p none (.sl 39 1 ((((aG d x.name).1).rows).map aA))],vB ((aG d x.name).2)]) []∧(cT Tryz.prog 150 [.agg [.sl 167 3 (d.tables.map aR)],.one (.str x.into)] (.tup [.agg [.p none (.str (((aG d x.into).1).name)),vI (((aG d x.into).1).arity),.p none (.sl 39 1 ((((aG d x.into).1).rows).map aA))],vB ((aG d x.into).2)]) []∧((((aG d x.name).2)=true→(((aG d x.into).2)=true→fS x.column (0:Int) (IntKind.i64.wrap ((((aG d x.name).1).arity) - (1:Int)))∧(((eB x.column (0:Int) (IntKind.i64.wrap ((((aG d x.name).1).arity) - (1:Int))))=true→fS x.intoColumn (0:Int) (IntKind.i64.wrap ((((aG d x.into).1).arity) - (1:Int)))∧(eB x.intoColumn (0:Int) (IntKind.i64.wrap ((((aG d x.into).1).arity) - (1:Int))))=(eS d x)∧True)∧((eB x.column (0:Int) (IntKind.i64.wrap ((((aG d x.name).1).arity) - (1:Int))))=false→(false)=(eS d x)∧True)))∧(((aG d x.into).2)=false→(false)=(eS d x)∧True))∧(((aG d x.name).2)=false→(false)=(eS d x)∧True)))) (by kernel_rfl) ?_
 intro n0
 simp only [List.length_map] at n0
 refine ⟨kO (rU _ x.name (by omega)) rfl,kO (rU _ x.into (by omega)) rfl,fun g24=>?_,fun g24=>?_⟩
 ·have hT:=(nZ g24).1
  have hA:=cN hT
  have hw:IntKind.i64.wrap ((aG d x.name).1.arity - 1)=(aG d x.name).1.arity - 1:=IntWalk.i64_in _ ⟨by omega,by omega⟩
  try rw [hw]
  refine ⟨fun g27=>?_,fun g27=>?_⟩
  ·have hT2:=(nZ g27).1
   have hA2:=cN hT2
   have hw2:IntKind.i64.wrap ((aG d x.into).1.arity - 1)=(aG d x.into).1.arity - 1:=IntWalk.i64_in _ ⟨by omega,by omega⟩
   try rw [hw2]
   refine ⟨jQ _ _ _,fun g35=>?_,fun g35=>?_⟩
   ·refine ⟨jQ _ _ _,?_,trivial⟩
    ·first | (simp [eS, *];done) | (simp [eS, *] at*;simp [*];done) | (simp_all [eS];done)
   ·refine ⟨?_,trivial⟩
    ·first | (simp [eS, *];done) | (simp [eS, *] at*;simp [*];done) | (simp_all [eS];done)
  ·refine ⟨?_,trivial⟩
   ·first | (simp [eS, *];done) | (simp [eS, *] at*;simp [*];done) | (simp_all [eS];done)
 ·refine ⟨?_,trivial⟩
  ·first | (simp [eS, *];done) | (simp [eS, *] at*;simp [*];done) | (simp_all [eS];done)
abbrev vE (d:aS) (x:aW):Prop:=cT Tryz.prog 215 [.agg [.sl 167 3 (d.tables.map aR)],.agg [.str x.name,.int .i64 x.column,.str x.into,.int .i64 x.intoColumn]] (vB (eS d x)) []
theorem aGX (d:aS) (x:aW) (hc:bN d≤1048576):vE d x:=by
 refine aT bE aL Tryz.func215 (by kernel_rfl) (.call (.tup [.agg [.p none (.str (((aG d x.name).1).name)),vI (((aG d x.name).1).arity),.p none (.sl 39 1 ((((aG d x.name).1).rows).map aA))],vB ((aG d x.name).2)]) []<| .call (.tup [.agg [.p none (.str (((aG d x.into).1).name)),vI (((aG d x.into).1).arity),.p none (.sl 39 1 ((((aG d x.into).1).rows).map aA))],vB ((aG d x.into).2)]) []<| .br (.lit<| .br (.raw<| .call (vB (eB x.column (0:Int) (IntKind.i64.wrap ((((aG d x.name).1).arity) - (1:Int))))) []<| .lit<| .br (.raw<| .call (vB (eB x.intoColumn (0:Int) (IntKind.i64.wrap ((((aG d x.into).1).arity) - (1:Int))))) []<| .fin []) (.fin [])) (.fin [])) (.fin [])) (p:=(d.tables.map aR).length≤9223372036854775807→cT Tryz.prog 168 [.agg [.sl 167 3 (d.tables.map aR)],.one (.str x.name)] (.tup [.agg [.p none (.str (((aG d x.name).1).name)),vI (((aG d x.name).1).arity),.p none (.sl 39 1 ((((aG d x.name).1).rows).map aA))],vB ((aG d x.name).2)]) []∧(cT Tryz.prog 168 [.agg [.sl 167 3 (d.tables.map aR)],.one (.str x.into)] (.tup [.agg [.p none (.str (((aG d x.into).1).name)),vI (((aG d x.into).1).arity),.p none (.sl 39 1 ((((aG d x.into).1).rows).map aA))],vB ((aG d x.into).2)]) []∧((((aG d x.name).2)=true→(((aG d x.into).2)=true→fT x.column (0:Int) (IntKind.i64.wrap ((((aG d x.name).1).arity) - (1:Int)))∧(((eB x.column (0:Int) (IntKind.i64.wrap ((((aG d x.name).1).arity) - (1:Int))))=true→fT x.intoColumn (0:Int) (IntKind.i64.wrap ((((aG d x.into).1).arity) - (1:Int)))∧(eB x.intoColumn (0:Int) (IntKind.i64.wrap ((((aG d x.into).1).arity) - (1:Int))))=(eS d x)∧True)∧((eB x.column (0:Int) (IntKind.i64.wrap ((((aG d x.name).1).arity) - (1:Int))))=false→(false)=(eS d x)∧True)))∧(((aG d x.into).2)=false→(false)=(eS d x)∧True))∧(((aG d x.name).2)=false→(false)=(eS d x)∧True)))) (by kernel_rfl) ?_
 intro n0
 simp only [List.length_map] at n0
 refine ⟨kO (rV _ x.name (by omega)) rfl,kO (rV _ x.into (by omega)) rfl,fun g24=>?_,fun g24=>?_⟩
 ·have hT:=(nZ g24).1
  have hA:=cN hT
  have hw:IntKind.i64.wrap ((aG d x.name).1.arity - 1)=(aG d x.name).1.arity - 1:=IntWalk.i64_in _ ⟨by omega,by omega⟩
  try rw [hw]
  refine ⟨fun g27=>?_,fun g27=>?_⟩
  ·have hT2:=(nZ g27).1
   have hA2:=cN hT2
   have hw2:IntKind.i64.wrap ((aG d x.into).1.arity - 1)=(aG d x.into).1.arity - 1:=IntWalk.i64_in _ ⟨by omega,by omega⟩
   try rw [hw2]
   refine ⟨jR _ _ _,fun g35=>?_,fun g35=>?_⟩
   ·refine ⟨jR _ _ _,?_,trivial⟩
    ·first | (simp [eS, *];done) | (simp [eS, *] at*;simp [*];done) | (simp_all [eS];done)
   ·refine ⟨?_,trivial⟩
    ·first | (simp [eS, *];done) | (simp [eS, *] at*;simp [*];done) | (simp_all [eS];done)
  ·refine ⟨?_,trivial⟩
   ·first | (simp [eS, *];done) | (simp [eS, *] at*;simp [*];done) | (simp_all [eS];done)
 ·refine ⟨?_,trivial⟩
  ·first | (simp [eS, *];done) | (simp [eS, *] at*;simp [*];done) | (simp_all [eS];done)
def b4 (a b c d:Bool):Int:=(if a then 1 else 0)+(if b then 2 else 0)+(if c then 4 else 0)+(if d then 8 else 0)
def m4 (p:Nat→Bool):Int:=b4 (p 0) (p 1) (p 2) (p 3)
theorem lt4 {P:Nat→Prop} (h0:P 0) (h1:P 1) (h2:P 2) (h3:P 3) {i:Nat} (hi:i<4):P i:=by
 have h:i=0∨i=1∨i=2∨i=3:=by omega
 rcases h with rfl | rfl | rfl | rfl<;>assumption
theorem aUN (a b c d:Bool):gL (b4 a b c d) 0=a∧gL (b4 a b c d) 1=b∧gL (b4 a b c d) 2=c∧gL (b4 a b c d) 3=d:=by
 cases a<;>cases b<;>cases c<;>cases d<;>decide
theorem aUO {p:Nat→Bool} {v:Nat} (hv:v<4):gL (m4 p) v=p v:=by
 have h:=aUN (p 0) (p 1) (p 2) (p 3)
 exact lt4 (P:=fun v=>gL (m4 p) v=p v) h.1 h.2.1 h.2.2.1 h.2.2.2 hv
theorem aQx (a b c d:Bool):0≤b4 a b c d∧b4 a b c d≤15:=by cases a<;>cases b<;>cases c<;>cases d<;>decide
theorem aQy (p:Nat→Bool):0≤m4 p∧m4 p≤15:=aQx _ _ _ _
theorem aUd (a b c d:Bool):cF .or .i64 (b4 a b c d) (1*2^0)=b4 true b c d∧cF .or .i64 (b4 a b c d) (1*2^1)=b4 a true c d∧cF .or .i64 (b4 a b c d) (1*2^2)=b4 a b true d∧cF .or .i64 (b4 a b c d) (1*2^3)=b4 a b c true:=by
 cases a<;>cases b<;>cases c<;>cases d<;>decide
theorem aQz {p:Nat→Bool} {v:Nat} (hv:v<4):cF .or .i64 (m4 p) ((1:Int)*2^v)=m4 (fun i=>p i || decide (i=v)):=by
 have h:=aUd (p 0) (p 1) (p 2) (p 3)
 refine lt4 (P:=fun v=>cF .or .i64 (m4 p) ((1:Int)*2^v)=m4 (fun i=>p i || decide (i=v))) ?_ ?_ ?_ ?_ hv
 ·simpa [m4] using h.1
 ·simpa [m4] using h.2.1
 ·simpa [m4] using h.2.2.1
 ·simpa [m4] using h.2.2.2
theorem aSq (a b c d:Bool):decide (b4 a b c d=(1:Int)*2^(4:Int).toNat - 1)=(a&&(b&&(c&&(d&&true)))):=by cases a<;>cases b<;>cases c<;>cases d<;>decide
theorem vF {p:Nat→Bool} {n:Int} (hn:1≤n∧n≤4) (hp: ∀i,n.toNat≤i→p i=false):decide (m4 p=(1:Int)*2^n.toNat - 1)=(List.range n.toNat).all p:=by
 have h:n=1∨n=2∨n=3∨n=4:=by omega
 rcases h with rfl | rfl | rfl | rfl
 ·have h1:=hp 1 (by decide);have h2:=hp 2 (by decide);have h3:=hp 3 (by decide)
  simp only [m4,h1,h2,h3];show _=(List.range 1).all p
  simp only [List.range,List.range.loop,List.all_cons,List.all_nil]
  cases p 0<;>decide
 ·have h2:=hp 2 (by decide);have h3:=hp 3 (by decide)
  simp only [m4,h2,h3];show _=(List.range 2).all p
  simp only [List.range,List.range.loop,List.all_cons,List.all_nil]
  cases p 0<;>cases p 1<;>decide
 ·have h3:=hp 3 (by decide)
  simp only [m4,h3];show _=(List.range 3).all p
  simp only [List.range,List.range.loop,List.all_cons,List.all_nil]
  cases p 0<;>cases p 1<;>cases p 2<;>decide
 ·simp only [m4];show _=(List.range 4).all p
  simp only [List.range,List.range.loop,List.all_cons,List.all_nil]
  exact aSq _ _ _ _
theorem aUP {m:Int} {v:Nat} (h:0≤m∧m≤15) (hv:v<4):cF .and .i64 (m/2^v) 1=if gL m v=true then 1 else 0:=by
 have h1:m=0∨m=1∨m=2∨m=3∨m=4∨m=5∨m=6∨m=7∨m=8∨m=9∨m=10∨m=11∨m=12∨m=13∨m=14∨m=15:=by omega
 refine lt4 (P:=fun v=>cF .and .i64 (m/2^v) 1=if gL m v=true then 1 else 0) ?_ ?_ ?_ ?_ hv<;>rcases h1 with rfl | rfl | rfl | rfl | rfl | rfl | rfl | rfl | rfl | rfl | rfl | rfl | rfl | rfl | rfl | rfl<;>decide
theorem aAM {m:Int} {v:Nat} (h:cF .and .i64 (m/2^v) 1=1):gL m v=true:=by rw [gL,h];rfl
theorem qF {m:Int} {v:Nat} (h: ¬cF .and .i64 (m/2^v) 1=1):gL m v=false:=by rw [gL];simpa using h
theorem aRA {m:Int} {v:Nat} (h:0≤m∧m≤15) (hv:v<4):decide (cF .and .i64 (m/2^v) 1=0)= !gL m v:=by
 rw [aUP h hv];cases gL m v<;>rfl
def iK (p:Nat→Bool) (k:Nat):List Int:=((List.range k).filter p).map fun v:Nat=>(v:Int)
theorem mN {p:Nat→Bool} {k:Nat} (h:p k=true):iK p (k+1)=iK p k++[(k:Int)]:=by
 rw [iK,List.range_succ,List.filter_append,List.map_append]
 simp [iK,h]
theorem oA {p:Nat→Bool} {k:Nat} (h:p k=false):iK p (k+1)=iK p k:=by
 rw [iK,List.range_succ,List.filter_append,List.map_append]
 simp [iK,h]
theorem yK (p:Nat→Bool) (k:Nat):(iK p k).length≤k:=by
 rw [iK,List.length_map]
 have:=(List.filter_sublist (l:=List.range k) (p:=p)).length_le
 rw [List.length_range] at this
 exact this
theorem aMZ {p q:Nat→Bool} {k:Nat} (h: ∀v,v<k→p v=q v):iK p k=iK q k:=by
 rw [iK,iK,List.filter_congr fun v hv=>h v (List.mem_range.1 hv)]
theorem aLM {p:Nat→Bool} {k:Nat} {x:Int}:x∈iK p k↔0≤x∧x.toNat<k∧p x.toNat=true:=by
 rw [iK,List.mem_map]
 constructor
 ·rintro ⟨v,hv,rfl⟩
  rw [List.mem_filter,List.mem_range] at hv
  exact ⟨by omega,by simpa using hv.1,by simpa using hv.2⟩
 ·rintro ⟨h0,h1,h2⟩
  exact ⟨x.toNat,List.mem_filter.2 ⟨List.mem_range.2 h1,h2⟩,by omega⟩
theorem aGY {p:Nat→Bool} {n:Nat}: ∀{k:Nat},n≤k→(∀v,n≤v→v<k→p v=false)→iK p k=iK p n
 | 0,h,_=>by rw [show n=0 by omega]
 | k+1,h,hp=>by
   by_cases e:n=k+1
   ·rw [e]
   ·rw [oA (hp k (by omega) (by omega)),aGY (by omega) fun v h1 h2=>hp v h1 (by omega)]
def kU (n:Int) (l:List Int) (k:Nat):Bool:=eB (l.getD k 0) 0 (n - 1)&& !decide (l.getD k 0∈l.take k)
def yL (n:Int) (l:List Int):Bool:=(List.range l.length).all (kU n l)
def eW (n:Int) (a:dS):Bool:=eO a.name&&(eB (a.vars.length:Nat) 1 3&&yL n a.vars)
def aEg (l:List dS) (v:Nat):Bool:=l.any fun a=>decide ((v:Int)∈a.vars)
def cK (q:QueryD):Bool:=(eB q.variableCount 1 4&&eB (q.atoms.length:Nat) 1 4)&&(q.atoms.all (eW q.variableCount)&&(List.range q.variableCount.toNat).all (aEg q.atoms))
def iZ (l:List dS) (k:Nat) (a:List Int) (i v:Nat):Bool:=aEg (l.take k) v || decide ((v:Int)∈a.take i)
theorem aGZ (l:List dS) (k:Nat) (a b:List Int):iZ l k a 0=iZ l k b 0:=by funext v;simp [iZ]
theorem aG0 {l:List dS} {k i:Nat} {a:List Int} {x:Int} (h:a[i]? =some x) (hx:0≤x):(fun v=>iZ l k a i v || decide (v=x.toNat))=iZ l k a (i+1):=by
 funext v
 rw [iZ,iZ,bO h,uA,Bool.or_assoc]
 congr 2
 exact decide_eq_decide.2 (by omega)
theorem aO4 {l:List dS} {k:Nat} {a:dS} (h:l[k]? =some a) (v:Nat):aEg (l.take (k+1)) v=(aEg (l.take k) v || decide ((v:Int)∈a.vars)):=by
 rw [aEg,bO h,List.any_append]
 simp [aEg]
theorem aG1 {l:List dS} {k i:Nat} {a:dS} (h:l[k]? =some a) (hi:a.vars.length≤i) (b:List Int):iZ l k a.vars i=iZ l (k+1) b 0:=by
 funext v
 rw [iZ,iZ,aO4 h,List.take_of_length_le hi]
 simp
theorem iR {l:List dS} {k:Nat} (hk:l.length≤k) (b:List Int):iZ l k b 0=aEg l:=by
 funext v
 rw [iZ,List.take_of_length_le hk]
 simp
theorem aRB {n v:Nat} (p:Nat→Bool):((List.range n).map p).set v true=(List.range n).map fun i=>p i || decide (i=v):=by
 apply List.ext_getElem?
 intro i
 rw [List.getElem?_set,List.getElem?_map,List.getElem?_map]
 by_cases hi:i<n
 ·rw [List.getElem?_range hi,List.length_map,List.length_range]
  by_cases e:v=i
  ·subst e;simp [hi]
  ·simp [e,show ¬i=v from fun q=>e q.symm]
 ·rw [show (List.range n)[i]? =none from List.getElem?_eq_none (by simp;omega)]
  by_cases e:v=i
  ·subst e;simp [hi]
  ·simp [e]
theorem rW {n:Nat} (p:Nat→Bool):(!decide (false∈(List.range n).map p))=(List.range n).all p:=by
 apply Bool.eq_iff_iff.2
 rw [Bool.not_eq_true',decide_eq_false_iff_not,List.all_eq_true]
 constructor
 ·intro h x hx
  cases e:p x with
  | true=>rfl
  | false=>exact absurd (List.mem_map.2 ⟨x,hx,e⟩) h
 ·intro h hm
  obtain ⟨x,hx,e⟩:=List.mem_map.1 hm
  rw [h x hx] at e;cases e
theorem oB {q:QueryD} (h:(eB q.variableCount 1 4&&eB (q.atoms.length:Nat) 1 4)=false):cK q=false:=by rw [cK,h];rfl
theorem kB {q:QueryD} {k:Nat} {a:dS} (h:q.atoms[k]? =some a) (ha:eW q.variableCount a=false):cK q=false:=by rw [cK,bU h ha];simp
theorem lT {q:QueryD} (h:(eB q.variableCount 1 4&&eB (q.atoms.length:Nat) 1 4)=true) (ha:q.atoms.all (eW q.variableCount)=true):cK q=(List.range q.variableCount.toNat).all (aEg q.atoms):=by rw [cK,h,ha];rfl
theorem aO5 {n:Int} {l:List Int} (h:yL n l=true) {x:Int} (hx:x∈l):0≤x∧x≤n - 1:=by
 obtain ⟨i,hi,rfl⟩:=List.mem_iff_getElem.1 hx
 have:=List.all_eq_true.1 h i (List.mem_range.2 hi)
 simp only [kU,Bool.and_eq_true] at this
 have:=eU this.1
 rwa [List.getD_eq_getElem?_getD,List.getElem?_eq_getElem hi,Option.getD_some] at this
theorem aBK {n:Int} {a:dS} (h:eW n a=true):eO a.name=true∧(1≤a.vars.length∧a.vars.length≤3)∧ ∀x∈a.vars,0≤x∧x≤n - 1:=by
 simp only [eW,Bool.and_eq_true] at h
 have h2:=eU h.2.1
 exact ⟨h.1,⟨by omega,by omega⟩,fun x hx=>aO5 h.2.2 hx⟩
theorem gU {q:QueryD} (h:cK q=true):(1≤q.variableCount∧q.variableCount≤4)∧(1≤q.atoms.length∧q.atoms.length≤4)∧ ∀a∈q.atoms,eW q.variableCount a=true:=by
 simp only [cK,Bool.and_eq_true] at h
 have h1:=eU h.1.1
 have h2:=eU h.1.2
 exact ⟨h1,⟨by omega,by omega⟩,fun a ha=>List.all_eq_true.1 h.2.1 a ha⟩
theorem rX {n:Int} {l:List dS} (h:l.all (eW n)=true) (h0:1≤n) {v:Nat} (hv:n.toNat≤v):aEg l v=false:=by
 rw [aEg,List.any_eq_false]
 intro a ha hm
 have:=(aBK (List.all_eq_true.1 h a ha)).2.2 v (by simpa using hm)
 omega
def vG (q:QueryD) (m:Int) (i v:Nat):Bool:=(List.range i).any fun j=>gL m j&&decide ((v:Int)∈(q.atoms.getD j jI).vars)
def inM (q:QueryD) (m:Int) (v:Nat):Bool:=vG q m q.atoms.length v
def aDo (q:QueryD) (m:Int):List Int:=iK (inM q m) q.variableCount.toNat
def jO (q:QueryD) (m:Int):Bool:=cK q&&eB m 0 ((1:Int)*2^q.atoms.length - 1)
def eT (q:QueryD) (m:Int):List Int:=if jO q m=true then aDo q m else []
def fY (m:Int):List Int:=if eB m 0 15=true then iK (gL m) 4 else []
def nG (q:QueryD):Int:=if cK q=true then (1:Int)*2^q.atoms.length - 1 else 0
theorem aAN {q:QueryD} {m:Int} (h:jO q m=true):eT q m=aDo q m:=by rw [eT,if_pos h]
theorem aCV {q:QueryD} {m:Int} (h:jO q m=false):eT q m= []:=by rw [eT,if_neg (by rw [h];decide)]
theorem aAO {m:Int} (h:eB m 0 15=true):fY m=iK (gL m) 4:=by rw [fY,if_pos h]
theorem aG2 {m:Int} (h:eB m 0 15=false):fY m= []:=by rw [fY,if_neg (by rw [h];decide)]
theorem uB {q:QueryD} (h:cK q=true):nG q=(1:Int)*2^q.atoms.length - 1:=by rw [nG,if_pos h]
theorem aCW {q:QueryD} (h:cK q=false):nG q=0:=by rw [nG,if_neg (by rw [h];decide)]
theorem aAP (q:QueryD) (m:Int) (i v:Nat):vG q m (i+1) v=(vG q m i v || (gL m i&&decide ((v:Int)∈(q.atoms.getD i jI).vars))):=by
 rw [vG,List.range_succ,List.any_append]
 simp [vG]
theorem aLN {q:QueryD} (h:cK q=true) (m:Int) {v:Nat} (hv:q.variableCount.toNat≤v): ∀{i},i≤q.atoms.length→vG q m i v=false
 | 0,_=>rfl
 | i+1,hi=>by
   obtain ⟨h1,_,h2⟩:=gU h
   obtain ⟨a,ha⟩:=dG (l:=q.atoms) (k:=i) (by omega)
   have ht:=(aBK (h2 a (List.mem_of_getElem? ha))).2.2
   rw [aAP,aLN h m hv (by omega),bC ha]
   have: ¬(v:Int)∈a.vars:=fun q=>by have:=ht _ q;omega
   simp [this]
theorem aSr {q:QueryD} (h:cK q=true) (m:Int) {v:Nat} (hv:q.variableCount.toNat≤v):inM q m v=false:=aLN h m hv (Nat.le_refl _)
def aEh (q:QueryD) (m:Int) (a:dS) (i k v:Nat):Bool:=vG q m i v || (gL m i&&decide ((v:Int)∈a.vars.take k))
theorem aO6 (q:QueryD) (m:Int) (a:dS) (i:Nat):aEh q m a i 0=vG q m i:=by funext v;simp [aEh]
theorem aO7 {q:QueryD} {m:Int} {a:dS} {i k:Nat} {x:Int} (hb:gL m i=true) (h:a.vars[k]? =some x) (hx:0≤x):(fun v=>aEh q m a i k v || decide (v=x.toNat))=aEh q m a i (k+1):=by
 funext v
 rw [aEh,aEh,bO h,uA,hb,Bool.true_and,Bool.true_and,Bool.or_assoc]
 congr 2
 exact decide_eq_decide.2 (by omega)
theorem aAQ {q:QueryD} {m:Int} {a:dS} {i k:Nat} (h:q.atoms[i]? =some a) (hk:gL m i=false∨a.vars.length≤k):aEh q m a i k=vG q m (i+1):=by
 funext v
 rw [aEh,aAP,bC h]
 rcases hk with hk | hk
 ·rw [hk];rfl
 ·rw [List.take_of_length_le hk]
theorem aG3 {q:QueryD} (h:cK q=true) (m:Int):iK (gL (m4 (inM q m))) 4=aDo q m:=by
 obtain ⟨h1,_,_⟩:=gU h
 rw [aDo,aMZ (q:=inM q m) fun v hv=>aUO hv]
 exact aGY (by omega) fun v hv _=>aSr h m hv
theorem aSs {q:QueryD} {m:Int} {i v:Nat} {a:dS} (h:q.atoms[i]? =some a) (hb:gL m i=true) (hv:decide ((v:Int)∈a.vars)=true):inM q m v=true:=
 List.any_eq_true.2 ⟨i,List.mem_range.2 (List.getElem?_eq_some_iff.1 h).1,by rw [hb,bC h,hv];rfl⟩
theorem mZ {n:Nat} (h:1≤n∧n≤4):1≤(1:Int)*2^n - 1∧(1:Int)*2^n - 1≤15:=by
 have:n=1∨n=2∨n=3∨n=4:=by omega
 rcases this with rfl | rfl | rfl | rfl<;>decide
theorem qQ {q:QueryD} {m:Int} (h:jO q m=true):cK q=true∧0≤m∧m≤15∧m≤(1:Int)*2^q.atoms.length - 1:=by
 simp only [jO,Bool.and_eq_true] at h
 have h1:=eU h.2
 have h2:=mZ (gU h.1).2.1
 exact ⟨h.1,by omega,by omega,by omega⟩
theorem aRC {m:Int} {n i:Nat} (h:0≤m∧m≤(1:Int)*2^n - 1) (hi:n≤i) (h4:i<4):gL m i=false:=by
 have hn:n=0∨n=1∨n=2∨n=3:=by omega
 have hi4:i=0∨i=1∨i=2∨i=3:=by omega
 have key:m/2^i=0:=by
  rcases hn with rfl | rfl | rfl | rfl<;>rcases hi4 with rfl | rfl | rfl | rfl<;>first | omega | (simp at h ⊢;omega)
 rw [gL,key];decide
theorem aRD {m:Int} {n:Nat} (h:0≤m∧m≤(1:Int)*2^n - 1) (hn:n≤4):fY m=iK (gL m) n:=by
 have h15:m≤15:=by
  have:n=0∨n=1∨n=2∨n=3∨n=4:=by omega
  rcases this with rfl | rfl | rfl | rfl | rfl<;>simp at h<;>omega
 rw [aAO (aAh h.1 h15)]
 exact aGY hn fun v h1 h2=>aRC h h1 h2
end Go.Proofs.YtdfebigfnjfgpaaGreat
namespace Go.Proofs
open Go.Shelf
namespace YtdfebigfnjfgpaaGreat
def Tryz.revInts_ren : Go.Shelf.Ren := ⟨fun | 35 => 230 | n => n, fun | 22 => 39 | 23 => 3 | 3 => 3 | 4 => 4 | 0 => 0 | n => n, fun | n => n⟩
theorem Tryz.revInts : Go.Proofs.SlLaysE.n35 Tryz.prog Tryz.revInts_ren := {
  mixed := by kernel_rfl
  f35 := ⟨Tryz.f230.name, by decide, Tryz.func230.trans (congrArg some (by kernel_rfl))⟩
  t0 := Tryz.underlying0
  a0 := Tryz.isAgg0
  z0 := Tryz.sizeOf0
  v0 := Tryz.zeroValue0
  t3 := Tryz.underlying3
  a3 := Tryz.isAgg3
  z3 := Tryz.sizeOf3
  v3 := Tryz.zeroValue3
  t4 := Tryz.underlying4
  a4 := Tryz.isAgg4
  z4 := Tryz.sizeOf4
  v4 := Tryz.zeroValue4
  t22 := Tryz.underlying39
  a22 := Tryz.isAgg39
  z22 := Tryz.sizeOf39
  v22 := Tryz.zeroValue39
  a23 := Tryz.isAgg3
  z23 := Tryz.sizeOf3 }
end YtdfebigfnjfgpaaGreat
end Go.Proofs
namespace Go.Proofs.YtdfebigfnjfgpaaGreat
open Go.ChangeShapes Go.WideShapes Go.ChangeAt Go.RowKit
set_option linter.unusedVariables false
theorem aRE (l:List Int) (hl:l.length<4611686018427387904):wQ Tryz.prog 230 [.own 0] [(0,.arr 3 1 true (l.map intD))] (.tup []) [(0,.arr 3 1 true (l.reverse.map intD))]:=
 aIn l l.reverse (by kernel_rfl) List.length_reverse
  (fun h w=>AnyE.slices_Reverse_empty Tryz.revInts none 0 w)
  (fun blk cap w hH hblk hn=>(AnyE.slices_Reverse Tryz.revInts (Value.int .i64) (fun _=>rfl) blk 0 cap l w hH (by omega)).mono fun e w' ⟨he,q,hw⟩=>⟨he,q,#[],by rw [hw,Go.Sort.grow_empty]⟩)
end Go.Proofs.YtdfebigfnjfgpaaGreat
namespace Go.Proofs.YtdfebigfnjfgpaaGreat
open Go.ChangeShapes Go.WideShapes Go.ChangeAt Go.RowKit
set_option linter.unusedVariables false
set_option linter.unusedSimpArgs false
set_option maxRecDepth 100000
set_option maxHeartbeats 4000000
abbrev aA8 (l:List Int):Prop:=l.Pairwise fun a b=>b≤a
def mG (l:List Int):List Int:=(kM l).reverse
theorem aBL (l:List Int):(mG l).Perm l:=(List.reverse_perm _).trans (aGV l)
theorem aO8 (l:List Int):(mG l).length=l.length:=(aBL l).length_eq
theorem aM0 (l:List Int):aA8 (mG l):=List.pairwise_reverse.2 (aMX l)
theorem aLO {l m:List Int} (hp:l.Perm m) (h1:aA8 l) (h2:aA8 m):l=m:=
 List.Perm.eq_of_pairwise (le:=fun a b:Int=>b≤a) (fun a b _ _ h1 h2=>by omega) h1 h2 hp
theorem aLP {l out:List Int} {k j:Nat} {x:Int} (hp:out.Perm (l.take k)) (hx:l[k]? =some x):((([]:List Int)++out.take j)++[x]++out.drop j).Perm (l.take (k+1)):=by
 rw [bO hx,List.nil_append]
 have h1:(out.take j++[x]++out.drop j).Perm (out.take j++out.drop j++[x]):=by
  rw [List.append_assoc,List.append_assoc]
  exact List.Perm.append_left _ List.perm_append_comm
 rw [List.take_append_drop] at h1
 exact h1.trans (hp.append_right _)
theorem aLQ {out:List Int} {j:Nat} {x:Int} (hd:aA8 out) (hj:j≤out.length) (hs: ∀i,j≤i→i<out.length→out.getD i 0<x) (hx:j=0∨ ¬out.getD (j - 1) 0<x):aA8 ((([]:List Int)++out.take j)++[x]++out.drop j):=by
 rw [List.nil_append,List.append_assoc]
 have hd' :=hd
 rw [←List.take_append_drop j out] at hd'
 obtain ⟨d1,d2,d3⟩:=List.pairwise_append.1 hd'
 have hlo: ∀a∈out.drop j,a≤x:=fun a ha=>by
  obtain ⟨i,hi,rfl⟩:=List.mem_iff_getElem.1 ha
  have hi' :i<out.length - j:=by simpa using hi
  have:=hs (j+i) (by omega) (by omega)
  rw [List.getElem_drop]
  rw [List.getD_eq_getElem?_getD,List.getElem?_eq_getElem (by omega)] at this
  simp only [Option.getD_some] at this
  omega
 have hhi: ∀a∈out.take j,x≤a:=fun a ha=>by
  obtain ⟨i,hi,rfl⟩:=List.mem_iff_getElem.1 ha
  have hi' :i<j:=by
   have:=hi
   rw [List.length_take] at this
   omega
  rcases hx with h | h
  ·omega
  ·have hp:=List.pairwise_iff_getElem.1 hd
   rw [List.getD_eq_getElem?_getD,List.getElem?_eq_getElem (by omega)] at h
   simp only [Option.getD_some] at h
   rw [List.getElem_take]
   by_cases e:i=j - 1
   ·subst e;omega
   ·have:=hp i (j - 1) (by omega) (by omega) (by omega)
    omega
 refine List.pairwise_append.2 ⟨d1,List.pairwise_append.2 ⟨List.pairwise_singleton _ _,d2,fun a ha b hb=>?_⟩,fun a ha b hb=>?_⟩
 ·rw [List.mem_singleton] at ha
  subst ha;exact hlo b hb
 ·rcases List.mem_append.1 hb with q | q
  ·rw [List.mem_singleton] at q
   subst q;exact hhi a ha
  ·exact d3 a ha b q
theorem aO9 {out:List Int} {j:Nat} {x e:Int} (h:out[j - 1]? =some e) (hc:e<x) (hs: ∀i,j≤i→i<out.length→out.getD i 0<x): ∀i,j - 1≤i→i<out.length→out.getD i 0<x:=fun i h1 h2=>by
 by_cases q:i=j - 1
 ·rw [q,bC h];exact hc
 ·exact hs i (by omega) h2
abbrev aBM (t:aV) (cols:List Int):AV × List (Nat × Rs):=(.own 0,[(0,.arr 3 1 true ((mG (eR t cols).2).map intD))])
abbrev aG4 (t:aV) (cols:List Int):Prop:=cT Tryz.prog 212 [.agg [.str t.name,.int .i64 t.arity,.sl 39 1 (t.rows.map aA)],.one (.sl 3 1 (cols.map intD))] (aBM t cols).1 (aBM t cols).2
theorem aRF (t:aV) (cols:List Int) (hl:cols.length≤1048576):aG4 t cols:=by
 refine aT bE aL Tryz.func212 (by kernel_rfl) (bV (uW t cols)<| bV (aIb ((eR t cols).2))<| .callx [.own 0] [(0,.arr 3 1 true (((eR t cols).2).map intD))] [(0,1500)] (.tup []) [(0,.arr 3 1 true ((kM ((eR t cols).2)).map intD))]<| .callx [.own 0] [(0,.arr 3 1 true ((kM ((eR t cols).2)).map intD))] [(0,1500)] (.tup []) [(0,.arr 3 1 true (((kM ((eR t cols).2)).reverse).map intD))]<| .fin [(0,1500)]) (p:=(t.rows.map aA).length≤9223372036854775807→(cols.map intD).length≤9223372036854775807→aAz t cols∧aKk ((eR t cols).2)∧wQ Tryz.prog 228 [.own 0] [(0,.arr 3 1 true (((eR t cols).2).map intD))] (.tup []) [(0,.arr 3 1 true ((kM ((eR t cols).2)).map intD))]∧((eR t cols).2).map intD=((eR t cols).2).map intD∧wQ Tryz.prog 230 [.own 0] [(0,.arr 3 1 true ((kM ((eR t cols).2)).map intD))] (.tup []) [(0,.arr 3 1 true (((kM ((eR t cols).2)).reverse).map intD))]∧(kM ((eR t cols).2)).map intD=(kM ((eR t cols).2)).map intD∧((kM ((eR t cols).2)).reverse).map intD=(mG (eR t cols).2).map intD∧True) (by kernel_rfl) ?_
 intro n0 n1
 simp only [List.length_map] at n0 n1
 have hg:=aIk t cols
 refine ⟨aKv t cols (by omega),cpI _ (by omega),aIo ((eR t cols).2) (by omega),rfl,aRE (kM ((eR t cols).2)) (by first | omega | (rw [tZ];omega)),rfl,?_,trivial⟩
 ·rfl
abbrev aDp (l:List Int):Prop:=cT Tryz.prog 221 [.one (.sl 3 1 (l.map intD))] (.p none (.sl 3 1 ((mG l).map intD))) []
theorem aOa (l:List Int) (hc:l.length≤1048576):aDp l:=by
 refine aT bE aL Tryz.func221 (by kernel_rfl) (.stl 3<| .loop (Nat × (List Int)) (Q2 Nat (List Int)) [3,4,5,7,8,9,10,11,12,13,14,15,16,17,18,19,20,21,22,23,24,25,26,27,28,29,30,31,32,33,34,35,36,37,38,39,40,41,42,43,44,45] [3100,3500,4000,4100,4500] (fun yy0=>[(4,vI (yy0.1:Int)),(3,.p none (.sl 3 1 (yy0.2.map intD)))]) (fun yy0=>[]) (fun yy0=>yy0.1≤l.length∧yy0.2.Perm (l.take yy0.1)∧aA8 yy0.2) (fun yy0=>l.length - yy0.1) (fun yy0=> .len l.length<| .br (.len yy0.2.length<| .loop Nat (Q1 Nat) [5,15,16,17,18,19,20,21,22,23,24,25,26,27,28,29,30] [] (fun j=>[(5,vI (j:Int))]) (fun j=>[]) (fun j=>j≤yy0.2.length∧(∀i,j≤i→i<yy0.2.length→yy0.2.getD i 0<l.getD yy0.1 0)) (fun j=>j) (fun j=> .br (.elem _ intD yy0.2 (fun e21=> .elem _ intD l (fun e25=> .lit<| .lit<| .lit<| .br (.back []) (.sub Int intD yy0.2<| .app Int intD ([]:List Int) (yy0.2.take j)<| .elem _ intD l (fun e38=> .app Int intD (([]:List Int)++(yy0.2.take j)) ([e38]:List Int)<| .sub Int intD yy0.2<| .app Int intD ((([]:List Int)++(yy0.2.take j))++[e38]) (yy0.2.drop j)<| .stl 3<| .back []))))) (.sub Int intD yy0.2<| .app Int intD ([]:List Int) (yy0.2.take j)<| .elem _ intD l (fun e38=> .app Int intD (([]:List Int)++(yy0.2.take j)) ([e38]:List Int)<| .sub Int intD yy0.2<| .app Int intD ((([]:List Int)++(yy0.2.take j))++[e38]) (yy0.2.drop j)<| .stl 3<| .back [])))) (.fin []))) (p:=(l.map intD).length≤9223372036854775807→(∃(k:Nat) (out:List Int),(0:Int)=(k:Int)∧[]=out.map intD∧k≤l.length∧out.Perm (l.take k)∧aA8 out)∧ ∀(k:Nat) (out:List Int),(k≤l.length∧out.Perm (l.take k)∧aA8 out)→Lm intD l∧(((decide ((k:Int)<((l.length:Nat):Int)))=true→Lm intD out∧((∃(j:Nat),((out.length:Nat):Int)=(j:Int)∧j≤out.length∧(∀i,j≤i→i<out.length→out.getD i 0<l.getD k 0))∧ ∀(j:Nat),(j≤out.length∧(∀i,j≤i→i<out.length→out.getD i 0<l.getD k 0))→((decide ((0:Int)<(j:Int)))=true→cC ((j:Int) - (1:Int))∧(0≤((j:Int) - (1:Int))∧Em intD out (((j:Int) - (1:Int)).toNat) fun e21=>0≤(k:Int)∧Em intD l k fun e25=>((decide (e21<e25))=true→cC ((j:Int) - (1:Int))∧ ∃(j' :Nat),((j:Int) - (1:Int))=(j' :Int)∧(j' ≤out.length∧(∀i,j' ≤i→i<out.length→out.getD i 0<l.getD k 0))∧j' <j)∧((decide (e21<e25))=false→out.map intD=out.map intD∧0≤(j:Int)∧(j:Int)≤((out.length:Nat):Int)∧[]=([]:List Int).map intD∧(out.take j).map intD=(out.take j).map intD∧(∀x,eL (intD x)=true)∧(([]:List Int).length+(out.take j).length)*8≤140737488355328∧0≤(k:Int)∧Em intD l k fun e38=>(([]:List Int)++(out.take j)).map intD=(([]:List Int)++(out.take j)).map intD∧[[.int .i64 e38]]=([e38]:List Int).map intD∧(∀x,eL (intD x)=true)∧((([]:List Int)++(out.take j)).length+([e38]:List Int).length)*8≤140737488355328∧out.map intD=out.map intD∧0≤(j:Int)∧(j:Int)≤((out.length:Nat):Int)∧((([]:List Int)++(out.take j))++[e38]).map intD=((([]:List Int)++(out.take j))++[e38]).map intD∧(out.drop j).map intD=(out.drop j).map intD∧(∀x,eL (intD x)=true)∧(((([]:List Int)++(out.take j))++[e38]).length+(out.drop j).length)*8≤140737488355328∧cC ((k:Int)+(1:Int))∧ ∃(k' :Nat) (out' :List Int),((k:Int)+(1:Int))=(k' :Int)∧(((([]:List Int)++(out.take j))++[e38])++(out.drop j)).map intD=out'.map intD∧(k' ≤l.length∧out'.Perm (l.take k')∧aA8 out')∧l.length - k' <l.length - k)))∧((decide ((0:Int)<(j:Int)))=false→out.map intD=out.map intD∧0≤(j:Int)∧(j:Int)≤((out.length:Nat):Int)∧[]=([]:List Int).map intD∧(out.take j).map intD=(out.take j).map intD∧(∀x,eL (intD x)=true)∧(([]:List Int).length+(out.take j).length)*8≤140737488355328∧0≤(k:Int)∧Em intD l k fun e38=>(([]:List Int)++(out.take j)).map intD=(([]:List Int)++(out.take j)).map intD∧[[.int .i64 e38]]=([e38]:List Int).map intD∧(∀x,eL (intD x)=true)∧((([]:List Int)++(out.take j)).length+([e38]:List Int).length)*8≤140737488355328∧out.map intD=out.map intD∧0≤(j:Int)∧(j:Int)≤((out.length:Nat):Int)∧((([]:List Int)++(out.take j))++[e38]).map intD=((([]:List Int)++(out.take j))++[e38]).map intD∧(out.drop j).map intD=(out.drop j).map intD∧(∀x,eL (intD x)=true)∧(((([]:List Int)++(out.take j))++[e38]).length+(out.drop j).length)*8≤140737488355328∧cC ((k:Int)+(1:Int))∧ ∃(k' :Nat) (out' :List Int),((k:Int)+(1:Int))=(k' :Int)∧(((([]:List Int)++(out.take j))++[e38])++(out.drop j)).map intD=out'.map intD∧(k' ≤l.length∧out'.Perm (l.take k')∧aA8 out')∧l.length - k' <l.length - k)))∧((decide ((k:Int)<((l.length:Nat):Int)))=false→out.map intD=(mG l).map intD∧True))) (by kernel_rfl) ?_
 intro n0
 simp only [List.length_map] at n0
 refine ⟨⟨0,([]:List Int),rfl,rfl,Nat.zero_le _,List.Perm.refl _,List.Pairwise.nil⟩,fun k out ⟨hk,hp,hd⟩=>?_⟩
 have hpl:=hp.length_eq
 rw [List.length_take] at hpl
 refine ⟨List.length_map _,fun c0=>?_,fun c0=>?_⟩
 ·replace c0:=yq c0
  refine ⟨List.length_map _,⟨out.length,(by first | rfl | omega),Nat.le_refl _,fun i h1 h2=>by omega⟩,fun j ⟨hj,hs⟩=>?_⟩
  refine ⟨fun g17=>?_,fun g17=>?_⟩
  ·replace g17:=yq g17
   refine ⟨⟨by omega,by omega⟩,by omega,rfl,by omega,fun e21 h21=>?_⟩
   have i21:out[j - 1]? =some e21:=by rw [←h21];congr 1;omega
   refine ⟨by omega,rfl,by omega,fun e25 h25=>?_⟩
   refine ⟨fun c1=>?_,fun c1=>?_⟩
   ·replace c1:=yq c1
    have hlt:=aO9 i21 (by rw [bC h25];exact c1:e21<l.getD k 0) hs
    refine ⟨⟨by omega,by omega⟩,?_⟩
    exact ⟨j - 1,(by first | rfl | omega),⟨by omega,hlt⟩,by omega⟩
   ·replace c1:=nq c1
    have hx:j=0∨ ¬out.getD (j - 1) 0<l.getD k 0:=by first | (left;omega) | (right;rw [bC i21,bC h25];exact c1)
    refine ⟨rfl,by omega,by omega,rfl,rfl,fun _=>rfl,by first | omega | (simp;omega),?_⟩
    refine ⟨by omega,rfl,by omega,fun e38 h38=>?_⟩
    rw [bC h38] at hx hs
    refine ⟨rfl,rfl,fun _=>rfl,by first | omega | (simp;omega),?_⟩
    refine ⟨rfl,by omega,by omega,rfl,rfl,fun _=>rfl,by first | omega | (simp;omega),?_⟩
    refine ⟨⟨by omega,by omega⟩,?_⟩
    exact ⟨k+1,((([]:List Int)++(out.take j))++[e38])++(out.drop j),rfl,rfl,⟨by omega,aLP hp h38,aLQ hd hj hs hx⟩,by omega⟩
  ·replace g17:=nq g17
   have hx:j=0∨ ¬out.getD (j - 1) 0<l.getD k 0:=by first | (left;omega) | (right;rw [bC i21,bC h25];exact c1)
   refine ⟨rfl,by omega,by omega,rfl,rfl,fun _=>rfl,by first | omega | (simp;omega),?_⟩
   refine ⟨by omega,rfl,by omega,fun e38 h38=>?_⟩
   rw [bC h38] at hx hs
   refine ⟨rfl,rfl,fun _=>rfl,by first | omega | (simp;omega),?_⟩
   refine ⟨rfl,by omega,by omega,rfl,rfl,fun _=>rfl,by first | omega | (simp;omega),?_⟩
   refine ⟨⟨by omega,by omega⟩,?_⟩
   exact ⟨k+1,((([]:List Int)++(out.take j))++[e38])++(out.drop j),rfl,rfl,⟨by omega,aLP hp h38,aLQ hd hj hs hx⟩,by omega⟩
 ·replace c0:=nq c0
  have hE:out=mG l:=aLO ((by rw [List.take_of_length_le (by omega)] at hp;exact hp:out.Perm l).trans (aBL l).symm) hd (aM0 l)
  refine ⟨?_,trivial⟩
  ·rw [hE]
end Go.Proofs.YtdfebigfnjfgpaaGreat
