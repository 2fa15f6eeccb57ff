/-
  Contracts and plain laws, joined: part 11.
-/
import Derived.Test.YtokkjaflmcjlhaaGreatQU3
import Derived.Shelf.Sort.Plain
import Derived.Shelf.Slices.In.SortNone
import Derived.Sort.OwnSortedInts
import Derived.Shelf.SlicesE.Compact
import Derived.Ground.SlgnProg
import Derived.Test.YtokkjaflmcjlhaaGreatQU9
namespace Go.Proofs
open Go.Shelf
namespace YtokkjaflmcjlhaaGreat
def Tryz.lays189_ren : Go.Shelf.Ren := ⟨fun | 189 => 248 | 125 => 278 | 257 => 277 | 128 => 296 | 129 => 297 | 294 => 287 | 295 => 288 | 296 => 289 | 297 => 290 | 298 => 291 | 299 => 292 | 216 => 293 | 300 => 294 | 301 => 295 | 328 => 309 | 329 => 310 | 330 => 311 | 331 => 312 | 332 => 313 | 215 => 314 | 343 => 318 | n => n, fun | 28 => 32 | 3 => 3 | 46 => 247 | 0 => 0 | 51 => 264 | 53 => 266 | 4 => 4 | 183 => 256 | 182 => 255 | 131 => 261 | 5 => 5 | 9 => 9 | 218 => 274 | 222 => 278 | 228 => 283 | 229 => 284 | n => n, fun | n => n⟩
theorem Tryz.lays189 : Go.Proofs.Lays.n189 Tryz.prog Tryz.lays189_ren := {
  mixed := by kernel_rfl
  f125 := Tryz.func278.trans (congrArg some (by kernel_rfl))
  f128 := Tryz.func296.trans (congrArg some (by kernel_rfl))
  f129 := Tryz.func297.trans (congrArg some (by kernel_rfl))
  f189 := Tryz.func248.trans (congrArg some (by kernel_rfl))
  f215 := Tryz.func314.trans (congrArg some (by kernel_rfl))
  f216 := Tryz.func293.trans (congrArg some (by kernel_rfl))
  f257 := Tryz.func277.trans (congrArg some (by kernel_rfl))
  f294 := Tryz.func287.trans (congrArg some (by kernel_rfl))
  f295 := Tryz.func288.trans (congrArg some (by kernel_rfl))
  f296 := Tryz.func289.trans (congrArg some (by kernel_rfl))
  f297 := Tryz.func290.trans (congrArg some (by kernel_rfl))
  f298 := Tryz.func291.trans (congrArg some (by kernel_rfl))
  f299 := Tryz.func292.trans (congrArg some (by kernel_rfl))
  f300 := Tryz.func294.trans (congrArg some (by kernel_rfl))
  f301 := Tryz.func295.trans (congrArg some (by kernel_rfl))
  f328 := Tryz.func309.trans (congrArg some (by kernel_rfl))
  f329 := Tryz.func310.trans (congrArg some (by kernel_rfl))
  f330 := Tryz.func311.trans (congrArg some (by kernel_rfl))
  f331 := Tryz.func312.trans (congrArg some (by kernel_rfl))
  f332 := Tryz.func313.trans (congrArg some (by kernel_rfl))
  f343 := Tryz.func318.trans (congrArg some (by kernel_rfl))
  t0 := Tryz.underlying0
  a0 := Tryz.isAgg0
  z0 := Tryz.sizeOf0
  v0 := Tryz.zeroValue0
  t3 := Tryz.underlying3
  a3 := Tryz.isAgg3
  z3 := Tryz.sizeOf3
  v3 := Tryz.zeroValue3
  t4 := Tryz.underlying4
  a4 := Tryz.isAgg4
  z4 := Tryz.sizeOf4
  v4 := Tryz.zeroValue4
  t5 := Tryz.underlying5
  a5 := Tryz.isAgg5
  z5 := Tryz.sizeOf5
  v5 := Tryz.zeroValue5
  t9 := Tryz.underlying9
  a9 := Tryz.isAgg9
  z9 := Tryz.sizeOf9
  v9 := Tryz.zeroValue9
  t28 := Tryz.underlying32
  a28 := Tryz.isAgg32
  z28 := Tryz.sizeOf32
  v28 := Tryz.zeroValue32
  t46 := Tryz.underlying247
  a46 := Tryz.isAgg247
  z46 := Tryz.sizeOf247
  v46 := Tryz.zeroValue247
  t51 := Tryz.underlying264
  a51 := Tryz.isAgg264
  z51 := Tryz.sizeOf264
  v51 := Tryz.zeroValue264
  t53 := Tryz.underlying266
  a53 := Tryz.isAgg266
  z53 := Tryz.sizeOf266
  v53 := Tryz.zeroValue266
  t131 := Tryz.underlying261
  a131 := Tryz.isAgg261
  z131 := Tryz.sizeOf261
  v131 := Tryz.zeroValue261
  t182 := Tryz.underlying255
  a182 := Tryz.isAgg255
  z182 := Tryz.sizeOf255
  v182 := Tryz.zeroValue255
  t183 := Tryz.underlying256
  a183 := Tryz.isAgg256
  z183 := Tryz.sizeOf256
  v183 := Tryz.zeroValue256
  t218 := Tryz.underlying274
  a218 := Tryz.isAgg274
  z218 := Tryz.sizeOf274
  v218 := Tryz.zeroValue274
  t222 := Tryz.underlying278
  a222 := Tryz.isAgg278
  z222 := Tryz.sizeOf278
  v222 := Tryz.zeroValue278
  t228 := Tryz.underlying283
  a228 := Tryz.isAgg283
  z228 := Tryz.sizeOf283
  v228 := Tryz.zeroValue283
  t229 := Tryz.underlying284
  a229 := Tryz.isAgg284
  z229 := Tryz.sizeOf284
  v229 := Tryz.zeroValue284 }
end YtokkjaflmcjlhaaGreat
end Go.Proofs
namespace Go.Proofs.YtokkjaflmcjlhaaGreat
open Go.ChangeShapes Go.WideShapes Go.ChangeAt Go.RowKit
set_option linter.unusedVariables false
set_option linter.unusedSimpArgs false
theorem aBo {w:World}: ∀{l:List Int} {css:List (List Value)} {Fs:List (List Nat)},cV w 1 (l.map intD) css Fs→css.flatten=l.map (Value.int .i64)∧Fs.flatten= []
 | [],css,Fs,h=>by
   simp only [List.map_nil] at h
   unfold cV at h
   rw [h.1,h.2];simp
 | n::l,css,Fs,h=>by
   simp only [List.map_cons] at h
   unfold cV at h
   obtain ⟨c,css',F,Fs',rfl,rfl,_,h1,h2⟩:=h
   obtain ⟨q1,q2⟩:=aBo h2
   unfold intD dG at h1
   obtain ⟨v,cs',F1,F2,rfl,rfl,h3,h4⟩:=h1
   unfold dG at h4
   unfold pS at h3
   simp [q1,q2,h4.1,h4.2,h3.1,h3.2]
theorem tQ (w:World): ∀(l:List Int),cV w 1 (l.map intD) (l.map fun n=>[Value.int .i64 n]) (l.map fun _=>[])
 | []=>by simp only [List.map_nil];unfold cV;exact ⟨rfl,rfl⟩
 | n::l=>by
   simp only [List.map_cons]
   unfold cV
   refine ⟨_,_,_,_,rfl,rfl,rfl,?_,tQ w l⟩
   unfold intD dG
   refine ⟨_,_,[],[],rfl,rfl,?_,?_⟩
   ·unfold pS;exact ⟨rfl,rfl⟩
   ·unfold dG;exact ⟨rfl,rfl⟩
theorem aBp: ∀(m:List Int),(m.map fun n=>[Value.int .i64 n]).flatten=m.map (Value.int .i64)
 | []=>rfl
 | a::l=>by simp only [List.map_cons,List.flatten_cons,aBp l];rfl
theorem aKz {P:Program} {f:FuncId} {e:Nat} (l m:List Int) (hc:jL P f=true) (hm:m.length=l.length)
 (hn0:l= []→ ∀w,Calls P f #[.slice none 0 0] w (fun ex w' =>ex= .returned (.tuple #[])∧w' =w))
 (hs: ∀(blk cap:Nat) (w:World),Go.Sort.Holds (Value.int .i64) w blk 0 l.toArray→blk<w.heap.size→l.length≤cap→Calls P f #[.slice (some ⟨blk,0,none⟩) l.length cap] w (fun ex w' =>ex= .returned (.tuple #[])∧ ∃n os,w' =Go.Sort.grow (Go.Sort.putRow (Value.int .i64) (Go.Sort.ahead w n) blk 0 m.toArray) os)):
 mW P f [.own 0] [(0,.arr e 1 true (l.map intD))] (.tup []) [(0,.arr e 1 true (m.map intD))]:=by
 refine ⟨hc,by simp,fun A φ w vs hI hM=>?_⟩
 obtain ⟨pl,hp,css,Fs,q1,q2,q3,q4⟩:=hI.dom 0 _ rfl
 unfold aR at hM
 obtain ⟨v,us,e1,m1,hM⟩:=hM
 unfold aR at hM
 unfold aI at m1
 have hv:=m1 pl hp
 have ev:vs= #[pl.val]:=by apply Array.ext';rw [e1,hM,hv]
 rw [ev]
 obtain ⟨c1,c2⟩:=aBo q4
 rw [c1,List.length_map] at q1
 have hge:=hI.ge 0 pl hp
 have hsub:pl.sub= []:=by rw [q3,c2]
 have hfoot: ∀b∈pl.F,aEv φ b:=fun b hb=>⟨0,pl,trivial,hp,hb⟩
 have hend: ∀(w' :World),kJ pl.F w w' →w'.ownsRow 0 e 1 pl.val l.length (m.map (Value.int .i64))→
  ∃v K φ',Ending.returned (.tuple #[])= .returned v∧aIr A φ w [(0,.arr e 1 true (m.map intD))] K φ' w' ∧aI K φ' w' (.tup []) v:=by
  intro w' hon howns
  refine ⟨_,A,fun h=>if h=0 then some pl else none,rfl,⟨⟨hon.os,hon.tape,hon.output,hon.size,fun b hb hn=>hon.block b hb (fun hm=>hn (hfoot b hm))⟩,fun _ h=>h,fun b hb=>⟨Nat.lt_of_lt_of_le (hI.lt b hb) hon.size,.inl hb⟩,fun b hb h pl1 e' hm' =>?_,fun h r hr=>?_,fun h hr=>?_,fun h h' pl1 pl2 hne ea eb=>?_,fun h pl1 e' =>?_,fun h pl1 e' g hg=>?_,fun h pl1 pl0 e' e0=>?_⟩,?_⟩
  ·split at e'
   ·injection e' with e';subst e'
    exact hI.out b hb 0 pl hp hm'
   ·cases e'
  ·simp only [aY] at hr
   split at hr
   ·rename_i eh
    subst eh
    injection hr with hr
    subst hr
    refine ⟨pl,by simp,m.map fun n=>[Value.int .i64 n],m.map fun _=>[],?_,q2,?_,tQ _ m⟩
    ·rw [aBp,List.length_map,hm];exact howns
    ·rw [hsub];simp
   ·cases hr
  ·simp only [aY] at hr
   split at hr
   ·cases hr
   ·rename_i eh;exact if_neg eh
  ·split at ea
   ·split at eb
    ·rename_i x y;exact absurd (x.trans y.symm) hne
    ·cases eb
   ·cases ea
  ·split at e'
   ·injection e' with e';subst e';exact hI.nodup 0 pl hp
   ·cases e'
  ·split at e'
   ·injection e' with e';subst e'
    exact ⟨.inr (hfoot g hg),Nat.lt_of_lt_of_le (hge g hg) hon.size⟩
   ·cases e'
  ·split at e'
   ·rename_i eh
    subst eh
    rw [hp] at e0
    injection e0 with e0;injection e' with e'
    subst e0;subst e'
    exact ⟨rfl,rfl⟩
   ·cases e'
  ·unfold aI
   exact ⟨#[],rfl,by unfold aR;rfl⟩
 rcases q1.2 with ⟨hvn,hz⟩ | ⟨g,cap,cur,hvv,hg0,hb,hn,hcap,hsz,htk⟩
 ·have hz' :l= []:=List.eq_nil_of_length_eq_zero hz
  rw [hvn]
  refine (hn0 hz' w).mono ?_
  rintro en w' ⟨rfl,rfl⟩
  have hm0:m= []:=List.eq_nil_of_length_eq_zero (by rw [hm,hz])
  refine hend w' (kJ.refl _ _) ?_
  rw [hvn,hm0,hz]
  exact ⟨by simp,.inl ⟨rfl,rfl⟩⟩
 ·have hlt:g<w.heap.size:=(Array.getElem?_eq_some_iff.1 hb).1
  have hH:Go.Sort.Holds (Value.int .i64) w g 0 l.toArray:=holds_of_blockI hb (by rw [Nat.mul_one] at htk;exact htk)
  rw [hvv]
  refine (hs g cap w hH hlt hn).mono ?_
  rintro en w' ⟨rfl,n,os,rfl⟩
  have hgb:=grownBy_sortedI (w:=w) (g:=g) (n:=n) (os:=os) m.toArray
  have hown:=ownsRow_sortedI (n:=n) (os:=os) hm hg0 hb hn hcap hsz
  refine hend _ ⟨hgb.os,hgb.tape,hgb.output,hgb.size,fun k hk hne=>hgb.block k hk (fun e=>hne (by injection e with e;subst e;unfold Pl.F;rw [q2,hvv];simp [Value.ownBlock]))⟩ ?_
  rw [hvv];exact hown
def oY (l:List Int):List Int:=l.mergeSort fun x y=>decide (x≤y)
theorem aJI (l:List Int):(oY l).Perm l:=List.mergeSort_perm l _
theorem yE (l:List Int):(oY l).length=l.length:=(aJI l).length_eq
theorem aLA (l:List Int) (hl:l.length<4611686018427387904):mW Tryz.prog 248 [.own 0] [(0,.arr 3 1 true (l.map intD))] (.tup []) [(0,.arr 3 1 true ((oY l).map intD))]:=
 aKz l (oY l) (by kernel_rfl) (yE l)
  (fun h w=>Any.slices_Sort_int_none Tryz.lays189 none 0 w)
  (fun blk cap w hH hblk _=>Any.slices_Sort_int Tryz.lays189 blk 0 cap l w hH hblk hl)
end Go.Proofs.YtokkjaflmcjlhaaGreat
namespace Go.Proofs
open Go.Shelf
namespace YtokkjaflmcjlhaaGreat
def Tryz.compInts_ren : Go.Shelf.Ren := ⟨fun | 43 => 273 | n => n, fun | 22 => 32 | 23 => 3 | 3 => 3 | 4 => 4 | 0 => 0 | n => n, fun | n => n⟩
theorem Tryz.compInts : Go.Proofs.SlLaysE.n43 Tryz.prog Tryz.compInts_ren := {
  mixed := by kernel_rfl
  f43 := ⟨Tryz.f273.name, by decide, Tryz.func273.trans (congrArg some (by kernel_rfl))⟩
  t0 := Tryz.underlying0
  a0 := Tryz.isAgg0
  z0 := Tryz.sizeOf0
  v0 := Tryz.zeroValue0
  t3 := Tryz.underlying3
  a3 := Tryz.isAgg3
  z3 := Tryz.sizeOf3
  v3 := Tryz.zeroValue3
  t4 := Tryz.underlying4
  a4 := Tryz.isAgg4
  z4 := Tryz.sizeOf4
  v4 := Tryz.zeroValue4
  t22 := Tryz.underlying32
  a22 := Tryz.isAgg32
  z22 := Tryz.sizeOf32
  v22 := Tryz.zeroValue32
  a23 := Tryz.isAgg3
  z23 := Tryz.sizeOf3 }
end YtokkjaflmcjlhaaGreat
end Go.Proofs
namespace Go.Proofs.YtokkjaflmcjlhaaGreat
open Go.ChangeShapes Go.WideShapes Go.ChangeAt Go.RowKit Go.Lib
set_option linter.unusedVariables false
set_option linter.unusedSimpArgs false
theorem aJJ {P:Program} {f:FuncId} {e:Nat} (l m:List Int) (hc:jL P f=true) (hm:m.length≤l.length) (hm0:l= []→m= [])
 (hn0:l= []→ ∀w,Calls P f #[.slice none 0 0] w (fun ex w' =>ex= .returned (.slice none 0 0)∧w' =w))
 (hs: ∀(blk cap:Nat) (w:World),Go.Sort.Holds (Value.int .i64) w blk 0 l.toArray→blk<w.heap.size→l.length≤cap→Calls P f #[.slice (some ⟨blk,0,none⟩) l.length cap] w (fun ex w' =>ex= .returned (.slice (some ⟨blk,0,none⟩) m.length cap)∧ ∃n os z,(m++z).length=l.length∧w' =Go.Sort.grow (Go.Sort.putRow (Value.int .i64) (Go.Sort.ahead w n) blk 0 (m++z).toArray) os)):
 mW P f [.own 0] [(0,.arr e 1 true (l.map intD))] (.own 1) [(1,.arr e 1 true (m.map intD))]:=by
 refine ⟨hc,by simp,fun A φ w vs hI hM=>?_⟩
 obtain ⟨pl,hp,css,Fs,q1,q2,q3,q4⟩:=hI.dom 0 _ rfl
 unfold aR at hM
 obtain ⟨v,us,e1,m1,hM⟩:=hM
 unfold aR at hM
 unfold aI at m1
 have hv:=m1 pl hp
 have ev:vs= #[pl.val]:=by apply Array.ext';rw [e1,hM,hv]
 rw [ev]
 obtain ⟨c1,c2⟩:=aBo q4
 rw [c1,List.length_map] at q1
 have hge:=hI.ge 0 pl hp
 have hsub:pl.sub= []:=by rw [q3,c2]
 have hfoot: ∀b∈pl.F,aEv φ b:=fun b hb=>⟨0,pl,trivial,hp,hb⟩
 have h1:φ 1=none:=hI.non 1 rfl
 have hend: ∀(v' :Value) (w' :World),kJ pl.F w w' →(∀b∈v'.ownBlock,b∈pl.val.ownBlock)→w'.ownsRow 0 e 1 v' m.length (m.map (Value.int .i64))→
  ∃v K φ',Ending.returned v' = .returned v∧aIr A φ w [(1,.arr e 1 true (m.map intD))] K φ' w' ∧aI K φ' w' (.own 1) v:=by
  intro v' w' hon hvb howns
  let pl' :Pl:=⟨v',v'.ownBlock.toList,[]⟩
  have hmem: ∀g,g∈pl'.F→g∈pl.F:=fun g hg=>by
   unfold Pl.F
   simp only [pl',Pl.F,List.append_nil,Option.mem_toList] at hg
   rw [q2]
   exact List.mem_append_left _ (by rw [Option.mem_toList];exact hvb g hg)
  have hnd' :pl'.F.Nodup:=by simp only [pl',Pl.F,List.append_nil];cases v'.ownBlock<;>simp
  refine ⟨_,A,fun h=>if h=1 then some pl' else none,rfl,⟨⟨hon.os,hon.tape,hon.output,hon.size,fun b hb hn=>hon.block b hb (fun hm=>hn (hfoot b hm))⟩,fun _ h=>h,fun b hb=>⟨Nat.lt_of_lt_of_le (hI.lt b hb) hon.size,.inl hb⟩,fun b hb h pl1 e' hm' =>?_,fun h r hr=>?_,fun h hr=>?_,fun h h' pl1 pl2 hne ea eb=>?_,fun h pl1 e' =>?_,fun h pl1 e' g hg=>?_,fun h pl1 pl0 e' e0=>?_⟩,?_⟩
  ·split at e'
   ·injection e' with e';subst e'
    exact hI.out b hb 0 pl hp (hmem b hm')
   ·cases e'
  ·simp only [aY] at hr
   split at hr
   ·rename_i eh
    subst eh
    injection hr with hr
    subst hr
    refine ⟨pl',by simp,m.map fun n=>[Value.int .i64 n],m.map fun _=>[],?_,rfl,?_,tQ _ m⟩
    ·rw [aBp,List.length_map];exact howns
    ·simp [pl']
   ·cases hr
  ·simp only [aY] at hr
   split at hr
   ·cases hr
   ·rename_i eh;exact if_neg eh
  ·split at ea
   ·split at eb
    ·rename_i x y;exact absurd (x.trans y.symm) hne
    ·cases eb
   ·cases ea
  ·split at e'
   ·injection e' with e';subst e';exact hnd'
   ·cases e'
  ·split at e'
   ·injection e' with e';subst e'
    have:=hmem g hg
    exact ⟨.inr (hfoot g this),Nat.lt_of_lt_of_le (hge g this) hon.size⟩
   ·cases e'
  ·split at e'
   ·rename_i eh
    subst eh
    rw [h1] at e0;cases e0
   ·cases e'
  ·unfold aI
   intro pl1 e'
   simp at e'
   subst e'
   rfl
 rcases q1.2 with ⟨hvn,hz⟩ | ⟨g,cap,cur,hvv,hg0,hb,hn,hcap,hsz,htk⟩
 ·have hz' :l= []:=List.eq_nil_of_length_eq_zero hz
  rw [hvn]
  refine (hn0 hz' w).mono ?_
  rintro en w' ⟨rfl,rfl⟩
  refine hend (.slice none 0 0) w' (kJ.refl _ _) (fun b hb=>by cases hb) ?_
  rw [hm0 hz']
  exact ⟨by simp,.inl ⟨rfl,rfl⟩⟩
 ·have hlt:g<w.heap.size:=(Array.getElem?_eq_some_iff.1 hb).1
  have hH:Go.Sort.Holds (Value.int .i64) w g 0 l.toArray:=holds_of_blockI hb (by rw [Nat.mul_one] at htk;exact htk)
  rw [hvv]
  refine (hs g cap w hH hlt hn).mono ?_
  rintro en w' ⟨rfl,n,os,z,hz,rfl⟩
  have hgb:=grownBy_sortedI (w:=w) (g:=g) (n:=n) (os:=os) (m++z).toArray
  have hown:=ownsRow_sortedI (n:=n) (os:=os) hz hg0 hb hn hcap hsz
  refine hend _ _ ⟨hgb.os,hgb.tape,hgb.output,hgb.size,fun k hk hne=>hgb.block k hk (fun e=>hne (by injection e with e;subst e;unfold Pl.F;rw [q2,hvv];simp [Value.ownBlock]))⟩ (fun b hb' =>by rw [hvv];exact hb') ?_
  rcases hown.2 with ⟨hvn,_⟩ | ⟨g',cap',cur',hv',hg',hb',hn',hcap',hsz',htk'⟩
  ·cases hvn
  ·simp only [Value.slice.injEq,Option.some.injEq,Addr.mk.injEq,and_true] at hv'
   obtain ⟨rfl,_,rfl⟩:=hv'
   refine ⟨by simp,.inr ⟨g,cap,cur',rfl,hg',hb',by omega,hcap',hsz',?_⟩⟩
   rw [Nat.mul_one] at*
   have h3:=congrArg (List.take m.length) htk'
   rw [List.take_take,Nat.min_eq_left hm,List.map_append,List.take_append_of_le_length (by simp)] at h3
   rw [h3,List.take_of_length_le (by simp)]
def rG (l:List Int):List Int:=compactUpTo l.toArray l.toArray.size
theorem aIM (l:List Int):(rG l).length≤l.length:=by
 unfold rG compactUpTo
 rw [List.length_map]
 have:=(List.filter_sublist (l:=List.range l.toArray.size) (p:=keeps l.toArray)).length_le
 simpa using this
theorem aFw {l:List Int}:rG l= []↔l= []:=by
 constructor
 ·intro h
  by_cases e:l= []
  ·exact e
  ·exfalso
   have hp:0<l.length:=List.length_pos_iff.2 e
   unfold rG compactUpTo at h
   rw [List.map_eq_nil_iff,List.filter_eq_nil_iff] at h
   exact h 0 (List.mem_range.2 (by simpa using hp)) (keeps_lt_one _ 0 (by omega))
 ·rintro rfl;rfl
theorem tyI:fT Tryz.prog 3=some (false,1,8,.int .i64 0):=by kernel_rfl
theorem aPk (w:World):(zeroValue 3).run Tryz.prog w= .ok (.int .i64 0) w:=(fV tyI w).2.2.1
theorem aLB (l:List Int) (hl:l.length<4611686018427387904):mW Tryz.prog 273 [.own 0] [(0,.arr 3 1 true (l.map intD))] (.own 1) [(1,.arr 3 1 true ((rG l).map intD))]:=
 aJJ l (rG l) (by kernel_rfl) (aIM l) (fun h=>aFw.2 h)
  (fun h w=>by
   go_enter Tryz.func273,Tryz.ntmps273
   go_wp2
   go_ret
   exact ⟨rfl,rfl⟩)
  (fun blk cap w hH hblk hn=>(AnyE.slices_Compact Tryz.compInts (Value.int .i64) (fun _=>rfl) (EqlAt.intD _ _ .i64) (NeqAt.intD _ _ .i64) 0 (fun w=>aPk w) blk 0 cap l.toArray w hH (by rw [List.size_toArray];omega) (by rw [List.size_toArray];exact hn)).mono fun e w' ⟨he,q,hw⟩=>
   ⟨by have e1:l.toArray.size=l.length:=by simp
       rw [e1] at he;unfold rG;rw [e1];exact he,q,#[],List.replicate (l.length - (rG l).length) 0,by have:=aIM l;simp;omega,by rw [hw,Go.Sort.grow_empty];simp [rG]⟩)
end Go.Proofs.YtokkjaflmcjlhaaGreat
namespace Go.Proofs.YtokkjaflmcjlhaaGreat
open Go.ChangeShapes Go.WideShapes Go.ChangeAt Go.RowKit
set_option linter.unusedVariables false
set_option linter.unusedSimpArgs false
set_option maxRecDepth 100000
set_option maxHeartbeats 4000000
def eA (d:aP) (x:aL):Bool:=(aM d x.name).2&&((aM d x.into).2&&(gG x.column 0 ((aM d x.name).1.arity - 1)&&gG x.intoColumn 0 ((aM d x.into).1.arity - 1)))
def gM (rows:List (List Int)) (c:Int):List Int:=rows.map fun r=>r.getD c.toNat 0
def aCP (d:aP) (x:aL):List Int:=(gM (aM d x.name).1.rows x.column).filter fun v=> !decide (v∈gM (aM d x.into).1.rows x.intoColumn)
def uE (d:aP) (x:aL):List Int:=if eA d x=true then rG (oY (aCP d x)) else []
def aAy (d:aP) (x:aL) (v:Nat):Bool:=decide ((v:Int)∈gM (aM d x.name).1.rows x.column)&& !decide ((v:Int)∈gM (aM d x.into).1.rows x.intoColumn)
def mQ (d:aP) (x:aL) (n:Nat):List Int:=((List.range n).filter (aAy d x)).map fun v:Nat=>(v:Int)
def uF (d:aP) (x:aL):List Int:=if eA d x=true then mQ d x 10 else []
def gN (d:aP) (x:aL):Bool:=eA d x&&decide (aCP d x= [])
theorem aLC {d:aP} {x:aL} {v:Nat} (h:aAy d x v=true):mQ d x (v+1)=mQ d x v++[(v:Int)]:=by
 rw [mQ,List.range_succ,List.filter_append,List.map_append]
 simp [mQ,h]
theorem aIN {d:aP} {x:aL} {v:Nat} (h:aAy d x v=false):mQ d x (v+1)=mQ d x v:=by
 rw [mQ,List.range_succ,List.filter_append,List.map_append]
 simp [mQ,h]
theorem aLD (d:aP) (x:aL) (v:Nat):(mQ d x v).length≤v:=by
 rw [mQ,List.length_map]
 have:=List.length_filter_le (aAy d x) (List.range v)
 rwa [List.length_range] at this
theorem lQ (rows:List (List Int)) (c:Int) {k:Nat} {r:List Int} (h:rows[k]? =some r):gM (rows.take (k+1)) c=gM (rows.take k) c++[r.getD c.toNat 0]:=by rw [cU h,gM,List.map_append];rfl
theorem aAz {l:List Int} {v y:Int}:decide (v∈l++[y])=(decide (v∈l) || decide (v=y)):=by simp [Bool.decide_or]
theorem aLE {t:aN} {c:Int} {v:Int} (h:aS t=true) (hc:0≤c∧c≤t.arity - 1) (hv:v∈gM t.rows c):0≤v∧v≤9:=by
 obtain ⟨r,hr,rfl⟩:=List.mem_map.1 hv
 have hl:=nR h hr
 have hk:=List.all_eq_true.1 (nQ h).1 r hr
 simp only [fE,Bool.and_eq_true,decide_eq_true_eq] at hk
 have hlt:c.toNat<r.length:=by omega
 have hm:r.getD c.toNat 0∈r:=by rw [List.getD_eq_getElem?_getD,List.getElem?_eq_getElem hlt];exact List.getElem_mem hlt
 exact kW (List.all_eq_true.1 hk.1 _ hm)
theorem wK {d:aP} {x:aL} (h:eA d x=true):aS (aM d x.name).1=true∧aS (aM d x.into).1=true∧(0≤x.column∧x.column≤(aM d x.name).1.arity - 1)∧(0≤x.intoColumn∧x.intoColumn≤(aM d x.into).1.arity - 1):=by
 simp only [eA,Bool.and_eq_true] at h
 obtain ⟨h1,h2,h3,h4⟩:=h
 exact ⟨(jN h1).1,(jN h2).1,kW h3,kW h4⟩
theorem aFx {d:aP} {x:aL} (h:eA d x=true):decide (uE d x= [])=decide (aCP d x= []):=by
 rw [uE,if_pos h]
 apply Bool.eq_iff_iff.2
 rw [decide_eq_true_eq,decide_eq_true_eq,aFw]
 constructor
 ·intro q
  have:=yE (aCP d x)
  rw [q] at this
  exact List.eq_nil_of_length_eq_zero this.symm
 ·intro q
  have:=yE (aCP d x)
  rw [q] at this
  rw [q]
  exact List.eq_nil_of_length_eq_zero this
theorem aFy {d:aP} {x:aL} (h:eA d x=true):decide (uF d x= [])=decide (aCP d x= []):=by
 obtain ⟨h1,_,h3,_⟩:=wK h
 rw [uF,if_pos h]
 apply Bool.eq_iff_iff.2
 rw [decide_eq_true_eq,decide_eq_true_eq,mQ,List.map_eq_nil_iff,List.filter_eq_nil_iff,aCP,List.filter_eq_nil_iff]
 constructor
 ·intro q v hv hb
  have hr:=aLE h1 h3 hv
  refine q v.toNat (List.mem_range.2 (by omega)) ?_
  rw [aAy,Int.toNat_of_nonneg hr.1]
  simp only [Bool.and_eq_true,decide_eq_true_eq]
  exact ⟨hv,hb⟩
 ·intro q v _ hb
  rw [aAy,Bool.and_eq_true,decide_eq_true_eq] at hb
  exact q _ hb.1 hb.2
abbrev tR (d:aP) (x:aL):Prop:=dJ Tryz.prog 233 [.agg [.sl 162 3 (d.tables.map aD)],.agg [.str x.name,.int .i64 x.column,.str x.into,.int .i64 x.intoColumn]] (vB (eA d x)) []
theorem aEJ (d:aP) (x:aL) (hc:aW d≤1048576):tR d x:=by
 refine aZ bR aT Tryz.func233 (by kernel_rfl) (.call (.tup [.agg [.p none (.str (((aM d x.name).1).name)),vI (((aM d x.name).1).arity),.p none (.sl 32 1 ((((aM d x.name).1).rows).map aF))],vB ((aM d x.name).2)]) []<| .call (.tup [.agg [.p none (.str (((aM d x.into).1).name)),vI (((aM d x.into).1).arity),.p none (.sl 32 1 ((((aM d x.into).1).rows).map aF))],vB ((aM d x.into).2)]) []<| .br (.lit<| .br (.raw<| .call (vB (gG x.column (0:Int) (IntKind.i64.wrap ((((aM d x.name).1).arity) - (1:Int))))) []<| .lit<| .br (.raw<| .call (vB (gG x.intoColumn (0:Int) (IntKind.i64.wrap ((((aM d x.into).1).arity) - (1:Int))))) []<| .fin []) (.fin [])) (.fin [])) (.fin [])) (p:=(d.tables.map aD).length≤9223372036854775807→dJ Tryz.prog 148 [.agg [.sl 162 3 (d.tables.map aD)],.one (.str x.name)] (.tup [.agg [.p none (.str (((aM d x.name).1).name)),vI (((aM d x.name).1).arity),.p none (.sl 32 1 ((((aM d x.name).1).rows).map aF))],vB ((aM d x.name).2)]) []∧(dJ Tryz.prog 148 [.agg [.sl 162 3 (d.tables.map aD)],.one (.str x.into)] (.tup [.agg [.p none (.str (((aM d x.into).1).name)),vI (((aM d x.into).1).arity),.p none (.sl 32 1 ((((aM d x.into).1).rows).map aF))],vB ((aM d x.into).2)]) []∧((((aM d x.name).2)=true→(((aM d x.into).2)=true→jV x.column (0:Int) (IntKind.i64.wrap ((((aM d x.name).1).arity) - (1:Int)))∧(((gG x.column (0:Int) (IntKind.i64.wrap ((((aM d x.name).1).arity) - (1:Int))))=true→jV x.intoColumn (0:Int) (IntKind.i64.wrap ((((aM d x.into).1).arity) - (1:Int)))∧(gG x.intoColumn (0:Int) (IntKind.i64.wrap ((((aM d x.into).1).arity) - (1:Int))))=(eA d x)∧True)∧((gG x.column (0:Int) (IntKind.i64.wrap ((((aM d x.name).1).arity) - (1:Int))))=false→(false)=(eA d x)∧True)))∧(((aM d x.into).2)=false→(false)=(eA d x)∧True))∧(((aM d x.name).2)=false→(false)=(eA d x)∧True)))) (by kernel_rfl) ?_
 intro n0
 simp only [List.length_map] at n0
 refine ⟨lE (qJ _ x.name (by omega)) rfl,lE (qJ _ x.into (by omega)) rfl,fun g24=>?_,fun g24=>?_⟩
 ·have hT:=(jN g24).1
  have hA:=cD hT
  have hw:IntKind.i64.wrap ((aM d x.name).1.arity - 1)=(aM d x.name).1.arity - 1:=IntWalk.i64_in _ ⟨by omega,by omega⟩
  try rw [hw]
  refine ⟨fun g27=>?_,fun g27=>?_⟩
  ·have hT2:=(jN g27).1
   have hA2:=cD hT2
   have hw2:IntKind.i64.wrap ((aM d x.into).1.arity - 1)=(aM d x.into).1.arity - 1:=IntWalk.i64_in _ ⟨by omega,by omega⟩
   try rw [hw2]
   refine ⟨pE _ _ _,fun g35=>?_,fun g35=>?_⟩
   ·refine ⟨pE _ _ _,?_,trivial⟩
    ·first | (simp [eA, *];done) | (simp [eA, *] at*;simp [*];done) | (simp_all [eA];done)
   ·refine ⟨?_,trivial⟩
    ·first | (simp [eA, *];done) | (simp [eA, *] at*;simp [*];done) | (simp_all [eA];done)
  ·refine ⟨?_,trivial⟩
   ·first | (simp [eA, *];done) | (simp [eA, *] at*;simp [*];done) | (simp_all [eA];done)
 ·refine ⟨?_,trivial⟩
  ·first | (simp [eA, *];done) | (simp [eA, *] at*;simp [*];done) | (simp_all [eA];done)
abbrev tS (d:aP) (x:aL):Prop:=dJ Tryz.prog 214 [.agg [.sl 162 3 (d.tables.map aD)],.agg [.str x.name,.int .i64 x.column,.str x.into,.int .i64 x.intoColumn]] (vB (eA d x)) []
theorem aEK (d:aP) (x:aL) (hc:aW d≤1048576):tS d x:=by
 refine aZ bR aT Tryz.func214 (by kernel_rfl) (.call (.tup [.agg [.p none (.str (((aM d x.name).1).name)),vI (((aM d x.name).1).arity),.p none (.sl 32 1 ((((aM d x.name).1).rows).map aF))],vB ((aM d x.name).2)]) []<| .call (.tup [.agg [.p none (.str (((aM d x.into).1).name)),vI (((aM d x.into).1).arity),.p none (.sl 32 1 ((((aM d x.into).1).rows).map aF))],vB ((aM d x.into).2)]) []<| .br (.lit<| .br (.raw<| .call (vB (gG x.column (0:Int) (IntKind.i64.wrap ((((aM d x.name).1).arity) - (1:Int))))) []<| .lit<| .br (.raw<| .call (vB (gG x.intoColumn (0:Int) (IntKind.i64.wrap ((((aM d x.into).1).arity) - (1:Int))))) []<| .fin []) (.fin [])) (.fin [])) (.fin [])) (p:=(d.tables.map aD).length≤9223372036854775807→dJ Tryz.prog 132 [.agg [.sl 162 3 (d.tables.map aD)],.one (.str x.name)] (.tup [.agg [.p none (.str (((aM d x.name).1).name)),vI (((aM d x.name).1).arity),.p none (.sl 32 1 ((((aM d x.name).1).rows).map aF))],vB ((aM d x.name).2)]) []∧(dJ Tryz.prog 132 [.agg [.sl 162 3 (d.tables.map aD)],.one (.str x.into)] (.tup [.agg [.p none (.str (((aM d x.into).1).name)),vI (((aM d x.into).1).arity),.p none (.sl 32 1 ((((aM d x.into).1).rows).map aF))],vB ((aM d x.into).2)]) []∧((((aM d x.name).2)=true→(((aM d x.into).2)=true→jW x.column (0:Int) (IntKind.i64.wrap ((((aM d x.name).1).arity) - (1:Int)))∧(((gG x.column (0:Int) (IntKind.i64.wrap ((((aM d x.name).1).arity) - (1:Int))))=true→jW x.intoColumn (0:Int) (IntKind.i64.wrap ((((aM d x.into).1).arity) - (1:Int)))∧(gG x.intoColumn (0:Int) (IntKind.i64.wrap ((((aM d x.into).1).arity) - (1:Int))))=(eA d x)∧True)∧((gG x.column (0:Int) (IntKind.i64.wrap ((((aM d x.name).1).arity) - (1:Int))))=false→(false)=(eA d x)∧True)))∧(((aM d x.into).2)=false→(false)=(eA d x)∧True))∧(((aM d x.name).2)=false→(false)=(eA d x)∧True)))) (by kernel_rfl) ?_
 intro n0
 simp only [List.length_map] at n0
 refine ⟨lE (qK _ x.name (by omega)) rfl,lE (qK _ x.into (by omega)) rfl,fun g24=>?_,fun g24=>?_⟩
 ·have hT:=(jN g24).1
  have hA:=cD hT
  have hw:IntKind.i64.wrap ((aM d x.name).1.arity - 1)=(aM d x.name).1.arity - 1:=IntWalk.i64_in _ ⟨by omega,by omega⟩
  try rw [hw]
  refine ⟨fun g27=>?_,fun g27=>?_⟩
  ·have hT2:=(jN g27).1
   have hA2:=cD hT2
   have hw2:IntKind.i64.wrap ((aM d x.into).1.arity - 1)=(aM d x.into).1.arity - 1:=IntWalk.i64_in _ ⟨by omega,by omega⟩
   try rw [hw2]
   refine ⟨pF _ _ _,fun g35=>?_,fun g35=>?_⟩
   ·refine ⟨pF _ _ _,?_,trivial⟩
    ·first | (simp [eA, *];done) | (simp [eA, *] at*;simp [*];done) | (simp_all [eA];done)
   ·refine ⟨?_,trivial⟩
    ·first | (simp [eA, *];done) | (simp [eA, *] at*;simp [*];done) | (simp_all [eA];done)
  ·refine ⟨?_,trivial⟩
   ·first | (simp [eA, *];done) | (simp [eA, *] at*;simp [*];done) | (simp_all [eA];done)
 ·refine ⟨?_,trivial⟩
  ·first | (simp [eA, *];done) | (simp [eA, *] at*;simp [*];done) | (simp_all [eA];done)
abbrev wL (d:aP) (f:aJ):AV × List (Nat × Rs):=(.own 0,[(0,.arr 3 1 true ((iT d f).map intD))])
abbrev aCQ (d:aP) (f:aJ):Prop:=dJ Tryz.prog 232 [.agg [.sl 162 3 (d.tables.map aD)],.agg [.str f.name,.sl 3 1 (f.src.map intD),.int .i64 f.dst]] (wL d f).1 (wL d f).2
theorem aLF (d:aP) (f:aJ) (hc:aW d≤1048576):aCQ d f:=by
 refine aZ bR aT Tryz.func232 (by kernel_rfl) (.call (vB (eC d f)) []<| .br (.fin []) (.call (.tup [.agg [.p none (.str (((aM d f.name).1).name)),vI (((aM d f.name).1).arity),.p none (.sl 32 1 ((((aM d f.name).1).rows).map aF))],vB ((aM d f.name).2)]) []<| .len ((((aM d f.name).1).rows).length)<| .loop Nat (Q1 Nat) [7,8,9,10,11,12,13,14,29,30,31,32,33,34,35,36,37,38,39,40,41,42,43,44,45,46,47,48,49,50,51,52,53,54,55,56,57,58,59,60,61,62,63,64,65,66,67,68,69,70,71,72,73,77,78] [4800,5500] (fun k=>[(29,vI (k:Int))]) (fun k=>[]) (fun k=>k≤(aM d f.name).1.rows.length∧kA (aM d f.name).1.rows f.src f.dst k= []) (fun k=>(aM d f.name).1.rows.length - k) (fun k=> .br (.elem _ aF (((aM d f.name).1).rows) (fun e32=> .sub (List Int) aF (((aM d f.name).1).rows)<| .len (((((aM d f.name).1).rows).take k).length)<| .loop Nat (Q1 Nat) [9,10,11,12,13,14,39,40,41,42,43,44,45,46,47,48,49,50,51,52,53,54,55,56,57,58,59,60,61,62,63,64,65,66,67,68,69,70,71,72,73,77] [4800,5500] (fun i=>[(39,vI (i:Int))]) (fun i=>[]) (fun i=>i≤k∧jO (aM d f.name).1.rows f.src f.dst k i= []) (fun i=>k - i) (fun i=> .br (.elem _ aF ((((aM d f.name).1).rows).take k) (fun e42=>bG (qF e42 f.src)<| bG (qF e32 f.src)<| .call (vB (decide (((fM e42 f.src).1)=((fM e32 f.src).1)))) []<| .br (.elem _ intD e42 (fun e65=> .elem _ intD e32 (fun e70=> .lit<| .lit<| .lit<| .br (.fin [(0,7600)]) (.back [])))) (.back []))) (.back [])))) (.fin [])))) (p:=(d.tables.map aD).length≤9223372036854775807→(f.src.map intD).length≤9223372036854775807→tO d f∧(((!(eC d f))=true→[]=(iT d f).map intD∧True)∧((!(eC d f))=false→dJ Tryz.prog 148 [.agg [.sl 162 3 (d.tables.map aD)],.one (.str f.name)] (.tup [.agg [.p none (.str (((aM d f.name).1).name)),vI (((aM d f.name).1).arity),.p none (.sl 32 1 ((((aM d f.name).1).rows).map aF))],vB ((aM d f.name).2)]) []∧(Lm aF (((aM d f.name).1).rows)∧((∃(k:Nat),(0:Int)=(k:Int)∧k≤(aM d f.name).1.rows.length∧kA (aM d f.name).1.rows f.src f.dst k= [])∧ ∀(k:Nat),(k≤(aM d f.name).1.rows.length∧kA (aM d f.name).1.rows f.src f.dst k= [])→((decide ((k:Int)<(((((aM d f.name).1).rows).length:Nat):Int)))=true→0≤(k:Int)∧Em aF (((aM d f.name).1).rows) k fun e32=>(((aM d f.name).1).rows).map aF=(((aM d f.name).1).rows).map aF∧0≤(k:Int)∧(k:Int)≤(((((aM d f.name).1).rows).length:Nat):Int)∧(Lm aF ((((aM d f.name).1).rows).take k)∧((∃(i:Nat),(0:Int)=(i:Int)∧i≤k∧jO (aM d f.name).1.rows f.src f.dst k i= [])∧ ∀(i:Nat),(i≤k∧jO (aM d f.name).1.rows f.src f.dst k i= [])→((decide ((i:Int)<((((((aM d f.name).1).rows).take k).length:Nat):Int)))=true→0≤(i:Int)∧Em aF ((((aM d f.name).1).rows).take k) i fun e42=>tI e42 f.src∧(tI e32 f.src∧(nB ((fM e42 f.src).1) ((fM e32 f.src).1)∧(((decide (((fM e42 f.src).1)=((fM e32 f.src).1)))=true→0≤f.dst∧Em intD e42 ((f.dst).toNat) fun e65=>0≤f.dst∧Em intD e32 ((f.dst).toNat) fun e70=>((!(decide (e65=e70)))=true→[[.int .i64 (i:Int)],[.int .i64 (k:Int)]]=(iT d f).map intD∧True)∧((!(decide (e65=e70)))=false→dO ((i:Int)+(1:Int))∧ ∃(i' :Nat),((i:Int)+(1:Int))=(i' :Int)∧(i' ≤k∧jO (aM d f.name).1.rows f.src f.dst k i' = [])∧k - i' <k - i))∧((decide (((fM e42 f.src).1)=((fM e32 f.src).1)))=false→dO ((i:Int)+(1:Int))∧ ∃(i' :Nat),((i:Int)+(1:Int))=(i' :Int)∧(i' ≤k∧jO (aM d f.name).1.rows f.src f.dst k i' = [])∧k - i' <k - i)))))∧((decide ((i:Int)<((((((aM d f.name).1).rows).take k).length:Nat):Int)))=false→dO ((k:Int)+(1:Int))∧ ∃(k' :Nat),((k:Int)+(1:Int))=(k' :Int)∧(k' ≤(aM d f.name).1.rows.length∧kA (aM d f.name).1.rows f.src f.dst k' = [])∧(aM d f.name).1.rows.length - k' <(aM d f.name).1.rows.length - k))))∧((decide ((k:Int)<(((((aM d f.name).1).rows).length:Nat):Int)))=false→[]=(iT d f).map intD∧True)))))) (by kernel_rfl) ?_
 intro n0 n1
 simp only [List.length_map] at n0 n1
 refine ⟨aEH _ _ (by omega),fun c0=>?_,fun c0=>?_⟩
 ·replace c0:=nt c0
  have hbad:iT d f= []:=by rw [iT,if_neg (by simpa using c0)]
  refine ⟨?_,trivial⟩
  ·first | (rw [hbad]<;>rfl) | (rw [hE]<;>rfl) | (rw [hV,hE]<;>rfl)
 ·replace c0:=nf c0
  have hok:eC d f=true:=by simpa using c0
  obtain ⟨hT,hd0,hd1,hsl⟩:=aCO hok
  have hT8:=cD hT
  have hV:iT d f=kA (aM d f.name).1.rows f.src f.dst (aM d f.name).1.rows.length:=by rw [iT,if_pos hok]
  refine ⟨lE (qJ _ f.name (by omega)) rfl,List.length_map _,⟨0,rfl,Nat.zero_le _,rfl⟩,fun k ⟨hk,hv⟩=>?_⟩
  refine ⟨fun c1=>?_,fun c1=>?_⟩
  ·replace c1:=yq c1
   refine ⟨by omega,rfl,by first | omega | (simp only [List.length_take];omega),fun e32 h32=>?_⟩
   have hl32:=nR hT (List.mem_of_getElem? h32)
   refine ⟨rfl,by omega,by first | omega | (simp only [List.length_take];omega),List.length_map _,⟨0,rfl,Nat.zero_le _,rfl⟩,fun i ⟨hi,hw⟩=>?_⟩
   have htl:((aM d f.name).1.rows.take k).length=k:=by rw [List.length_take];omega
   refine ⟨fun c2=>?_,fun c2=>?_⟩
   ·replace c2:=yq c2
    refine ⟨by omega,rfl,by first | omega | (simp only [List.length_take];omega),fun e42 h42=>?_⟩
    have hx:(aM d f.name).1.rows[i]? =some e42:=by rw [List.getElem?_take_of_lt (by omega)] at h42;exact h42
    have hl42:=nR hT (List.mem_of_getElem? hx)
    have hb:=aKG (cols:=f.src) (c:=f.dst) hx h32
    refine ⟨aDj _ _ (by omega),aDj _ _ (by omega),xY _ _,fun g61=>?_,fun g61=>?_⟩
    ·replace g61:=yq g61
     refine ⟨by omega,rfl,by first | omega | (simp only [List.length_take];omega),fun e65 h65=>?_⟩
     refine ⟨by omega,rfl,by first | omega | (simp only [List.length_take];omega),fun e70 h70=>?_⟩
     refine ⟨fun c3=>?_,fun c3=>?_⟩
     ·replace c3:=nq (nt c3)
      have hB:aJH (aM d f.name).1.rows f.src f.dst i k=true:=by rw [hb,cM h65,cM h70];simp [*]
      have hE:=aEF hv hw hB (by omega) (by omega:k<(aM d f.name).1.rows.length)
      refine ⟨?_,trivial⟩
      ·first | (rw [hbad]<;>rfl) | (rw [hE]<;>rfl) | (rw [hV,hE]<;>rfl)
     ·replace c3:=yq (nf c3)
      refine ⟨⟨by omega,by omega⟩,?_⟩
      exact ⟨i+1,rfl,⟨by omega,aAx hw (by rw [hb];first | (simp [g61];done) | (rw [cM h65,cM h70];simp [*];done))⟩,by omega⟩
    ·replace g61:=nq g61
     refine ⟨⟨by omega,by omega⟩,?_⟩
     exact ⟨i+1,rfl,⟨by omega,aAx hw (by rw [hb];first | (simp [g61];done) | (rw [cM h65,cM h70];simp [*];done))⟩,by omega⟩
   ·replace c2:=nq c2
    refine ⟨⟨by omega,by omega⟩,?_⟩
    exact ⟨k+1,rfl,⟨by omega,aEG hv (by obtain rfl:i=k:=(by omega);exact hw)⟩,by omega⟩
  ·replace c1:=nq c1
   have hE:iT d f= []:=by rw [hV,show (aM d f.name).1.rows.length=k by omega,hv]
   refine ⟨?_,trivial⟩
   ·first | (rw [hbad]<;>rfl) | (rw [hE]<;>rfl) | (rw [hV,hE]<;>rfl)
abbrev wM (d:aP) (f:aJ):AV × List (Nat × Rs):=(.own 0,[(0,.arr 3 1 true ((iT d f).map intD))])
abbrev aCR (d:aP) (f:aJ):Prop:=dJ Tryz.prog 213 [.agg [.sl 162 3 (d.tables.map aD)],.agg [.str f.name,.sl 3 1 (f.src.map intD),.int .i64 f.dst]] (wM d f).1 (wM d f).2
theorem aLG (d:aP) (f:aJ) (hc:aW d≤1048576):aCR d f:=by
 refine aZ bR aT Tryz.func213 (by kernel_rfl) (.call (.tup [.agg [.p none (.str (((aM d f.name).1).name)),vI (((aM d f.name).1).arity),.p none (.sl 32 1 ((((aM d f.name).1).rows).map aF))],vB ((aM d f.name).2)]) []<| .loop Nat (Q1 Nat) [7,8,9,10,11,12,20,21,22,23,24,25,26,27,28,29,30,31,32,33,34,35,36,37,38,39,40,41,42,43,44,45,46,47,48,49,50,51,52,53,54,55,56,57,58,59,60,61,62,63,64,65,66,67,68,69,70,71,72,73,74,75,76,77,78,79,80,81,82,83] [4000,5600] (fun k=>[(7,vI (k:Int))]) (fun k=>[]) (fun k=>k≤(aM d f.name).1.rows.length∧kA (aM d f.name).1.rows f.src f.dst k= []) (fun k=>(aM d f.name).1.rows.length - k) (fun k=> .len ((((aM d f.name).1).rows).length)<| .br (.call (vB (eC d f)) []<| .lit<| .br (.elem _ aF (((aM d f.name).1).rows) (fun e36=>bG (nC e36 f.src)<| .loop Nat (Q1 Nat) [10,11,12,43,44,45,46,47,48,49,50,51,52,53,54,55,56,57,58,59,60,61,62,63,64,65,66,67,68,69,70,71,72,73,74,75,76,77,78,79,80,81,82,83] [5600] (fun i=>[(10,vI (i:Int))]) (fun i=>[]) (fun i=>i≤k∧jO (aM d f.name).1.rows f.src f.dst k i= []) (fun i=>k - i) (fun i=> .br (.elem _ aF (((aM d f.name).1).rows) (fun e52=>bG (nC e52 f.src)<| .call (vI (cC ((fM e52 f.src).1) ((fM e36 f.src).1))) []<| .br (.elem _ aF (((aM d f.name).1).rows) (fun e67=> .elem _ intD e67 (fun e71=> .elem _ aF (((aM d f.name).1).rows) (fun e76=> .elem _ intD e76 (fun e80=> .lit<| .lit<| .lit<| .br (.fin [(0,8600)]) (.back [])))))) (.back []))) (.back [])))) (.fin [(0,8700)])) (.fin [(0,8700)]))) (p:=(d.tables.map aD).length≤9223372036854775807→(f.src.map intD).length≤9223372036854775807→dJ Tryz.prog 132 [.agg [.sl 162 3 (d.tables.map aD)],.one (.str f.name)] (.tup [.agg [.p none (.str (((aM d f.name).1).name)),vI (((aM d f.name).1).arity),.p none (.sl 32 1 ((((aM d f.name).1).rows).map aF))],vB ((aM d f.name).2)]) []∧((∃(k:Nat),(0:Int)=(k:Int)∧k≤(aM d f.name).1.rows.length∧kA (aM d f.name).1.rows f.src f.dst k= [])∧ ∀(k:Nat),(k≤(aM d f.name).1.rows.length∧kA (aM d f.name).1.rows f.src f.dst k= [])→Lm aF (((aM d f.name).1).rows)∧(((decide ((k:Int)<(((((aM d f.name).1).rows).length:Nat):Int)))=true→tP d f∧(((eC d f)=true→0≤(k:Int)∧Em aF (((aM d f.name).1).rows) k fun e36=>qG e36 f.src∧((∃(i:Nat),(0:Int)=(i:Int)∧i≤k∧jO (aM d f.name).1.rows f.src f.dst k i= [])∧ ∀(i:Nat),(i≤k∧jO (aM d f.name).1.rows f.src f.dst k i= [])→((decide ((i:Int)<(k:Int)))=true→0≤(i:Int)∧Em aF (((aM d f.name).1).rows) i fun e52=>qG e52 f.src∧(fA ((fM e52 f.src).1) ((fM e36 f.src).1)∧(((decide ((cC ((fM e52 f.src).1) ((fM e36 f.src).1))=(0:Int)))=true→0≤(i:Int)∧Em aF (((aM d f.name).1).rows) i fun e67=>0≤f.dst∧Em intD e67 ((f.dst).toNat) fun e71=>0≤(k:Int)∧Em aF (((aM d f.name).1).rows) k fun e76=>0≤f.dst∧Em intD e76 ((f.dst).toNat) fun e80=>((!(decide (e71=e80)))=true→[[.int .i64 (i:Int)],[.int .i64 (k:Int)]]=(iT d f).map intD∧True)∧((!(decide (e71=e80)))=false→dO ((i:Int)+(1:Int))∧ ∃(i' :Nat),((i:Int)+(1:Int))=(i' :Int)∧(i' ≤k∧jO (aM d f.name).1.rows f.src f.dst k i' = [])∧k - i' <k - i))∧((decide ((cC ((fM e52 f.src).1) ((fM e36 f.src).1))=(0:Int)))=false→dO ((i:Int)+(1:Int))∧ ∃(i' :Nat),((i:Int)+(1:Int))=(i' :Int)∧(i' ≤k∧jO (aM d f.name).1.rows f.src f.dst k i' = [])∧k - i' <k - i))))∧((decide ((i:Int)<(k:Int)))=false→dO ((k:Int)+(1:Int))∧ ∃(k' :Nat),((k:Int)+(1:Int))=(k' :Int)∧(k' ≤(aM d f.name).1.rows.length∧kA (aM d f.name).1.rows f.src f.dst k' = [])∧(aM d f.name).1.rows.length - k' <(aM d f.name).1.rows.length - k)))∧((eC d f)=false→[]=(iT d f).map intD∧True)))∧((decide ((k:Int)<(((((aM d f.name).1).rows).length:Nat):Int)))=false→[]=(iT d f).map intD∧True)))) (by kernel_rfl) ?_
 intro n0 n1
 simp only [List.length_map] at n0 n1
 refine ⟨lE (qK _ f.name (by omega)) rfl,⟨0,rfl,Nat.zero_le _,rfl⟩,fun k ⟨hk,hv⟩=>?_⟩
 refine ⟨List.length_map _,fun g25=>?_,fun g25=>?_⟩
 ·replace g25:=yq g25
  refine ⟨aEI _ _ (by omega),fun c0=>?_,fun c0=>?_⟩
  ·have hok:eC d f=true:=c0
   obtain ⟨hT,hd0,hd1,hsl⟩:=aCO hok
   have hT8:=cD hT
   have hV:iT d f=kA (aM d f.name).1.rows f.src f.dst (aM d f.name).1.rows.length:=by rw [iT,if_pos hok]
   refine ⟨by omega,rfl,by omega,fun e36 h36=>?_⟩
   have hl36:=nR hT (List.mem_of_getElem? h36)
   refine ⟨aAo _ _ (by omega),⟨0,rfl,Nat.zero_le _,rfl⟩,fun i ⟨hi,hw⟩=>?_⟩
   refine ⟨fun c1=>?_,fun c1=>?_⟩
   ·replace c1:=yq c1
    refine ⟨by omega,rfl,by omega,fun e52 h52=>?_⟩
    have hl52:=nR hT (List.mem_of_getElem? h52)
    have hb:=aKG (cols:=f.src) (c:=f.dst) h52 h36
    refine ⟨aAo _ _ (by omega),gH _ _,fun g63=>?_,fun g63=>?_⟩
    ·replace g63:=yq g63
     refine ⟨by omega,rfl,by omega,fun e67 h67=>?_⟩
     obtain rfl:=(aV h52 h67).symm
     refine ⟨by omega,rfl,by omega,fun e71 h71=>?_⟩
     refine ⟨by omega,rfl,by omega,fun e76 h76=>?_⟩
     obtain rfl:=(aV h36 h76).symm
     refine ⟨by omega,rfl,by omega,fun e80 h80=>?_⟩
     refine ⟨fun c2=>?_,fun c2=>?_⟩
     ·replace c2:=nq (nt c2)
      have hB:aJH (aM d f.name).1.rows f.src f.dst i k=true:=by rw [hb,cM h71,cM h80,eD.1 g63];simp [c2]
      have hE:=aEF hv hw hB (by omega) (by omega:k<(aM d f.name).1.rows.length)
      refine ⟨?_,trivial⟩
      ·first | (rw [hE]<;>rfl) | (rw [hV,hE]<;>rfl)
     ·replace c2:=yq (nf c2)
      refine ⟨⟨by omega,by omega⟩,?_⟩
      exact ⟨i+1,rfl,⟨by omega,aAx hw (by rw [hb];first | (simp [show ¬(fM e52 f.src).1=(fM e36 f.src).1 from fun q=>g63 (eD.2 q)];done) | (rw [cM h71,cM h80];simp [c2];done))⟩,by omega⟩
    ·replace g63:=nq g63
     refine ⟨⟨by omega,by omega⟩,?_⟩
     exact ⟨i+1,rfl,⟨by omega,aAx hw (by rw [hb];first | (simp [show ¬(fM e52 f.src).1=(fM e36 f.src).1 from fun q=>g63 (eD.2 q)];done) | (rw [cM h71,cM h80];simp [c2];done))⟩,by omega⟩
   ·replace c1:=nq c1
    refine ⟨⟨by omega,by omega⟩,?_⟩
    exact ⟨k+1,rfl,⟨by omega,aEG hv (by obtain rfl:i=k:=(by omega);exact hw)⟩,by omega⟩
  ·have hE:iT d f= []:=by first | (rw [iT,if_neg (by rw [c0];decide)];done) | (rw [iT];split<;>first | (rw [show (aM d f.name).1.rows.length=k by omega,hv];done) | rfl)
   refine ⟨?_,trivial⟩
   ·first | (rw [hE]<;>rfl) | (rw [hV,hE]<;>rfl)
 ·replace g25:=nq g25
  have hE:iT d f= []:=by first | (rw [iT,if_neg (by rw [c0];decide)];done) | (rw [iT];split<;>first | (rw [show (aM d f.name).1.rows.length=k by omega,hv];done) | rfl)
  refine ⟨?_,trivial⟩
  ·first | (rw [hE]<;>rfl) | (rw [hV,hE]<;>rfl)
abbrev aBA (d:aP) (f:aJ):Prop:=dJ Tryz.prog 152 [.agg [.sl 162 3 (d.tables.map aD)],.agg [.str f.name,.sl 3 1 (f.src.map intD),.int .i64 f.dst]] (vB (gL d f)) []
theorem aJK (d:aP) (f:aJ) (hc:aW d≤1048576):aBA d f:=by
 refine aZ bR aT Tryz.func152 (by kernel_rfl) (.call (vB (eC d f)) []<| .br (bG (wL d f)<| .len ((iT d f).length)<| .fin []) (.fin [])) (p:=(d.tables.map aD).length≤9223372036854775807→(f.src.map intD).length≤9223372036854775807→tO d f∧(((eC d f)=true→aCQ d f∧Lm intD (iT d f)∧(decide ((((iT d f).length:Nat):Int)=(0:Int)))=(gL d f)∧True)∧((eC d f)=false→(false)=(gL d f)∧True))) (by kernel_rfl) ?_
 intro n0 n1
 simp only [List.length_map] at n0 n1
 refine ⟨aEH _ _ (by omega),fun g8=>?_,fun g8=>?_⟩
 ·refine ⟨aLF _ _ (by omega),List.length_map _,?_,trivial⟩
  ·first | (simp [gL, *];done) | (rw [gL,g8,oI];rfl)
 ·refine ⟨?_,trivial⟩
  ·first | (simp [gL, *];done) | (rw [gL,g8,oI];rfl)
abbrev aBB (d:aP) (f:aJ):Prop:=dJ Tryz.prog 136 [.agg [.sl 162 3 (d.tables.map aD)],.agg [.str f.name,.sl 3 1 (f.src.map intD),.int .i64 f.dst]] (vB (gL d f)) []
theorem aJL (d:aP) (f:aJ) (hc:aW d≤1048576):aBB d f:=by
 refine aZ bR aT Tryz.func136 (by kernel_rfl) (.call (vB (eC d f)) []<| .br (bG (wM d f)<| .len ((iT d f).length)<| .fin []) (.fin [])) (p:=(d.tables.map aD).length≤9223372036854775807→(f.src.map intD).length≤9223372036854775807→tP d f∧(((eC d f)=true→aCR d f∧Lm intD (iT d f)∧(decide ((((iT d f).length:Nat):Int)=(0:Int)))=(gL d f)∧True)∧((eC d f)=false→(false)=(gL d f)∧True))) (by kernel_rfl) ?_
 intro n0 n1
 simp only [List.length_map] at n0 n1
 refine ⟨aEI _ _ (by omega),fun g8=>?_,fun g8=>?_⟩
 ·refine ⟨aLG _ _ (by omega),List.length_map _,?_,trivial⟩
  ·first | (simp [gL, *];done) | (rw [gL,g8,oI];rfl)
 ·refine ⟨?_,trivial⟩
  ·first | (simp [gL, *];done) | (rw [gL,g8,oI];rfl)
abbrev wN (d:aP) (x:aL):AV × List (Nat × Rs):=(.own 0,[(0,.arr 3 1 true ((uE d x).map intD))])
abbrev aCS (d:aP) (x:aL):Prop:=dJ Tryz.prog 234 [.agg [.sl 162 3 (d.tables.map aD)],.agg [.str x.name,.int .i64 x.column,.str x.into,.int .i64 x.intoColumn]] (wN d x).1 (wN d x).2
theorem aLH (d:aP) (x:aL) (hc:aW d≤1048576):aCS d x:=by
 refine aZ bR aT Tryz.func234 (by kernel_rfl) (.call (vB (eA d x)) []<| .br (.fin []) (.call (.tup [.agg [.p none (.str (((aM d x.name).1).name)),vI (((aM d x.name).1).arity),.p none (.sl 32 1 ((((aM d x.name).1).rows).map aF))],vB ((aM d x.name).2)]) []<| .call (.tup [.agg [.p none (.str (((aM d x.into).1).name)),vI (((aM d x.into).1).arity),.p none (.sl 32 1 ((((aM d x.into).1).rows).map aF))],vB ((aM d x.into).2)]) []<| .len ((((aM d x.into).1).rows).length)<| .loop (Nat × (List Int)) (Q2 Nat (List Int)) [9,11,34,38,39,40,41,42,43,44,45,46,47,48,49,50] [3400,4800,4900] (fun yy0=>[(38,vI (yy0.1:Int)),(9,.own 3400)]) (fun yy0=>[(3400,some (.arr 3 1 true (yy0.2.map intD)))]) (fun yy0=>yy0.1≤(aM d x.into).1.rows.length∧yy0.2=gM ((aM d x.into).1.rows.take yy0.1) x.intoColumn) (fun yy0=>(aM d x.into).1.rows.length - yy0.1) (fun yy0=> .br (.elem _ aF (((aM d x.into).1).rows) (fun e40=> .elem _ intD e40 (fun e46=> .app Int intD yy0.2 ([e46]:List Int)<| .back [(3400,4900)]))) (.len ((((aM d x.name).1).rows).length)<| .loop (Nat × (List Int)) (Q2 Nat (List Int)) [12,14,15,51,55,56,57,58,59,60,61,62,63,64,65,66,67,68,69,70,71,72] [5100,7000,7100] (fun yy1=>[(55,vI (yy1.1:Int)),(12,.own 5100)]) (fun yy1=>[(5100,some (.arr 3 1 true (yy1.2.map intD)))]) (fun yy1=>yy1.1≤(aM d x.name).1.rows.length∧yy1.2=(gM ((aM d x.name).1.rows.take yy1.1) x.column).filter fun v=> !decide (v∈yy0.2)) (fun yy1=>(aM d x.name).1.rows.length - yy1.1) (fun yy1=> .br (.elem _ aF (((aM d x.name).1).rows) (fun e57=> .elem _ intD e57 (fun e62=> .call (vB (decide (e62∈yy0.2))) []<| .br (.app Int intD yy1.2 ([e62]:List Int)<| .back [(5100,7100)]) (.back [(5100,5100)])))) (.callx [.own 0] [(0,.arr 3 1 true (yy1.2.map intD))] [(0,5100)] (.tup []) [(0,.arr 3 1 true ((oY yy1.2).map intD))]<| .callx [.own 0] [(0,.arr 3 1 true ((oY yy1.2).map intD))] [(0,5100)] (.own 1) [(1,.arr 3 1 true ((rG (oY yy1.2)).map intD))]<| .fin [(0,7601)])))))) (p:=(d.tables.map aD).length≤9223372036854775807→tR d x∧(((!(eA d x))=true→[]=(uE d x).map intD∧True)∧((!(eA d x))=false→dJ Tryz.prog 148 [.agg [.sl 162 3 (d.tables.map aD)],.one (.str x.name)] (.tup [.agg [.p none (.str (((aM d x.name).1).name)),vI (((aM d x.name).1).arity),.p none (.sl 32 1 ((((aM d x.name).1).rows).map aF))],vB ((aM d x.name).2)]) []∧(dJ Tryz.prog 148 [.agg [.sl 162 3 (d.tables.map aD)],.one (.str x.into)] (.tup [.agg [.p none (.str (((aM d x.into).1).name)),vI (((aM d x.into).1).arity),.p none (.sl 32 1 ((((aM d x.into).1).rows).map aF))],vB ((aM d x.into).2)]) []∧(Lm aF (((aM d x.into).1).rows)∧((∃(k:Nat) (there:List Int),(0:Int)=(k:Int)∧[]=there.map intD∧k≤(aM d x.into).1.rows.length∧there=gM ((aM d x.into).1.rows.take k) x.intoColumn)∧ ∀(k:Nat) (there:List Int),(k≤(aM d x.into).1.rows.length∧there=gM ((aM d x.into).1.rows.take k) x.intoColumn)→((decide ((k:Int)<(((((aM d x.into).1).rows).length:Nat):Int)))=true→0≤(k:Int)∧Em aF (((aM d x.into).1).rows) k fun e40=>0≤x.intoColumn∧Em intD e40 ((x.intoColumn).toNat) fun e46=>there.map intD=there.map intD∧[[.int .i64 e46]]=([e46]:List Int).map intD∧(∀x,fG (intD x)=true)∧(there.length+([e46]:List Int).length)*8≤140737488355328∧dO ((k:Int)+(1:Int))∧ ∃(k' :Nat) (there' :List Int),((k:Int)+(1:Int))=(k' :Int)∧(there++[e46]).map intD=there'.map intD∧(k' ≤(aM d x.into).1.rows.length∧there' =gM ((aM d x.into).1.rows.take k') x.intoColumn)∧(aM d x.into).1.rows.length - k' <(aM d x.into).1.rows.length - k)∧((decide ((k:Int)<(((((aM d x.into).1).rows).length:Nat):Int)))=false→Lm aF (((aM d x.name).1).rows)∧((∃(j:Nat) (out:List Int),(0:Int)=(j:Int)∧[]=out.map intD∧j≤(aM d x.name).1.rows.length∧out=(gM ((aM d x.name).1.rows.take j) x.column).filter fun v=> !decide (v∈there))∧ ∀(j:Nat) (out:List Int),(j≤(aM d x.name).1.rows.length∧out=(gM ((aM d x.name).1.rows.take j) x.column).filter fun v=> !decide (v∈there))→((decide ((j:Int)<(((((aM d x.name).1).rows).length:Nat):Int)))=true→0≤(j:Int)∧Em aF (((aM d x.name).1).rows) j fun e57=>0≤x.column∧Em intD e57 ((x.column).toNat) fun e62=>aNA there e62∧(((!(decide (e62∈there)))=true→out.map intD=out.map intD∧[[.int .i64 e62]]=([e62]:List Int).map intD∧(∀x,fG (intD x)=true)∧(out.length+([e62]:List Int).length)*8≤140737488355328∧dO ((j:Int)+(1:Int))∧ ∃(j' :Nat) (out' :List Int),((j:Int)+(1:Int))=(j' :Int)∧(out++[e62]).map intD=out'.map intD∧(j' ≤(aM d x.name).1.rows.length∧out' =(gM ((aM d x.name).1.rows.take j') x.column).filter fun v=> !decide (v∈there))∧(aM d x.name).1.rows.length - j' <(aM d x.name).1.rows.length - j)∧((!(decide (e62∈there)))=false→dO ((j:Int)+(1:Int))∧ ∃(j' :Nat) (out' :List Int),((j:Int)+(1:Int))=(j' :Int)∧out.map intD=out'.map intD∧(j' ≤(aM d x.name).1.rows.length∧out' =(gM ((aM d x.name).1.rows.take j') x.column).filter fun v=> !decide (v∈there))∧(aM d x.name).1.rows.length - j' <(aM d x.name).1.rows.length - j)))∧((decide ((j:Int)<(((((aM d x.name).1).rows).length:Nat):Int)))=false→mW Tryz.prog 248 [.own 0] [(0,.arr 3 1 true (out.map intD))] (.tup []) [(0,.arr 3 1 true ((oY out).map intD))]∧out.map intD=out.map intD∧mW Tryz.prog 273 [.own 0] [(0,.arr 3 1 true ((oY out).map intD))] (.own 1) [(1,.arr 3 1 true ((rG (oY out)).map intD))]∧(oY out).map intD=(oY out).map intD∧(rG (oY out)).map intD=(uE d x).map intD∧True))))))))) (by kernel_rfl) ?_
 intro n0
 simp only [List.length_map] at n0
 refine ⟨aEJ _ _ (by omega),fun c0=>?_,fun c0=>?_⟩
 ·replace c0:=nt c0
  have hbad:uE d x= []:=by rw [uE,if_neg (by simpa using c0)]
  refine ⟨?_,trivial⟩
  ·first | (rw [hbad]<;>rfl) | (rw [hE]<;>rfl)
 ·replace c0:=nf c0
  have hok:eA d x=true:=by simpa using c0
  obtain ⟨hTa,hTb,hca,hcb⟩:=wK hok
  have hA8:=cD hTa
  have hB8:=cD hTb
  refine ⟨lE (qJ _ x.name (by omega)) rfl,lE (qJ _ x.into (by omega)) rfl,List.length_map _,⟨0,([]:List Int),rfl,rfl,Nat.zero_le _,rfl⟩,fun k there ⟨hk,hth⟩=>?_⟩
  have htl:there.length=k:=by rw [hth,gM,List.length_map,List.length_take];omega
  refine ⟨fun c1=>?_,fun c1=>?_⟩
  ·replace c1:=yq c1
   refine ⟨by omega,rfl,by omega,fun e40 h40=>?_⟩
   have hl40:=nR hTb (List.mem_of_getElem? h40)
   refine ⟨by omega,rfl,by omega,fun e46 h46=>?_⟩
   refine ⟨rfl,rfl,fun _=>rfl,by first | omega | (simp [hth];omega) | (simp;omega),?_⟩
   refine ⟨⟨by omega,by omega⟩,?_⟩
   exact ⟨k+1,_,rfl,rfl,⟨by omega,by rw [lQ _ _ h40,←hth,cM h46]⟩,by omega⟩
  ·replace c1:=nq c1
   have hTH:there=gM (aM d x.into).1.rows x.intoColumn:=by rw [hth,List.take_of_length_le (by omega)]
   refine ⟨List.length_map _,⟨0,([]:List Int),rfl,rfl,Nat.zero_le _,rfl⟩,fun j out ⟨hj,ho⟩=>?_⟩
   have hol:out.length≤j:=by rw [ho];refine Nat.le_trans (List.length_filter_le _ _) ?_;simp [gM];omega
   refine ⟨fun c2=>?_,fun c2=>?_⟩
   ·replace c2:=yq c2
    refine ⟨by omega,rfl,by omega,fun e57 h57=>?_⟩
    have hl57:=nR hTa (List.mem_of_getElem? h57)
    refine ⟨by omega,rfl,by omega,fun e62 h62=>?_⟩
    refine ⟨ctI _ _,fun c3=>?_,fun c3=>?_⟩
    ·replace c3:=nt c3
     refine ⟨rfl,rfl,fun _=>rfl,by first | omega | (simp [hth];omega) | (simp;omega),?_⟩
     refine ⟨⟨by omega,by omega⟩,?_⟩
     exact ⟨j+1,_,rfl,rfl,⟨by omega,by rw [lQ _ _ h57,List.filter_append,←ho,cM h62,List.filter_cons_of_pos (by simpa using c3)];rfl⟩,by omega⟩
    ·replace c3:=nf c3
     refine ⟨⟨by omega,by omega⟩,?_⟩
     exact ⟨j+1,_,rfl,rfl,⟨by omega,by rw [lQ _ _ h57,List.filter_append,←ho,cM h62,List.filter_cons_of_neg (by simpa using c3)];simp⟩,by omega⟩
   ·replace c2:=nq c2
    have hE:uE d x=rG (oY out):=by rw [uE,if_pos hok,aCP,ho,hTH,List.take_of_length_le (by omega)]
    refine ⟨aLA out (by omega),rfl,aLB (oY out) (by first | omega | (rw [yE];omega)),rfl,?_,trivial⟩
    ·first | (rw [hbad]<;>rfl) | (rw [hE]<;>rfl)
abbrev aBC (d:aP) (x:aL):Prop:=dJ Tryz.prog 153 [.agg [.sl 162 3 (d.tables.map aD)],.agg [.str x.name,.int .i64 x.column,.str x.into,.int .i64 x.intoColumn]] (vB (gN d x)) []
theorem aJM (d:aP) (x:aL) (hc:aW d≤1048576):aBC d x:=by
 refine aZ bR aT Tryz.func153 (by kernel_rfl) (.call (vB (eA d x)) []<| .br (bG (wN d x)<| .len ((uE d x).length)<| .fin []) (.fin [])) (p:=(d.tables.map aD).length≤9223372036854775807→tR d x∧(((eA d x)=true→aCS d x∧Lm intD (uE d x)∧(decide ((((uE d x).length:Nat):Int)=(0:Int)))=(gN d x)∧True)∧((eA d x)=false→(false)=(gN d x)∧True))) (by kernel_rfl) ?_
 intro n0
 simp only [List.length_map] at n0
 refine ⟨aEJ _ _ (by omega),fun g8=>?_,fun g8=>?_⟩
 ·refine ⟨aLH _ _ (by omega),List.length_map _,?_,trivial⟩
  ·first | (simp [gN, *];done) | (rw [gN,g8,oI,aFx g8];rfl)
 ·refine ⟨?_,trivial⟩
  ·first | (simp [gN, *];done) | (rw [gN,g8,oI,aFx g8];rfl)
end Go.Proofs.YtokkjaflmcjlhaaGreat
