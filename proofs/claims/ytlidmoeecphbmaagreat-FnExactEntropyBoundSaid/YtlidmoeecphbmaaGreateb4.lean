/-
  Contracts and plain laws, joined: part 5.
-/
import Derived.Test.YtlidmoeecphbmaaGreateb3
import Derived.Shelf.SlSortCmp.Whole1
import Derived.Shelf.SlSortCmp.NoneTotal
import Derived.Shelf.Lay
import Derived.Ground.SlsfProg
import Derived.Shelf.RegionOpenPlain
import Derived.Deep.Draws
import Derived.Lib.SlicesCompact
import Derived.Lib.SliceRun
import Derived.Sort.WalkB12
import Derived.Lib.Walk
import Derived.Shelf.SlicesE.Kit
import Derived.Deep.LoopGhost
import Derived.Shelf.SlSortCmp.Insertion
namespace Go.Proofs
open Go.Shelf
namespace YtlidmoeecphbmaaGreat
shelf_lay_g SlLaysF.n6 Slsf 6 at Tryz 255 as Tryz.sortRows
end YtlidmoeecphbmaaGreat
end Go.Proofs
namespace Go.Proofs.YtlidmoeecphbmaaGreat
open Go.ChangeShapes Go.WideShapes Go.ChangeAt Go.RowKit Go.Shelf Go.Lib
set_option linter.unusedVariables false
set_option linter.unusedSimpArgs false
set_option maxHeartbeats 2000000 in
theorem aTY (l:List (List Int))(hl:l.length<4611686018427387904):rB Tryz.prog 255 [.own 0,.fn 252 []] [(0,.arr 91 1 true (l.map aC))] (.tup []) [(0,.arr 91 1 true ((dI l).map aC))]:=by
 refine⟨by kernel_rfl,by simp,fun A φ w vs hI hm=>?_⟩
 obtain⟨pl,hp,css,Fs,q1,q2,q3,q4⟩:=hI.dom 0 _ rfl
 unfold aQ at hm
 obtain⟨v,us,e1,m1,hm⟩:=hm
 unfold aQ at hm
 obtain⟨v2,us2,e2,m2,hm⟩:=hm
 unfold aQ at hm
 unfold aI at m1 m2
 obtain⟨vs2,ev2,m3⟩:=m2
 unfold aQ at m3
 have hv:=m1 pl hp
 have e3:vs2= #[]:=by apply Array.ext';simpa using m3
 have ev:vs= #[pl.val,.func (.func 252) #[] #[]]:=by apply Array.ext';rw[e1,e2,hm,hv,ev2,e3]
 rw[ev]
 have hnd:=hI.nodup 0 pl hp
 have hge:=hI.ge 0 pl hp
 have hFe:pl.F=pl.val.ownBlock.toList++Fs.flatten:=by unfold Pl.F;rw[q2,q3]
 have hfoot: ∀b∈pl.F,aKl φ b:=fun b hb=>⟨0,pl,trivial,hp,hb⟩
 have h0: ∀h pl',φ h=some pl' →h=0:=fun h pl' e' =>by
  cases hr:bE [(0,Rs.arr 91 1 true (l.map aC))] h with
  | none=>rw[hI.non h hr] at e';cases e'
  | some r=>
    simp only[bE] at hr
    split at hr
    ·assumption
    ·cases hr
 obtain⟨lc,lF⟩:=aAZ q4
 rw[List.length_map] at lc lF
 have hrow: ∀i,i<l.length→ ∃a cap F,css[i]? =some [.slice a (l.getD i []).length cap]∧Fs[i]? =some F∧aBL w a (l.getD i [])∧(∀x∈a,x.block∈F)∧(l.getD i []).length≤9223372036854775807∧dH w (aC (l.getD i [])) [.slice a (l.getD i []).length cap] F:=fun i hi=>by
  obtain⟨r,hr⟩:=dE hi
  have hg:l.getD i []=r:=by simp[List.getD_eq_getElem?_getD,hr]
  obtain⟨c,F,g1,g2,_,g4⟩:=yI q4 (show (l.map aC)[i]? =some (aC r) by rw[List.getElem?_map,hr];rfl)
  obtain⟨a,cap,rfl,k1,k2,k3⟩:=aWo g4
  rw[hg]
  exact⟨a,cap,F,g1,g2,k1,k2,k3,g4⟩
 have hone: ∀d∈css,d.length=1:=fun d hd=>by
  obtain⟨i,hi⟩:=List.getElem?_of_mem hd
  obtain⟨a,cap,F,g1,_⟩:=hrow i (by have:=(List.getElem?_eq_some_iff.1 hi).1;omega)
  rw[hi] at g1
  injection g1 with g1
  rw[g1];rfl
 let enc:Nat→Value:=fun i=>css.flatten.getD i (.slice none 0 0)
 have henc: ∀i,∃a cap,enc i= .slice a (l.getD i []).length cap∧aBL w a (l.getD i [])∧(∀x∈a,x.block∈Fs.flatten)∧(l.getD i []).length≤9223372036854775807:=fun i=>by
  by_cases hi:i<l.length
  ·obtain⟨a,cap,F,g1,g2,g3,g4,g5,_⟩:=hrow i hi
   refine⟨a,cap,?_,g3,fun x hx=>List.mem_flatten.2 ⟨F,List.mem_of_getElem? g2,g4 x hx⟩,g5⟩
   show css.flatten.getD i _=_
   rw[List.getD_eq_getElem?_getD,pS css i _ hone g1];rfl
  ·have hg:l.getD i []= []:=by rw[List.getD_eq_getElem?_getD,List.getElem?_eq_none (by omega)];rfl
   rw[hg]
   refine⟨none,0,?_,fun j x hx=>by simp at hx,by simp,by simp⟩
   show css.flatten.getD i _=_
   rw[List.getD_eq_getElem?_getD,List.getElem?_eq_none (by rw[aC5 css hone];omega)];rfl
 have hend: ∀(d' :List Nat) (w' :World),d'.Perm (List.range l.length)→(d'.map fun i=>l.getD i []).Pairwise (fun a b=>leR a b=true)→lS pl.F w w' →(∀F∈Fs,iZ F w w')→w'.ownsRow 0 91 1 pl.val l.length (d'.map enc)→
  ∃v K φ',Ending.returned (.tuple #[])= .returned v∧aQ9 A φ w [(0,.arr 91 1 true ((dI l).map aC))] K φ' w' ∧aI K φ' w' (.tup []) v:=by
  intro d' w' hperm hsort hon hkeep howns
  have hrange:(List.range l.length).map (fun i=>l.getD i [])=l:=by
   apply List.ext_getElem?
   intro i
   by_cases hi:i<l.length
   ·simp[hi]
   ·simp[hi]
  have hl' :d'.map (fun i=>l.getD i [])=dI l:=aTX (by have:=hperm.map (fun i=>l.getD i []);rwa [hrange] at this) hsort
  have hFr:(List.range l.length).map (fun i=>Fs.getD i [])=Fs:=by
   apply List.ext_getElem?
   intro i
   by_cases hi:i<l.length
   ·simp[hi,show i<Fs.length by omega]
   ·simp[hi,show ¬i<Fs.length by omega]
  have hFp:(d'.map fun i=>Fs.getD i []).flatten.Perm Fs.flatten:=by
   have:=(hperm.map (fun i=>Fs.getD i [])).flatten
   rwa [hFr] at this
  let pl' :Pl:=⟨pl.val,pl.top,(d'.map fun i=>Fs.getD i []).flatten⟩
  have hmem: ∀g,g∈pl'.F↔g∈pl.F:=fun g=>by
   simp only[pl',Pl.F,List.mem_append,q3,hFp.mem_iff]
  have hnd' :pl'.F.Nodup:=by
   have:pl'.F.Perm pl.F:=by simp only[pl',Pl.F,q3];exact(List.Perm.refl _).append hFp
   exact this.nodup_iff.2 hnd
  refine⟨_,A,fun h=>if h=0 then some pl' else none,rfl,⟨⟨hon.os,hon.tape,hon.output,hon.size,fun b hb hn=>hon.block b hb (fun hm=>hn (hfoot b hm))⟩,fun _ h=>h,fun b hb=>⟨Nat.lt_of_lt_of_le (hI.lt b hb) hon.size,.inl hb⟩,fun b hb h pl1 e' hm' =>?_,fun h r hr=>?_,fun h hr=>?_,fun h h' pl1 pl2 hne ea eb=>?_,fun h pl1 e' =>?_,fun h pl1 e' g hg=>?_,fun h pl1 pl0 e' e0=>?_⟩,?_⟩
  ·split at e'
   ·injection e' with e';subst e'
    exact hI.out b hb 0 pl hp ((hmem b).1 hm')
   ·cases e'
  ·simp only[bE] at hr
   split at hr
   ·rename_i eh
    subst eh
    injection hr with hr
    subst hr
    refine⟨pl',by simp,d'.map (fun i=>[enc i]),d'.map (fun i=>Fs.getD i []),?_,q2,rfl,?_⟩
    ·have e4:(d'.map fun i=>[enc i]).flatten=d'.map enc:=aG1 enc d'
     rw[e4,List.length_map,aDY];exact howns
    ·rw[←hl',List.map_map]
     refine aG0 (fun i=>aC (l.getD i [])) (fun i=>[enc i]) (fun i=>Fs.getD i []) fun i hi=>⟨rfl,?_⟩
     have hil:i<l.length:=by simpa using hperm.mem_iff.1 hi
     obtain⟨a,cap,F,g1,g2,g3,g4,g5,g6⟩:=hrow i hil
     have ee:enc i= .slice a (l.getD i []).length cap:=by
      show css.flatten.getD i _=_
      rw[List.getD_eq_getElem?_getD,pS css i _ hone g1];rfl
     have eF:Fs.getD i []=F:=by simp[List.getD_eq_getElem?_getD,g2]
     rw[ee,eF]
     exact dH.kept _ _ _ (hkeep F (List.mem_of_getElem? g2)) g6
   ·cases hr
  ·simp only[bE] at hr
   split at hr
   ·cases hr
   ·rename_i eh;exact if_neg eh
  ·split at ea
   ·split at eb
    ·rename_i x y;exact absurd (x.trans y.symm) hne
    ·cases eb
   ·cases ea
  ·split at e'
   ·injection e' with e';subst e';exact hnd'
   ·cases e'
  ·split at e'
   ·injection e' with e';subst e'
    have:=(hmem g).1 hg
    exact⟨.inr (hfoot g this),Nat.lt_of_lt_of_le (hge g this) hon.size⟩
   ·cases e'
  ·split at e'
   ·rename_i eh
    subst eh
    rw[hp] at e0
    injection e0 with e0;injection e' with e'
    subst e0;subst e'
    exact⟨rfl,rfl⟩
   ·cases e'
  ·unfold aI
   exact⟨#[],rfl,by unfold aQ;rfl⟩
 rw[List.length_map] at q1
 rcases q1.2 with ⟨hvn,hz⟩ | ⟨g,cap,cur,hvv,hg0,hb,hn,hcap,hsz,htk⟩
 ·have hcon:=AnyF.slices_SortFunc_none { Tryz.sortRows with } none 0 (.func (.func 252) #[] #[]) w
  change Calls Tryz.prog 255 _ _ _ at hcon
  rw[hvn]
  refine hcon.mono ?_
  rintro en w' ⟨rfl,rfl⟩
  have hz' :l= []:=List.eq_nil_of_length_eq_zero hz
  subst hz'
  exact hend [] w' (by simp) (by simp) (lS.refl _ _) (fun F hF g hg=>rfl) (by rw[hvn];exact⟨by simp,.inl ⟨rfl,rfl⟩⟩)
 ·have hgF:g ∉ Fs.flatten:=fun hm=>by
   rw[hFe,hvv] at hnd
   simp only[Value.ownBlock,Option.toList_some,List.cons_append,List.nil_append,List.nodup_cons] at hnd
   exact hnd.1 hm
  have hgs:g<w.heap.size:=(Array.getElem?_eq_some_iff.1 hb).1
  have hin: ∀b∈Fs.flatten,b<w.heap.size∧b≠g:=fun b hb' =>⟨hge b (by rw[hFe];exact List.mem_append_right _ hb'),fun e=>hgF (e▸hb')⟩
  have hO:Go.Sort.SWO (ltOf fun x y:Nat=>cF (l.getD x []) (l.getD y [])):=
   { irrefl:=fun x=>by show decide (cF (l.getD x []) (l.getD x [])<0)=false;rw [aAY];rfl
     trans:=fun x y z h1 h2=>by unfold ltOf at*;rw[decide_eq_true_eq] at*;exact mE h1 h2
     ntrans:=fun x y z h1 h2=>by unfold ltOf at*;rw[decide_eq_false_iff_not] at*;exact aDz h1 h2 }
  have hcmp:CmpLays1 Tryz.prog 252 #[] enc (fun x y:Nat=>cF (l.getD x []) (l.getD y [])) g 0 (List.range l.length).toArray.size w:=fun m os dk hs x y=>by
   obtain⟨a1,c1,ex,r1,k1,b1⟩:=henc x
   obtain⟨a2,c2,ey,r2,k2,b2⟩:=henc y
   rw[ex,ey]
   refine(aTW a1 a2 c1 c2 _ _ _ b1 b2 (aA0 r1 fun q hq=>rJ dk (hin _ (k1 q hq)).1 (hin _ (k1 q hq)).2) (aA0 r2 fun q hq=>rJ dk (hin _ (k2 q hq)).1 (hin _ (k2 q hq)).2)).mono ?_
   rintro en w' ⟨rfl,rfl⟩
   exact⟨rfl,0,#[],by simp[Go.Sort.grow_empty,World.drewN]⟩
  have htk' :cur.toList.take l.length=css.flatten:=by rw[Nat.mul_one] at htk;exact htk
  have hH:Go.Sort.Holds enc w g 0 (List.range l.length).toArray:=fun j hj=>by
   have hj' :j<l.length:=by simpa using hj
   refine⟨?_,by simp[World.frozen?,hb]⟩
   have h1:(cur.toList.take l.length)[j]? =css.flatten[j]? :=by rw[htk']
   rw[List.getElem?_take_of_lt hj'] at h1
   simp only[World.cell?,hb,Nat.zero_add,Option.isSome_none,Bool.false_eq_true,if_false]
   rw[←Array.getElem?_toList,h1]
   obtain⟨a,cap',F,g1,_⟩:=hrow j hj'
   have h2:=pS css j _ hone g1
   have ee:enc j= .slice a (l.getD j []).length cap' :=by
    show css.flatten.getD j _=_
    rw[List.getD_eq_getElem?_getD,h2];rfl
   have ej:(List.range l.length).toArray[j]! =j:=by simp[hj']
   rw[h2,ej,ee]
  have hone1:OneCell enc:=fun x=>by
   obtain⟨a,c,ex,_⟩:=henc x
   rw[ex];rfl
  have eg: ∀args w,(callFunc 252 args).run Tryz.prog w= .ok (.enter 252 args) w:=enters_of Tryz.func252 (by kernel_rfl) rfl
  have hcon:=Any.slices_SortFunc Tryz.sortRows enc hone1 (fun x y:Nat=>cF (l.getD x []) (l.getD y [])) hO 252 #[] g 0 cap (List.range l.length).toArray w eg hcmp hH hgs (by simpa using hl)
  change Calls Tryz.prog 255 _ _ _ at hcon
  have hsz1:((List.range l.length).toArray.size:Nat)=l.length:=by simp
  rw[hsz1] at hcon
  rw[hvv]
  refine hcon.mono ?_
  rintro en w' ⟨rfl,d',n,os,hpm,hsd,rfl⟩
  obtain⟨p1,_,p3⟩:=hpm
  have hds:d'.size=l.length:=by simpa using p1
  have hperm:d'.toList.Perm (List.range l.length):=by
   have e1:(d'.extract 0 l.length).toList=d'.toList:=by rw[←hds];simp
   have e2:((List.range l.length).toArray.extract 0 l.length).toList=List.range l.length:=by simp
   rw[e1,e2] at p3;exact p3
  have hkb: ∀k,k<w.heap.size→k≠g→(sortWorld enc w g 0 n d' os).heap[k]? =w.heap[k]? :=fun k hk hne=>rJ d' hk hne
  have:=hend d'.toList (sortWorld enc w g 0 n d' os) hperm (by
   rw[List.pairwise_map,List.pairwise_iff_getElem]
   intro i j hi hj hij
   have:=hsd i j (Nat.zero_le _) hij (by simpa [hds] using hj)
   unfold ltOf at this
   rw[decide_eq_false_iff_not] at this
   rw[aFS]
   have ei:d'[i]! =d'.toList[i]:=by simp at hi;simp[hi]
   have ej:d'[j]! =d'.toList[j]:=by simp at hj;simp[hj]
   rw[←ei,←ej];exact this)
   ⟨rfl,rfl,rfl,by simp[sortWorld],fun k hk hne=>hkb k hk (fun e=>hne (by rw[hFe,hvv,e];simp[Value.ownBlock]))⟩
   (fun F hF b hb' =>hkb b (hin b (List.mem_flatten.2 ⟨F,hF,hb'⟩)).1 (hin b (List.mem_flatten.2 ⟨F,hF,hb'⟩)).2)
   (by
    rw[hvv]
    refine⟨by simp[hds],.inr ⟨g,cap,_,rfl,hg0,aJf d' hb,hn,hcap,by simp[Go.Sort.putCells,hsz],?_⟩⟩
    rw[Nat.mul_one]
    have:=aM4 enc cur d'.toList (by rw[Array.length_toList,hds];omega)
    rw[Array.length_toList,hds] at this
    simpa using this)
  exact this
end Go.Proofs.YtlidmoeecphbmaaGreat
namespace Go.Proofs.YtlidmoeecphbmaaGreat
open Go.ChangeShapes Go.WideShapes Go.ChangeAt Go.RowKit
set_option linter.unusedVariables false
set_option linter.unusedSimpArgs false
theorem aWF {l m:List Int}{k:Nat}{x y:Int}(hx:l[k]? =some x)(hy:m[k]? =some y)(h:(x==y)=false):decide (l=m)=false:=by
 rw[decide_eq_false_iff_not]
 rintro rfl
 rw[hx] at hy
 injection hy with hy
 subst hy
 simp at h
set_option maxHeartbeats 1000000 in
theorem aQl (a1 a2:Option Addr)(c1 c2:Nat)(l m:List Int)(w:World)(hl:l.length≤9223372036854775807)(hm:m.length≤9223372036854775807)(h1:aBL w a1 l)(h2:aBL w a2 m):
 Calls Tryz.prog 248 #[.slice a1 l.length c1,.slice a2 m.length c2] w fun e w' =>e= .returned (.bool (decide (l=m)))∧ ∃q,w' =w.drewN q:=by
 have mixed:=aO
 have H1:=Lib.hid h1
 have H2:=Lib.hid h2
 clear h1 h2
 by_cases hlm:l.length=m.length
 ·have HL:=Lib.hid hlm
  go_enter Tryz.func248,Tryz.ntmps248
  go_wp2
  go_loopg [13] l.length (fun g s wr=> ∃k q:Nat,k≤l.length∧l.length - k≤g∧s= .int .i64 k∧wr=w.drewN q∧Aside (l.take k=m.take k))
  case atStart=>exact⟨0,0,Nat.zero_le _,by omega,rfl,rfl,rfl⟩
  case round=>
   obtain⟨k,q,hk,hg,rfl,rfl,A⟩:=hrel
   by_cases hlt:k<l.length
   ·obtain⟨x,hx⟩:=dE hlt
    obtain⟨b1,o1,rfl,g1⟩:=H1.out k x hx
    obtain⟨y,hy⟩:=dE (l:=m) (k:=k) (by omega)
    obtain⟨b2,o2,rfl,g2⟩:=H2.out k y hy
    have HX:=Lib.hid hx
    have HY:=Lib.hid hy
    clear hx hy
    cases hxy:(x==y) with
    | true=>
      have hne:(x !=y)=false:=by rw[bne,hxy];rfl
      go_wp2_with fail
      go_region_o
      go_wp2
      go_roundg (l.length - (k+1))
      case measure=>omega
      case rel=>exact⟨k+1,q+1,by omega,by omega,by go_num,rfl,(show Aside _ from mS HX.out (by rw[HY.out,show x=y by simpa using hxy]) A.out)⟩
    | false=>
      have hne:(x !=y)=true:=by rw[bne,hxy];rfl
      go_wp2_with fail
      go_region_o
      go_wp2
      go_ret
      refine⟨?_,q+1,rfl⟩
      rw[aWF HX.out HY.out hxy]
      rfl
   ·go_wp2
    go_ret
    refine⟨?_,q,rfl⟩
    rw[decide_eq_true (mT (by omega) HL.out A.out)]
    rfl
 ·have hnm: ¬(l.length:Int)=(m.length:Int):=by omega
  go_enter Tryz.func248,Tryz.ntmps248
  go_wp2
  go_ret
  refine⟨?_,0,rfl⟩
  rw[decide_eq_false (aGR hnm)]
  rfl
theorem aWG (a1 a2:Option Addr)(c1 c2:Nat)(l m:List Int)(w:World)(hl:l.length≤9223372036854775807)(hm:m.length≤9223372036854775807)(h1:aBL w a1 l)(h2:aBL w a2 m):
 Calls Tryz.prog 257 #[.slice a1 l.length c1,.slice a2 m.length c2] w fun e w' =>e= .returned (.bool (decide (l=m)))∧ ∃q,w' =w.drewN q:=by
 have HC:=Lib.hid (aQl a1 a2 c1 c2 l m w hl hm h1 h2)
 clear h1 h2
 go_enter Tryz.func257,Tryz.ntmps257
 go_wp2_with (go_at_call 248;refine HC.out.mono ?_;rintro e w' ⟨rfl,q,hw⟩;rw[hw])
 go_ret
 exact⟨rfl,_,rfl⟩
end Go.Proofs.YtlidmoeecphbmaaGreat
namespace Go.Proofs.YtlidmoeecphbmaaGreat
open Go.ChangeShapes Go.WideShapes Go.ChangeAt Go.RowKit Go.Shelf Go.Lib
set_option linter.unusedVariables false
set_option linter.unusedSimpArgs false
section
variable (eq:Nat→Nat→Bool)
def mU (d:Array Nat)(j:Nat):Bool:=decide (j=0) || !eq d[j]! d[j - 1]!
def mV (d:Array Nat)(m:Nat):List Nat:=((List.range m).filter (mU eq d)).map (d[·]!)
theorem aJg (d:Array Nat): ∀j,j<1→mU eq d j=true:=by
 intro j hj
 obtain rfl:j=0:=by omega
 simp[mU]
theorem aJh {d:Array Nat}{m:Nat}(h:eq d[m]! d[m - 1]! =false):mU eq d m=true:=by simp[mU,h]
theorem aJi {d:Array Nat}{m:Nat}(hm:0<m)(h:eq d[m]! d[m - 1]! =true):mU eq d m=false:=by
 have:m≠0:=by omega
 simp[mU,h,this]
theorem oL (d:Array Nat)(m:Nat):mV eq d (m+1)=mV eq d m++(if mU eq d m=true then [d[m]!] else []):=by
 unfold mV
 rw[List.range_succ,List.filter_append,List.map_append]
 congr 1
 by_cases h:mU eq d m=true<;>simp[h]
theorem aDZ (d:Array Nat)(m:Nat)(h: ∀j,j<m→mU eq d j=true):mV eq d m=(List.range m).map (d[·]!):=by
 unfold mV
 rw[List.filter_eq_self.2 (fun j hj=>h j (List.mem_range.1 hj))]
theorem aM5 (d:Array Nat)(h: ∀j,j<d.size→mU eq d j=true):mV eq d d.size=d.toList:=by
 rw[aDZ eq d _ h]
 exact range_map_get d
structure tP (d:Array Nat) (m k:Nat) (dk:Array Nat):Prop where
 size:dk.size=d.size
 len:(mV eq d m).length=k
 lt:k<m
 low: ∀j,j<k→(mV eq d m)[j]? =some dk[j]!
 high: ∀j,k≤j→dk[j]! =d[j]!
variable {eq}
theorem tP.start {d:Array Nat}{k0:Nat}(hall: ∀j,j<k0→mU eq d j=true)(hdup:mU eq d k0=false):tP eq d (k0+1) k0 d where
 size:=rfl
 len:=by rw[oL,hdup,aDZ eq d k0 hall];simp
 lt:=Nat.lt_succ_self _
 low:=fun j hj=>by rw[oL,hdup,aDZ eq d k0 hall];simp[hj]
 high:=fun _ _=>rfl
theorem tP.keep {d dk:Array Nat}{m k:Nat}(h:tP eq d m k dk)(hm:m<d.size)(hk:mU eq d m=true):tP eq d (m+1) (k+1) (dk.setIfInBounds k d[m]!) where
 size:=by simp[h.size]
 len:=by rw[oL,hk];simp[h.len]
 lt:=by have:=h.lt;omega
 low:=fun j hj=>by
  rw[oL,hk,if_pos rfl]
  by_cases e:j=k
  ·subst e
   rw[List.getElem?_append_right (by rw[h.len];exact Nat.le_refl _),h.len,Nat.sub_self,Go.Sort.getElem!_set_same dk j _ (by have:=h.lt;have:=h.size;omega)]
   rfl
  ·rw[List.getElem?_append_left (by rw[h.len];omega),h.low j (by omega),Go.Sort.getElem!_set_other dk k j _ e]
 high:=fun j hj=>by rw[Go.Sort.getElem!_set_other dk k j _ (by omega),h.high j (by omega)]
theorem tP.skip {d dk:Array Nat}{m k:Nat}(h:tP eq d m k dk)(hk:mU eq d m=false):tP eq d (m+1) k dk where
 size:=h.size
 len:=by rw[oL,hk];simpa using h.len
 lt:=by have:=h.lt;omega
 low:=fun j hj=>by rw[oL,hk];simpa using h.low j hj
 high:=h.high
theorem tP.done {d dk:Array Nat}{k:Nat}(h:tP eq d d.size k dk)(z:Nat):
 lay dk k (List.replicate (d.size - k) z)=(mV eq d d.size++List.replicate (d.size - k) z).toArray:=by
 have hk:=h.lt
 have hs:=h.size
 apply Array.ext_getElem?
 intro j
 rw[lay_get? _ _ _ _ (by simp;omega),show (mV eq d d.size++List.replicate (d.size - k) z).toArray[j]? =(mV eq d d.size++List.replicate (d.size - k) z)[j]? from List.getElem?_toArray]
 simp only[List.length_replicate]
 by_cases c:j<k
 ·rw[if_neg (by omega),List.getElem?_append_left (by rw[h.len];exact c),h.low j c,getElem!_pos dk j (by omega),Array.getElem?_eq_getElem]
 ·rw[List.getElem?_append_right (by rw[h.len];omega),h.len]
  by_cases c2:j<d.size
  ·rw[if_pos (by omega)]
  ·rw[if_neg (by omega),Array.getElem?_eq_none (by omega),List.getElem?_eq_none (by simp;omega)]
end
set_option maxHeartbeats 4000000 in
set_option maxRecDepth 1000000 in
theorem aM6 (enc:Nat→Value)(eq:Nat→Nat→Bool)(hO:OneCell enc)(zr:Nat)(hz:enc zr= .slice none 0 0)(blk off cap:Nat)(d:Array Nat)(w:World)(hH:Go.Sort.Holds enc w blk off d)(hsz:d.size≤9223372036854775807)(hcap:d.size≤cap)
 (hcmp: ∀(dk:Array Nat) (q:Nat) (x y:Nat),dk.size=d.size→ ∀n,Calls Tryz.prog 257 #[enc x,enc y] ((Go.Sort.putRow enc (Go.Sort.ahead w q) blk off dk).drewN n) fun e w' =>e= .returned (.bool (eq x y))∧ ∃qq,w' =((Go.Sort.putRow enc (Go.Sort.ahead w q) blk off dk).drewN n).drewN qq):
 Calls Tryz.prog 256 #[.slice (some ⟨blk,off,none⟩) d.size cap,.func (.func 257) #[] #[]] w fun e w' =>e= .returned (.slice (some ⟨blk,off,none⟩) (mV eq d d.size).length cap)∧ ∃q,w' =Go.Sort.putRow enc (Go.Sort.ahead w q) blk off (mV eq d d.size++List.replicate (d.size - (mV eq d d.size).length) zr).toArray:=by
 have mixed:=aO
 have hcl0:=hO.cells
 simp only[Value.cells] at hcl0
 have hst:=hO.store Tryz.prog
 have same: ∀q,(∀j,j<d.size→mU eq d j=true)→(mV eq d d.size).length=d.size∧w.drewN q=Go.Sort.putRow enc (Go.Sort.ahead w q) blk off (mV eq d d.size++List.replicate (d.size - (mV eq d d.size).length) zr).toArray:=by
  intro q hall
  have e:mV eq d d.size=d.toList:=aM5 eq d hall
  rw[e]
  refine⟨by simp,?_⟩
  simp only[Array.length_toList,Nat.sub_self,List.replicate_zero,List.append_nil,Array.toArray_toList]
  exact(Go.Sort.putRow_self enc (Go.Sort.ahead w q) blk off d (Go.Sort.holds_ahead enc w q blk off d hH)).symm
 have HS:Aside _:=same
 have HC:Aside _:=hcmp
 clear same hcmp
 by_cases h2:d.size<2
 ·have HH:Aside (Go.Sort.Holds enc w blk off d):=hH
  clear hH
  go_enter Tryz.func256,Tryz.ntmps256
  go_wp2
  go_ret
  obtain⟨e1,e2⟩:=HS.out 0 (fun j hj=>aJg eq d j (by omega))
  exact⟨by rw[e1];rfl,0,e2⟩
 ·go_enter Tryz.func256,Tryz.ntmps256
  go_wp2
  go_loopg [5] d.size (fun g s3 wr=> ∃k q:Nat,1≤k∧k≤d.size∧d.size - k≤g∧s3= .int .i64 k∧wr=w.drewN q∧ ∀j,j<k→mU eq d j=true)
  case atStart=>exact⟨1,0,Nat.le_refl _,by omega,by omega,rfl,rfl,aJg eq d⟩
  case round=>
   obtain⟨k,q,hk1,hk,hg,rfl,rfl,hall⟩:=hrel
   by_cases hlt:k<d.size
   ·obtain⟨c1,f1⟩:=hH k hlt
    obtain⟨c0,f0⟩:=hH (k - 1) (by omega)
    have A:Aside (∀j,j<k→mU eq d j=true):=hall
    have HH:Aside (Go.Sort.Holds enc w blk off d):=hH
    have hc0:=HC.out d q d[k]! d[k - 1]! rfl
    have hself:Go.Sort.putRow enc (Go.Sort.ahead w q) blk off d=w.drewN q:=Go.Sort.putRow_self enc (Go.Sort.ahead w q) blk off d (Go.Sort.holds_ahead enc w q blk off d hH)
    rw[hself] at hc0
    clear hall hH hself
    generalize hx:d[k]! =x at c1 hc0
    generalize hy:d[k - 1]! =y at c0 hc0
    have B:Aside (d[k]! =x∧d[k - 1]! =y):=⟨hx,hy⟩
    clear hx hy
    obtain⟨kp,rfl⟩: ∃kp,k=kp+1:=⟨k - 1,by omega⟩
    simp only[Nat.add_sub_cancel] at c0
    have hwp:IntKind.i64.wrap (kp:Int)=(kp:Int):=by rw[IntKind.wrap_i64];omega
    have kz:(kp:Int)+1<(d.size:Int):=by omega
    have kz1:(kp:Int)<(d.size:Int):=by omega
    have p0:(0:Int)≤(kp:Int)+1:=by omega
    have e0:((kp:Int)+1).toNat=kp+1:=by omega
    have c1' :(w.drewN q).cell? ⟨blk,off+(kp+1),none⟩=some (enc x):=c1
    have c0' :(w.drewN q).cell? ⟨blk,off+kp,none⟩=some (enc y):=c0
    clear c1 c0
    generalize hwq:w.drewN q=wq at c1' c0' hc0 ⊢
    have WQ:Hid (w.drewN q=wq):=hwq
    clear hwq
    cases hdup:eq x y with
    | true=>
      rw[hdup] at hc0
      go_wp2_with fail
      go_quiet (((go_at_call 257;exact Calls.quiet_of (hc0 _))))
      go_wp2
      have W1:Hid (wq.drewN nq=Go.Sort.putRow enc (Go.Sort.ahead w (q+nq)) blk off d):=by
       show _=_
       rw[←WQ.out,World.drewN_drewN]
       exact(Go.Sort.putRow_self enc (Go.Sort.ahead w (q+nq)) blk off d (Go.Sort.holds_ahead enc w (q+nq) blk off d HH.out)).symm
      clear c1' c0' f0 f1 hc0
      go_loopg [5,7] d.size (fun g s3 s5 wr=> ∃(kk k2 q2:Nat) (dk:Array Nat),s3= .int .i64 kk∧s5= .int .i64 ((k2:Int)+1)∧kp+1+(k2+1)≤d.size∧d.size - (kp+1+(k2+1))≤g∧wr=Go.Sort.putRow enc (Go.Sort.ahead w q2) blk off dk∧tP eq d (kp+1+(k2+1)) kk dk)
      case atStart=>exact⟨kp+1,0,q+nq,d,by go_num,rfl,by omega,by omega,W1.out,tP.start A.out (aJi eq (by omega) (by rw[B.out.1,Nat.add_sub_cancel,show d[kp]! =y from B.out.2];exact hdup))⟩
      case round=>
       obtain⟨kk,k2,q2,dk,rfl,rfl,hle,hg2,hwr,hI⟩:=hrel
       have hkk:=hI.lt
       have hds:=hI.size
       have hHk:Go.Sort.Holds enc wr blk off dk:=by rw[hwr];exact Go.Sort.holds_putRow enc _ blk off d dk (Go.Sort.holds_ahead enc w q2 blk off d HH.out) hds
       have W2:Aside (wr=Go.Sort.putRow enc (Go.Sort.ahead w q2) blk off dk):=hwr
       have I2:Aside (tP eq d (kp+1+(k2+1)) kk dk):=hI
       by_cases hlt2:kp+1+(k2+1)<d.size
       ·obtain⟨cm,_⟩:=hHk (kp+1+(k2+1)) (by omega)
        obtain⟨cp,_⟩:=hHk (kp+1+k2) (by omega)
        obtain⟨ck,fk⟩:=hHk kk (by omega)
        rw[hI.high (kp+1+(k2+1)) (by omega),show off+(kp+1+(k2+1))=off+(kp+1)+(k2+1) by omega] at cm
        rw[hI.high (kp+1+k2) (by omega),show off+(kp+1+k2)=off+(kp+1)+k2 by omega] at cp
        have hc1:=HC.out dk q2 d[kp+1+(k2+1)]! d[kp+1+k2]! hds
        rw[←hwr] at hc1
        clear hHk hI hwr
        generalize hu:d[kp+1+(k2+1)]! =u at cm hc1
        generalize hv:d[kp+1+k2]! =v at cp hc1
        generalize dk[kk]! =old at ck
        have C:Aside (d[kp+1+(k2+1)]! =u∧d[kp+1+k2]! =v):=⟨hu,hv⟩
        clear hu hv
        have hwp2:IntKind.i64.wrap (k2:Int)=(k2:Int):=by rw[IntKind.wrap_i64];omega
        have jz:(k2:Int)+1<(d.size:Int) - ((kp:Int)+1):=by omega
        have jz1:(k2:Int)<(d.size:Int) - ((kp:Int)+1):=by omega
        have j0:(0:Int)≤(k2:Int)+1:=by omega
        have je:((k2:Int)+1).toNat=k2+1:=by omega
        cases huv:eq u v with
        | true=>
          rw[huv] at hc1
          go_wp2_with fail
          go_quiet (((go_at_call 257;exact Calls.quiet_of (hc1 _))))
          go_wp2
          go_roundg (d.size - (kp+1+(k2+1+1)))
          case measure=>omega
          case rel=>exact⟨kk,k2+1,q2+nq,dk,rfl,by go_num,by omega,by omega,by rw[W2.out];exact Go.Proofs.putRow_drewN _ _ _ _ _ _ _,I2.out.skip (aJi eq (by omega) (by rw[C.out.1,show kp+1+(k2+1) - 1=kp+1+k2 by omega,C.out.2];exact huv))⟩
        | false=>
          rw[huv] at hc1
          go_wp2_with fail
          go_quiet (((go_at_call 257;exact Calls.quiet_of (hc1 _))))
          go_wp2
          go_roundg (d.size - (kp+1+(k2+1+1)))
          case measure=>omega
          case rel=>
           refine⟨kk+1,k2+1,q2+nq,dk.setIfInBounds kk u,by go_num,by go_num,by omega,by omega,?_,?_⟩
           ·rw[W2.out,show (Go.Sort.putRow enc (Go.Sort.ahead w q2) blk off dk).drewN nq=Go.Sort.putRow enc (Go.Sort.ahead w (q2+nq)) blk off dk from Go.Proofs.putRow_drewN _ _ _ _ _ _ _,Go.Sort.putRow_set enc _ blk off dk kk u (by omega)]
           ·have:=I2.out.keep hlt2 (aJh eq (by rw[C.out.1,show kp+1+(k2+1) - 1=kp+1+k2 by omega,C.out.2];exact huv))
            rwa [C.out.1] at this
       ·have hend:kp+1+(k2+1)=d.size:=by omega
        have hcl: ∀ty,(Builtin.clear_ #[92] ty #[.slice (some ⟨blk,off+kk,none⟩) (d.size - kk) (cap - kk)]).run Tryz.prog wr= .ok (.tuple #[]) (wr.setCells blk (off+kk) (List.replicate (d.size - kk) (enc zr))):=
         fun ty=>Lib.run_clear_slice wr _ _ ty _ Tryz.underlying92 (fun w=>by rw[hz];rfl) (hO.cells zr) (hO zr) blk (off+kk) _ _ (by omega) (fun j hj=>by rw[show off+kk+j=off+(kk+j) by omega,(hHk (kk+j) (by omega)).1];rfl) (fun j hj=>by rw[show off+kk+j=off+(kk+j) by omega];exact(hHk (kk+j) (by omega)).2)
        clear hHk hI hwr
        go_wp2
        go_ret
        have hI:=I2.out
        rw[hend] at hI
        refine⟨by rw[hI.len];rfl,q2,?_⟩
        rw[hI.len,←hI.done zr,←putRow_setCells enc _ blk off _ dk kk (by simp;omega),←W2.out,List.map_replicate,hz]
    | false=>
      rw[hdup] at hc0
      go_wp2_with fail
      go_quiet (((go_at_call 257;exact Calls.quiet_of (hc0 _))))
      go_wp2
      go_roundg (d.size - (kp+1+1))
      case measure=>omega
      case rel=>
       refine⟨kp+1+1,q+nq,by omega,by omega,Nat.le_refl _,by go_num,by rw[←WQ.out,World.drewN_drewN],fun j hj=>?_⟩
       by_cases e:j=kp+1
       ·subst e
        exact aJh eq (by rw[B.out.1,B.out.2];exact hdup)
       ·exact A.out j (by omega)
   ·obtain rfl:k=d.size:=by omega
    have HH:Aside (Go.Sort.Holds enc w blk off d):=hH
    clear hH
    go_wp2
    go_ret
    obtain⟨e1,e2⟩:=HS.out q hall
    exact⟨by rw[e1];rfl,q,e2⟩
end Go.Proofs.YtlidmoeecphbmaaGreat
namespace Go.Proofs.YtlidmoeecphbmaaGreat
open Go.ChangeShapes Go.WideShapes Go.ChangeAt Go.RowKit Go.Shelf Go.Lib
set_option linter.unusedVariables false
set_option linter.unusedSimpArgs false
def aLB (l:List (List Int))(i j:Nat):Bool:=decide (l.getD i []=l.getD j [])
def nK (l:List (List Int)):List Nat:=(List.range l.length).filter fun j=>decide (j=0) || !aLB l j (j - 1)
def fS (l:List (List Int)):List (List Int):=(nK l).map fun i=>l.getD i []
theorem aQm (l:List (List Int)):mV (aLB l) (List.range l.length).toArray l.length=nK l:=by
 unfold mV nK
 have e: ∀j,j<l.length→(List.range l.length).toArray[j]! =j:=fun j hj=>by simp[hj]
 have e1:(List.range l.length).filter (mU (aLB l) (List.range l.length).toArray)=(List.range l.length).filter fun j=>decide (j=0) || !aLB l j (j - 1):=by
  apply List.filter_congr
  intro j hj
  have hj:=List.mem_range.1 hj
  unfold mU
  rw[e j hj,e (j - 1) (by omega)]
 rw[e1]
 conv=>rhs;rw[←List.map_id (List.filter _ _)]
 apply List.map_congr_left
 intro j hj
 exact e j (List.mem_range.1 (List.mem_filter.1 hj).1)
theorem aTZ {α:Type}{l m:List (List α)}(h:List.Sublist l m):List.Sublist l.flatten m.flatten:=by
 induction h with
 | slnil=>exact List.Sublist.refl _
 | cons a _ ih=>rw[List.flatten_cons];exact ih.trans (List.sublist_append_right _ _)
 | cons_cons a _ ih=>rw[List.flatten_cons,List.flatten_cons];exact(List.Sublist.refl a).append ih
theorem aPg {l:List (List Int)}{i:Nat}(h:i∈nK l):i<l.length:=List.mem_range.1 (List.mem_filter.1 h).1
set_option maxHeartbeats 2000000 in
theorem aM7 (l:List (List Int))(hl:l.length<4611686018427387904):rB Tryz.prog 256 [.own 0,.fn 257 []] [(0,.arr 91 1 true (l.map aC))] (.own 1) [(1,.arr 91 1 true ((fS l).map aC))]:=by
 refine⟨by kernel_rfl,by simp,fun A φ w vs hI hm=>?_⟩
 obtain⟨pl,hp,css,Fs,q1,q2,q3,q4⟩:=hI.dom 0 _ rfl
 unfold aQ at hm
 obtain⟨v,us,e1,m1,hm⟩:=hm
 unfold aQ at hm
 obtain⟨v2,us2,e2,m2,hm⟩:=hm
 unfold aQ at hm
 unfold aI at m1 m2
 obtain⟨vs2,ev2,m3⟩:=m2
 unfold aQ at m3
 have hv:=m1 pl hp
 have e3:vs2= #[]:=by apply Array.ext';simpa using m3
 have ev:vs= #[pl.val,.func (.func 257) #[] #[]]:=by apply Array.ext';rw[e1,e2,hm,hv,ev2,e3]
 rw[ev]
 have hnd:=hI.nodup 0 pl hp
 have hge:=hI.ge 0 pl hp
 have hFe:pl.F=pl.val.ownBlock.toList++Fs.flatten:=by unfold Pl.F;rw[q2,q3]
 have hfoot: ∀b∈pl.F,aKl φ b:=fun b hb=>⟨0,pl,trivial,hp,hb⟩
 have h0: ∀h pl',φ h=some pl' →h=0:=fun h pl' e' =>by
  cases hr:bE [(0,Rs.arr 91 1 true (l.map aC))] h with
  | none=>rw[hI.non h hr] at e';cases e'
  | some r=>
    simp only[bE] at hr
    split at hr
    ·assumption
    ·cases hr
 obtain⟨lc,lF⟩:=aAZ q4
 rw[List.length_map] at lc lF
 have hrow: ∀i,i<l.length→ ∃a cap F,css[i]? =some [.slice a (l.getD i []).length cap]∧Fs[i]? =some F∧aBL w a (l.getD i [])∧(∀x∈a,x.block∈F)∧(l.getD i []).length≤9223372036854775807∧dH w (aC (l.getD i [])) [.slice a (l.getD i []).length cap] F:=fun i hi=>by
  obtain⟨r,hr⟩:=dE hi
  have hg:l.getD i []=r:=by simp[List.getD_eq_getElem?_getD,hr]
  obtain⟨c,F,g1,g2,_,g4⟩:=yI q4 (show (l.map aC)[i]? =some (aC r) by rw[List.getElem?_map,hr];rfl)
  obtain⟨a,cap,rfl,k1,k2,k3⟩:=aWo g4
  rw[hg]
  exact⟨a,cap,F,g1,g2,k1,k2,k3,g4⟩
 have hone: ∀d∈css,d.length=1:=fun d hd=>by
  obtain⟨i,hi⟩:=List.getElem?_of_mem hd
  obtain⟨a,cap,F,g1,_⟩:=hrow i (by have:=(List.getElem?_eq_some_iff.1 hi).1;omega)
  rw[hi] at g1
  injection g1 with g1
  rw[g1];rfl
 let enc:Nat→Value:=fun i=>css.flatten.getD i (.slice none 0 0)
 have henc: ∀i,∃a cap,enc i= .slice a (l.getD i []).length cap∧aBL w a (l.getD i [])∧(∀x∈a,x.block∈Fs.flatten)∧(l.getD i []).length≤9223372036854775807:=fun i=>by
  by_cases hi:i<l.length
  ·obtain⟨a,cap,F,g1,g2,g3,g4,g5,_⟩:=hrow i hi
   refine⟨a,cap,?_,g3,fun x hx=>List.mem_flatten.2 ⟨F,List.mem_of_getElem? g2,g4 x hx⟩,g5⟩
   show css.flatten.getD i _=_
   rw[List.getD_eq_getElem?_getD,pS css i _ hone g1];rfl
  ·have hg:l.getD i []= []:=by rw[List.getD_eq_getElem?_getD,List.getElem?_eq_none (by omega)];rfl
   rw[hg]
   refine⟨none,0,?_,fun j x hx=>by simp at hx,by simp,by simp⟩
   show css.flatten.getD i _=_
   rw[List.getD_eq_getElem?_getD,List.getElem?_eq_none (by rw[aC5 css hone];omega)];rfl
 have h1:φ 1=none:=hI.non 1 rfl
 have hend: ∀(v' :Value) (w' :World),lS pl.F w w' →(∀F∈Fs,iZ F w w')→(∀b∈v'.ownBlock,b∈pl.val.ownBlock)→w'.ownsRow 0 91 1 v' (nK l).length ((nK l).map enc)→
  ∃v K φ',Ending.returned v' = .returned v∧aQ9 A φ w [(1,.arr 91 1 true ((fS l).map aC))] K φ' w' ∧aI K φ' w' (.own 1) v:=by
  intro v' w' hon hkeep hvb howns
  have hFr:(List.range l.length).map (fun i=>Fs.getD i [])=Fs:=by
   apply List.ext_getElem?
   intro i
   by_cases hi:i<l.length
   ·simp[hi,show i<Fs.length by omega]
   ·simp[hi,show ¬i<Fs.length by omega]
  have hsub:List.Sublist ((nK l).map fun i=>Fs.getD i []).flatten Fs.flatten:=by
   have:List.Sublist ((nK l).map fun i=>Fs.getD i []) ((List.range l.length).map fun i=>Fs.getD i []):=List.filter_sublist.map _
   rw[hFr] at this
   exact aTZ this
  let pl' :Pl:=⟨v',v'.ownBlock.toList,((nK l).map fun i=>Fs.getD i []).flatten⟩
  have hmem: ∀g,g∈pl'.F→g∈pl.F:=fun g hg=>by
   rw[hFe]
   simp only[pl',Pl.F,List.mem_append,Option.mem_toList] at hg ⊢
   rcases hg with h | h
   ·exact .inl (hvb g h)
   ·exact .inr (List.Sublist.mem h hsub)
  have hnd' :pl'.F.Nodup:=by
   rw[hFe] at hnd
   have hn:=List.nodup_append.1 hnd
   simp only[pl',Pl.F]
   refine List.nodup_append.2 ⟨by cases v'.ownBlock<;>simp,hsub.nodup hn.2.1,fun x hx y hy=>?_⟩
   exact hn.2.2 x (by rw[Option.mem_toList] at hx ⊢;exact hvb x hx) y (List.Sublist.mem hy hsub)
  refine⟨_,A,fun h=>if h=1 then some pl' else none,rfl,⟨⟨hon.os,hon.tape,hon.output,hon.size,fun b hb hn=>hon.block b hb (fun hm=>hn (hfoot b hm))⟩,fun _ h=>h,fun b hb=>⟨Nat.lt_of_lt_of_le (hI.lt b hb) hon.size,.inl hb⟩,fun b hb h pl1 e' hm' =>?_,fun h r hr=>?_,fun h hr=>?_,fun h h' pl1 pl2 hne ea eb=>?_,fun h pl1 e' =>?_,fun h pl1 e' g hg=>?_,fun h pl1 pl0 e' e0=>?_⟩,?_⟩
  ·split at e'
   ·injection e' with e';subst e'
    exact hI.out b hb 0 pl hp (hmem b hm')
   ·cases e'
  ·simp only[bE] at hr
   split at hr
   ·rename_i eh
    subst eh
    injection hr with hr
    subst hr
    refine⟨pl',by simp,(nK l).map (fun i=>[enc i]),(nK l).map (fun i=>Fs.getD i []),?_,rfl,rfl,?_⟩
    ·rw[aG1 enc (nK l),List.length_map,fS,List.length_map];exact howns
    ·rw[fS,List.map_map]
     refine aG0 (fun i=>aC (l.getD i [])) (fun i=>[enc i]) (fun i=>Fs.getD i []) fun i hi=>⟨rfl,?_⟩
     obtain⟨a,cap,F,g1,g2,g3,g4,g5,g6⟩:=hrow i (aPg hi)
     have ee:enc i= .slice a (l.getD i []).length cap:=by
      show css.flatten.getD i _=_
      rw[List.getD_eq_getElem?_getD,pS css i _ hone g1];rfl
     have eF:Fs.getD i []=F:=by simp[List.getD_eq_getElem?_getD,g2]
     rw[ee,eF]
     exact dH.kept _ _ _ (hkeep F (List.mem_of_getElem? g2)) g6
   ·cases hr
  ·simp only[bE] at hr
   split at hr
   ·cases hr
   ·rename_i eh;exact if_neg eh
  ·split at ea
   ·split at eb
    ·rename_i x y;exact absurd (x.trans y.symm) hne
    ·cases eb
   ·cases ea
  ·split at e'
   ·injection e' with e';subst e';exact hnd'
   ·cases e'
  ·split at e'
   ·injection e' with e';subst e'
    have:=hmem g hg
    exact⟨.inr (hfoot g this),Nat.lt_of_lt_of_le (hge g this) hon.size⟩
   ·cases e'
  ·split at e'
   ·rename_i eh
    subst eh
    rw[h1] at e0;cases e0
   ·cases e'
  ·unfold aI
   intro pl1 e'
   simp at e'
   subst e'
   rfl
 rw[List.length_map] at q1
 rcases q1.2 with ⟨hvn,hz⟩ | ⟨g,cap,cur,hvv,hg0,hb,hn,hcap,hsz,htk⟩
 ·have hz' :l= []:=List.eq_nil_of_length_eq_zero hz
  subst hz'
  rw[hvn]
  have hcon:Calls Tryz.prog 256 #[.slice none 0 0,.func (.func 257) #[] #[]] w fun e w' =>e= .returned (.slice none 0 0)∧w' =w:=by
   clear hend
   go_enter Tryz.func256,Tryz.ntmps256
   go_wp2
   go_ret
   exact⟨rfl,rfl⟩
  refine hcon.mono ?_
  rintro en w' ⟨rfl,rfl⟩
  exact hend (.slice none 0 0) w' (lS.refl _ _) (fun F hF g hg=>rfl) (fun b hb=>by cases hb) ⟨by simp[nK],.inl ⟨rfl,by simp[nK]⟩⟩
 ·have hgF:g ∉ Fs.flatten:=fun hm=>by
   rw[hFe,hvv] at hnd
   simp only[Value.ownBlock,Option.toList_some,List.cons_append,List.nil_append,List.nodup_cons] at hnd
   exact hnd.1 hm
  have hgs:g<w.heap.size:=(Array.getElem?_eq_some_iff.1 hb).1
  have hin: ∀b∈Fs.flatten,b<w.heap.size∧b≠g:=fun b hb' =>⟨hge b (by rw[hFe];exact List.mem_append_right _ hb'),fun e=>hgF (e▸hb')⟩
  have hw0: ∀(dk:Array Nat) (q:Nat),Go.Sort.putRow enc (Go.Sort.ahead w q) g 0 dk=sortWorld enc w g 0 q dk #[]:=fun dk q=>by unfold sortWorld;rw[Go.Sort.grow_empty]
  have hcmp: ∀(dk:Array Nat) (q:Nat) (x y:Nat),dk.size=(List.range l.length).toArray.size→ ∀n,Calls Tryz.prog 257 #[enc x,enc y] ((Go.Sort.putRow enc (Go.Sort.ahead w q) g 0 dk).drewN n) fun e w' =>e= .returned (.bool (aLB l x y))∧ ∃qq,w' =((Go.Sort.putRow enc (Go.Sort.ahead w q) g 0 dk).drewN n).drewN qq:=fun dk q x y _ n=>by
   obtain⟨a1,c1,ex,r1,k1,b1⟩:=henc x
   obtain⟨a2,c2,ey,r2,k2,b2⟩:=henc y
   rw[ex,ey]
   have hk: ∀b,b∈Fs.flatten→((Go.Sort.putRow enc (Go.Sort.ahead w q) g 0 dk).drewN n).heap[b]? =w.heap[b]? :=fun b hb' =>by
    show (Go.Sort.putRow enc (Go.Sort.ahead w q) g 0 dk).heap[b]? =_
    rw[hw0]
    exact rJ dk (hin b hb').1 (hin b hb').2
   exact aWG a1 a2 c1 c2 _ _ _ b1 b2 (aA0 r1 fun q hq=>hk _ (k1 q hq)) (aA0 r2 fun q hq=>hk _ (k2 q hq))
  have htk' :cur.toList.take l.length=css.flatten:=by rw[Nat.mul_one] at htk;exact htk
  have hH:Go.Sort.Holds enc w g 0 (List.range l.length).toArray:=fun j hj=>by
   have hj' :j<l.length:=by simpa using hj
   refine⟨?_,by simp[World.frozen?,hb]⟩
   have h1:(cur.toList.take l.length)[j]? =css.flatten[j]? :=by rw[htk']
   rw[List.getElem?_take_of_lt hj'] at h1
   simp only[World.cell?,hb,Nat.zero_add,Option.isSome_none,Bool.false_eq_true,if_false]
   rw[←Array.getElem?_toList,h1]
   obtain⟨a,cap',F,g1,_⟩:=hrow j hj'
   have h2:=pS css j _ hone g1
   have ee:enc j= .slice a (l.getD j []).length cap' :=by
    show css.flatten.getD j _=_
    rw[List.getD_eq_getElem?_getD,h2];rfl
   have ej:(List.range l.length).toArray[j]! =j:=by simp[hj']
   rw[h2,ej,ee]
  have hone1:OneCell enc:=fun x=>by
   obtain⟨a,c,ex,_⟩:=henc x
   rw[ex];rfl
  have hzr:enc l.length= .slice none 0 0:=by
   show css.flatten.getD l.length _=_
   rw[List.getD_eq_getElem?_getD,List.getElem?_eq_none (by rw[aC5 css hone];omega)];rfl
  have hszd:(List.range l.length).toArray.size=l.length:=by simp
  have hcon:=aM6 enc (aLB l) hone1 l.length hzr g 0 cap (List.range l.length).toArray w hH (by rw[hszd];omega) (by rw[hszd];exact hn) hcmp
  rw[hszd,aQm] at hcon
  rw[hvv]
  refine hcon.mono ?_
  rintro en w' ⟨rfl,q,rfl⟩
  have hle:(nK l).length≤l.length:=by
   have:=(List.filter_sublist (l:=List.range l.length) (p:=fun j=>decide (j=0) || !aLB l j (j - 1))).length_le
   simpa [nK] using this
  have hkb: ∀k,k<w.heap.size→k≠g→(Go.Sort.putRow enc (Go.Sort.ahead w q) g 0 (nK l++List.replicate (l.length - (nK l).length) l.length).toArray).heap[k]? =w.heap[k]? :=fun k hk hne=>by rw[hw0];exact rJ _ hk hne
  refine hend _ _ ⟨rfl,rfl,rfl,by simp,fun k hk hne=>hkb k hk (fun e=>hne (by rw[hFe,hvv,e];simp[Value.ownBlock]))⟩
   (fun F hF b hb' =>hkb b (hin b (List.mem_flatten.2 ⟨F,hF,hb'⟩)).1 (hin b (List.mem_flatten.2 ⟨F,hF,hb'⟩)).2)
   (fun b hb' =>by rw[hvv];exact hb') ?_
  rw[hw0]
  refine⟨by simp,.inr ⟨g,cap,_,rfl,hg0,aJf _ hb,by omega,hcap,by simp[Go.Sort.putCells,hsz],?_⟩⟩
  rw[Nat.mul_one]
  have:=aM4 enc cur (nK l++List.replicate (l.length - (nK l).length) l.length) (by simp;omega)
  have h3:=congrArg (List.take (nK l).length) this
  rw[List.take_take,List.map_append,List.take_append_of_le_length (by simp)] at h3
  rw[show min (nK l).length (nK l++List.replicate (l.length - (nK l).length) l.length).length=(nK l).length by simp] at h3
  rw[h3,List.take_of_length_le (by simp)]
end Go.Proofs.YtlidmoeecphbmaaGreat
namespace Go.Proofs.YtlidmoeecphbmaaGreat
open Go.ChangeShapes Go.WideShapes Go.ChangeAt Go.RowKit
set_option linter.unusedVariables false
set_option linter.unusedSimpArgs false
set_option maxRecDepth 100000
set_option maxHeartbeats 4000000
abbrev tA (l:List (List Int)):AV × List (Nat × Rs):=(.own 0,[(0,.arr 91 1 true ((fS (dI l)).map aC))])
abbrev aAn (l:List (List Int)):Prop:=cH Tryz.prog 247 [.one (.sl 91 1 (l.map aC))] (tA l).1 (tA l).2
theorem aM8 (l:List (List Int))(hc:cT l≤1048576):aAn l:=by
 refine aW bH aO Tryz.func247 (by kernel_rfl) (bL (aJe l)<| .callx [.own 0,.fn 252 []] [(0,.arr 91 1 true (l.map aC))] [(0,500)] (.tup []) [(0,.arr 91 1 true ((dI l).map aC))]<| .callx [.own 0,.fn 257 []] [(0,.arr 91 1 true ((dI l).map aC))] [(0,500)] (.own 1) [(1,.arr 91 1 true ((fS (dI l)).map aC))]<| .fin [(0,901)]) (p:=(l.map aC).length≤9223372036854775807→aM0 l∧rB Tryz.prog 255 [.own 0,.fn 252 []] [(0,.arr 91 1 true (l.map aC))] (.tup []) [(0,.arr 91 1 true ((dI l).map aC))]∧l.map aC=l.map aC∧rB Tryz.prog 256 [.own 0,.fn 257 []] [(0,.arr 91 1 true ((dI l).map aC))] (.own 1) [(1,.arr 91 1 true ((fS (dI l)).map aC))]∧(dI l).map aC=(dI l).map aC∧(fS (dI l)).map aC=(fS (dI l)).map aC∧True) (by kernel_rfl) ?_
 intro n0
 simp only[List.length_map] at n0
 have hlen:=fJ l
 refine⟨cpR _ (by omega),aTY l (by omega),rfl,aM7 (dI l) (by (rw[aDY];omega)),rfl,?_⟩
 exact⟨rfl,trivial⟩
def kN (t:bA)(cols:List Int):List (List Int):=t.rows.map fun r=>(fH r cols).1
def iT (all:List (List Int))(g:List Int):Int:=(((all.filter fun x=>decide (g=x)).length:Nat):Int)
def aOY (t:bA)(cols:List Int):List (List Int):=fS (dI (kN t cols))
def aM9 (t:bA)(cols:List Int):List Int:=(aOY t cols).map (iT (kN t cols))
def eA (t:bA)(cols:List Int):List (List Int) × List Int:=if (aX t&&dW (t.arity - 1) cols)=true then (aOY t cols,aM9 t cols) else ([],[])
theorem rK {t:bA}{cols:List Int}(h:(aX t&&dW (t.arity - 1) cols)=true):eA t cols=(aOY t cols,aM9 t cols):=by rw[eA,if_pos h]
theorem aC6 {t:bA}{cols:List Int}(h:(aX t&&dW (t.arity - 1) cols)=false):eA t cols=([],[]):=by rw[eA,if_neg (by rw[h];decide)]
theorem aPh {all:List (List Int)}{g x:List Int}{j:Nat}(hx:all[j]? =some x)(h:g=x):iT (all.take (j+1)) g=iT (all.take j) g+1:=by
 subst h
 rw[iT,iT,bU hx,List.filter_append]
 simp
theorem aT0 {all:List (List Int)}{g x:List Int}{j:Nat}(hx:all[j]? =some x)(h: ¬g=x):iT (all.take (j+1)) g=iT (all.take j) g:=by
 rw[iT,iT,bU hx,List.filter_append]
 simp[h]
theorem aT1 (all:List (List Int))(g:List Int):0≤iT all g∧iT all g≤all.length:=by
 have:=List.length_filter_le (fun x=>decide (g=x)) all
 unfold iT
 omega
theorem aG2 {b:Int}{cols:List Int}(h:dW b cols=true): ∀i,i<cols.length→(i:Int)≤cols.getD i 0∧cols.getD i 0≤b
 | 0,hi=>by
   have:=List.all_eq_true.1 h 0 (List.mem_range.2 hi)
   simp only[iS,Bool.and_eq_true] at this
   have:=eG this.1
   exact⟨by simpa using this.1,this.2⟩
 | i+1,hi=>by
   have ih:=aG2 h i (by omega)
   have:=List.all_eq_true.1 h (i+1) (List.mem_range.2 hi)
   simp only[iS,Bool.and_eq_true,Bool.or_eq_true,decide_eq_true_eq,Nat.add_sub_cancel] at this
   have h2:=eG this.1
   rcases this.2 with q | q
   ·omega
   ·exact⟨by omega,h2.2⟩
theorem aC7 {b:Int}{cols:List Int}(h:dW b cols=true)(hb:b≤2):cols.length≤3:=by
 by_cases h3:3<cols.length
 ·have:=aG2 h 3 h3
  omega
 ·omega
theorem aBN {α:Type}{ct:α→Nat}{m:Nat}: ∀{l:List α},(∀x∈l,ct x≤m)→fE ct l≤l.length*m
 | [],_=>by simp[fE]
 | a::l,h=>by
   have h1:=h a (by simp)
   have h2:=aBN (l:=l) fun x hx=>h x (by simp[hx])
   simp only[fE,List.map_cons,List.sum_cons,List.length_cons,Nat.add_mul,Nat.one_mul] at*
   omega
theorem aC8 {l:List (List Int)}{m:Nat}(h: ∀r∈l,r.length≤m):cT l≤l.length+l.length*m:=by
 have h1:=aBN (ct:=cG) (m:=m) (l:=l) fun r hr=>h r hr
 have h2:cT l=l.length+fE cG l:=rfl
 omega
theorem aG3 {t:bA}{cols:List Int}(h:(aX t&&dW (t.arity - 1) cols)=true):(kN t cols).length≤8∧cT (kN t cols)≤32:=by
 rw[Bool.and_eq_true] at h
 have ha:=cE h.1
 have hc:=aC7 h.2 (by omega)
 have hl:(kN t cols).length=t.rows.length:=List.length_map _
 have:=aC8 (l:=kN t cols) (m:=3) fun r hr=>by
  obtain⟨q,_,rfl⟩:=List.mem_map.1 hr
  have:=aGW q cols
  omega
 omega
theorem aT2 (l:List (List Int)):(fS (dI l)).length≤l.length:=by
 rw[fS,List.length_map,←aDY l]
 have:=(List.filter_sublist (l:=List.range (dI l).length) (p:=fun j=>decide (j=0) || !aLB (dI l) j (j - 1))).length_le
 rw[List.length_range] at this
 exact this
theorem aXx {α:Type}{l:List α}{i:Nat}{x y:α}(h:(l.set i x)[i]? =some y):y=x:=aXr h
theorem aQn {f:List Int→Int}{l:List (List Int)}{i:Nat}(h:i<l.length):((l.take i).map f++List.replicate (l.length - i) (0:Int)).set i 0=(l.take i).map f++List.replicate (l.length - i) 0:=by
 rw[show l.length - i=(l.length - (i+1))+1 by omega,List.replicate_succ,List.set_append_right _ _ (by simp;omega)]
 simp[show i - min i l.length=0 by omega]
theorem aT3 {f:List Int→Int}{l:List (List Int)}{i:Nat}{x:List Int}(h:l[i]? =some x):((l.take i).map f++List.replicate (l.length - i) (0:Int)).set i (f x)=(l.take (i+1)).map f++List.replicate (l.length - (i+1)) 0:=by
 have hi:i<l.length:=(List.getElem?_eq_some_iff.1 h).1
 rw[show l.length - i=(l.length - (i+1))+1 by omega,List.replicate_succ,List.set_append_right _ _ (by simp;omega),bU h]
 simp[show i - min i l.length=0 by omega]
theorem aOZ {f:List Int→Int}{l:List (List Int)}{i:Nat}(h:i≤l.length)(h' : ¬i<l.length):(l.take i).map f++List.replicate (l.length - i) (0:Int)=l.map f:=by
 rw[show i=l.length by omega];simp
abbrev uX (t:bA)(cols:List Int):AV × List (Nat × Rs):=(.tup [.own 0,.own 1],[(0,.arr 91 1 true ((eA t cols).1.map aC)),(1,.arr 3 1 true ((eA t cols).2.map intD))])
abbrev aBO (t:bA)(cols:List Int):Prop:=cH Tryz.prog 228 [.agg [.str t.name,.int .i64 t.arity,.sl 91 1 (t.rows.map aC)],.one (.sl 3 1 (cols.map intD))] (uX t cols).1 (uX t cols).2
theorem aMa (t:bA)(cols:List Int)(hl:cols.length≤1048576):aBO t cols:=by
 refine aW bH aO Tryz.func228 (by kernel_rfl) (.call (vB (aX t)) []<| .br (.fin []) (.call (vB (dW (t.arity - 1) cols)) []<| .lit<| .lit<| .br (.fin []) (.len t.rows.length<| .loop (Nat × (List (List Int))) (Q2 Nat (List (List Int))) ([6,8,9,10,27]++rg 31 15) [2700,3800,4300,4400] (fun yy0=>[(31,vI (yy0.1:Int)),(6,.own 2700)]) (fun yy0=>[(2700,some (.arr 91 1 true (yy0.2.map aC)))]) (fun yy0=>yy0.1≤t.rows.length∧yy0.2=(t.rows.take yy0.1).map fun r=>(fH r cols).1) (fun yy0=>t.rows.length - yy0.1) (fun yy0=> .br (.elem _ aC t.rows (fun e33=>bL (oJ e33 cols)<| .appx (List Int) aC yy0.2 ((fH e33 cols).1)<| .back [(2700,4400)])) (bL (tA yy0.2)<| .len ((fS (dI yy0.2)).length)<| .mk ((fS (dI yy0.2)).length) [.int .i64 (0:Int)] ((List.replicate ((fS (dI yy0.2)).length) (0:Int)).map intD)<| .len ((fS (dI yy0.2)).length)<| .loop (Nat × (List Int)) (Q2 Nat (List Int)) ([13,14,16]++rg 53 22) [5000] (fun yy1=>[(53,vI (yy1.1:Int))]) (fun yy1=>[(5000,some (.arr 3 1 true (yy1.2.map intD)))]) (fun yy1=>yy1.1≤(fS (dI yy0.2)).length∧yy1.2=((fS (dI yy0.2)).take yy1.1).map (iT yy0.2)++List.replicate ((fS (dI yy0.2)).length - yy1.1) 0∧yy1.2.length=(fS (dI yy0.2)).length) (fun yy1=>(fS (dI yy0.2)).length - yy1.1) (fun yy1=> .br (.len ((fS (dI yy0.2)).length)<| .elem _ aC (fS (dI yy0.2)) (fun e57=> .len yy0.2.length<| .loop (Nat × (List Int) × Int) (Q3 Nat (List Int) Int) ([16]++rg 60 14) [5000] (fun yy2=>[(60,vI (yy2.1:Int))]) (fun yy2=>[(5000,some (.arr 3 1 true (yy2.2.1.map intD)))]) (fun yy2=>yy2.1≤yy0.2.length∧yy2.2.1=yy1.2.set yy1.1 yy2.2.2∧yy2.2.2=iT (yy0.2.take yy2.1) e57) (fun yy2=>yy0.2.length - yy2.1) (fun yy2=> .br (.len yy0.2.length<| .elem _ aC yy0.2 (fun e63=> .call (vB (decide (e57=e63))) []<| .br (.len yy2.2.1.length<| .elem _ intD yy2.2.1 (fun e70=> .len yy2.2.1.length<| .set Int intD yy2.2.1 (fun s19_6=>e70+1) (fun s19_6=> .back [(5000,5000)]))) (.back [(5000,5000)]))) (.back [(5000,5000)])))) (.fin [(0,4700),(1,5000)]))))))) (p:=(t.rows.map aC).length≤9223372036854775807→(cols.map intD).length≤9223372036854775807→rG t∧Nr (aX t) ([]=(eA t cols).1.map aC∧[]=(eA t cols).2.map intD∧True) (yG cols t.arity∧Nr (dW (t.arity - 1) cols) ([]=(eA t cols).1.map aC∧[]=(eA t cols).2.map intD∧True) (Lm aC t.rows∧((∃(k:Nat) (out:List (List Int)),0=(k:Int)∧[]=out.map aC∧k≤t.rows.length∧out=(t.rows.take k).map fun r=>(fH r cols).1)∧ ∀(k:Nat) (out:List (List Int)),(k≤t.rows.length∧out=(t.rows.take k).map fun r=>(fH r cols).1)→Br ((k:Int)<(t.rows.length:Int)) (0≤(k:Int)∧Em aC t.rows k fun e33=>rH e33 cols∧out.map aC=out.map aC∧(fH e33 cols).1.map intD=(fH e33 cols).1.map intD∧(out.length+1)*24≤140737488355328∧bO ((k:Int)+1)∧ ∃(k' :Nat) (out' :List (List Int)),((k:Int)+1)=(k' :Int)∧(out++[(fH e33 cols).1]).map aC=out'.map aC∧(k' ≤t.rows.length∧out' =(t.rows.take k').map fun r=>(fH r cols).1)∧t.rows.length - k' <t.rows.length - k) (aAn out∧(Lm aC (fS (dI out))∧((((fS (dI out)).length:Nat):Int)=(((fS (dI out)).length:Nat):Int)∧(((fS (dI out)).length:Nat):Int)=(((fS (dI out)).length:Nat):Int)∧8*((fS (dI out)).length)≤281474976710656∧((fS (dI out)).length)≤9223372036854775807∧List.replicate ((fS (dI out)).length) [.int .i64 (0:Int)]=(List.replicate ((fS (dI out)).length) (0:Int)).map intD∧(Lm aC (fS (dI out))∧((∃(i:Nat) (c:List Int),0=(i:Int)∧(List.replicate ((fS (dI out)).length) (0:Int)).map intD=c.map intD∧i≤(fS (dI out)).length∧c=((fS (dI out)).take i).map (iT out)++List.replicate ((fS (dI out)).length - i) 0∧c.length=(fS (dI out)).length)∧ ∀(i:Nat) (c:List Int),(i≤(fS (dI out)).length∧c=((fS (dI out)).take i).map (iT out)++List.replicate ((fS (dI out)).length - i) 0∧c.length=(fS (dI out)).length)→Br ((i:Int)<(((fS (dI out)).length:Nat):Int)) (0≤(i:Int)∧Lm aC (fS (dI out))∧(i:Int)<(((fS (dI out)).length:Nat):Int)∧Em aC (fS (dI out)) i fun e57=>Lm aC out∧((∃(j:Nat) (c2:List Int) (z:Int),0=(j:Int)∧c.map intD=c2.map intD∧j≤out.length∧c2=c.set i z∧z=iT (out.take j) e57)∧ ∀(j:Nat) (c2:List Int) (z:Int),(j≤out.length∧c2=c.set i z∧z=iT (out.take j) e57)→Br ((j:Int)<(out.length:Int)) (0≤(j:Int)∧Lm aC out∧(j:Int)<(out.length:Int)∧Em aC out j fun e63=>qM e57 e63∧Br (e57=e63) (0≤(i:Int)∧Lm intD c2∧(i:Int)<(c2.length:Int)∧Em intD c2 i fun e70=>bO (e70+1)∧(0≤(i:Int)∧Lm intD c2∧(i:Int)<(c2.length:Int)∧(c2.map intD=c2.map intD∧i<c2.length∧ ∀s19_6,c2[i]? =some s19_6→bW (intD s19_6)=true∧0+1≤(intD s19_6).length∧(intD s19_6).take 0++[.int .i64 (e70+1)]++(intD s19_6).drop (0+1)=intD (e70+1)∧bO ((j:Int)+1)∧ ∃(j' :Nat) (c2' :List Int) (z' :Int),((j:Int)+1)=(j' :Int)∧(c2.set i (e70+1)).map intD=c2'.map intD∧(j' ≤out.length∧c2' =c.set i z' ∧z' =iT (out.take j') e57)∧out.length - j' <out.length - j))) (bO ((j:Int)+1)∧ ∃(j' :Nat) (c2' :List Int) (z' :Int),((j:Int)+1)=(j' :Int)∧c2.map intD=c2'.map intD∧(j' ≤out.length∧c2' =c.set i z' ∧z' =iT (out.take j') e57)∧out.length - j' <out.length - j)) (bO ((i:Int)+1)∧ ∃(i' :Nat) (c' :List Int),((i:Int)+1)=(i' :Int)∧c2.map intD=c'.map intD∧(i' ≤(fS (dI out)).length∧c' =((fS (dI out)).take i').map (iT out)++List.replicate ((fS (dI out)).length - i') 0∧c'.length=(fS (dI out)).length)∧(fS (dI out)).length - i' <(fS (dI out)).length - i))) ((fS (dI out)).map aC=(eA t cols).1.map aC∧c.map intD=(eA t cols).2.map intD∧True)))))))))) (by kernel_rfl) ?_
 intro n0 n1
 simp only[List.length_map] at n0 n1
 refine⟨yE t,dm (fun g20=>?_) fun g20=>?_⟩
 ·have hbad:(aX t&&dW (t.arity - 1) cols)=false:=by rw[g20];rfl
  refine⟨?_,?_,trivial⟩<;>((rw[aC6 hbad]<;>rfl))
 ·have hT:=cE g20
  refine⟨aJc _ _ (by omega),dm (fun c0=>?_) fun c0=>?_⟩
  ·have hbad:(aX t&&dW (t.arity - 1) cols)=false:=by rw[g20,c0];rfl
   refine⟨?_,?_,trivial⟩<;>((rw[aC6 hbad]<;>rfl))
  ·have hok:(aX t&&dW (t.arity - 1) cols)=true:=by rw[g20,c0];rfl
   obtain⟨hs1,hs2⟩:=aG3 hok
   refine⟨List.length_map _,⟨0,([]:List (List Int)),rfl,rfl,Nat.zero_le _,rfl⟩,fun k out ⟨hk,ho⟩=>?_⟩
   refine dd (fun c1=>?_) fun c1=>?_
   ·refine⟨by omega,rfl,by omega,fun e33 h33=>?_⟩
    refine⟨aC3 _ _ (by omega),rfl,rfl,by (simp[ho];omega),⟨by omega,by omega⟩,?_⟩
    exact⟨k+1,_,rfl,rfl,⟨by omega,by rw[ho,bU h33,List.map_append];rfl⟩,by omega⟩
   ·have hA:out=kN t cols:=by rw[ho,List.take_of_length_le (by omega)];rfl
    rw[←hA] at hs1 hs2
    have hd:=aT2 out
    refine⟨aM8 out (by omega),List.length_map _,rfl,rfl,by omega,by omega,by (rw[List.map_replicate];done),List.length_map _,⟨0,List.replicate ((fS (dI out)).length) (0:Int),rfl,rfl,Nat.zero_le _,by simp,List.length_replicate⟩,fun i c ⟨hi,hc,hcn⟩=>?_⟩
    refine dd (fun c2=>?_) fun c2=>?_
    ·refine⟨by omega,List.length_map _,by omega,rfl,by omega,fun e57 h57=>?_⟩
     refine⟨List.length_map _,⟨0,c,0,rfl,rfl,Nat.zero_le _,by rw[hc];exact(aQn (by omega)).symm,rfl⟩,fun j c2 z ⟨hj,hc2,hz⟩=>?_⟩
     refine dd (fun c3=>?_) fun c3=>?_
     ·refine⟨by omega,List.length_map _,by omega,rfl,by omega,fun e63 h63=>?_⟩
      refine⟨aCX _ _,dd (fun c4=>?_) fun c4=>?_⟩
      ·refine⟨by omega,List.length_map _,by (rw[hc2,List.length_set,hcn];omega),rfl,by (rw[hc2,List.length_set,hcn];omega),fun e70 h70=>?_⟩
       have hz70:e70=z:=by rw[hc2] at h70;exact(aXx h70)
       have hcl:=aT1 (out.take j) e57
       have hjl:(out.take j).length≤out.length:=by simp;omega
       refine⟨⟨by omega,by omega⟩,by omega,List.length_map _,by (rw[hc2,List.length_set,hcn];omega),rfl,by (rw[hc2,List.length_set,hcn];omega),fun s19_6 hs19_6=>⟨rfl,Nat.le_of_ble_eq_true rfl,rfl,?_⟩⟩
       refine⟨⟨by omega,by omega⟩,?_⟩
       exact⟨j+1,_,_,rfl,rfl,⟨by omega,by rw[hc2,List.set_set,hz70],by rw[hz,aPh h63 c4]⟩,by omega⟩
      ·refine⟨⟨by omega,by omega⟩,?_⟩
       exact⟨j+1,_,_,rfl,rfl,⟨by omega,hc2,by rw[hz,aT0 h63 c4]⟩,by omega⟩
     ·have hj9:j=out.length:=by omega
      rw[hj9,List.take_length] at hz
      refine⟨⟨by omega,by omega⟩,?_⟩
      exact⟨i+1,_,rfl,rfl,⟨by omega,by rw[hc2,hz,hc];exact aT3 h57,by rw[hc2,List.length_set];exact hcn⟩,by omega⟩
    ·have hC:c=aM9 t cols:=by rw[hc,aOZ hi (by omega),hA];rfl
     refine⟨?_,?_,trivial⟩<;>(first|(rw[rK hok,hA]<;>rfl)|(rw[rK hok,hC]<;>rfl))
theorem aMb {α:Type}(f:α→Nat){x:α}: ∀{l:List α},x∈l→f x≤fE f l
 | a::l,h=>by
   simp only[fE,List.map_cons,List.sum_cons]
   rcases List.mem_cons.1 h with q | q
   ·subst q;omega
   ·have:=aMb f q
    simp only[fE] at this
    omega
theorem aA1 {l:List (List Int)}{i:Nat}{x:List Int}(h:l[i]? =some x):x.length≤cT l:=by
 have h1:cT l=l.length+fE cG l:=rfl
 have h2:x.length≤fE cG l:=aMb cG (List.mem_of_getElem? h)
 omega
def pgo (row:List Int):Bool→List (List Int)→List (List Int)
 | p,[]=>if p=true then [] else [row]
 | p,x::xs=>if 0<cF x row∧p=false then row::x::pgo row true xs else x::pgo row (p || decide (cF x row=0)) xs
def kX (row:List Int)(rows:List (List Int)):List (List Int):=pgo row false rows
theorem aT4 {row x:List Int}{xs:List (List Int)}(h:0<cF x row):pgo row false (x::xs)=row::x::pgo row true xs:=by rw[pgo,if_pos ⟨h,rfl⟩]
theorem aO0 {row x:List Int}{xs:List (List Int)}{p:Bool}(h:cF x row=0):pgo row p (x::xs)=x::pgo row true xs:=by rw[pgo,if_neg (by omega),h];simp
theorem aT5 {row x:List Int}{xs:List (List Int)}:pgo row true (x::xs)=x::pgo row true xs:=by rw[pgo,if_neg (by simp)];rfl
theorem aT6 {row x:List Int}{xs:List (List Int)}{p:Bool}(h: ¬0<cF x row)(h' : ¬cF x row=0):pgo row p (x::xs)=x::pgo row p xs:=by rw[pgo,if_neg (by omega)];simp[h']
abbrev uY (rows:List (List Int))(row:List Int):AV × List (Nat × Rs):=(.own 0,[(0,.arr 91 1 true ((kX row rows).map aC))])
abbrev aBP (rows:List (List Int))(row:List Int):Prop:=cH Tryz.prog 245 [.one (.sl 91 1 (rows.map aC)),.one (.sl 3 1 (row.map intD))] (uY rows row).1 (uY rows row).2
theorem aMc (rows:List (List Int))(row:List Int)(hl:rows.length≤1000000)(hc:cT rows≤1048576)(hr:row.length≤1048576):aBP rows row:=by
 refine aW bH aO Tryz.func245 (by kernel_rfl) (.loop (Nat × (List (List Int)) × Bool) (Q3 Nat (List (List Int)) Bool) (rg 5 40) [900,3100,3300,3400,3500,3700,4200,4300,4400] (fun yy0=>[(7,vI (yy0.1:Int)),(5,.own 900),(6,vB yy0.2.2)]) (fun yy0=>[(900,some (.arr 91 1 true (yy0.2.1.map aC)))]) (fun yy0=>yy0.1≤rows.length∧yy0.2.1.length≤2*yy0.1∧yy0.2.1++pgo row yy0.2.2 (rows.drop yy0.1)=kX row rows) (fun yy0=>rows.length - yy0.1) (fun yy0=> .len rows.length<| .br (.elem _ aC rows (fun e18=> .call (vI (cF e18 row)) []<| .br (.br (.elem _ aC rows (fun e40=> .app Int intD ([]:List Int) e40<| .appx (List Int) aC yy0.2.1 (([]:List Int)++e40)<| .back [(900,4400)])) (.elem _ aC rows (fun e40=> .app Int intD ([]:List Int) e40<| .appx (List Int) aC yy0.2.1 (([]:List Int)++e40)<| .back [(900,4400)]))) (.br (.lit<| .lit<| .br (.app Int intD ([]:List Int) row<| .appx (List Int) aC yy0.2.1 (([]:List Int)++row)<| .elem _ aC rows (fun e40=> .app Int intD ([]:List Int) e40<| .appx (List Int) aC (yy0.2.1++[([]:List Int)++row]) (([]:List Int)++e40)<| .back [(900,4400)])) (.elem _ aC rows (fun e40=> .app Int intD ([]:List Int) e40<| .appx (List Int) aC yy0.2.1 (([]:List Int)++e40)<| .back [(900,4400)]))) (.elem _ aC rows (fun e40=> .app Int intD ([]:List Int) e40<| .appx (List Int) aC yy0.2.1 (([]:List Int)++e40)<| .back [(900,4400)]))))) (.br (.app Int intD ([]:List Int) row<| .appx (List Int) aC yy0.2.1 (([]:List Int)++row)<| .fin [(0,5200)]) (.fin [(0,900)])))) (p:=(rows.map aC).length≤9223372036854775807→(row.map intD).length≤9223372036854775807→(∃(k:Nat) (out:List (List Int)) (p:Bool),0=(k:Int)∧(false)=p∧[]=out.map aC∧k≤rows.length∧out.length≤2*k∧out++pgo row p (rows.drop k)=kX row rows)∧ ∀(k:Nat) (out:List (List Int)) (p:Bool),(k≤rows.length∧out.length≤2*k∧out++pgo row p (rows.drop k)=kX row rows)→Lm aC rows∧Br ((k:Int)<(rows.length:Int)) (0≤(k:Int)∧Em aC rows k fun e18=>fR e18 row∧Br ((cF e18 row)=0) (Br (0<(cF e18 row)) (0≤(k:Int)∧Em aC rows k fun e40=>[]=([]:List Int).map intD∧e40.map intD=e40.map intD∧(∀x,bW (intD x)=true)∧(([]:List Int).length+e40.length)*8≤140737488355328∧out.map aC=out.map aC∧(([]:List Int)++e40).map intD=(([]:List Int)++e40).map intD∧(out.length+1)*24≤140737488355328∧bO ((k:Int)+1)∧ ∃(k' :Nat) (out' :List (List Int)) (p' :Bool),((k:Int)+1)=(k' :Int)∧(true)=p' ∧(out++[([]:List Int)++e40]).map aC=out'.map aC∧(k' ≤rows.length∧out'.length≤2*k' ∧out' ++pgo row p' (rows.drop k')=kX row rows)∧rows.length - k' <rows.length - k) (0≤(k:Int)∧Em aC rows k fun e40=>[]=([]:List Int).map intD∧e40.map intD=e40.map intD∧(∀x,bW (intD x)=true)∧(([]:List Int).length+e40.length)*8≤140737488355328∧out.map aC=out.map aC∧(([]:List Int)++e40).map intD=(([]:List Int)++e40).map intD∧(out.length+1)*24≤140737488355328∧bO ((k:Int)+1)∧ ∃(k' :Nat) (out' :List (List Int)) (p' :Bool),((k:Int)+1)=(k' :Int)∧(true)=p' ∧(out++[([]:List Int)++e40]).map aC=out'.map aC∧(k' ≤rows.length∧out'.length≤2*k' ∧out' ++pgo row p' (rows.drop k')=kX row rows)∧rows.length - k' <rows.length - k)) (Br (0<(cF e18 row)) (Nr (p) ([]=([]:List Int).map intD∧row.map intD=row.map intD∧(∀x,bW (intD x)=true)∧(([]:List Int).length+row.length)*8≤140737488355328∧out.map aC=out.map aC∧(([]:List Int)++row).map intD=(([]:List Int)++row).map intD∧(out.length+1)*24≤140737488355328∧0≤(k:Int)∧Em aC rows k fun e40=>[]=([]:List Int).map intD∧e40.map intD=e40.map intD∧(∀x,bW (intD x)=true)∧(([]:List Int).length+e40.length)*8≤140737488355328∧(out++[([]:List Int)++row]).map aC=(out++[([]:List Int)++row]).map aC∧(([]:List Int)++e40).map intD=(([]:List Int)++e40).map intD∧((out++[([]:List Int)++row]).length+1)*24≤140737488355328∧bO ((k:Int)+1)∧ ∃(k' :Nat) (out' :List (List Int)) (p' :Bool),((k:Int)+1)=(k' :Int)∧(true)=p' ∧((out++[([]:List Int)++row])++[([]:List Int)++e40]).map aC=out'.map aC∧(k' ≤rows.length∧out'.length≤2*k' ∧out' ++pgo row p' (rows.drop k')=kX row rows)∧rows.length - k' <rows.length - k) (0≤(k:Int)∧Em aC rows k fun e40=>[]=([]:List Int).map intD∧e40.map intD=e40.map intD∧(∀x,bW (intD x)=true)∧(([]:List Int).length+e40.length)*8≤140737488355328∧out.map aC=out.map aC∧(([]:List Int)++e40).map intD=(([]:List Int)++e40).map intD∧(out.length+1)*24≤140737488355328∧bO ((k:Int)+1)∧ ∃(k' :Nat) (out' :List (List Int)) (p' :Bool),((k:Int)+1)=(k' :Int)∧(p)=p' ∧(out++[([]:List Int)++e40]).map aC=out'.map aC∧(k' ≤rows.length∧out'.length≤2*k' ∧out' ++pgo row p' (rows.drop k')=kX row rows)∧rows.length - k' <rows.length - k)) (0≤(k:Int)∧Em aC rows k fun e40=>[]=([]:List Int).map intD∧e40.map intD=e40.map intD∧(∀x,bW (intD x)=true)∧(([]:List Int).length+e40.length)*8≤140737488355328∧out.map aC=out.map aC∧(([]:List Int)++e40).map intD=(([]:List Int)++e40).map intD∧(out.length+1)*24≤140737488355328∧bO ((k:Int)+1)∧ ∃(k' :Nat) (out' :List (List Int)) (p' :Bool),((k:Int)+1)=(k' :Int)∧(p)=p' ∧(out++[([]:List Int)++e40]).map aC=out'.map aC∧(k' ≤rows.length∧out'.length≤2*k' ∧out' ++pgo row p' (rows.drop k')=kX row rows)∧rows.length - k' <rows.length - k))) (Nr (p) ([]=([]:List Int).map intD∧row.map intD=row.map intD∧(∀x,bW (intD x)=true)∧(([]:List Int).length+row.length)*8≤140737488355328∧out.map aC=out.map aC∧(([]:List Int)++row).map intD=(([]:List Int)++row).map intD∧(out.length+1)*24≤140737488355328∧(out++[([]:List Int)++row]).map aC=(kX row rows).map aC∧True) (out.map aC=(kX row rows).map aC∧True))) (by kernel_rfl) ?_
 intro n0 n1
 simp only[List.length_map] at n0 n1
 refine⟨⟨0,([]:List (List Int)),false,rfl,rfl,rfl,Nat.zero_le _,by simp,rfl⟩,fun k out p ⟨hk,ho,hv⟩=>?_⟩
 refine⟨List.length_map _,dd (fun c0=>?_) fun c0=>?_⟩
 ·refine⟨by omega,rfl,by omega,fun e18 h18=>?_⟩
  have hsz:=aA1 h18
  refine⟨jF _ _,dd (fun c1=>?_) fun c1=>?_⟩
  ·refine dd (fun g26=>?_) fun g26=>?_
   ·refine⟨by omega,rfl,by omega,fun e40 h40=>?_⟩
    obtain rfl:=(aZ h18 h40).symm
    refine⟨rfl,rfl,fun _=>rfl,by omega,?_⟩
    refine⟨rfl,rfl,by omega,⟨by omega,by omega⟩,?_⟩
    exact⟨k+1,_,_,rfl,rfl,rfl,⟨by omega,by simp;omega,by rw[←hv,lP h18];(rw[aO0 c1];simp;done)⟩,by omega⟩
   ·refine⟨by omega,rfl,by omega,fun e40 h40=>?_⟩
    obtain rfl:=(aZ h18 h40).symm
    refine⟨rfl,rfl,fun _=>rfl,by (simp;omega),?_⟩
    refine⟨rfl,rfl,by omega,⟨by omega,by omega⟩,?_⟩
    exact⟨k+1,_,_,rfl,rfl,rfl,⟨by omega,by simp;omega,by rw[←hv,lP h18];(rw[aO0 c1];simp;done)⟩,by omega⟩
  ·refine dd (fun g26=>?_) fun g26=>?_
   ·refine dm (fun c2=>?_) fun c2=>?_
    ·refine⟨rfl,rfl,fun _=>rfl,by (simp;omega),?_⟩
     refine⟨rfl,rfl,by omega,by omega,rfl,by omega,fun e40 h40=>?_⟩
     obtain rfl:=(aZ h18 h40).symm
     refine⟨rfl,rfl,fun _=>rfl,by (simp;omega),?_⟩
     refine⟨rfl,rfl,by (simp;omega),⟨by omega,by omega⟩,?_⟩
     exact⟨k+1,_,_,rfl,rfl,rfl,⟨by omega,by simp;omega,by rw[←hv,lP h18];(subst c2;rw[aT4 g26];simp;done)⟩,by omega⟩
    ·refine⟨by omega,rfl,by omega,fun e40 h40=>?_⟩
     obtain rfl:=(aZ h18 h40).symm
     refine⟨rfl,rfl,fun _=>rfl,by (simp;omega),?_⟩
     refine⟨rfl,rfl,by omega,⟨by omega,by omega⟩,?_⟩
     exact⟨k+1,_,_,rfl,rfl,rfl,⟨by omega,by simp;omega,by rw[←hv,lP h18];(subst c2;rw[aT5];simp;done)⟩,by omega⟩
   ·refine⟨by omega,rfl,by omega,fun e40 h40=>?_⟩
    obtain rfl:=(aZ h18 h40).symm
    refine⟨rfl,rfl,fun _=>rfl,by (simp;omega),?_⟩
    refine⟨rfl,rfl,by omega,⟨by omega,by omega⟩,?_⟩
    exact⟨k+1,_,_,rfl,rfl,rfl,⟨by omega,by simp;omega,by rw[←hv,lP h18];(rw[aT6 g26 c1];simp;done)⟩,by omega⟩
 ·refine dm (fun c3=>?_) fun c3=>?_
  ·refine⟨rfl,rfl,fun _=>rfl,by (simp;omega),?_⟩
   refine⟨rfl,rfl,by omega,?_,trivial⟩
   ·rw[←hv,yA (by omega),pgo];simp[c3]
  ·refine⟨?_,trivial⟩
   ·rw[←hv,yA (by omega),pgo];simp[c3]
theorem aG4 {row:List Int}: ∀xs:List (List Int),pgo row true xs=xs
 | []=>rfl
 | x::xs=>by rw[aT5,aG4 xs]
theorem aC9 {row:List Int}:kX row []= [row]:=rfl
theorem aCa {row x:List Int}{xs:List (List Int)}(h:0<cF x row):kX row (x::xs)=row::x::xs:=by rw[kX,aT4 h,aG4]
theorem aCb {row x:List Int}{xs:List (List Int)}(h:cF x row=0):kX row (x::xs)=x::xs:=by rw[kX,aO0 h,aG4]
theorem aCc {row x:List Int}{xs:List (List Int)}(h: ¬0<cF x row)(h' : ¬cF x row=0):kX row (x::xs)=x::kX row xs:=by rw[kX,aT6 h h',kX]
theorem aG5 {row y:List Int}: ∀{xs:List (List Int)},y∈kX row xs↔y=row∨y∈xs
 | []=>by simp[aC9]
 | x::xs=>by
   by_cases h:0<cF x row
   ·rw[aCa h];simp
   ·by_cases h' :cF x row=0
    ·rw[aCb h',eV.1 h']
     constructor
     ·exact Or.inr
     ·rintro(rfl | q)
      ·simp
      ·exact q
    ·rw[aCc h h',List.mem_cons,List.mem_cons,aG5]
     constructor
     ·rintro(q | q | q)
      ·exact .inr (.inl q)
      ·exact .inl q
      ·exact .inr (.inr q)
     ·rintro(q | q | q)
      ·exact .inr (.inl q)
      ·exact .inl q
      ·exact .inr (.inr q)
abbrev Asc (l:List (List Int)):Prop:=l.Pairwise fun a b=>cF a b<0
theorem aMd {row:List Int}: ∀{xs:List (List Int)},Asc xs→Asc (kX row xs)
 | [],_=>by rw[aC9];exact List.pairwise_singleton _ _
 | x::xs,hx=>by
   have h1:=List.pairwise_cons.1 hx
   by_cases h:0<cF x row
   ·rw[aCa h]
    refine List.pairwise_cons.2 ⟨fun y hy=>?_,hx⟩
    have hrx:cF row x<0:=qN.2 h
    rcases List.mem_cons.1 hy with rfl | q
    ·exact hrx
    ·exact mE hrx (h1.1 y q)
   ·by_cases h' :cF x row=0
    ·rw[aCb h'];exact hx
    ·rw[aCc h h']
     refine List.pairwise_cons.2 ⟨fun y hy=>?_,aMd h1.2⟩
     rcases aG5.1 hy with rfl | q
     ·omega
     ·exact h1.1 y q
theorem aMe {row:List Int}: ∀{xs:List (List Int)},(kX row xs).length≤xs.length+1
 | []=>by simp[aC9]
 | x::xs=>by
   by_cases h:0<cF x row
   ·rw[aCa h];simp
   ·by_cases h' :cF x row=0
    ·rw[aCb h'];simp
    ·rw[aCc h h']
     have:=aMe (row:=row) (xs:=xs)
     simp only[List.length_cons];omega
def cK (l:List (List Int)):List (List Int):=l.foldl (fun acc x=>kX x acc) []
theorem sL (l:List (List Int)): ∀acc,Asc acc→Asc (l.foldl (fun acc x=>kX x acc) acc)∧(∀y,y∈l.foldl (fun acc x=>kX x acc) acc↔y∈acc∨y∈l)∧(l.foldl (fun acc x=>kX x acc) acc).length≤acc.length+l.length:=by
 induction l with
 | nil=>intro acc h;simp[h]
 | cons x l ih=>
   intro acc h
   obtain⟨h1,h2,h3⟩:=ih _ (aMd (row:=x) h)
   refine⟨h1,fun y=>?_,?_⟩
   ·rw[List.foldl_cons,h2,aG5,List.mem_cons]
    constructor
    ·rintro((q | q) | q)
     ·exact .inr (.inl q)
     ·exact .inl q
     ·exact .inr (.inr q)
    ·rintro(q | q | q)
     ·exact .inl (.inr q)
     ·exact .inl (.inl q)
     ·exact .inr q
   ·have:=aMe (row:=x) (xs:=acc)
    rw[List.foldl_cons,List.length_cons];omega
theorem aCd {l:List (List Int)}{x:List Int}:cK (l++[x])=kX x (cK l):=by simp[cK,List.foldl_append]
theorem aFT: ∀{l m:List (List Int)},Asc l→Asc m→(∀x,x∈l↔x∈m)→l=m
 | [],[],_,_,_=>rfl
 | [],b::m,_,_,h=>by have:=(h b).2 (by simp);simp at this
 | a::l,[],_,_,h=>by have:=(h a).1 (by simp);simp at this
 | a::l,b::m,hl,hm,h=>by
   have hl' :=List.pairwise_cons.1 hl
   have hm' :=List.pairwise_cons.1 hm
   have hab:a=b:=by
    rcases List.mem_cons.1 ((h a).1 (by simp)) with q | q
    ·exact q
    ·rcases List.mem_cons.1 ((h b).2 (by simp)) with r | r
     ·exact r.symm
     ·have h1:=hm'.1 a q
      have h2:=hl'.1 b r
      have:=mE h1 h2
      rw[aAY] at this;omega
   subst hab
   congr 1
   refine aFT hl'.2 hm'.2 fun x=>⟨fun hx=>?_,fun hx=>?_⟩
   ·rcases List.mem_cons.1 ((h x).1 (by simp[hx])) with q | q
    ·subst q;have:=hl'.1 _ hx;rw[aAY] at this;omega
    ·exact q
   ·rcases List.mem_cons.1 ((h x).2 (by simp[hx])) with q | q
    ·subst q;have:=hm'.1 _ hx;rw[aAY] at this;omega
    ·exact q
theorem aG6 {s:List (List Int)}{i:Nat}:i∈nK s↔i<s.length∧(i=0∨ ¬s.getD i []=s.getD (i - 1) []):=by
 rw[nK,List.mem_filter,List.mem_range]
 simp[aLB]
theorem aJj (s:List (List Int)): ∀n,n<s.length→ ∃i,i∈nK s∧s.getD i []=s.getD n []
 | 0,h=>⟨0,aG6.2 ⟨h,.inl rfl⟩,rfl⟩
 | n+1,h=>by
   by_cases e:s.getD (n+1) []=s.getD n []
   ·obtain⟨i,h1,h2⟩:=aJj s n (by omega)
    exact⟨i,h1,by rw[h2,e]⟩
   ·exact⟨n+1,aG6.2 ⟨h,.inr e⟩,rfl⟩
theorem aT8 {s:List (List Int)}{x:List Int}:x∈fS s↔x∈s:=by
 constructor
 ·intro h
  obtain⟨i,hi,rfl⟩:=List.mem_map.1 h
  obtain⟨y,hy⟩:=dE (aPg hi)
  rw[bQ hy];exact List.mem_of_getElem? hy
 ·intro h
  obtain⟨n,hn,hx⟩:=List.mem_iff_getElem.1 h
  obtain⟨i,h1,h2⟩:=aJj s n hn
  refine List.mem_map.2 ⟨i,h1,?_⟩
  rw[h2,←hx];simp[hn]
theorem aT9 {s:List (List Int)}(hs:s.Pairwise (fun a b=>leR a b=true)):Asc (fS s):=by
 rw[fS,Asc,List.pairwise_map]
 have h0:(nK s).Pairwise (· < ·):=List.Pairwise.filter _ List.pairwise_lt_range
 refine List.Pairwise.imp_of_mem ?_ h0
 intro i j hi hj hij
 have h1:=aG6.1 hj
 have hp:=List.pairwise_iff_getElem.1 hs
 have hg: ∀a b,a<b→b<s.length→leR (s.getD a []) (s.getD b [])=true:=by
  intro a b hab hb
  have:=hp a b (by omega) hb hab
  simpa [hb,show a<s.length by omega] using this
 have h2:=hg (j - 1) j (by omega) h1.1
 rw[leR,decide_eq_true_eq] at h2
 have h3:cF (s.getD (j - 1) []) (s.getD j [])<0:=by
  have: ¬cF (s.getD (j - 1) []) (s.getD j [])=0:=fun q=>by
   have:=eV.1 q
   rcases h1.2 with r | r
   ·omega
   ·exact r this.symm
  omega
 by_cases e:i=j - 1
 ·rw[e];exact h3
 ·have h4:=hg i (j - 1) (by omega) (by omega)
  rw[leR,decide_eq_true_eq] at h4
  by_cases z:cF (s.getD i []) (s.getD (j - 1) [])=0
  ·rw[eV.1 z];exact h3
  ·exact mE (by omega) h3
theorem sM (l:List (List Int)):cK l=fS (dI l):=by
 obtain⟨h1,h2,_⟩:=sL l [] List.Pairwise.nil
 exact aFT h1 (aT9 (aGZ l)) fun x=>by
  have h2' :=h2 x
  rw[show l.foldl (fun acc x=>kX x acc) []=cK l from rfl] at h2'
  rw[h2',aT8,(aBM l).mem_iff];simp
theorem aIf {l:List (List Int)}{m:Nat}(h: ∀x∈l,x.length≤m):(cK l).length≤l.length∧cT (cK l)≤l.length+l.length*m:=by
 obtain⟨_,h2,h3⟩:=sL l [] List.Pairwise.nil
 have h4:(cK l).length≤l.length:=by
  rw[List.length_nil,Nat.zero_add] at h3
  exact h3
 have:=aC8 (l:=cK l) (m:=m) fun x hx=>h x (by simpa using (h2 x).1 hx)
 have:=Nat.mul_le_mul_right m h4
 exact⟨h4,by omega⟩
theorem aLC {t:bA}{cols:List Int}{j:Nat}{e:List Int}(h:t.rows[j]? =some e):(kN t cols)[j]? =some (fH e cols).1:=by simp[kN,h]
theorem aLD {t:bA}{cols:List Int}{k:Nat}(h:(aX t&&dW (t.arity - 1) cols)=true):(cK ((kN t cols).take k)).length≤8∧cT (cK ((kN t cols).take k))≤64:=by
 have h0:=h
 rw[Bool.and_eq_true] at h
 have ha:=cE h.1
 have hc:=aC7 h.2 (by omega)
 have hl:(kN t cols).length=t.rows.length:=List.length_map _
 have:=aIf (l:=(kN t cols).take k) (m:=3) fun r hr=>by
  obtain⟨q,_,rfl⟩:=List.mem_map.1 (List.mem_of_mem_take hr)
  have:=aGW q cols
  omega
 have h5:((kN t cols).take k).length≤8:=by simp;omega
 omega
abbrev aBQ (t:bA)(cols:List Int):AV × List (Nat × Rs):=(.tup [.own 0,.own 1],[(0,.arr 91 1 true ((eA t cols).1.map aC)),(1,.arr 3 1 true ((eA t cols).2.map intD))])
abbrev aG7 (t:bA)(cols:List Int):Prop:=cH Tryz.prog 220 [.agg [.str t.name,.int .i64 t.arity,.sl 91 1 (t.rows.map aC)],.one (.sl 3 1 (cols.map intD))] (aBQ t cols).1 (aBQ t cols).2
theorem aTa (t:bA)(cols:List Int)(hl:cols.length≤1048576):aG7 t cols:=by
 refine aW bH aO Tryz.func220 (by kernel_rfl) (.call (vB (aX t&&dW (t.arity - 1) cols)) []<| .br (.fin [(0,1600),(1,1700)]) (.loop (Nat × (List (List Int))) (Q2 Nat (List (List Int))) ([6,8,9,10,16]++rg 24 20) [1600,3800,4300] (fun yy0=>[(8,vI (yy0.1:Int)),(6,.own 1600)]) (fun yy0=>[(1600,some (.arr 91 1 true (yy0.2.map aC)))]) (fun yy0=>yy0.1≤t.rows.length∧yy0.2=cK ((kN t cols).take yy0.1)) (fun yy0=>t.rows.length - yy0.1) (fun yy0=> .len t.rows.length<| .br (.elem _ aC t.rows (fun e35=>bL (oK e35 cols)<| bL (uY yy0.2 ((fH e35 cols).1))<| .back [(1600,4300)])) (.loop (Nat × (List Int)) (Q2 Nat (List Int)) ([7,11,12,13,14,15,17]++rg 44 36) [1700,6400,7800,7900] (fun yy1=>[(11,vI (yy1.1:Int)),(7,.own 1700)]) (fun yy1=>[(1700,some (.arr 3 1 true (yy1.2.map intD)))]) (fun yy1=>yy1.1≤yy0.2.length∧yy1.2=(yy0.2.take yy1.1).map (iT (kN t cols))) (fun yy1=>yy0.2.length - yy1.1) (fun yy1=> .len yy0.2.length<| .br (.loop (Nat × Int) (Q2 Nat Int) ([12,13,14,15]++rg 50 26) [6400] (fun yy2=>[(12,vI yy2.2),(13,vI (yy2.1:Int))]) (fun yy2=>[]) (fun yy2=>yy2.1≤t.rows.length∧yy2.2=iT ((kN t cols).take yy2.1) (yy0.2.getD yy1.1 [])) (fun yy2=>t.rows.length - yy2.1) (fun yy2=> .len t.rows.length<| .br (.elem _ aC t.rows (fun e61=>bL (oK e61 cols)<| .len yy0.2.length<| .elem _ aC yy0.2 (fun e71=> .call (vI (cF ((fH e61 cols).1) e71)) []<| .br (.back []) (.back [])))) (.app Int intD yy1.2 ([yy2.2]:List Int)<| .back [(1700,7900)]))) (.fin [(0,1600),(1,1700)])))))) (p:=(t.rows.map aC).length≤9223372036854775807→(cols.map intD).length≤9223372036854775807→yH t cols∧Nr (aX t&&dW (t.arity - 1) cols) ([]=(eA t cols).1.map aC∧[]=(eA t cols).2.map intD∧True) ((∃(k:Nat) (out:List (List Int)),0=(k:Int)∧[]=out.map aC∧k≤t.rows.length∧out=cK ((kN t cols).take k))∧ ∀(k:Nat) (out:List (List Int)),(k≤t.rows.length∧out=cK ((kN t cols).take k))→Lm aC t.rows∧Br ((k:Int)<(t.rows.length:Int)) (0≤(k:Int)∧Em aC t.rows k fun e35=>rI e35 cols∧aBP out ((fH e35 cols).1)∧bO ((k:Int)+1)∧ ∃(k' :Nat) (out' :List (List Int)),((k:Int)+1)=(k' :Int)∧(kX ((fH e35 cols).1) out).map aC=out'.map aC∧(k' ≤t.rows.length∧out' =cK ((kN t cols).take k'))∧t.rows.length - k' <t.rows.length - k) ((∃(i:Nat) (c:List Int),0=(i:Int)∧[]=c.map intD∧i≤out.length∧c=(out.take i).map (iT (kN t cols)))∧ ∀(i:Nat) (c:List Int),(i≤out.length∧c=(out.take i).map (iT (kN t cols)))→Lm aC out∧Br ((i:Int)<(out.length:Int)) ((∃(j:Nat) (z:Int),0=z∧0=(j:Int)∧j≤t.rows.length∧z=iT ((kN t cols).take j) (out.getD i []))∧ ∀(j:Nat) (z:Int),(j≤t.rows.length∧z=iT ((kN t cols).take j) (out.getD i []))→Lm aC t.rows∧Br ((j:Int)<(t.rows.length:Int)) (0≤(j:Int)∧Em aC t.rows j fun e61=>rI e61 cols∧0≤(i:Int)∧Lm aC out∧(i:Int)<(out.length:Int)∧Em aC out i fun e71=>fR ((fH e61 cols).1) e71∧Br ((cF ((fH e61 cols).1) e71)=0) (bO (z+1)∧bO ((j:Int)+1)∧ ∃(j' :Nat) (z' :Int),(z+1)=z' ∧((j:Int)+1)=(j' :Int)∧(j' ≤t.rows.length∧z' =iT ((kN t cols).take j') (out.getD i []))∧t.rows.length - j' <t.rows.length - j) (bO ((j:Int)+1)∧ ∃(j' :Nat) (z' :Int),z=z' ∧((j:Int)+1)=(j' :Int)∧(j' ≤t.rows.length∧z' =iT ((kN t cols).take j') (out.getD i []))∧t.rows.length - j' <t.rows.length - j)) (c.map intD=c.map intD∧[[.int .i64 z]]=([z]:List Int).map intD∧(∀x,bW (intD x)=true)∧(c.length+([z]:List Int).length)*8≤140737488355328∧bO ((i:Int)+1)∧ ∃(i' :Nat) (c' :List Int),((i:Int)+1)=(i' :Int)∧(c++[z]).map intD=c'.map intD∧(i' ≤out.length∧c' =(out.take i').map (iT (kN t cols)))∧out.length - i' <out.length - i)) (out.map aC=(eA t cols).1.map aC∧c.map intD=(eA t cols).2.map intD∧True)))) (by kernel_rfl) ?_
 intro n0 n1
 simp only[List.length_map] at n0 n1
 refine⟨aJd t _,dm (fun c0=>?_) fun c0=>?_⟩
 ·have hbad:(aX t&&dW (t.arity - 1) cols)=false:=by simpa using c0
  refine⟨?_,?_,trivial⟩<;>((rw[aC6 hbad]<;>rfl))
 ·have hok:(aX t&&dW (t.arity - 1) cols)=true:=by simpa using c0
  obtain⟨hs1,hs2⟩:=aG3 hok
  refine⟨⟨0,([]:List (List Int)),rfl,rfl,Nat.zero_le _,rfl⟩,fun k out ⟨hk,ho⟩=>?_⟩
  refine⟨List.length_map _,dd (fun c1=>?_) fun c1=>?_⟩
  ·have hp:=aLD (k:=k) hok
   rw[←ho] at hp
   refine⟨by omega,rfl,by omega,fun e35 h35=>?_⟩
   have hsl:=aGW e35 cols
   refine⟨aC4 _ _ (by omega),aMc out ((fH e35 cols).1) (by omega) (by omega) (by omega),⟨by omega,by omega⟩,?_⟩
   exact⟨k+1,_,rfl,rfl,⟨by omega,by rw[ho,bU (aLC h35),aCd]⟩,by omega⟩
  ·have hV:out=aOY t cols:=by rw[ho,List.take_of_length_le (by simp[kN];omega),sM];rfl
   have hp:=aLD (k:=k) hok
   rw[←ho] at hp
   refine⟨⟨0,([]:List Int),rfl,rfl,Nat.zero_le _,rfl⟩,fun i c ⟨hi,hc⟩=>?_⟩
   refine⟨List.length_map _,dd (fun c2=>?_) fun c2=>?_⟩
   ·obtain⟨g,hg⟩:=dE (l:=out) (k:=i) (by omega)
    refine⟨⟨0,0,rfl,rfl,Nat.zero_le _,rfl⟩,fun j z ⟨hj,hz⟩=>?_⟩
    refine⟨List.length_map _,dd (fun c3=>?_) fun c3=>?_⟩
    ·refine⟨by omega,rfl,by omega,fun e61 h61=>?_⟩
     refine⟨aC4 _ _ (by omega),by omega,List.length_map _,by omega,rfl,by omega,fun e71 h71=>?_⟩
     have hg71:out.getD i []=e71:=bQ h71
     refine⟨jF _ _,dd (fun c4=>?_) fun c4=>?_⟩
     ·have hcl:=aT1 ((kN t cols).take j) e71
      rw[←hg71,←hz] at hcl
      have hjl:((kN t cols).take j).length≤8:=by simp;omega
      refine⟨⟨by omega,by omega⟩,⟨by omega,by omega⟩,?_⟩
      exact⟨j+1,_,rfl,rfl,⟨by omega,by rw[hz,hg71,aPh (aLC h61) (eV.1 c4).symm]⟩,by omega⟩
     ·refine⟨⟨by omega,by omega⟩,?_⟩
      exact⟨j+1,_,rfl,rfl,⟨by omega,by rw[hz,hg71,aT0 (aLC h61) (fun q=>c4 (eV.2 q.symm))]⟩,by omega⟩
    ·refine⟨rfl,rfl,fun _=>rfl,by (rw[hc];simp;omega),?_⟩
     refine⟨⟨by omega,by omega⟩,?_⟩
     exact⟨i+1,_,rfl,rfl,⟨by omega,by rw[hc,hz,bU hg,bQ hg,List.map_append,List.take_of_length_le (l:=kN t cols) (i:=j) (by simp[kN];omega)];rfl⟩,by omega⟩
   ·have hC:c=aM9 t cols:=by rw[hc,List.take_of_length_le (by omega),hV];rfl
    refine⟨?_,?_,trivial⟩<;>(first|(rw[rK hok,hV]<;>rfl)|(rw[rK hok,hC]<;>rfl))
def fP (s:Int)(v:Nat):Bool:=decide (cI .and .i64 (s/2^v) 1=1)
def lI (s:Int)(k:Nat):List Int:=((List.range k).filter (fP s)).map fun v:Nat=>(v:Int)
def eK (s:Int):List Int:=lI s 3
theorem aD0 {s:Int}{k:Nat}(h:cI .and .i64 (s/2^k) 1=1):lI s (k+1)=lI s k++[(k:Int)]:=by
 rw[lI,List.range_succ,List.filter_append,List.map_append]
 simp[lI,fP,h]
theorem aG8 {s:Int}{k:Nat}(h: ¬cI .and .i64 (s/2^k) 1=1):lI s (k+1)=lI s k:=by
 rw[lI,List.range_succ,List.filter_append,List.map_append]
 simp[lI,fP,h]
theorem aQo {s:Int}{k:Nat}(hs:0≤s∧s≤7)(hk:k≤3)(h:s/2^k=0):lI s k=eK s:=by
 have h1:s=0∨s=1∨s=2∨s=3∨s=4∨s=5∨s=6∨s=7:=by omega
 have h2:k=0∨k=1∨k=2∨k=3:=by omega
 rcases h2 with rfl|rfl|rfl|rfl<;>rcases h1 with rfl|rfl|rfl|rfl|rfl|rfl|rfl|rfl<;>first|rfl|(revert h;decide)
theorem aWH {s:Int}{k:Nat}(hs:0≤s∧s≤7)(hk:k≤3)(h: ¬s/2^k=0):k<3:=by
 by_cases q:k=3
 ·subst q;omega
 ·omega
theorem tQ (s:Int)(k:Nat):(lI s k).length≤k:=by
 rw[lI,List.length_map]
 have:=(List.filter_sublist (l:=List.range k) (p:=fP s)).length_le
 rw[List.length_range] at this
 exact this
theorem qO {n:Int}(h:1≤n∧n≤3):2≤(2:Int)^n.toNat∧(2:Int)^n.toNat≤8:=by
 have:n=1∨n=2∨n=3:=by omega
 rcases this with rfl | rfl | rfl<;>decide
def rL (k:Nat):List (List Int):=(List.range k).map fun i=>eK ((i+1:Nat):Int)
def bY (n:Int):List (List Int):=rL ((2:Int)^n.toNat - 1).toNat
theorem aG9 (k:Nat):rL (k+1)=rL k++[eK ((k+1:Nat):Int)]:=by rw[rL,List.range_succ,List.map_append];rfl
abbrev sN (s:Int):AV × List (Nat × Rs):=(.own 0,[(0,.arr 3 1 true ((eK s).map intD))])
abbrev yJ (s:Int):Prop:=cH Tryz.prog 206 [.one (.int .i64 s)] (sN s).1 (sN s).2
theorem aJk (s:Int)(hs:0≤s∧s≤7):yJ s:=by
 refine aW bH aO Tryz.func206 (by kernel_rfl) (.loop (Nat × (List Int)) (Q2 Nat (List Int)) (rg 3 18) [500,1900,2000] (fun yy0=>[(4,vI (yy0.1:Int)),(3,.own 500)]) (fun yy0=>[(500,some (.arr 3 1 true (yy0.2.map intD)))]) (fun yy0=>yy0.1≤3∧yy0.2=lI s yy0.1) (fun yy0=>3 - yy0.1) (fun yy0=> .br (.br (.app Int intD yy0.2 ([(yy0.1:Int)]:List Int)<| .back [(500,2000)]) (.back [(500,500)])) (.fin [(0,500)]))) (p:=(∃(k:Nat) (out:List Int),0=(k:Int)∧[]=out.map intD∧k≤3∧out=lI s k)∧ ∀(k:Nat) (out:List Int),(k≤3∧out=lI s k)→(0≤(k:Int)∧(k:Int)≤64)∧Nb ((s/2^k)=0) ((0≤(k:Int)∧(k:Int)≤64)∧Br ((cI .and .i64 (s/2^k) (1:Int))=1) (out.map intD=out.map intD∧[[.int .i64 (k:Int)]]=([(k:Int)]:List Int).map intD∧(∀x,bW (intD x)=true)∧(out.length+([(k:Int)]:List Int).length)*8≤140737488355328∧bO ((k:Int)+1)∧ ∃(k' :Nat) (out' :List Int),((k:Int)+1)=(k' :Int)∧(out++[(k:Int)]).map intD=out'.map intD∧(k' ≤3∧out' =lI s k')∧3 - k' <3 - k) (bO ((k:Int)+1)∧ ∃(k' :Nat) (out' :List Int),((k:Int)+1)=(k' :Int)∧out.map intD=out'.map intD∧(k' ≤3∧out' =lI s k')∧3 - k' <3 - k)) (out.map intD=(eK s).map intD∧True)) (by kernel_rfl) ?_
 refine⟨⟨0,([]:List Int),rfl,rfl,by omega,rfl⟩,fun k out ⟨hk,ho⟩=>?_⟩
 refine⟨⟨by omega,by omega⟩,dn (fun c0=>?_) fun c0=>?_⟩
 ·have hk3:=aWH hs hk c0
  have hln:=tQ s k
  refine⟨⟨by omega,by omega⟩,dd (fun c1=>?_) fun c1=>?_⟩
  ·refine⟨rfl,rfl,fun _=>rfl,by (simp[ho];omega),?_⟩
   refine⟨⟨by omega,by omega⟩,?_⟩
   exact⟨k+1,_,rfl,rfl,⟨by omega,by (rw[ho,aD0 c1];done)⟩,by omega⟩
  ·refine⟨⟨by omega,by omega⟩,?_⟩
   exact⟨k+1,_,rfl,rfl,⟨by omega,by (rw[ho,aG8 c1];done)⟩,by omega⟩
 ·refine⟨?_,trivial⟩
  ·(rw[ho];exact congrArg _ (aQo hs hk c0))
abbrev sO (s:Int):AV × List (Nat × Rs):=(.own 0,[(0,.arr 3 1 true ((eK s).map intD))])
abbrev yK (s:Int):Prop:=cH Tryz.prog 200 [.one (.int .i64 s)] (sO s).1 (sO s).2
theorem aJl (s:Int)(hs:0≤s∧s≤7):yK s:=by
 refine aW bH aO Tryz.func200 (by kernel_rfl) (.loop (Nat × (List Int)) (Q2 Nat (List Int)) (rg 3 16) [500,1700,1800] (fun yy0=>[(4,vI (yy0.1:Int)),(3,.own 500)]) (fun yy0=>[(500,some (.arr 3 1 true (yy0.2.map intD)))]) (fun yy0=>yy0.1≤3∧yy0.2=lI s yy0.1) (fun yy0=>3 - yy0.1) (fun yy0=> .br (.br (.app Int intD yy0.2 ([(yy0.1:Int)]:List Int)<| .back [(500,1800)]) (.back [(500,500)])) (.fin [(0,500)]))) (p:=(∃(k:Nat) (out:List Int),0=(k:Int)∧[]=out.map intD∧k≤3∧out=lI s k)∧ ∀(k:Nat) (out:List Int),(k≤3∧out=lI s k)→Br ((k:Int)<3) ((0≤(k:Int)∧(k:Int)≤64)∧Br ((cI .and .i64 (s/2^k) (1:Int))=1) (out.map intD=out.map intD∧[[.int .i64 (k:Int)]]=([(k:Int)]:List Int).map intD∧(∀x,bW (intD x)=true)∧(out.length+([(k:Int)]:List Int).length)*8≤140737488355328∧bO ((k:Int)+1)∧ ∃(k' :Nat) (out' :List Int),((k:Int)+1)=(k' :Int)∧(out++[(k:Int)]).map intD=out'.map intD∧(k' ≤3∧out' =lI s k')∧3 - k' <3 - k) (bO ((k:Int)+1)∧ ∃(k' :Nat) (out' :List Int),((k:Int)+1)=(k' :Int)∧out.map intD=out'.map intD∧(k' ≤3∧out' =lI s k')∧3 - k' <3 - k)) (out.map intD=(eK s).map intD∧True)) (by kernel_rfl) ?_
 refine⟨⟨0,([]:List Int),rfl,rfl,by omega,rfl⟩,fun k out ⟨hk,ho⟩=>?_⟩
 refine dd (fun c0=>?_) fun c0=>?_
 ·skip
  have hln:=tQ s k
  refine⟨⟨by omega,by omega⟩,dd (fun c1=>?_) fun c1=>?_⟩
  ·refine⟨rfl,rfl,fun _=>rfl,by (simp[ho];omega),?_⟩
   refine⟨⟨by omega,by omega⟩,?_⟩
   exact⟨k+1,_,rfl,rfl,⟨by omega,by (rw[ho,aD0 c1];done)⟩,by omega⟩
  ·refine⟨⟨by omega,by omega⟩,?_⟩
   exact⟨k+1,_,rfl,rfl,⟨by omega,by (rw[ho,aG8 c1];done)⟩,by omega⟩
 ·refine⟨?_,trivial⟩
  ·(rw[ho];exact congrArg _ (by rw[eK,show 3=k by omega]))
abbrev yL (n:Int):AV × List (Nat × Rs):=(.own 0,[(0,.arr 91 1 true ((bY n).map aC))])
abbrev aEB (n:Int):Prop:=cH Tryz.prog 227 [.one (.int .i64 n)] (yL n).1 (yL n).2
theorem aQp (n:Int)(hn:1≤n∧n≤3):aEB n:=by
 refine aW bH aO Tryz.func227 (by kernel_rfl) (.call (vB (eI n (1:Int) (3:Int))) []<| .br (.fin []) (.loop (Nat × (List (List Int))) (Q2 Nat (List (List Int))) ([3,4]++rg 8 12) [800,1700,1800,1900] (fun yy0=>[(4,vI ((yy0.1+1:Nat):Int)),(3,.own 800)]) (fun yy0=>[(800,some (.arr 91 1 true (yy0.2.map aC)))]) (fun yy0=>yy0.1≤((2:Int)^n.toNat - 1).toNat∧yy0.2=rL yy0.1) (fun yy0=>((2:Int)^n.toNat - 1).toNat - yy0.1) (fun yy0=> .br (bL (sN ((yy0.1+1:Nat):Int))<| .appx (List Int) aC yy0.2 (eK ((yy0.1+1:Nat):Int))<| .back [(800,1900)]) (.fin [(0,800)])))) (p:=eW n (1:Int) (3:Int)∧Nr (eI n (1:Int) (3:Int)) ([]=(bY n).map aC∧True) ((∃(k:Nat) (out:List (List Int)),1=((k+1:Nat):Int)∧[]=out.map aC∧k≤((2:Int)^n.toNat - 1).toNat∧out=rL k)∧ ∀(k:Nat) (out:List (List Int)),(k≤((2:Int)^n.toNat - 1).toNat∧out=rL k)→(0≤n∧n≤64)∧bO ((1:Int)*2^(Int.toNat n))∧Br (((k+1:Nat):Int)<((1:Int)*2^(Int.toNat n))) (yJ ((k+1:Nat):Int)∧out.map aC=out.map aC∧(eK ((k+1:Nat):Int)).map intD=(eK ((k+1:Nat):Int)).map intD∧(out.length+1)*24≤140737488355328∧bO (((k+1:Nat):Int)+1)∧ ∃(k' :Nat) (out' :List (List Int)),(((k+1:Nat):Int)+1)=((k' +1:Nat):Int)∧(out++[eK ((k+1:Nat):Int)]).map aC=out'.map aC∧(k' ≤((2:Int)^n.toNat - 1).toNat∧out' =rL k')∧((2:Int)^n.toNat - 1).toNat - k' <((2:Int)^n.toNat - 1).toNat - k) (out.map aC=(bY n).map aC∧True))) (by kernel_rfl) ?_
 have hb:=qO hn
 have hin:eI n 1 3=true:=pX hn.1 hn.2
 refine⟨iV _ _ _,dm (fun c0=>?_) fun c0=>?_⟩
 ·refine⟨?_,trivial⟩
  ·(exfalso;simp[hin] at c0;done)
 ·refine⟨⟨0,([]:List (List Int)),rfl,rfl,Nat.zero_le _,rfl⟩,fun k out ⟨hk,ho⟩=>?_⟩
  refine⟨⟨by omega,by omega⟩,⟨by omega,by omega⟩,dd (fun c1=>?_) fun c1=>?_⟩
  ·refine⟨aJk ((k+1:Nat):Int) (by omega),rfl,rfl,by (simp[ho,rL];omega),⟨by omega,by omega⟩,?_⟩
   exact⟨(k+1),_,rfl,rfl,⟨by omega,by rw[ho,aG9]⟩,by omega⟩
  ·refine⟨?_,trivial⟩
   ·(rw[ho,bY];congr 2;omega)
abbrev yM (n:Int):AV × List (Nat × Rs):=(.own 0,[(0,.arr 91 1 true ((bY n).map aC))])
abbrev aEC (n:Int):Prop:=cH Tryz.prog 219 [.one (.int .i64 n)] (yM n).1 (yM n).2
theorem aQq (n:Int)(hn:1≤n∧n≤3):aEC n:=by
 refine aW bH aO Tryz.func219 (by kernel_rfl) (.loop (Nat × (List (List Int))) (Q2 Nat (List (List Int))) (rg 3 18) [500,1800,1900,2000] (fun yy0=>[(4,vI ((yy0.1+1:Nat):Int)),(3,.own 500)]) (fun yy0=>[(500,some (.arr 91 1 true (yy0.2.map aC)))]) (fun yy0=>yy0.1≤((2:Int)^n.toNat - 1).toNat∧yy0.2=rL yy0.1) (fun yy0=>((2:Int)^n.toNat - 1).toNat - yy0.1) (fun yy0=> .call (vB (eI n (1:Int) (3:Int))) []<| .br (.lit<| .lit<| .lit<| .lit<| .br (bL (sO ((yy0.1+1:Nat):Int))<| .appx (List Int) aC yy0.2 (eK ((yy0.1+1:Nat):Int))<| .back [(500,2000)]) (.fin [(0,500)])) (.fin [(0,500)]))) (p:=(∃(k:Nat) (out:List (List Int)),1=((k+1:Nat):Int)∧[]=out.map aC∧k≤((2:Int)^n.toNat - 1).toNat∧out=rL k)∧ ∀(k:Nat) (out:List (List Int)),(k≤((2:Int)^n.toNat - 1).toNat∧out=rL k)→eX n (1:Int) (3:Int)∧Bb (eI n (1:Int) (3:Int)) ((0≤n∧n≤64)∧bO ((1:Int)*2^(Int.toNat n))∧Br (((k+1:Nat):Int)<((1:Int)*2^(Int.toNat n))) (yK ((k+1:Nat):Int)∧out.map aC=out.map aC∧(eK ((k+1:Nat):Int)).map intD=(eK ((k+1:Nat):Int)).map intD∧(out.length+1)*24≤140737488355328∧bO (((k+1:Nat):Int)+1)∧ ∃(k' :Nat) (out' :List (List Int)),(((k+1:Nat):Int)+1)=((k' +1:Nat):Int)∧(out++[eK ((k+1:Nat):Int)]).map aC=out'.map aC∧(k' ≤((2:Int)^n.toNat - 1).toNat∧out' =rL k')∧((2:Int)^n.toNat - 1).toNat - k' <((2:Int)^n.toNat - 1).toNat - k) (out.map aC=(bY n).map aC∧True)) (out.map aC=(bY n).map aC∧True)) (by kernel_rfl) ?_
 have hb:=qO hn
 have hin:eI n 1 3=true:=pX hn.1 hn.2
 refine⟨⟨0,([]:List (List Int)),rfl,rfl,Nat.zero_le _,rfl⟩,fun k out ⟨hk,ho⟩=>?_⟩
 refine⟨iW _ _ _,db (fun g8=>?_) fun g8=>?_⟩
 ·refine⟨⟨by omega,by omega⟩,⟨by omega,by omega⟩,dd (fun c0=>?_) fun c0=>?_⟩
  ·refine⟨aJl ((k+1:Nat):Int) (by omega),rfl,rfl,by (simp[ho,rL];omega),⟨by omega,by omega⟩,?_⟩
   exact⟨(k+1),_,rfl,rfl,⟨by omega,by rw[ho,aG9]⟩,by omega⟩
  ·refine⟨?_,trivial⟩
   ·(rw[ho,bY];congr 2;omega)
 ·refine⟨?_,trivial⟩
  ·(exfalso;simp[hin] at*;done)
def tR (t:bA)(cols:List Int):aR:=⟨cols,(eA t cols).1,(eA t cols).2⟩
def bK (t:bA):aM:=if aX t=true then ⟨t.name,t.arity,(t.rows.length:Nat),(bY t.arity).map (tR t)⟩ else dQ
theorem kD {t:bA}(h:aX t=true):bK t=⟨t.name,t.arity,(t.rows.length:Nat),(bY t.arity).map (tR t)⟩:=by rw[bK,if_pos h]
theorem aBR {t:bA}(h:aX t=false):bK t=dQ:=by rw[bK,if_neg (by rw[h];decide)]
theorem aPi {α:Type}{l:List α}{k:Nat}(h:k<l.length):l.drop k≠[]:=fun e=>by
 have:=congrArg List.length e
 simp at this
 omega
theorem aPj {α:Type}{l l2:List α}{k:Nat}{x:α}(h:l.drop k=x::l2):l2=l.drop (k+1):=by rw[←List.tail_drop,h];rfl
theorem aPk {α:Type}{l l2:List α}{k:Nat}{x:α}(h:l.drop k=x::l2):l[k]? =some x:=by
 have:=congrArg List.head? h
 simpa [List.head?_drop] using this
theorem aBS {n:Int}{k:Nat}{x:List Int}(h:(bY n)[k]? =some x):x.length≤3:=by
 obtain⟨i,_,rfl⟩:=List.mem_map.1 (List.mem_of_getElem? h)
 exact tQ _ 3
theorem yN {n:Int}(h:1≤n∧n≤3):(bY n).length≤7:=by
 have:=qO h
 simp only[bY,rL,List.length_map,List.length_range]
 omega
abbrev aA2 (t:bA):AV × List (Nat × Rs):=(.agg [.p none (.str ((bK t).name)),vI ((bK t).arity),vI ((bK t).rowCount),.own 0],[(0,.arr 220 3 true ((bK t).groups.map aD))])
abbrev aD1 (t:bA):Prop:=cH Tryz.prog 186 [.agg [.str t.name,.int .i64 t.arity,.sl 91 1 (t.rows.map aC)]] (aA2 t).1 (aA2 t).2
theorem aLE (t:bA):aD1 t:=by
 refine aW bH aO Tryz.func186 (by kernel_rfl) (.call (vB (aX t)) []<| .br (.fin []) (.len t.rows.length<| bL (yL t.arity)<| .len ((bY t.arity).length)<| .loop (Nat × (List (List Int)) × (List aR)) (Q3 Nat (List (List Int)) (List aR)) ([5,6,7]++rg 24 20) [300,2200,3100,3101,4000,4100,9000,50607] (fun yy0=>[(24,vI (yy0.1:Int))]) (fun yy0=>[(300,some (.box 88 [.p none (.str t.name),vI t.arity,vI (t.rows.length:Int),.own 9000])),(9000,some (.arr 220 3 true (yy0.2.2.map aD))),(2200,some (.arr 91 1 true (List.replicate yy0.1 [bT.gone]++yy0.2.1.map aC)))]) (fun yy0=>yy0.1≤(bY t.arity).length∧yy0.2.1=(bY t.arity).drop yy0.1∧yy0.2.2=((bY t.arity).take yy0.1).map (tR t)) (fun yy0=>(bY t.arity).length - yy0.1) (fun yy0=> .br (.takeg 6 2200 yy0.1 50607 (List Int) aC yy0.2.1 (fun x6 l6=> .len (yy0.1+(l6.length+1))<| .leave 7 2200 yy0.1 50607 (List Int) aC x6 l6 (bL (uX t x6)<| .appx aR aD yy0.2.2 (⟨x6,(eA t x6).1,(eA t x6).2⟩:aR)<| .back [(300,300),(2200,2200),(9000,4100)]))) (.fin [(0,9000)])))) (p:=(t.rows.map aC).length≤9223372036854775807→rG t∧Nr (aX t) (ByteArray.empty=((bK t).name)∧0=((bK t).arity)∧0=((bK t).rowCount)∧[]=(bK t).groups.map aD∧True) (Lm aC t.rows∧(aEB t.arity∧(Lm aC (bY t.arity)∧((∃(k:Nat) (l2:List (List Int)) (out:List aR),0=(k:Int)∧t.name=t.name∧t.arity=t.arity∧(t.rows.length:Int)=(t.rows.length:Int)∧[]=out.map aD∧(bY t.arity).map aC=List.replicate k [bT.gone]++l2.map aC∧k≤(bY t.arity).length∧l2=(bY t.arity).drop k∧out=((bY t.arity).take k).map (tR t))∧ ∀(k:Nat) (l2:List (List Int)) (out:List aR),(k≤(bY t.arity).length∧l2=(bY t.arity).drop k∧out=((bY t.arity).take k).map (tR t))→Br ((k:Int)<(((bY t.arity).length:Nat):Int)) (List.replicate k [bT.gone]++l2.map aC=List.replicate k [bT.gone]++l2.map aC∧l2≠[]∧ ∀x6 l6,l2=x6::l6→0≤(k:Int)∧(List.replicate k [bT.gone]++(x6::l6).map aC).length=k+(l6.length+1)∧(k:Int)<((k+(l6.length+1):Nat):Int)∧k=k∧List.replicate k [bT.gone]++(x6::l6).map aC=List.replicate k [bT.gone]++(x6::l6).map aC∧k=k∧aBO t x6∧out.map aD=out.map aD∧x6.map intD=(⟨x6,(eA t x6).1,(eA t x6).2⟩:aR).columns.map intD∧(eA t x6).1.map aC=(⟨x6,(eA t x6).1,(eA t x6).2⟩:aR).values.map aC∧(eA t x6).2.map intD=(⟨x6,(eA t x6).1,(eA t x6).2⟩:aR).counts.map intD∧(out.length+1)*72≤140737488355328∧bO ((k:Int)+1)∧ ∃(k' :Nat) (l2' :List (List Int)) (out' :List aR),((k:Int)+1)=(k' :Int)∧t.name=t.name∧t.arity=t.arity∧(t.rows.length:Int)=(t.rows.length:Int)∧(out++[(⟨x6,(eA t x6).1,(eA t x6).2⟩:aR)]).map aD=out'.map aD∧List.replicate (k+1) [bT.gone]++l6.map aC=List.replicate k' [bT.gone]++l2'.map aC∧(k' ≤(bY t.arity).length∧l2' =(bY t.arity).drop k' ∧out' =((bY t.arity).take k').map (tR t))∧(bY t.arity).length - k' <(bY t.arity).length - k) (t.name=((bK t).name)∧t.arity=((bK t).arity)∧(t.rows.length:Int)=((bK t).rowCount)∧out.map aD=(bK t).groups.map aD∧True)))))) (by kernel_rfl) ?_
 intro n0
 simp only[List.length_map] at n0
 refine⟨yE t,dm (fun c0=>?_) fun c0=>?_⟩
 ·have hbad:aX t=false:=by simpa using c0
  refine⟨?_,?_,?_,?_,trivial⟩<;>((rw[aBR hbad]<;>rfl))
 ·have hok:aX t=true:=by simpa using c0
  have hT:=cE hok
  have hn:=yN (n:=t.arity) ⟨hT.1,hT.2.1⟩
  refine⟨List.length_map _,aQp t.arity (by omega),List.length_map _,⟨0,bY t.arity,([]:List aR),rfl,rfl,rfl,rfl,rfl,rfl,Nat.zero_le _,rfl,rfl⟩,fun k l2 out ⟨hk,hl,ho⟩=>?_⟩
  have hlen:l2.length=(bY t.arity).length - k:=by rw[hl,List.length_drop]
  refine dd (fun c1=>?_) fun c1=>?_
  ·refine⟨rfl,(by rw[hl];exact aPi (by omega)),fun x6 l6 t6=>?_⟩
   have hdx:=hl.symm.trans t6
   have hx:=aPk hdx
   have hx3:=aBS hx
   refine⟨by omega,by simp,by omega,rfl,rfl,rfl,aMa t x6 (by omega),rfl,rfl,rfl,rfl,by (simp[ho];omega),⟨by omega,by omega⟩,?_⟩
   exact⟨k+1,_,_,rfl,rfl,rfl,rfl,rfl,rfl,⟨by omega,aPj hdx,by rw[ho,bU hx,List.map_append];rfl⟩,by omega⟩
  ·refine⟨?_,?_,?_,?_,trivial⟩<;>(first|(rw[kD hok]<;>rfl)|(rw[kD hok,ho,List.take_of_length_le (by omega)]))
abbrev aA3 (t:bA):AV × List (Nat × Rs):=(.agg [.p none (.str ((bK t).name)),vI ((bK t).arity),vI ((bK t).rowCount),.own 0],[(0,.arr 220 3 true ((bK t).groups.map aD))])
abbrev aD2 (t:bA):Prop:=cH Tryz.prog 178 [.agg [.str t.name,.int .i64 t.arity,.sl 91 1 (t.rows.map aC)]] (aA3 t).1 (aA3 t).2
theorem aPl (t:bA):aD2 t:=by
 refine aW bH aO Tryz.func178 (by kernel_rfl) (.call (vB (aX t)) []<| .br (.fin []) (.len t.rows.length<| bL (yM t.arity)<| .loop (Nat × (List (List Int)) × (List aR)) (Q3 Nat (List (List Int)) (List aR)) ([5,6,7]++rg 23 27) [300,2200,3500,3501,4700,4800,9000,50807] (fun yy0=>[(5,vI (yy0.1:Int))]) (fun yy0=>[(300,some (.box 88 [.p none (.str t.name),vI t.arity,vI (t.rows.length:Int),.own 9000])),(9000,some (.arr 220 3 true (yy0.2.2.map aD))),(2200,some (.arr 91 1 true (List.replicate yy0.1 [bT.gone]++yy0.2.1.map aC)))]) (fun yy0=>yy0.1≤(bY t.arity).length∧yy0.2.1=(bY t.arity).drop yy0.1∧yy0.2.2=((bY t.arity).take yy0.1).map (tR t)) (fun yy0=>(bY t.arity).length - yy0.1) (fun yy0=> .len (yy0.1+yy0.2.1.length)<| .br (.takeg 8 2200 yy0.1 50807 (List Int) aC yy0.2.1 (fun x8 l8=> .len (yy0.1+(l8.length+1))<| bL (aBQ t x8)<| .len (yy0.1+(l8.length+1))<| .appx aR aD yy0.2.2 (⟨x8,(eA t x8).1,(eA t x8).2⟩:aR)<| .leave 7 2200 yy0.1 50807 (List Int) aC x8 l8 (.back [(300,300),(2200,2200),(9000,4800)]))) (.fin [(0,9000)])))) (p:=(t.rows.map aC).length≤9223372036854775807→oI t∧Nr (aX t) (ByteArray.empty=((bK t).name)∧0=((bK t).arity)∧0=((bK t).rowCount)∧[]=(bK t).groups.map aD∧True) (Lm aC t.rows∧(aEC t.arity∧((∃(k:Nat) (l2:List (List Int)) (out:List aR),0=(k:Int)∧t.name=t.name∧t.arity=t.arity∧(t.rows.length:Int)=(t.rows.length:Int)∧[]=out.map aD∧(bY t.arity).map aC=List.replicate k [bT.gone]++l2.map aC∧k≤(bY t.arity).length∧l2=(bY t.arity).drop k∧out=((bY t.arity).take k).map (tR t))∧ ∀(k:Nat) (l2:List (List Int)) (out:List aR),(k≤(bY t.arity).length∧l2=(bY t.arity).drop k∧out=((bY t.arity).take k).map (tR t))→(List.replicate k [bT.gone]++l2.map aC).length=k+l2.length∧Br ((k:Int)<((k+l2.length:Nat):Int)) (List.replicate k [bT.gone]++l2.map aC=List.replicate k [bT.gone]++l2.map aC∧l2≠[]∧ ∀x8 l8,l2=x8::l8→0≤(k:Int)∧(List.replicate k [bT.gone]++(x8::l8).map aC).length=k+(l8.length+1)∧(k:Int)<((k+(l8.length+1):Nat):Int)∧k=k∧aG7 t x8∧0≤(k:Int)∧(List.replicate k [bT.gone]++(x8::l8).map aC).length=k+(l8.length+1)∧(k:Int)<((k+(l8.length+1):Nat):Int)∧k=k∧out.map aD=out.map aD∧x8.map intD=(⟨x8,(eA t x8).1,(eA t x8).2⟩:aR).columns.map intD∧(eA t x8).1.map aC=(⟨x8,(eA t x8).1,(eA t x8).2⟩:aR).values.map aC∧(eA t x8).2.map intD=(⟨x8,(eA t x8).1,(eA t x8).2⟩:aR).counts.map intD∧(out.length+1)*72≤140737488355328∧List.replicate k [bT.gone]++(x8::l8).map aC=List.replicate k [bT.gone]++(x8::l8).map aC∧k=k∧bO ((k:Int)+1)∧ ∃(k' :Nat) (l2' :List (List Int)) (out' :List aR),((k:Int)+1)=(k' :Int)∧t.name=t.name∧t.arity=t.arity∧(t.rows.length:Int)=(t.rows.length:Int)∧(out++[(⟨x8,(eA t x8).1,(eA t x8).2⟩:aR)]).map aD=out'.map aD∧List.replicate (k+1) [bT.gone]++l8.map aC=List.replicate k' [bT.gone]++l2'.map aC∧(k' ≤(bY t.arity).length∧l2' =(bY t.arity).drop k' ∧out' =((bY t.arity).take k').map (tR t))∧(bY t.arity).length - k' <(bY t.arity).length - k) (t.name=((bK t).name)∧t.arity=((bK t).arity)∧(t.rows.length:Int)=((bK t).rowCount)∧out.map aD=(bK t).groups.map aD∧True))))) (by kernel_rfl) ?_
 intro n0
 simp only[List.length_map] at n0
 refine⟨yF t,dm (fun c0=>?_) fun c0=>?_⟩
 ·have hbad:aX t=false:=by simpa using c0
  refine⟨?_,?_,?_,?_,trivial⟩<;>((rw[aBR hbad]<;>rfl))
 ·have hok:aX t=true:=by simpa using c0
  have hT:=cE hok
  have hn:=yN (n:=t.arity) ⟨hT.1,hT.2.1⟩
  refine⟨List.length_map _,aQq t.arity (by omega),⟨0,bY t.arity,([]:List aR),rfl,rfl,rfl,rfl,rfl,rfl,Nat.zero_le _,rfl,rfl⟩,fun k l2 out ⟨hk,hl,ho⟩=>?_⟩
  have hlen:l2.length=(bY t.arity).length - k:=by rw[hl,List.length_drop]
  refine⟨by simp,dd (fun c1=>?_) fun c1=>?_⟩
  ·refine⟨rfl,(by rw[hl];exact aPi (by omega)),fun x8 l8 t8=>?_⟩
   have hdx:=hl.symm.trans t8
   have hx:=aPk hdx
   have hx3:=aBS hx
   refine⟨by omega,by simp,by omega,rfl,aTa t x8 (by omega),by omega,by simp,by omega,rfl,rfl,rfl,rfl,rfl,by (simp[ho];omega),rfl,rfl,⟨by omega,by omega⟩,?_⟩
   exact⟨k+1,_,_,rfl,rfl,rfl,rfl,rfl,rfl,⟨by omega,aPj hdx,by rw[ho,bU hx,List.map_append];rfl⟩,by omega⟩
  ·refine⟨?_,?_,?_,?_,trivial⟩<;>(first|(rw[kD hok]<;>rfl)|(rw[kD hok,ho,List.take_of_length_le (by omega)]))
abbrev aBT (x:aM):AV × List (Nat × Rs):=(.agg [.p none (.str x.name),vI x.arity,vI x.rowCount,.own 0],[(0,.arr 220 3 true (x.groups.map aD))])
abbrev aGa (x:aM):Prop:=cH Tryz.prog 205 [.agg [.str x.name,.int .i64 x.arity,.int .i64 x.rowCount,.sl 220 3 (x.groups.map aD)]] (aBT x).1 (aBT x).2
theorem aTb (x:aM)(hc:bI x≤1048576):aGa x:=by
 refine aW bH aO Tryz.func205 (by kernel_rfl) (.len x.groups.length<| .loop (Nat × (List aR)) (Q2 Nat (List aR)) ([3,5,6]++rg 10 18) [500,600,1700,2000,2300,2500,2600] (fun yy0=>[(3,.own 600),(10,vI (yy0.1:Int))]) (fun yy0=>[(600,some (.arr 220 3 true (yy0.2.map aD)))]) (fun yy0=>yy0.1≤x.groups.length∧yy0.2=x.groups.take yy0.1) (fun yy0=>x.groups.length - yy0.1) (fun yy0=> .br (.elem _ aD x.groups (fun e12=>bL (aDy e12.columns)<| bL (aJe e12.values)<| bL (aDy e12.counts)<| .appx aR aD yy0.2 e12<| .back [(600,2600)])) (.fin [(0,600)]))) (p:=(x.groups.map aD).length≤9223372036854775807→Lm aD x.groups∧((∃(k:Nat) (out:List aR),0=(k:Int)∧[]=out.map aD∧k≤x.groups.length∧out=x.groups.take k)∧ ∀(k:Nat) (out:List aR),(k≤x.groups.length∧out=x.groups.take k)→Br ((k:Int)<(x.groups.length:Int)) (0≤(k:Int)∧Em aD x.groups k fun e12=>aGY e12.columns∧aM0 e12.values∧aGY e12.counts∧out.map aD=out.map aD∧e12.columns.map intD=e12.columns.map intD∧e12.values.map aC=e12.values.map aC∧e12.counts.map intD=e12.counts.map intD∧(out.length+1)*72≤140737488355328∧bO ((k:Int)+1)∧ ∃(k' :Nat) (out' :List aR),((k:Int)+1)=(k' :Int)∧(out++[e12]).map aD=out'.map aD∧(k' ≤x.groups.length∧out' =x.groups.take k')∧x.groups.length - k' <x.groups.length - k) (x.name=x.name∧x.arity=x.arity∧x.rowCount=x.rowCount∧out.map aD=x.groups.map aD∧True))) (by kernel_rfl) ?_
 intro n0
 simp only[List.length_map] at n0
 have q2:bI x=x.name.size+dP x.groups:=rfl
 have q5:=gI x.groups
 refine⟨List.length_map _,⟨0,([]:List aR),rfl,rfl,Nat.zero_le _,rfl⟩,fun k out ⟨hk,ho⟩=>?_⟩
 refine dd (fun c0=>?_) fun c0=>?_
 ·refine⟨by omega,rfl,by omega,fun e12 h12=>?_⟩
  have q1:=hZ h12
  have q3:cA e12=cG e12.columns+cT e12.values+cG e12.counts:=rfl
  have q6:cG e12.columns=e12.columns.length:=rfl
  have q7:cG e12.counts=e12.counts.length:=rfl
  have q8:=fJ e12.values
  refine⟨cpI _ (by omega),cpR _ (by omega),cpI _ (by omega),rfl,rfl,rfl,rfl,by simp[ho];omega,⟨by omega,by omega⟩,?_⟩
  exact⟨k+1,out++[e12],rfl,rfl,⟨by omega,by rw[ho,bU h12]⟩,by omega⟩
 ·refine⟨rfl,rfl,rfl,?_,trivial⟩
  ·rw[ho,List.take_of_length_le (by omega)]
def lC (x:aM):List (List Int):=(x.groups.getD (x.groups.length - 1) eL).values
def dU (x:aM):bA:=⟨x.name,x.arity,lC x⟩
def cN (x:aM):Bool:=aX (dU x)&&decide (bK (dU x)=x)
theorem aMf {x:aM}{g:aR}(h:x.groups[x.groups.length - 1]? =some g):lC x=g.values:=by rw[lC,bQ h]
theorem aQr {x:aM}(h:x.groups.length=0):lC x= []:=by
 rw[lC,List.length_eq_zero_iff.1 h];rfl
abbrev qJ (x:aM):AV × List (Nat × Rs):=(.tup [.agg [.p none (.str ((dU x).name)),vI ((dU x).arity),.own 0],vB (cN x)],[(0,.arr 91 1 true ((dU x).rows.map aC))])
abbrev uZ (x:aM):Prop:=cH Tryz.prog 240 [.agg [.str x.name,.int .i64 x.arity,.int .i64 x.rowCount,.sl 220 3 (x.groups.map aD)]] (qJ x).1 (qJ x).2
theorem aGb (x:aM)(hc:bI x≤1048576):uZ x:=by
 refine aW bH aO Tryz.func240 (by kernel_rfl) (.len x.groups.length<| .br (.elem _ aD x.groups (fun e20=>bL (aJe e20.values)<| .call (vB (aX (⟨x.name,x.arity,e20.values⟩:bA))) []<| .br (bL (aA2 (⟨x.name,x.arity,e20.values⟩:bA))<| .call (vB (decide ((bK (⟨x.name,x.arity,e20.values⟩:bA))=x))) []<| .fin [(0,2300)]) (.fin [(0,2300)]))) (.call (vB (aX (⟨x.name,x.arity,([]:List (List Int))⟩:bA))) []<| .br (.call (.agg [.p none (.str ((bK (⟨x.name,x.arity,([]:List (List Int))⟩:bA)).name)),vI ((bK (⟨x.name,x.arity,([]:List (List Int))⟩:bA)).arity),vI ((bK (⟨x.name,x.arity,([]:List (List Int))⟩:bA)).rowCount),.own 0]) [(0,.arr 220 3 true (((bK (⟨x.name,x.arity,([]:List (List Int))⟩:bA)).groups).map aD))]<| .call (vB (decide ((bK (⟨x.name,x.arity,([]:List (List Int))⟩:bA))=x))) []<| .fin []) (.fin []))) (p:=(x.groups.map aD).length≤9223372036854775807→Lm aD x.groups∧Br (0<(x.groups.length:Int)) (bO ((x.groups.length:Int) - 1)∧0≤((x.groups.length:Int) - 1)∧Em aD x.groups (((x.groups.length:Int) - 1).toNat) fun e20=>aM0 e20.values∧rG (⟨x.name,x.arity,e20.values⟩:bA)∧Bb (aX (⟨x.name,x.arity,e20.values⟩:bA)) (aD1 (⟨x.name,x.arity,e20.values⟩:bA)∧nJ (bK (⟨x.name,x.arity,e20.values⟩:bA)) x∧x.name=((dU x).name)∧x.arity=((dU x).arity)∧(decide ((bK (⟨x.name,x.arity,e20.values⟩:bA))=x))=(cN x)∧e20.values.map aC=(dU x).rows.map aC∧True) (x.name=((dU x).name)∧x.arity=((dU x).arity)∧(false)=(cN x)∧e20.values.map aC=(dU x).rows.map aC∧True)) (cH Tryz.prog 194 [.agg [.str x.name,.int .i64 x.arity,.sl 0 1 ([])]] (vB (aX (⟨x.name,x.arity,([]:List (List Int))⟩:bA))) []∧Bb (aX (⟨x.name,x.arity,([]:List (List Int))⟩:bA)) (cH Tryz.prog 186 [.agg [.str x.name,.int .i64 x.arity,.sl 0 1 ([])]] (.agg [.p none (.str ((bK (⟨x.name,x.arity,([]:List (List Int))⟩:bA)).name)),vI ((bK (⟨x.name,x.arity,([]:List (List Int))⟩:bA)).arity),vI ((bK (⟨x.name,x.arity,([]:List (List Int))⟩:bA)).rowCount),.own 0]) [(0,.arr 220 3 true (((bK (⟨x.name,x.arity,([]:List (List Int))⟩:bA)).groups).map aD))]∧nJ (bK (⟨x.name,x.arity,([]:List (List Int))⟩:bA)) x∧x.name=((dU x).name)∧x.arity=((dU x).arity)∧(decide ((bK (⟨x.name,x.arity,([]:List (List Int))⟩:bA))=x))=(cN x)∧[]=(dU x).rows.map aC∧True) (x.name=((dU x).name)∧x.arity=((dU x).arity)∧(false)=(cN x)∧[]=(dU x).rows.map aC∧True))) (by kernel_rfl) ?_
 intro n0
 simp only[List.length_map] at n0
 have q2:bI x=x.name.size+dP x.groups:=rfl
 have q5:=gI x.groups
 refine⟨List.length_map _,dd (fun c0=>?_) fun c0=>?_⟩
 ·refine⟨⟨by omega,by omega⟩,by omega,rfl,by omega,fun e20 h20=>?_⟩
  have i20:x.groups[x.groups.length - 1]? =some e20:=by rw[←h20];congr 1;omega
  have hT:lC x=e20.values:=aMf i20
  have q1:=hZ i20
  have q3:cA e20=cG e20.columns+cT e20.values+cG e20.counts:=rfl
  have q6:cG e20.columns=e20.columns.length:=rfl
  have q7:cG e20.counts=e20.counts.length:=rfl
  have q8:=fJ e20.values
  refine⟨cpR _ (by omega),yE (⟨x.name,x.arity,e20.values⟩:bA),db (fun g28=>?_) fun g28=>?_⟩
  ·refine⟨aLE (⟨x.name,x.arity,e20.values⟩:bA),uW _ _,?_,?_,?_,?_,trivial⟩<;>(first|(rw[dU,hT]<;>rfl)|(simp[cN,dU,hT, *];done))
  ·refine⟨?_,?_,?_,?_,trivial⟩<;>(first|(rw[dU,hT]<;>rfl)|(simp[cN,dU,hT, *];done))
 ·have hT:lC x= []:=aQr (by omega)
  refine⟨cH.imp (fun A w vs h=>by simpa only [nV,aLo,jB,aLx,List.map_nil] using h) (yE (⟨x.name,x.arity,([]:List (List Int))⟩:bA)),?_⟩
  refine db (fun g28=>?_) fun g28=>?_
  ·refine⟨cH.imp (fun A w vs h=>by simpa only [nV,aLo,jB,aLx,List.map_nil] using h) (aLE (⟨x.name,x.arity,([]:List (List Int))⟩:bA)),?_⟩
   refine⟨uW _ _,?_,?_,?_,?_,trivial⟩<;>(first|(rw[dU,hT]<;>rfl)|(simp[cN,dU,hT, *];done))
  ·refine⟨?_,?_,?_,?_,trivial⟩<;>(first|(rw[dU,hT]<;>rfl)|(simp[cN,dU,hT, *];done))
abbrev aBU (x:aM):Prop:=cH Tryz.prog 204 [.agg [.str x.name,.int .i64 x.arity,.int .i64 x.rowCount,.sl 220 3 (x.groups.map aD)]] (vB (cN x)) []
theorem aMg (x:aM)(hc:bI x≤1048576):aBU x:=by
 refine aW bH aO Tryz.func204 (by kernel_rfl) (bL (qJ x)<| .fin []) (p:=(x.groups.map aD).length≤9223372036854775807→uZ x∧(cN x)=(cN x)∧True) (by kernel_rfl) ?_
 intro n0
 simp only[List.length_map] at n0
 refine⟨aGb x (by omega),?_⟩
 exact⟨rfl,trivial⟩
theorem lJ (a:List Int)(l:List (List Int)):cT (a::l)=cT l+1+a.length:=by
 simp only[cT,aCB,cG,List.map_cons,List.sum_cons,List.length_cons]
 omega
theorem aMh (l:List (List Int)): ∀k,cT (l.take k)≤cT l:=by
 induction l with
 | nil=>intro k;simp
 | cons a l ih=>
   intro k
   cases k with
   | zero=>rw[List.take_zero];exact Nat.zero_le _
   | succ k=>rw[List.take_succ_cons,lJ,lJ];have:=ih k;omega
theorem aMi {row:List Int}: ∀{xs:List (List Int)},cT (kX row xs)≤cT xs+1+row.length
 | []=>by rw[aC9,lJ];exact Nat.le_refl _
 | x::xs=>by
   by_cases h:0<cF x row
   ·rw[aCa h,lJ];omega
   ·by_cases h' :cF x row=0
    ·rw[aCb h'];omega
    ·rw[aCc h h',lJ,lJ]
     have:=aMi (row:=row) (xs:=xs)
     omega
theorem aPm {row:List Int}: ∀{xs:List (List Int)},xs.length≤(kX row xs).length
 | []=>by simp
 | x::xs=>by
   by_cases h:0<cF x row
   ·rw[aCa h];simp
   ·by_cases h' :cF x row=0
    ·rw[aCb h'];simp
    ·rw[aCc h h']
     have:=aPm (row:=row) (xs:=xs)
     simp only[List.length_cons];omega
theorem aMj (l:List (List Int)): ∀acc,cT (l.foldl (fun acc x=>kX x acc) acc)≤cT acc+cT l∧acc.length≤(l.foldl (fun acc x=>kX x acc) acc).length:=by
 induction l with
 | nil=>intro acc;simp
 | cons x l ih=>
   intro acc
   obtain⟨h1,h2⟩:=ih (kX x acc)
   have h3:=aMi (row:=x) (xs:=acc)
   have h4:=aPm (row:=x) (xs:=acc)
   rw[List.foldl_cons,lJ]
   exact⟨by omega,by omega⟩
theorem aMk (l:List (List Int))(k:Nat):cT (cK (l.take k))≤cT l:=by
 have h1:=(aMj (l.take k) []).1
 have h2:=aMh l k
 have h3:cT ([]:List (List Int))=0:=rfl
 unfold cK
 omega
theorem aLF (l:List (List Int))(k:Nat):(cK (l.take k)).length≤(cK l).length:=by
 have h:=(aMj (l.drop k) (cK (l.take k))).2
 have e:cK l=(l.drop k).foldl (fun acc x=>kX x acc) (cK (l.take k)):=by
  unfold cK
  rw[←List.foldl_append,List.take_append_drop]
 rw[e];exact h
def nB (name:ByteArray)(arity:Int)(rows:List (List Int)):bA × Bool:=if aX ⟨name,arity,cK rows⟩=true then (⟨name,arity,cK rows⟩,true) else (gH,false)
theorem tS {name:ByteArray}{arity:Int}{rows:List (List Int)}(h:aX ⟨name,arity,cK rows⟩=true):nB name arity rows=(⟨name,arity,cK rows⟩,true):=by rw[nB,if_pos h]
theorem aLG {name:ByteArray}{arity:Int}{rows:List (List Int)}(h:aX ⟨name,arity,cK rows⟩=false):nB name arity rows=(gH,false):=by rw[nB,if_neg (by rw[h];decide)]
theorem aED {t:bA}(h:8<t.rows.length):aX t=false:=by
 cases e:aX t with
 | false=>rfl
 | true=>have:=cE e;omega
theorem aMl {name:ByteArray}{arity:Int}{rows:List (List Int)}{k:Nat}{acc:List (List Int)}(ha:acc=cK (rows.take k))(h:rows.length≤k∨8<acc.length):aX ⟨name,arity,acc⟩=aX ⟨name,arity,cK rows⟩∧(aX ⟨name,arity,acc⟩=true→acc=cK rows):=by
 by_cases h1:8<acc.length
 ·have h2:=aLF rows k
  rw[←ha] at h2
  have q1:=aED (t:=⟨name,arity,acc⟩) h1
  rw[q1,aED (t:=⟨name,arity,cK rows⟩) (show 8<(cK rows).length by omega)]
  exact⟨rfl,fun q=>by cases q⟩
 ·have e:acc=cK rows:=by rw[ha,List.take_of_length_le (by omega)]
  rw[e];exact⟨rfl,fun _=>rfl⟩
theorem aTc: ∀{l:List (List Int)},(∀i,i+1<l.length→cF (l.getD i []) (l.getD (i+1) [])<0)→Asc l
 | [],_=>List.Pairwise.nil
 | [a],_=>List.pairwise_singleton _ _
 | a::b::l,h=>by
   have ih:=aTc (l:=b::l) fun i hi=>by
    have:=h (i+1) (by simpa using hi)
    simpa using this
   have h0:cF a b<0:=by
    have:=h 0 (by simp)
    simpa using this
   refine List.pairwise_cons.2 ⟨fun y hy=>?_,ih⟩
   rcases List.mem_cons.1 hy with rfl | q
   ·exact h0
   ·exact mE h0 ((List.pairwise_cons.1 ih).1 y q)
theorem aMm {l:List (List Int)}(h:aDX l=true):Asc l:=aTc fun i hi=>by
 have:=List.all_eq_true.1 h i (List.mem_range.2 (by omega))
 simpa [lX] using this
theorem oZ {t:bA}(h:aX t=true):t.rows.all (jX t.arity)=true∧gJ t.name=true∧aDX t.rows=true:=by
 simp only[aX,Bool.and_eq_true] at h
 exact⟨h.1,h.2.1,h.2.2.2.2⟩
theorem aEE {l:List (List Int)}(h:Asc l):cK l=l:=by
 obtain⟨h1,h2,_⟩:=sL l [] List.Pairwise.nil
 exact aFT h1 h fun x=>by have:=h2 x;simpa [cK] using this
theorem pA {t:bA}(h:aX t=true){r:List Int}(hr:r∈t.rows):(r.length:Int)=t.arity:=by
 have:=List.all_eq_true.1 (oZ h).1 r hr
 simp only[jX,Bool.and_eq_true,decide_eq_true_eq] at this
 exact this.2
def aO1 (n:Int):List Int:=eK ((2:Int)^n.toNat - 1)
theorem aWI {n:Int}(hn:1≤n∧n≤3){r:List Int}(h:(r.length:Int)=n):(fH r (aO1 n)).1=r:=by
 have h1:n=1∨n=2∨n=3:=by omega
 rcases h1 with rfl | rfl | rfl
 ·match r,h with
  | [a],_=>rfl
  | [],h=>simp at h
  | _::_::_,h=>simp at h;omega
 ·match r,h with
  | [a,b],_=>rfl
  | [],h=>simp at h
  | [_],h=>simp at h
  | _::_::_::_,h=>simp at h;omega
 ·match r,h with
  | [a,b,c],_=>rfl
  | [],h=>simp at h
  | [_],h=>simp at h
  | [_,_],h=>simp at h
  | _::_::_::_::_,h=>simp at h;omega
theorem aTd {n:Int}(hn:1≤n∧n≤3):dW (n - 1) (aO1 n)=true:=by
 have h1:n=1∨n=2∨n=3:=by omega
 rcases h1 with rfl | rfl | rfl<;>decide
theorem aLH {n:Int}(hn:1≤n∧n≤3):0<(bY n).length∧(bY n)[(bY n).length - 1]? =some (aO1 n):=by
 have h1:n=1∨n=2∨n=3:=by omega
 rcases h1 with rfl | rfl | rfl<;>decide
theorem aTe {t:bA}(h:aX t=true):(eA t (aO1 t.arity)).1=t.rows:=by
 have hT:=cE h
 have hc:=aTd (n:=t.arity) ⟨hT.1,hT.2.1⟩
 rw[rK (by rw[h,hc];rfl)]
 have e:kN t (aO1 t.arity)=t.rows:=by
  rw[kN]
  conv=>rhs;rw[←List.map_id t.rows]
  exact List.map_congr_left fun r hr=>aWI ⟨hT.1,hT.2.1⟩ (pA h hr)
 show fS (dI (kN t (aO1 t.arity)))=t.rows
 rw[e,←sM,aEE (aMm (oZ h).2.2)]
theorem aEF {t:bA}(h:aX t=true):lC (bK t)=t.rows∧(bK t).groups≠[]:=by
 have hT:=cE h
 obtain⟨h0,h1⟩:=aLH (n:=t.arity) ⟨hT.1,hT.2.1⟩
 rw[kD h]
 constructor
 ·rw[lC]
  show (((bY t.arity).map (tR t)).getD (((bY t.arity).map (tR t)).length - 1) eL).values=t.rows
  rw[List.length_map,bQ (x:=tR t (aO1 t.arity)) (by rw[List.getElem?_map,h1];rfl)]
  exact aTe h
 ·intro e
  have:((bY t.arity).map (tR t)).length=0:=congrArg List.length e
  rw[List.length_map] at this
  omega
def nL (x:aM):bA × Bool:=if x.groups.length=0 then (gH,false) else nB x.name x.arity (lC x)
theorem aWJ {x:aM}(h:cN x=true):nL x=(dU x,true):=by
 simp only[cN,Bool.and_eq_true,decide_eq_true_eq] at h
 have h2:=(aEF h.1).2
 rw[h.2] at h2
 rw[nL,if_neg (fun e=>h2 (List.eq_nil_of_length_eq_zero e))]
 have e:=aEE (aMm (oZ h.1).2.2)
 rw[show (dU x).rows=lC x from rfl] at e
 rw[tS (by rw[e];exact h.1),e];rfl
theorem aQs (x:aM):((nL x).2&&decide (bK (nL x).1=x))=cN x:=by
 cases h:cN x with
 | true=>
   rw[aWJ h]
   simp only[cN,Bool.and_eq_true,decide_eq_true_eq] at h
   simp[h.2]
 | false=>
   rw[nL]
   split
   ·rfl
   ·cases e:aX ⟨x.name,x.arity,cK (lC x)⟩ with
    | false=>rw[aLG e];rfl
    | true=>
      rw[tS e]
      simp only[Bool.true_and]
      by_cases q:bK ⟨x.name,x.arity,cK (lC x)⟩=x
      ·exfalso
       have h3:=(aEF e).1
       rw[q] at h3
       have h4:dU x=⟨x.name,x.arity,cK (lC x)⟩:=by
        rw[dU]
        congr 1
       rw[cN,h4,e,q] at h
       simp at h
      ·simp[q]
theorem tT {x:aM}(h:cN x=true):aX (dU x)=true∧bK (dU x)=x:=by
 simpa only [cN,Bool.and_eq_true,decide_eq_true_eq] using h
theorem aGc {x:aM}(h:cN x=true):x.groups=(bY x.arity).map (tR (dU x)):=by
 obtain⟨h1,h2⟩:=tT h
 rw[kD h1] at h2
 exact(congrArg aM.groups h2).symm
theorem aQt {x:aM}(h:cN x=true):x.rowCount=((lC x).length:Nat):=by
 obtain⟨h1,h2⟩:=tT h
 rw[kD h1] at h2
 exact(congrArg aM.rowCount h2).symm
theorem aA4 {x:aM}(h:cN x=true):1≤x.arity∧x.arity≤3:=by
 have:=cE (tT h).1
 exact⟨this.1,this.2.1⟩
theorem aLI {α:Type}{p:α→Bool}{l:List α}{k:Nat}{x:α}(h:l[k]? =some x)(ha:(l.take k).all (fun y=> !p y)=true)(hx:p x=true):l.find? p=some x:=by
 rw[List.find?_eq_some_iff_getElem]
 obtain⟨hk,rfl⟩:=List.getElem?_eq_some_iff.1 h
 refine⟨hx,k,hk,rfl,fun j hj=>?_⟩
 have:=List.all_eq_true.1 ha l[j] (List.mem_iff_getElem.2 ⟨j,by simp;omega,by simp⟩)
 exact this
theorem aLJ {α:Type}{p:α→Bool}{l:List α}(ha:l.all (fun y=> !p y)=true):l.find? p=none:=by
 rw[List.find?_eq_none]
 intro x hx
 have:=List.all_eq_true.1 ha x hx
 simpa using this
end Go.Proofs.YtlidmoeecphbmaaGreat
