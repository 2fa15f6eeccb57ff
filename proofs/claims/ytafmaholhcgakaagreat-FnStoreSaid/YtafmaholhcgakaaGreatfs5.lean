/-
  Contracts and plain laws, joined: part 6.
-/
import Derived.Test.YtafmaholhcgakaaGreatfs3
import Derived.Test.YtafmaholhcgakaaGreatfs4
import Derived.IntWalk
import Derived.Deep.RegionHeld3
import Derived.BigRegion
import Derived.Deep.LoopGhost
import Derived.Shelf.SlSortCmp.Insertion
import Derived.Shelf.SlSortCmp.Whole1
import Derived.Shelf.SlSortCmp.NoneTotal
import Derived.Ground.SlsfProg
import Derived.Shelf.RegionOpenPlain
import Derived.Deep.Draws
import Derived.Lib.SlicesCompact
import Derived.Lib.SliceRun
import Derived.Sort.WalkB12
import Derived.Lib.Walk
import Derived.Shelf.SlicesE.Kit
namespace Go.Proofs.YtafmaholhcgakaaGreat
open Go.ChangeShapes Go.WideShapes Go.ChangeAt Go.RowKit
set_option linter.unusedVariables false
set_option linter.unusedSimpArgs false
set_option maxRecDepth 100000
set_option maxHeartbeats 4000000
abbrev aEU (l:List Int):AV × List (Nat × Rs):=(.own 0,[(0,.arr 3 1 true (l.map intD))])
abbrev aGW (l:List Int):Prop:=Cn 114 [.one (.sl 3 1 (l.map intD))] (aEU l).1 (aEU l).2
theorem cpI (l:List Int)(hl:l.length<=1048576):aGW l:=by
 refine cq Tryz.func114 (.app Int intD ([]:List Int) l<| .fin [(0,500)]) (p:=Lx (l.map intD)<| Ap intD ([]:List Int) l 8 ((([]:List Int)++l).map intD=l.map intD/\True)) (by kernel_rfl) ?_;refine lx fun n0=>?_;refine ap ?_ (fun _=>rfl) (by simp;omega);apply et1
 ·simp
abbrev aGX (l:List (List Int)):AV × List (Nat × Rs):=(.own 0,[(0,.arr 34 1 true (l.map aE))])
abbrev aIa (l:List (List Int)):Prop:=Cn 182 [.one (.sl 34 1 (l.map aE))] (aGX l).1 (aGX l).2
theorem cpR (l:List (List Int))(hc:cM l<=1048576):aIa l:=by
 refine cq Tryz.func182 (.len l.length<| .loop (Nat × (List (List Int))) (Q2 Nat (List (List Int))) ([3,5,6]++rg 9 10) [600,1500,1600,1700] (fun yy0=>[(3,.own 600),(9,vI (yy0.1:Int))]) (fun yy0=>[(600,some (.arr 34 1 true (yy0.2.map aE)))]) (fun yy0=>yy0.1<=l.length/\yy0.2=l.take yy0.1) (fun yy0=>l.length - yy0.1) (fun yy0=> .br (.elem _ aE l (fun e11=>bC (aEU e11)<| .appx (List Int) aE yy0.2 e11<| .back [(600,1700)])) (.fin [(0,600)]))) (p:=Lx (l.map aE)<| Lm aE l/\((∃(k:Nat) (out:List (List Int)),0=(k:Int)/\[]=out.map aE/\k<=l.length/\out=l.take k)/\ ∀(k:Nat) (out:List (List Int)),(k<=l.length/\out=l.take k)->Br ((k:Int)<(l.length:Int)) (0<=(k:Int)/\Em aE l k fun e11=>aGW e11/\out.map aE=out.map aE/\e11.map intD=e11.map intD/\(out.length+1)*24<=140737488355328/\cW ((k:Int)+1)/\ ∃(k' :Nat) (out' :List (List Int)),((k:Int)+1)=(k' :Int)/\(out++[e11]).map aE=out'.map aE/\(k' <=l.length/\out' =l.take k')/\l.length - k' <l.length - k) (out.map aE=l.map aE/\True))) (by kernel_rfl) ?_;refine lx fun n0=>?_;have hlen:=eV l;refine⟨aAK _,⟨0,([]:List (List Int)),rfl,rfl,aAd _,rfl⟩,fun k out ⟨hk,ho⟩=>?_⟩;refine dd (fun c0=>?_) fun c0=>?_
 ·refine⟨by omega,rfl,by omega,fun e11 h11=>?_⟩;have h5:e11.length<=1048576:=by have:=aJZ h11;have:fL e11=e11.length:=rfl;omega
  refine⟨cpI _ (by omega),rfl,rfl,by simp[ho];have:=eV l;omega,⟨by omega,by omega⟩,?_⟩;exact⟨k+1,out++[e11],rfl,rfl,⟨by omega,by rw[ho,cC h11]⟩,by omega⟩
 ·apply et1
  ·rw[ho,aCv (by omega)]
end Go.Proofs.YtafmaholhcgakaaGreat
namespace Go.Proofs.YtafmaholhcgakaaGreat
open Go.ChangeShapes Go.WideShapes Go.ChangeAt Go.RowKit
set_option linter.unusedVariables false
set_option linter.unusedSimpArgs false
theorem aNY (x:Int)(w:World):Calls Tryz.prog 230 #[.int .i64 x] w fun e w' =>e= .returned (.bool false)/\w' =w:=by
 go_enter Tryz.func230,Tryz.ntmps230
 go_wp2
 go_ret
 exact⟨by simp,rfl⟩
theorem aGY (x y:Int)(w:World):Calls Tryz.prog 215 #[.int .i64 x,.int .i64 y] w fun e w' =>e= .returned (.int .i64 (qN x y))/\w' =w:=by
 go_enter Tryz.func215,Tryz.ntmps215
 go_wp2_with (go_at_call 230;refine(aNY _ _).mono ?_;rintro e w' ⟨rfl,hw⟩;rw[hw])
 all_goals (go_ret;refine⟨?_,rfl⟩;unfold qN;(repeat' split)<;>first|rfl|(exfalso;omega))
def uO (w:World)(a:Option Addr)(l:List Int):Prop:= ∀j x,l[j]? =some x-> ∃b o,a=some ⟨b,o,none⟩/\w.cell? ⟨b,o+j,none⟩=some (.int .i64 x)
set_option maxHeartbeats 1000000 in
theorem aGZ (a1 a2:Option Addr)(c1 c2:Nat)(l m:List Int)(w:World)(hl:l.length<=9223372036854775807)(hm:m.length<=9223372036854775807)(h1:uO w a1 l)(h2:uO w a2 m):
 Calls Tryz.prog 201 #[.slice a1 l.length c1,.slice a2 m.length c2] w fun e w' =>e= .returned (.int .i64 (bM l m))/\w' =w:=by
 have H1:=Lib.hid h1;have H2:=Lib.hid h2
 clear h1 h2
 go_enter Tryz.func201,Tryz.ntmps201
 go_wp2
 go_loop [5,6,7,8,11] (fun _ _ _ _ s=> ∃k:Nat,s= .int .i64 k/\k<=l.length/\k<=m.length/\bM (l.drop k) (m.drop k)=bM l m) (fun _ _ _ _ s=>l.length - (intOf s).toNat)
 case atStart=>exact⟨0,rfl,aAd _,aAd _,rfl⟩
 case round=>
  obtain⟨k,rfl,hk,hk2,hv⟩:=hrel;have HV:=Lib.hid hv
  clear hv
  by_cases hlt:k<l.length
  ·obtain⟨x,hx⟩:=cT hlt;obtain⟨b1,o1,rfl,g1⟩:=H1.out k x hx;by_cases hlt2:k<m.length
   ·obtain⟨y,hy⟩:=cT hlt2;obtain⟨b2,o2,rfl,g2⟩:=H2.out k y hy;have HD:=Lib.hid (show bM l m=if qN x y=0 then bM (l.drop (k+1)) (m.drop (k+1)) else qN x y by rw[<-HV.out,dS hx,dS hy,aER]);by_cases hc:qN x y=0
    ·have HC:=Lib.hid hc
     clear hc
     go_wp2_with (go_at_call 215;refine(aGY _ _ _).mono ?_;rintro e w' ⟨rfl,hw⟩;rw[hw,HC.out])
     exact⟨⟨k+1,by simp,by omega,by omega,by rw[HD.out,if_pos HC.out]⟩,by simp[intOf];omega⟩
    have HC:=Lib.hid hc;have hcb:(qN x y !=0)=true:=by simpa using hc
    clear hc
    go_wp2_with (go_at_call 215;refine(aGY _ _ _).mono ?_;rintro e w' ⟨rfl,hw⟩;rw[hw])
    go_ret
    refine⟨?_,rfl⟩;rw[HD.out,if_neg HC.out];rfl
   have hge:m.length<=k:=by omega
   have HE:=Lib.hid (hZ (l:=l) (m:=m) (k:=k) ⟨hk,hk2⟩ (.inr hlt2))
   go_wp2
   go_ret
   refine⟨?_,rfl⟩;rw[<-HV.out,HE.out,if_neg (by omega),if_pos (by omega)];rfl
  have HE:=Lib.hid (hZ (l:=l) (m:=m) (k:=k) ⟨hk,hk2⟩ (.inl hlt));by_cases hlm:l.length<m.length
  ·go_wp2
   go_ret
   refine⟨?_,rfl⟩;rw[<-HV.out,HE.out,if_pos hlm];rfl
  go_wp2
  go_ret
  refine⟨?_,rfl⟩;rw[<-HV.out,HE.out,if_neg hlm,if_neg (by omega)];rfl
theorem aLV (a1 a2:Option Addr)(c1 c2:Nat)(l m:List Int)(w:World)(hl:l.length<=9223372036854775807)(hm:m.length<=9223372036854775807)(h1:uO w a1 l)(h2:uO w a2 m):
 Calls Tryz.prog 186 #[.slice a1 l.length c1,.slice a2 m.length c2] w fun e w' =>e= .returned (.int .i64 (bM l m))/\w' =w:=by
 have HC:=Lib.hid (aGZ a1 a2 c1 c2 l m w hl hm h1 h2)
 clear h1 h2
 go_enter Tryz.func186,Tryz.ntmps186
 go_wp2_with (go_at_call 201;refine HC.out.mono ?_;rintro e w' ⟨rfl,hw⟩;rw[hw])
 go_ret
 exact⟨rfl,rfl⟩
end Go.Proofs.YtafmaholhcgakaaGreat
namespace Go.Proofs.YtafmaholhcgakaaGreat
open Go.ChangeShapes Go.WideShapes Go.ChangeAt Go.RowKit
set_option linter.unusedVariables false
set_option linter.unusedSimpArgs false
set_option maxRecDepth 100000
set_option maxHeartbeats 4000000
theorem oD (l:List Int):bM l l=0:=cQ.2 rfl
theorem oE: ∀{l m:List Int},bM l m<0↔0<bM m l
 | [],[]=>by simp[bM]
 | [],_::_=>by simp[bM]
 | _::_,[]=>by simp[bM]
 | a::l,b::m=>by
   simp only[bM];by_cases h1:a<b
   ·simp[h1,show ¬b<a by omega]
   by_cases h2:b<a
   ·simp[h1,h2]
   simp only[h1,h2,if_false];exact oE
theorem kL: ∀{l m n:List Int},bM l m<0->bM m n<0->bM l n<0
 | [],[],n,h1,_=>by simp[bM] at h1
 | [],_::_,[],_,h2=>by simp[bM] at h2
 | [],_::_,_::_,_,_=>by simp[bM]
 | _::_,[],n,h1,_=>by simp[bM] at h1
 | a::l,b::m,[],_,h2=>by simp[bM] at h2
 | a::l,b::m,c::n,h1,h2=>by
   simp only[bM] at*;rcases Int.lt_trichotomy a b with ab | ab | ab
   ·rcases Int.lt_trichotomy b c with bc | bc | bc
    ·rw[if_pos (by omega)];decide
    ·subst bc;rw[if_pos ab];decide
    rw[if_neg (by omega),if_pos bc] at h2;exact absurd h2 (by decide)
   ·subst ab;rcases Int.lt_trichotomy a c with bc | bc | bc
    ·rw[if_pos bc];decide
    ·subst bc;rw[if_neg (by omega),if_neg (by omega)] at*;exact kL h1 h2
    rw[if_neg (by omega),if_pos bc] at h2;exact absurd h2 (by decide)
   rw[if_neg (by omega),if_pos ab] at h1;exact absurd h1 (by decide)
theorem aAy {l m n:List Int}(h1: ¬bM l m<0)(h2: ¬bM m n<0): ¬bM l n<0:=by
 intro h;by_cases e:bM l m=0
 ·rw[cQ.1 e] at h;exact h2 h
 exact h2 (kL (oE.2 (by omega)) h)
def leR (a b:List Int):Bool:=decide (bM a b<=0)
theorem aB6 {a b:List Int}:leR a b=true↔ ¬bM b a<0:=by
 rw[leR,aKQ];constructor
 ·intro h q;have:=oE.1 q;omega
 intro h;have: ¬0<bM a b:=fun q=>h (oE.2 q);omega
theorem aFK {a b:List Int}(h1:leR a b=true)(h2:leR b a=true):a=b:=by
 rw[aB6] at h1 h2;have: ¬0<bM a b:=fun q=>h1 (oE.2 q);exact cQ.1 (by omega)
def cF (l:List (List Int)):List (List Int):=l.mergeSort leR
theorem xN (l:List (List Int)):(cF l).Perm l:=List.mergeSort_perm l leR
theorem aC6 (l:List (List Int)):(cF l).Pairwise (fun a b=>leR a b=true):=
 List.pairwise_mergeSort (fun a b c h1 h2=>by rw[aB6] at*;exact aAy h2 h1) (fun a b=>by
  by_cases h:bM b a<0
  ·have:leR b a=true:=by rw[leR,aKQ];omega
   simp[this]
  have:leR a b=true:=aB6.2 h;simp[this]) l
theorem aLW {l m:List (List Int)}(hp:m.Perm l)(hs:m.Pairwise (fun a b=>leR a b=true)):m=cF l:=
 List.Perm.eq_of_pairwise (le:=fun a b=>leR a b=true) (fun a b _ _ h1 h2=>aFK h1 h2) hs (aC6 l) (hp.trans (xN l).symm)
theorem aA5 (l:List (List Int)):(cF l).length=l.length:=(xN l).length_eq
end Go.Proofs.YtafmaholhcgakaaGreat
namespace Go.Proofs.YtafmaholhcgakaaGreat
open Go.ChangeShapes Go.WideShapes Go.ChangeAt Go.RowKit Go.Shelf Go.Lib
set_option linter.unusedVariables false
set_option linter.unusedSimpArgs false
theorem zK {w:World}{k:Nat}{ι:Type}(f:ι->List bB)(g:ι->List Value)(h:ι->List Nat): ∀{L:List ι},(∀i∈L,(f i).length=k/\cD w (f i) (g i) (h i))->bT w k (L.map f) (L.map g) (L.map h)
 | [],_=>by simp only[List.map_nil];unfold bT;exact⟨rfl,rfl⟩
 | i::L,hL=>by
   simp only[aGQ];unfold bT;exact⟨_,_,_,_,rfl,rfl,(hL i (by simp)).1,(hL i (by simp)).2,zK f g h fun j hj=>hL j (by simp[hj])⟩
theorem rI {w:World}{k:Nat}: ∀{xs:List (List bB)} {css:List (List Value)} {Fs:List (List Nat)},bT w k xs css Fs->css.length=xs.length/\Fs.length=xs.length
 | [],_,_,h=>by unfold bT at h;rw[h.1,h.2];exact⟨rfl,rfl⟩
 | x::xs,_,_,h=>by
   unfold bT at h;obtain⟨c,css',F,Fs',rfl,rfl,_,_,h3⟩:=h;have:=rI h3;simp[this.1,this.2]
theorem rJ {w:World}{k:Nat}: ∀{xs:List (List bB)} {css:List (List Value)} {Fs:List (List Nat)} {i:Nat} {x:List bB},bT w k xs css Fs->xs[i]? =some x-> ∃c F,css[i]? =some c/\Fs[i]? =some F/\x.length=k/\cD w x c F
 | [],_,_,_,_,_,hx=>by simp at hx
 | y::xs,_,_,0,x,h,hx=>by
   unfold bT at h;obtain⟨c,css',F,Fs',rfl,rfl,h1,h2,_⟩:=h;simp at hx;subst hx;exact⟨c,F,rfl,rfl,h1,h2⟩
 | y::xs,_,_,i+1,x,h,hx=>by
   unfold bT at h;obtain⟨c,css',F,Fs',rfl,rfl,_,_,h3⟩:=h;simp at hx;simpa using rJ h3 hx
theorem jE: ∀(l:List (List Value)) (i:Nat) (v:Value),(∀d∈l,d.length=1)->l[i]? =some [v]->l.flatten[i]? =some v
 | [],i,v,_,h=>by simp at h
 | d::l,0,v,hd,h=>by simp at h;subst h;simp
 | d::l,i+1,v,hd,h=>by
   have h1:=hd d (by simp);rw[aHS,aHA (by omega),h1];exact jE l i v (fun d' hd' =>hd d' (by simp[hd'])) (by simpa using h)
theorem zL {ι:Type}(f:ι->Value): ∀L:List ι,(L.map fun i=>[f i]).flatten=L.map f
 | []=>rfl
 | i::L=>by rw[aGQ,aHS,zL f L];rfl
theorem rK: ∀(l:List (List Value)),(∀d∈l,d.length=1)->l.flatten.length=l.length
 | [],_=>rfl
 | d::l,hd=>by
   rw[aHS,aJi,hd d (by simp),rK l fun d' hd' =>hd d' (by simp[hd'])];simp;omega
theorem aLX {w:World}{e:Nat}{r:List Int}{c:List Value}{F:List Nat}(h:cD w [.sl e 1 (r.map intD)] c F): ∃a cap,c= [.slice a r.length cap]/\uO w a r/\(∀x∈a,x.block∈F)/\r.length<=9223372036854775807:=by
 unfold cD at h;obtain⟨v,cs',F1,F2,rfl,rfl,h1,h2⟩:=h;unfold cD at h2;obtain⟨rfl,rfl⟩:=h2;unfold oK at h1;obtain⟨css,Fs,q1,q2,q3⟩:=h1;rcases q1.2 with ⟨rfl,hz⟩ | ⟨g,cap,cur,rfl,_,hb,hn,hcap2,hsz,htk⟩
 ·simp at hz;subst hz;exact⟨none,0,rfl,fun j x hx=>by simp at hx,by simp,by simp⟩
 refine⟨some ⟨g,0,none⟩,cap,by simp,fun j x hx=>⟨g,0,rfl,?_⟩,fun x hx=>?_,by have:cap<=maxLen:=hcap2;unfold maxLen at this;simp at hn;omega⟩
 ·obtain⟨c0,F0,g1,_,_,g4⟩:=rJ q3 (show (r.map intD)[j]? =some (intD x) by rw[aMV,hx];rfl);unfold intD cD at g4;obtain⟨v0,cs0,_,_,rfl,_,g5,g6⟩:=g4;unfold cD at g6;obtain⟨rfl,_⟩:=g6;unfold oK at g5;obtain⟨rfl,_⟩:=g5
  have hlen: ∀d∈css,d.length=1:=fun d hd=>by
   obtain⟨i,hi⟩:=List.getElem?_of_mem hd
   have hil:i<(r.map intD).length:=by
    have:=(rI q3).1;have:=(aCk.1 hi).1;omega
   obtain⟨c1,F1,k1,_,k3,k4⟩:=rJ q3 (aBI hil);rw[hi] at k1;injection k1 with k1;subst k1
   rw[List.getElem_map] at k4;unfold intD cD at k4;obtain⟨_,_,_,_,rfl,_,_,k6⟩:=k4;unfold cD at k6;rw[k6.1];rfl
  have hflat:css.flatten[j]? =some (.int .i64 x):=by
   exact jE css j _ hlen g1
  have hj:j<r.length:=(aCk.1 hx).1;simp only[World.cell?,hb,Nat.zero_add,Option.isSome_none,Bool.false_eq_true,if_false];rw[<-Array.getElem?_toList,<-hflat,<-htk,List.getElem?_take_of_lt (by simpa using hj)]
 simp at hx;subst hx;rw[q2];simp[Value.ownBlock]
theorem aA6 {w:World}{enc:Nat->Value}{g n:Nat}{os:Array Obj}{cur:Array Value}{e:TypeId}{fr:Nat × Nat}(d:Array Nat)(hb:w.heap[g]? =some (.cells cur e fr)):
 (sortWorld enc w g 0 n d os).heap[g]? =some (.cells (Go.Sort.putCells enc 0 d cur) e fr):=by
 have hg:g<w.heap.size:=(Array.getElem?_eq_some_iff.1 hb).1;unfold sortWorld;rw[Go.Sort.heap_grow_old _ _ (by simpa using hg)];simp[Go.Sort.putRow,Go.Sort.mapBlock,Go.Sort.ahead,Array.getElem?_modify,hb,Go.Sort.onCells]
theorem mE {w:World}{enc:Nat->Value}{g n k:Nat}{os:Array Obj}(d:Array Nat)(hk:k<w.heap.size)(hne:k≠g):(sortWorld enc w g 0 n d os).heap[k]? =w.heap[k]? :=by
 unfold sortWorld;rw[Go.Sort.heap_grow_old _ _ (by simpa using hk)];simp[Go.Sort.putRow,Go.Sort.mapBlock,Go.Sort.ahead,Array.getElem?_modify,Ne.symm hne]
theorem aC7 (enc:Nat->Value)(cur:Array Value)(ts:List Nat)(h:ts.length<=cur.size):(Go.Sort.putCells enc 0 ts.toArray cur).toList.take ts.length=ts.map enc:=by
 apply List.ext_getElem?;intro j;by_cases hj:j<ts.length
 ·rw[List.getElem?_take_of_lt hj,Array.getElem?_toList];simp[Go.Sort.putCells,hj,show j<cur.size by omega]
 rw[List.getElem?_take_eq_none (by omega),List.getElem?_eq_none (by simp;omega)]
theorem wD {w w' :World}{a:Option Addr}{r:List Int}(h:uO w a r)(hk: ∀x∈a,w'.heap[x.block]? =w.heap[x.block]?):uO w' a r:=fun j x hx=>by
 obtain⟨b,o,rfl,hc⟩:=h j x hx;refine⟨b,o,rfl,?_⟩;have:=hk ⟨b,o,none⟩ rfl;unfold World.cell? at*;simp only at*;rw[this];exact hc
end Go.Proofs.YtafmaholhcgakaaGreat
namespace Go.Proofs
open Go.Shelf
namespace YtafmaholhcgakaaGreat
def Tryz.sortRows_ren:Go.Shelf.Ren:=⟨fun | 6=>185 | 15=>200 | 14=>199 | 28=>213 | 29=>214 | 20=>205 | 21=>206 | 22=>207 | 23=>208 | 24=>209 | 25=>210 | 26=>211 | 27=>212 | 46=>225 | 47=>226 | 48=>227 | 49=>228 | 50=>229 | 57=>234 | n=>n,fun | 22=>86 | 24=>34 | 25=>82 | 3=>3 | 39=>179 | 0=>0 | 53=>208 | 55=>210 | 4=>4 | 46=>201 | 45=>200 | 50=>205 | 5=>5 | 9=>9 | 66=>218 | 70=>222 | 76=>227 | 77=>228 | n=>n,fun | n=>n⟩
theorem Tryz.sortRows:Go.Proofs.SlLaysF.n6 Tryz.prog Tryz.sortRows_ren:={
 mixed:=by kernel_rfl
 f6:=⟨Tryz.f185.name,by decide,Tryz.func185.trans (congrArg some (by kernel_rfl))⟩
 f14:=⟨Tryz.f199.name,by decide,Tryz.func199.trans (congrArg some (by kernel_rfl))⟩
 f15:=Tryz.func200.trans (congrArg some (by kernel_rfl))
 f20:=⟨Tryz.f205.name,by decide,Tryz.func205.trans (congrArg some (by kernel_rfl))⟩
 f21:=⟨Tryz.f206.name,by decide,Tryz.func206.trans (congrArg some (by kernel_rfl))⟩
 f22:=⟨Tryz.f207.name,by decide,Tryz.func207.trans (congrArg some (by kernel_rfl))⟩
 f23:=⟨Tryz.f208.name,by decide,Tryz.func208.trans (congrArg some (by kernel_rfl))⟩
 f24:=⟨Tryz.f209.name,by decide,Tryz.func209.trans (congrArg some (by kernel_rfl))⟩
 f25:=⟨Tryz.f210.name,by decide,Tryz.func210.trans (congrArg some (by kernel_rfl))⟩
 f26:=⟨Tryz.f211.name,by decide,Tryz.func211.trans (congrArg some (by kernel_rfl))⟩
 f27:=⟨Tryz.f212.name,by decide,Tryz.func212.trans (congrArg some (by kernel_rfl))⟩
 f28:=Tryz.func213.trans (congrArg some (by kernel_rfl))
 f29:=Tryz.func214.trans (congrArg some (by kernel_rfl))
 f46:=⟨Tryz.f225.name,by decide,Tryz.func225.trans (congrArg some (by kernel_rfl))⟩
 f47:=Tryz.func226.trans (congrArg some (by kernel_rfl))
 f48:=Tryz.func227.trans (congrArg some (by kernel_rfl))
 f49:=⟨Tryz.f228.name,by decide,Tryz.func228.trans (congrArg some (by kernel_rfl))⟩
 f50:=⟨Tryz.f229.name,by decide,Tryz.func229.trans (congrArg some (by kernel_rfl))⟩
 f57:=⟨Tryz.f234.name,by decide,Tryz.func234.trans (congrArg some (by kernel_rfl))⟩
 t0:=Tryz.underlying0
 a0:=Tryz.isAgg0
 z0:=Tryz.sizeOf0
 v0:=Tryz.zeroValue0
 t3:=Tryz.underlying3
 a3:=Tryz.isAgg3
 z3:=Tryz.sizeOf3
 v3:=Tryz.zeroValue3
 t4:=Tryz.underlying4
 a4:=Tryz.isAgg4
 z4:=Tryz.sizeOf4
 v4:=Tryz.zeroValue4
 t5:=Tryz.underlying5
 a5:=Tryz.isAgg5
 z5:=Tryz.sizeOf5
 v5:=Tryz.zeroValue5
 t9:=Tryz.underlying9
 a9:=Tryz.isAgg9
 z9:=Tryz.sizeOf9
 v9:=Tryz.zeroValue9
 t22:=Tryz.underlying86
 a22:=Tryz.isAgg86
 z22:=Tryz.sizeOf86
 v22:=Tryz.zeroValue86
 a24:=Tryz.isAgg34
 z24:=Tryz.sizeOf34
 t25:=Tryz.underlying82
 a25:=Tryz.isAgg82
 z25:=Tryz.sizeOf82
 v25:=Tryz.zeroValue82
 t39:=Tryz.underlying179
 a39:=Tryz.isAgg179
 z39:=Tryz.sizeOf179
 v39:=Tryz.zeroValue179
 t45:=Tryz.underlying200
 a45:=Tryz.isAgg200
 z45:=Tryz.sizeOf200
 v45:=Tryz.zeroValue200
 t46:=Tryz.underlying201
 a46:=Tryz.isAgg201
 z46:=Tryz.sizeOf201
 v46:=Tryz.zeroValue201
 t50:=Tryz.underlying205
 a50:=Tryz.isAgg205
 z50:=Tryz.sizeOf205
 v50:=Tryz.zeroValue205
 t53:=Tryz.underlying208
 a53:=Tryz.isAgg208
 z53:=Tryz.sizeOf208
 v53:=Tryz.zeroValue208
 t55:=Tryz.underlying210
 a55:=Tryz.isAgg210
 z55:=Tryz.sizeOf210
 v55:=Tryz.zeroValue210
 t66:=Tryz.underlying218
 a66:=Tryz.isAgg218
 z66:=Tryz.sizeOf218
 v66:=Tryz.zeroValue218
 t70:=Tryz.underlying222
 a70:=Tryz.isAgg222
 z70:=Tryz.sizeOf222
 v70:=Tryz.zeroValue222
 t76:=Tryz.underlying227
 a76:=Tryz.isAgg227
 z76:=Tryz.sizeOf227
 v76:=Tryz.zeroValue227
 t77:=Tryz.underlying228
 a77:=Tryz.isAgg228
 z77:=Tryz.sizeOf228
 v77:=Tryz.zeroValue228 }
end YtafmaholhcgakaaGreat
end Go.Proofs
namespace Go.Proofs.YtafmaholhcgakaaGreat
open Go.ChangeShapes Go.WideShapes Go.ChangeAt Go.RowKit Go.Shelf Go.Lib
set_option linter.unusedVariables false
set_option linter.unusedSimpArgs false
set_option maxHeartbeats 2000000 in
theorem aLY (l:List (List Int))(hl:l.length<4611686018427387904):rA Tryz.prog 185 [.own 0,.fn 186 []] [(0,.arr 34 1 true (l.map aE))] (.tup []) [(0,.arr 34 1 true ((cF l).map aE))]:=by
 refine⟨by kernel_rfl,by simp,fun A φ w vs hI hm=>?_⟩;obtain⟨pl,hp,css,Fs,q1,q2,q3,q4⟩:=hI.dom 0 _ rfl;unfold aL at hm;obtain⟨v,us,e1,m1,hm⟩:=hm;unfold aL at hm;obtain⟨v2,nX,e2,m2,hm⟩:=hm;unfold aL at hm;unfold aF at m1 m2;obtain⟨vs2,ev2,m3⟩:=m2;unfold aL at m3;have hv:=m1 pl hp;have e3:vs2= #[]:=by apply Array.ext';simpa using m3
 have ev:vs= #[pl.val,.func (.func 186) #[] #[]]:=by apply Array.ext';rw[e1,e2,hm,hv,ev2,e3]
 rw[ev];have hnd:=hI.nodup 0 pl hp;have hge:=hI.ge 0 pl hp;have hFe:pl.F=pl.val.ownBlock.toList++Fs.flatten:=by unfold Pl.F;rw[q2,q3]
 have hfoot: ∀b∈pl.F,aDa φ b:=fun b hb=>⟨0,pl,trivial,hp,hb⟩
 have h0: ∀h pl',φ h=some pl' ->h=0:=fun h pl' e' =>by
  cases hr:aS [(0,Rs.arr 34 1 true (l.map aE))] h with
  | none=>rw[hI.non h hr] at e';cases e'
  | some r=>
    simp only[aS] at hr;split at hr
    ·assumption
    cases hr
 obtain⟨lc,lF⟩:=rI q4;rw[aAK] at lc lF
 have hrow: ∀i,i<l.length-> ∃a cap F,css[i]? =some [.slice a (l.getD i []).length cap]/\Fs[i]? =some F/\uO w a (l.getD i [])/\(∀x∈a,x.block∈F)/\(l.getD i []).length<=9223372036854775807/\cD w (aE (l.getD i [])) [.slice a (l.getD i []).length cap] F:=fun i hi=>by
  obtain⟨r,hr⟩:=cT hi;have hg:l.getD i []=r:=by simp[aEP,hr]
  obtain⟨c,F,g1,g2,_,g4⟩:=rJ q4 (show (l.map aE)[i]? =some (aE r) by rw[aMV,hr];rfl);obtain⟨a,cap,rfl,k1,k2,k3⟩:=aLX g4;rw[hg];exact⟨a,cap,F,g1,g2,k1,k2,k3,g4⟩
 have hone: ∀d∈css,d.length=1:=fun d hd=>by
  obtain⟨i,hi⟩:=List.getElem?_of_mem hd;obtain⟨a,cap,F,g1,_⟩:=hrow i (by have:=(aCk.1 hi).1;omega);rw[hi] at g1;injection g1 with g1
  rw[g1];rfl
 let enc:Nat->Value:=fun i=>css.flatten.getD i (.slice none 0 0)
 have henc: ∀i,∃a cap,enc i= .slice a (l.getD i []).length cap/\uO w a (l.getD i [])/\(∀x∈a,x.block∈Fs.flatten)/\(l.getD i []).length<=9223372036854775807:=fun i=>by
  by_cases hi:i<l.length
  ·obtain⟨a,cap,F,g1,g2,g3,g4,g5,_⟩:=hrow i hi;refine⟨a,cap,?_,g3,fun x hx=>List.mem_flatten.2 ⟨F,aBA g2,g4 x hx⟩,g5⟩;show css.flatten.getD i _=_;rw[aEP,jE css i _ hone g1];rfl
  have hg:l.getD i []= []:=by rw[aEP,List.getElem?_eq_none (by omega)];rfl
  rw[hg];refine⟨none,0,?_,fun j x hx=>by simp at hx,by simp,by simp⟩;show css.flatten.getD i _=_;rw[aEP,List.getElem?_eq_none (by rw[rK css hone];omega)];rfl
 have hend: ∀(d' :List Nat) (w' :World),d'.Perm (List.range l.length)->(d'.map fun i=>l.getD i []).Pairwise (fun a b=>leR a b=true)->jH pl.F w w' ->(∀F∈Fs,fT F w w')->w'.ownsRow 0 34 1 pl.val l.length (d'.map enc)->
  ∃v K φ',Ending.returned (.tuple #[])= .returned v/\aHY A φ w [(0,.arr 34 1 true ((cF l).map aE))] K φ' w' /\aF K φ' w' (.tup []) v:=by
  intro d' w' hperm hsort hon hkeep howns
  have hrange:(List.range l.length).map (fun i=>l.getD i [])=l:=by
   apply List.ext_getElem?;intro i;by_cases hi:i<l.length
   ·simp[hi]
   simp[hi]
  have hl' :d'.map (fun i=>l.getD i [])=cF l:=aLW (by have:=hperm.map (fun i=>l.getD i []);rwa [hrange] at this) hsort
  have hFr:(List.range l.length).map (fun i=>Fs.getD i [])=Fs:=by
   apply List.ext_getElem?;intro i;by_cases hi:i<l.length
   ·simp[hi,show i<Fs.length by omega]
   simp[hi,show ¬i<Fs.length by omega]
  have hFp:(d'.map fun i=>Fs.getD i []).flatten.Perm Fs.flatten:=by
   have:=(hperm.map (fun i=>Fs.getD i [])).flatten
   rwa [hFr] at this
  let pl' :Pl:=⟨pl.val,pl.top,(d'.map fun i=>Fs.getD i []).flatten⟩
  have hmem: ∀g,g∈pl'.F↔g∈pl.F:=fun g=>by
   simp only[pl',Pl.F,aD4,q3,hFp.mem_iff]
  have hnd' :pl'.F.Nodup:=by
   have:pl'.F.Perm pl.F:=by simp only[pl',Pl.F,q3];exact(List.Perm.refl _).append hFp
   exact this.nodup_iff.2 hnd
  refine⟨_,A,fun h=>if h=0 then some pl' else none,rfl,⟨⟨hon.os,hon.tape,hon.output,hon.size,fun b hb hn=>hon.block b hb (fun hm=>hn (hfoot b hm))⟩,fun _ h=>h,fun b hb=>⟨aKD (hI.lt b hb) hon.size,.inl hb⟩,fun b hb h pl1 e' hm' =>?_,fun h r hr=>?_,fun h hr=>?_,fun h h' pl1 pl2 hne ea eb=>?_,fun h pl1 e' =>?_,fun h pl1 e' g hg=>?_,fun h pl1 pl0 e' e0=>?_⟩,?_⟩
  ·split at e'
   ·injection e' with e';subst e'
    exact hI.out b hb 0 pl hp ((hmem b).1 hm')
   cases e'
  ·simp only[aS] at hr;split at hr
   ·rename_i eh;subst eh;injection hr with hr
    subst hr;refine⟨pl',by simp,d'.map (fun i=>[enc i]),d'.map (fun i=>Fs.getD i []),?_,q2,rfl,?_⟩
    ·have e4:(d'.map fun i=>[enc i]).flatten=d'.map enc:=zL enc d';rw[e4,aAK,aA5];exact howns
    rw[<-hl',List.map_map];refine zK (fun i=>aE (l.getD i [])) (fun i=>[enc i]) (fun i=>Fs.getD i []) fun i hi=>⟨rfl,?_⟩;have hil:i<l.length:=by simpa using hperm.mem_iff.1 hi
    obtain⟨a,cap,F,g1,g2,g3,g4,g5,g6⟩:=hrow i hil
    have ee:enc i= .slice a (l.getD i []).length cap:=by
     show css.flatten.getD i _=_;rw[aEP,jE css i _ hone g1];rfl
    have eF:Fs.getD i []=F:=by simp[aEP,g2]
    rw[ee,eF];exact cD.kept _ _ _ (hkeep F (aBA g2)) g6
   cases hr
  ·simp only[aS] at hr;split at hr
   ·cases hr
   rename_i eh;exact if_neg eh
  ·split at ea
   ·split at eb
    ·rename_i x y;exact absurd (x.trans y.symm) hne
    cases eb
   cases ea
  ·split at e'
   ·injection e' with e';subst e';exact hnd'
   cases e'
  ·split at e'
   ·injection e' with e';subst e'
    have:=(hmem g).1 hg;exact⟨.inr (hfoot g this),aKD (hge g this) hon.size⟩
   cases e'
  ·split at e'
   ·rename_i eh;subst eh;rw[hp] at e0;injection e0 with e0;injection e' with e'
    subst e0;subst e';exact⟨rfl,rfl⟩
   cases e'
  unfold aF;exact⟨#[],rfl,by unfold aL;rfl⟩
 rw[aAK] at q1;rcases q1.2 with ⟨hvn,hz⟩ | ⟨g,cap,cur,hvv,hg0,hb,hn,hcap,hsz,htk⟩
 ·have hcon:=AnyF.slices_SortFunc_none { Tryz.sortRows with } none 0 (.func (.func 186) #[] #[]) w;change Calls Tryz.prog 185 _ _ _ at hcon;rw[hvn];refine hcon.mono ?_;rintro en w' ⟨rfl,rfl⟩;have hz' :l= []:=aE6 hz;subst hz';exact hend [] w' (by simp) (by simp) (jH.refl _ _) (fun F hF g hg=>rfl) (by rw[hvn];exact⟨by simp,.inl ⟨rfl,rfl⟩⟩)
 have hgF:g ∉ Fs.flatten:=fun hm=>by
  rw[hFe,hvv] at hnd;simp only[Value.ownBlock,Option.toList_some,List.cons_append,aMU,List.nodup_cons] at hnd;exact hnd.1 hm
 have hgs:g<w.heap.size:=(Array.getElem?_eq_some_iff.1 hb).1;have hin: ∀b∈Fs.flatten,b<w.heap.size/\b≠g:=fun b hb' =>⟨hge b (by rw[hFe];exact aDU _ hb'),fun e=>hgF (e▸hb')⟩
 have hO:Go.Sort.SWO (ltOf fun x y:Nat=>bM (l.getD x []) (l.getD y [])):=
  { irrefl:=fun x=>by show decide (bM (l.getD x []) (l.getD x [])<0)=false;rw [oD];rfl
    trans:=fun x y z h1 h2=>by unfold ltOf at*;rw[aKQ] at*;exact kL h1 h2
    ntrans:=fun x y z h1 h2=>by unfold ltOf at*;rw[decide_eq_false_iff_not] at*;exact aAy h1 h2 }
 have hcmp:CmpLays1 Tryz.prog 186 #[] enc (fun x y:Nat=>bM (l.getD x []) (l.getD y [])) g 0 (List.range l.length).toArray.size w:=fun m os dk hs x y=>by
  obtain⟨a1,c1,ex,r1,k1,b1⟩:=henc x;obtain⟨a2,c2,ey,r2,k2,b2⟩:=henc y;rw[ex,ey];refine(aLV a1 a2 c1 c2 _ _ _ b1 b2 (wD r1 fun q hq=>mE dk (hin _ (k1 q hq)).1 (hin _ (k1 q hq)).2) (wD r2 fun q hq=>mE dk (hin _ (k2 q hq)).1 (hin _ (k2 q hq)).2)).mono ?_;rintro en w' ⟨rfl,rfl⟩;exact⟨rfl,0,#[],by simp[Go.Sort.grow_empty,World.drewN]⟩
 have htk' :cur.toList.take l.length=css.flatten:=by rw[Nat.mul_one] at htk;exact htk
 have hH:Go.Sort.Holds enc w g 0 (List.range l.length).toArray:=fun j hj=>by
  have hj' :j<l.length:=by simpa using hj
  refine⟨?_,by simp[World.frozen?,hb]⟩;have h1:(cur.toList.take l.length)[j]? =css.flatten[j]? :=by rw[htk']
  rw[List.getElem?_take_of_lt hj'] at h1;simp only[World.cell?,hb,Nat.zero_add,Option.isSome_none,Bool.false_eq_true,if_false];rw[<-Array.getElem?_toList,h1];obtain⟨a,cap',F,g1,_⟩:=hrow j hj';have h2:=jE css j _ hone g1
  have ee:enc j= .slice a (l.getD j []).length cap' :=by
   show css.flatten.getD j _=_;rw[aEP,h2];rfl
  have ej:(List.range l.length).toArray[j]! =j:=by simp[hj']
  rw[h2,ej,ee]
 have hone1:OneCell enc:=fun x=>by
  obtain⟨a,c,ex,_⟩:=henc x;rw[ex];rfl
 have eg: ∀args w,(callFunc 186 args).run Tryz.prog w= .ok (.enter 186 args) w:=enters_of Tryz.func186 (by kernel_rfl) rfl;have hcon:=Any.slices_SortFunc Tryz.sortRows enc hone1 (fun x y:Nat=>bM (l.getD x []) (l.getD y [])) hO 186 #[] g 0 cap (List.range l.length).toArray w eg hcmp hH hgs (by simpa using hl);change Calls Tryz.prog 185 _ _ _ at hcon;have hsz1:((List.range l.length).toArray.size:Nat)=l.length:=by simp
 rw[hsz1] at hcon;rw[hvv];refine hcon.mono ?_;rintro en w' ⟨rfl,d',n,os,hpm,hsd,rfl⟩;obtain⟨p1,_,p3⟩:=hpm;have hds:d'.size=l.length:=by simpa using p1
 have hperm:d'.toList.Perm (List.range l.length):=by
  have e1:(d'.extract 0 l.length).toList=d'.toList:=by rw[<-hds];simp
  have e2:((List.range l.length).toArray.extract 0 l.length).toList=List.range l.length:=by simp
  rw[e1,e2] at p3;exact p3
 have hkb: ∀k,k<w.heap.size->k≠g->(sortWorld enc w g 0 n d' os).heap[k]? =w.heap[k]? :=fun k hk hne=>mE d' hk hne
 have:=hend d'.toList (sortWorld enc w g 0 n d' os) hperm (by
  rw[List.pairwise_map,List.pairwise_iff_getElem];intro i j hi hj hij;have:=hsd i j (aAd _) hij (by simpa [hds] using hj);unfold ltOf at this;rw[decide_eq_false_iff_not] at this;rw[aB6];have ei:d'[i]! =d'.toList[i]:=by simp at hi;simp[hi]
  have ej:d'[j]! =d'.toList[j]:=by simp at hj;simp[hj]
  rw[<-ei,<-ej];exact this)
  ⟨rfl,rfl,rfl,by simp[sortWorld],fun k hk hne=>hkb k hk (fun e=>hne (by rw[hFe,hvv,e];simp[Value.ownBlock]))⟩
  (fun F hF b hb' =>hkb b (hin b (List.mem_flatten.2 ⟨F,hF,hb'⟩)).1 (hin b (List.mem_flatten.2 ⟨F,hF,hb'⟩)).2)
  (by
   rw[hvv];refine⟨by simp[hds],.inr ⟨g,cap,_,rfl,hg0,aA6 d' hb,hn,hcap,by simp[Go.Sort.putCells,hsz],?_⟩⟩;rw[Nat.mul_one];have:=aC7 enc cur d'.toList (by rw[aMa,hds];omega);rw[aMa,hds] at this;simpa using this)
 exact this
end Go.Proofs.YtafmaholhcgakaaGreat
namespace Go.Proofs.YtafmaholhcgakaaGreat
open Go.ChangeShapes Go.WideShapes Go.ChangeAt Go.RowKit
set_option linter.unusedVariables false
set_option linter.unusedSimpArgs false
theorem aNZ {l m:List Int}{k:Nat}{x y:Int}(hx:l[k]? =some x)(hy:m[k]? =some y)(h:(x==y)=false):decide (l=m)=false:=by
 rw[decide_eq_false_iff_not];rintro rfl;rw[hx] at hy;injection hy with hy
 subst hy;simp at h
set_option maxHeartbeats 1000000 in
theorem aJ5 (a1 a2:Option Addr)(c1 c2:Nat)(l m:List Int)(w:World)(hl:l.length<=9223372036854775807)(hm:m.length<=9223372036854775807)(h1:uO w a1 l)(h2:uO w a2 m):
 Calls Tryz.prog 102 #[.slice a1 l.length c1,.slice a2 m.length c2] w fun e w' =>e= .returned (.bool (decide (l=m)))/\ ∃q,w' =w.drewN q:=by
 have mixed:=aFF;have H1:=Lib.hid h1;have H2:=Lib.hid h2
 clear h1 h2
 by_cases hlm:l.length=m.length
 ·have HL:=Lib.hid hlm
  go_enter Tryz.func102,Tryz.ntmps102
  go_wp2
  go_loopg [13] l.length (fun g s wr=> ∃k q:Nat,k<=l.length/\l.length - k<=g/\s= .int .i64 k/\wr=w.drewN q/\Aside (l.take k=m.take k))
  case atStart=>exact⟨0,0,aAd _,by omega,rfl,rfl,rfl⟩
  case round=>
   obtain⟨k,q,hk,hg,rfl,rfl,A⟩:=hrel;by_cases hlt:k<l.length
   ·obtain⟨x,hx⟩:=cT hlt;obtain⟨b1,o1,rfl,g1⟩:=H1.out k x hx;obtain⟨y,hy⟩:=cT (l:=m) (k:=k) (by omega);obtain⟨b2,o2,rfl,g2⟩:=H2.out k y hy;have HX:=Lib.hid hx;have HY:=Lib.hid hy
    clear hx hy
    cases hxy:(x==y) with
    | true=>
      have hne:(x !=y)=false:=by rw[bne,hxy];rfl
      go_wp2_with fail
      go_region_o
      go_wp2
      go_roundg (l.length - (k+1))
      case measure=>omega
      case rel=>exact⟨k+1,q+1,by omega,by omega,by go_num,rfl,(show Aside _ from eW HX.out (by rw[HY.out,show x=y by simpa using hxy]) A.out)⟩
    | false=>
      have hne:(x !=y)=true:=by rw[bne,hxy];rfl
      go_wp2_with fail
      go_region_o
      go_wp2
      go_ret
      refine⟨?_,q+1,rfl⟩;rw[aNZ HX.out HY.out hxy];rfl
   go_wp2
   go_ret
   refine⟨?_,q,rfl⟩;rw[decide_eq_true (dB (by omega) HL.out A.out)];rfl
 have hnm: ¬(l.length:Int)=(m.length:Int):=by omega
 go_enter Tryz.func102,Tryz.ntmps102
 go_wp2
 go_ret
 refine⟨?_,0,rfl⟩;rw[decide_eq_false (lG hnm)];rfl
theorem aN0 (a1 a2:Option Addr)(c1 c2:Nat)(l m:List Int)(w:World)(hl:l.length<=9223372036854775807)(hm:m.length<=9223372036854775807)(h1:uO w a1 l)(h2:uO w a2 m):
 Calls Tryz.prog 188 #[.slice a1 l.length c1,.slice a2 m.length c2] w fun e w' =>e= .returned (.bool (decide (l=m)))/\ ∃q,w' =w.drewN q:=by
 have HC:=Lib.hid (aJ5 a1 a2 c1 c2 l m w hl hm h1 h2)
 clear h1 h2
 go_enter Tryz.func188,Tryz.ntmps188
 go_wp2_with (go_at_call 102;refine HC.out.mono ?_;rintro e w' ⟨rfl,q,hw⟩;rw[hw])
 go_ret
 exact⟨rfl,_,rfl⟩
end Go.Proofs.YtafmaholhcgakaaGreat
namespace Go.Proofs.YtafmaholhcgakaaGreat
open Go.ChangeShapes Go.WideShapes Go.ChangeAt Go.RowKit Go.Shelf Go.Lib
set_option linter.unusedVariables false
set_option linter.unusedSimpArgs false
section
variable (eq:Nat->Nat->Bool)
def kU (d:Array Nat)(j:Nat):Bool:=decide (j=0) || !eq d[j]! d[j - 1]!
def kV (d:Array Nat)(m:Nat):List Nat:=((List.range m).filter (kU eq d)).map (d[·]!)
theorem aEV (d:Array Nat): ∀j,j<1->kU eq d j=true:=by
 intro j hj;obtain rfl:j=0:=by omega
 simp[kU]
theorem aEW {d:Array Nat}{m:Nat}(h:eq d[m]! d[m - 1]! =false):kU eq d m=true:=by simp[kU,h]
theorem aEX {d:Array Nat}{m:Nat}(hm:0<m)(h:eq d[m]! d[m - 1]! =true):kU eq d m=false:=by
 have:m≠0:=by omega
 simp[kU,h,this]
theorem mF (d:Array Nat)(m:Nat):kV eq d (m+1)=kV eq d m++(if kU eq d m=true then [d[m]!] else []):=by
 unfold kV;rw[List.range_succ,List.filter_append,aG0]
 congr 1
 by_cases h:kU eq d m=true<;>simp[h]
theorem aA7 (d:Array Nat)(m:Nat)(h: ∀j,j<m->kU eq d j=true):kV eq d m=(List.range m).map (d[·]!):=by
 unfold kV;rw[List.filter_eq_self.2 (fun j hj=>h j (aJy.1 hj))]
theorem aG1 (d:Array Nat)(h: ∀j,j<d.size->kU eq d j=true):kV eq d d.size=d.toList:=by
 rw[aA7 eq d _ h];exact range_map_get d
structure rL (d:Array Nat) (m k:Nat) (dk:Array Nat):Prop where
 size:dk.size=d.size
 len:(kV eq d m).length=k
 lt:k<m
 low: ∀j,j<k->(kV eq d m)[j]? =some dk[j]!
 high: ∀j,k<=j->dk[j]! =d[j]!
variable {eq}
theorem rL.start {d:Array Nat}{k0:Nat}(hall: ∀j,j<k0->kU eq d j=true)(hdup:kU eq d k0=false):rL eq d (k0+1) k0 d where
 size:=rfl
 len:=by rw[mF,hdup,aA7 eq d k0 hall];simp
 lt:=Nat.lt_succ_self _
 low:=fun j hj=>by rw[mF,hdup,aA7 eq d k0 hall];simp[hj]
 high:=fun _ _=>rfl
theorem rL.keep {d dk:Array Nat}{m k:Nat}(h:rL eq d m k dk)(hm:m<d.size)(hk:kU eq d m=true):rL eq d (m+1) (k+1) (dk.setIfInBounds k d[m]!) where
 size:=by simp[h.size]
 len:=by rw[mF,hk];simp[h.len]
 lt:=by have:=h.lt;omega
 low:=fun j hj=>by
  rw[mF,hk,if_pos rfl];by_cases e:j=k
  ·subst e;rw[aHA (by rw[h.len];exact aKC _),h.len,Nat.sub_self,Go.Sort.getElem!_set_same dk j _ (by have:=h.lt;have:=h.size;omega)];rfl
  rw[aKF (by rw[h.len];omega),h.low j (by omega),Go.Sort.getElem!_set_other dk k j _ e]
 high:=fun j hj=>by rw[Go.Sort.getElem!_set_other dk k j _ (by omega),h.high j (by omega)]
theorem rL.skip {d dk:Array Nat}{m k:Nat}(h:rL eq d m k dk)(hk:kU eq d m=false):rL eq d (m+1) k dk where
 size:=h.size
 len:=by rw[mF,hk];simpa using h.len
 lt:=by have:=h.lt;omega
 low:=fun j hj=>by rw[mF,hk];simpa using h.low j hj
 high:=h.high
theorem rL.done {d dk:Array Nat}{k:Nat}(h:rL eq d d.size k dk)(z:Nat):
 lay dk k (List.replicate (d.size - k) z)=(kV eq d d.size++List.replicate (d.size - k) z).toArray:=by
 have hk:=h.lt;have hs:=h.size;apply Array.ext_getElem?;intro j;rw[lay_get? _ _ _ _ (by simp;omega),show (kV eq d d.size++List.replicate (d.size - k) z).toArray[j]? =(kV eq d d.size++List.replicate (d.size - k) z)[j]? from List.getElem?_toArray];simp only[aMW];by_cases c:j<k
 ·rw[if_neg (by omega),aKF (by rw[h.len];exact c),h.low j c,getElem!_pos dk j (by omega),Array.getElem?_eq_getElem]
 rw[aHA (by rw[h.len];omega),h.len];by_cases c2:j<d.size
 ·rw[if_pos (by omega)]
 rw[if_neg (by omega),Array.getElem?_eq_none (by omega),List.getElem?_eq_none (by simp;omega)]
end
set_option maxHeartbeats 4000000 in
set_option maxRecDepth 1000000 in
theorem aG2 (enc:Nat->Value)(eq:Nat->Nat->Bool)(hO:OneCell enc)(zr:Nat)(hz:enc zr= .slice none 0 0)(blk off cap:Nat)(d:Array Nat)(w:World)(hH:Go.Sort.Holds enc w blk off d)(hsz:d.size<=9223372036854775807)(hcap:d.size<=cap)
 (hcmp: ∀(dk:Array Nat) (q:Nat) (x y:Nat),dk.size=d.size-> ∀n,Calls Tryz.prog 188 #[enc x,enc y] ((Go.Sort.putRow enc (Go.Sort.ahead w q) blk off dk).drewN n) fun e w' =>e= .returned (.bool (eq x y))/\ ∃qq,w' =((Go.Sort.putRow enc (Go.Sort.ahead w q) blk off dk).drewN n).drewN qq):
 Calls Tryz.prog 187 #[.slice (some ⟨blk,off,none⟩) d.size cap,.func (.func 188) #[] #[]] w fun e w' =>e= .returned (.slice (some ⟨blk,off,none⟩) (kV eq d d.size).length cap)/\ ∃q,w' =Go.Sort.putRow enc (Go.Sort.ahead w q) blk off (kV eq d d.size++List.replicate (d.size - (kV eq d d.size).length) zr).toArray:=by
 have mixed:=aFF;have hcl0:=hO.cells;simp only[Value.cells] at hcl0;have hst:=hO.store Tryz.prog
 have same: ∀q,(∀j,j<d.size->kU eq d j=true)->(kV eq d d.size).length=d.size/\w.drewN q=Go.Sort.putRow enc (Go.Sort.ahead w q) blk off (kV eq d d.size++List.replicate (d.size - (kV eq d d.size).length) zr).toArray:=by
  intro q hall;have e:kV eq d d.size=d.toList:=aG1 eq d hall;rw[e];refine⟨by simp,?_⟩;simp only[aMa,Nat.sub_self,List.replicate_zero,aMT,Array.toArray_toList];exact(Go.Sort.putRow_self enc (Go.Sort.ahead w q) blk off d (Go.Sort.holds_ahead enc w q blk off d hH)).symm
 have HS:Aside _:=same;have HC:Aside _:=hcmp
 clear same hcmp
 by_cases h2:d.size<2
 ·have HH:Aside (Go.Sort.Holds enc w blk off d):=hH
  clear hH
  go_enter Tryz.func187,Tryz.ntmps187
  go_wp2
  go_ret
  obtain⟨e1,e2⟩:=HS.out 0 (fun j hj=>aEV eq d j (by omega));exact⟨by rw[e1];rfl,0,e2⟩
 go_enter Tryz.func187,Tryz.ntmps187
 go_wp2
 go_loopg [5] d.size (fun g s3 wr=> ∃k q:Nat,1<=k/\k<=d.size/\d.size - k<=g/\s3= .int .i64 k/\wr=w.drewN q/\ ∀j,j<k->kU eq d j=true)
 case atStart=>exact⟨1,0,aKC _,by omega,by omega,rfl,rfl,aEV eq d⟩
 case round=>
  obtain⟨k,q,hk1,hk,hg,rfl,rfl,hall⟩:=hrel;by_cases hlt:k<d.size
  ·obtain⟨c1,f1⟩:=hH k hlt;obtain⟨c0,f0⟩:=hH (k - 1) (by omega);have A:Aside (∀j,j<k->kU eq d j=true):=hall;have HH:Aside (Go.Sort.Holds enc w blk off d):=hH;have hc0:=HC.out d q d[k]! d[k - 1]! rfl;have hself:Go.Sort.putRow enc (Go.Sort.ahead w q) blk off d=w.drewN q:=Go.Sort.putRow_self enc (Go.Sort.ahead w q) blk off d (Go.Sort.holds_ahead enc w q blk off d hH);rw[hself] at hc0
   clear hall hH hself
   generalize hx:d[k]! =x at c1 hc0;generalize hy:d[k - 1]! =y at c0 hc0;have B:Aside (d[k]! =x/\d[k - 1]! =y):=⟨hx,hy⟩
   clear hx hy
   obtain⟨kp,rfl⟩: ∃kp,k=kp+1:=⟨k - 1,by omega⟩;simp only[Nat.add_sub_cancel] at c0;have hwp:IntKind.i64.wrap (kp:Int)=(kp:Int):=by rw[IntKind.wrap_i64];omega
   have kz:(kp:Int)+1<(d.size:Int):=by omega
   have kz1:(kp:Int)<(d.size:Int):=by omega
   have p0:(0:Int)<=(kp:Int)+1:=by omega
   have e0:((kp:Int)+1).toNat=kp+1:=by omega
   have c1' :(w.drewN q).cell? ⟨blk,off+(kp+1),none⟩=some (enc x):=c1;have c0' :(w.drewN q).cell? ⟨blk,off+kp,none⟩=some (enc y):=c0
   clear c1 c0
   generalize hwq:w.drewN q=wq at c1' c0' hc0 ⊢;have WQ:Hid (w.drewN q=wq):=hwq
   clear hwq
   cases hdup:eq x y with
   | true=>
     rw[hdup] at hc0
     go_wp2_with fail
     go_quiet ((first|(go_at_call 188;exact Calls.quiet_of (hc0 _))|(go_at_fn 188;exact Calls.quiet_of (hc0 _))))
     go_wp2
     have W1:Hid (wq.drewN nq=Go.Sort.putRow enc (Go.Sort.ahead w (q+nq)) blk off d):=by
      show _=_;rw[<-WQ.out,World.drewN_drewN];exact(Go.Sort.putRow_self enc (Go.Sort.ahead w (q+nq)) blk off d (Go.Sort.holds_ahead enc w (q+nq) blk off d HH.out)).symm
     clear c1' c0' f0 f1 hc0
     go_loopg [5,7] d.size (fun g s3 s5 wr=> ∃(kk k2 q2:Nat) (dk:Array Nat),s3= .int .i64 kk/\s5= .int .i64 ((k2:Int)+1)/\kp+1+(k2+1)<=d.size/\d.size - (kp+1+(k2+1))<=g/\wr=Go.Sort.putRow enc (Go.Sort.ahead w q2) blk off dk/\rL eq d (kp+1+(k2+1)) kk dk)
     case atStart=>exact⟨kp+1,0,q+nq,d,by go_num,rfl,by omega,by omega,W1.out,rL.start A.out (aEX eq (by omega) (by rw[B.out.1,Nat.add_sub_cancel,show d[kp]! =y from B.out.2];exact hdup))⟩
     case round=>
      obtain⟨kk,k2,q2,dk,rfl,rfl,hle,hg2,hwr,hI⟩:=hrel;have hkk:=hI.lt;have hds:=hI.size;have hHk:Go.Sort.Holds enc wr blk off dk:=by rw[hwr];exact Go.Sort.holds_putRow enc _ blk off d dk (Go.Sort.holds_ahead enc w q2 blk off d HH.out) hds
      have W2:Aside (wr=Go.Sort.putRow enc (Go.Sort.ahead w q2) blk off dk):=hwr;have I2:Aside (rL eq d (kp+1+(k2+1)) kk dk):=hI;by_cases hlt2:kp+1+(k2+1)<d.size
      ·obtain⟨cm,_⟩:=hHk (kp+1+(k2+1)) (by omega);obtain⟨cp,_⟩:=hHk (kp+1+k2) (by omega);obtain⟨ck,fk⟩:=hHk kk (by omega);rw[hI.high (kp+1+(k2+1)) (by omega),show off+(kp+1+(k2+1))=off+(kp+1)+(k2+1) by omega] at cm;rw[hI.high (kp+1+k2) (by omega),show off+(kp+1+k2)=off+(kp+1)+k2 by omega] at cp;have hc1:=HC.out dk q2 d[kp+1+(k2+1)]! d[kp+1+k2]! hds;rw[<-hwr] at hc1
       clear hHk hI hwr
       generalize hu:d[kp+1+(k2+1)]! =u at cm hc1;generalize hv:d[kp+1+k2]! =v at cp hc1;generalize dk[kk]! =old at ck;have C:Aside (d[kp+1+(k2+1)]! =u/\d[kp+1+k2]! =v):=⟨hu,hv⟩
       clear hu hv
       have hwp2:IntKind.i64.wrap (k2:Int)=(k2:Int):=by rw[IntKind.wrap_i64];omega
       have jz:(k2:Int)+1<(d.size:Int) - ((kp:Int)+1):=by omega
       have jz1:(k2:Int)<(d.size:Int) - ((kp:Int)+1):=by omega
       have j0:(0:Int)<=(k2:Int)+1:=by omega
       have je:((k2:Int)+1).toNat=k2+1:=by omega
       cases huv:eq u v with
       | true=>
         rw[huv] at hc1
         go_wp2_with fail
         go_quiet ((first|(go_at_call 188;exact Calls.quiet_of (hc1 _))|(go_at_fn 188;exact Calls.quiet_of (hc1 _))))
         go_wp2
         go_roundg (d.size - (kp+1+(k2+1+1)))
         case measure=>omega
         case rel=>exact⟨kk,k2+1,q2+nq,dk,rfl,by go_num,by omega,by omega,by rw[W2.out];exact Go.Proofs.putRow_drewN _ _ _ _ _ _ _,I2.out.skip (aEX eq (by omega) (by rw[C.out.1,show kp+1+(k2+1) - 1=kp+1+k2 by omega,C.out.2];exact huv))⟩
       | false=>
         rw[huv] at hc1
         go_wp2_with fail
         go_quiet ((first|(go_at_call 188;exact Calls.quiet_of (hc1 _))|(go_at_fn 188;exact Calls.quiet_of (hc1 _))))
         go_wp2
         go_roundg (d.size - (kp+1+(k2+1+1)))
         case measure=>omega
         case rel=>
          refine⟨kk+1,k2+1,q2+nq,dk.setIfInBounds kk u,by go_num,by go_num,by omega,by omega,?_,?_⟩
          ·rw[W2.out,show (Go.Sort.putRow enc (Go.Sort.ahead w q2) blk off dk).drewN nq=Go.Sort.putRow enc (Go.Sort.ahead w (q2+nq)) blk off dk from Go.Proofs.putRow_drewN _ _ _ _ _ _ _,Go.Sort.putRow_set enc _ blk off dk kk u (by omega)]
          have:=I2.out.keep hlt2 (aEW eq (by rw[C.out.1,show kp+1+(k2+1) - 1=kp+1+k2 by omega,C.out.2];exact huv))
          rwa [C.out.1] at this
      have hend:kp+1+(k2+1)=d.size:=by omega
      have hcl: ∀ty,(Builtin.clear_ #[86] ty #[.slice (some ⟨blk,off+kk,none⟩) (d.size - kk) (cap - kk)]).run Tryz.prog wr= .ok (.tuple #[]) (wr.setCells blk (off+kk) (List.replicate (d.size - kk) (enc zr))):=
       fun ty=>Lib.run_clear_slice wr _ _ ty _ Tryz.underlying86 (fun w=>by rw[hz];rfl) (hO.cells zr) (hO zr) blk (off+kk) _ _ (by omega) (fun j hj=>by rw[show off+kk+j=off+(kk+j) by omega,(hHk (kk+j) (by omega)).1];rfl) (fun j hj=>by rw[show off+kk+j=off+(kk+j) by omega];exact(hHk (kk+j) (by omega)).2)
      clear hHk hI hwr
      go_wp2
      go_ret
      have hI:=I2.out;rw[hend] at hI;refine⟨by rw[hI.len];rfl,q2,?_⟩;rw[hI.len,<-hI.done zr,<-putRow_setCells enc _ blk off _ dk kk (by simp;omega),<-W2.out,List.map_replicate,hz]
   | false=>
     rw[hdup] at hc0
     go_wp2_with fail
     go_quiet ((first|(go_at_call 188;exact Calls.quiet_of (hc0 _))|(go_at_fn 188;exact Calls.quiet_of (hc0 _))))
     go_wp2
     go_roundg (d.size - (kp+1+1))
     case measure=>omega
     case rel=>
      refine⟨kp+1+1,q+nq,by omega,by omega,aKC _,by go_num,by rw[<-WQ.out,World.drewN_drewN],fun j hj=>?_⟩;by_cases e:j=kp+1
      ·subst e;exact aEW eq (by rw[B.out.1,B.out.2];exact hdup)
      exact A.out j (by omega)
  obtain rfl:k=d.size:=by omega
  have HH:Aside (Go.Sort.Holds enc w blk off d):=hH
  clear hH
  go_wp2
  go_ret
  obtain⟨e1,e2⟩:=HS.out q hall;exact⟨by rw[e1];rfl,q,e2⟩
end Go.Proofs.YtafmaholhcgakaaGreat
