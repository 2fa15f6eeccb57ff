/-
  Contracts and plain laws, joined: part 6.
-/
import Derived.Test.YtlidmoeecphbmaaGreateb3
import Derived.Test.YtlidmoeecphbmaaGreateb4
import Derived.IntWalk
import Derived.Deep.RegionHeld3
import Derived.BigRegion
import Derived.Deep.LoopGhost
import Derived.Shelf.SlSortCmp.Insertion
import Derived.Shelf.SlSortCmp.Whole1
import Derived.Shelf.SlSortCmp.NoneTotal
import Derived.Ground.SlsfProg
import Derived.Shelf.RegionOpenPlain
import Derived.Deep.Draws
import Derived.Lib.SlicesCompact
import Derived.Lib.SliceRun
import Derived.Sort.WalkB12
import Derived.Lib.Walk
import Derived.Shelf.SlicesE.Kit
namespace Go.Proofs.YtlidmoeecphbmaaGreat
open Go.ChangeShapes Go.WideShapes Go.ChangeAt Go.RowKit
set_option linter.unusedVariables false
set_option linter.unusedSimpArgs false
set_option maxRecDepth 100000
set_option maxHeartbeats 4000000
abbrev aDy (l:List Int):AV × List (Nat × Rs):=(.own 0,[(0,.arr 3 1 true (l.map intD))])
abbrev aGY (l:List Int):Prop:=Cn 164 [.one (.sl 3 1 (l.map intD))] (aDy l).1 (aDy l).2
theorem cpI (l:List Int)(hl:l.length<=1048576):aGY l:=by
 refine cq Tryz.func164 (.app Int intD ([]:List Int) l<| .fin [(0,500)]) (p:=Lx (l.map intD)<| Ap intD ([]:List Int) l 8 ((([]:List Int)++l).map intD=l.map intD/\True)) (by kernel_rfl) ?_;refine lx fun n0=>?_;refine ap ?_ (fun _=>rfl) (by simp;omega);apply et1
 ·simp
abbrev aJi (l:List (List Int)):AV × List (Nat × Rs):=(.own 0,[(0,.arr 91 1 true (l.map aC))])
abbrev aM5 (l:List (List Int)):Prop:=Cn 195 [.one (.sl 91 1 (l.map aC))] (aJi l).1 (aJi l).2
theorem cpR (l:List (List Int))(hc:cO l<=1048576):aM5 l:=by
 refine cq Tryz.func195 (.len l.length<| .loop (Nat × (List (List Int))) (Q2 Nat (List (List Int))) ([3,5,6]++rg 9 10) [600,1500,1600,1700] (fun yy0=>[(3,.own 600),(9,vI (yy0.1:Int))]) (fun yy0=>[(600,some (.arr 91 1 true (yy0.2.map aC)))]) (fun yy0=>yy0.1<=l.length/\yy0.2=l.take yy0.1) (fun yy0=>l.length - yy0.1) (fun yy0=> .br (.elem _ aC l (fun e11=>bH (aDy e11)<| .appx (List Int) aC yy0.2 e11<| .back [(600,1700)])) (.fin [(0,600)]))) (p:=Lx (l.map aC)<| Lm aC l/\((∃(k:Nat) (out:List (List Int)),0=(k:Int)/\[]=out.map aC/\k<=l.length/\out=l.take k)/\ ∀(k:Nat) (out:List (List Int)),(k<=l.length/\out=l.take k)->Br ((k:Int)<(l.length:Int)) (0<=(k:Int)/\Em aC l k fun e11=>aGY e11/\out.map aC=out.map aC/\e11.map intD=e11.map intD/\(out.length+1)*24<=140737488355328/\bK ((k:Int)+1)/\ ∃(k' :Nat) (out' :List (List Int)),((k:Int)+1)=(k' :Int)/\(out++[e11]).map aC=out'.map aC/\(k' <=l.length/\out' =l.take k')/\l.length - k' <l.length - k) (out.map aC=l.map aC/\True))) (by kernel_rfl) ?_;refine lx fun n0=>?_;have hlen:=fD l;refine⟨aA8 _,⟨0,([]:List (List Int)),rfl,rfl,aCC _,rfl⟩,fun k out ⟨hk,ho⟩=>?_⟩;refine dd (fun c0=>?_) fun c0=>?_
 ·refine⟨by omega,rfl,by omega,fun e11 h11=>?_⟩;have h5:e11.length<=1048576:=by have:=aAX h11;have:cC e11=e11.length:=rfl;omega
  refine⟨cpI _ (by omega),rfl,rfl,by simp[ho];have:=fD l;omega,⟨by omega,by omega⟩,?_⟩;exact⟨k+1,out++[e11],rfl,rfl,⟨by omega,by rw[ho,bQ h11]⟩,by omega⟩
 ·apply et1
  ·rw[ho,aGj (by omega)]
end Go.Proofs.YtlidmoeecphbmaaGreat
namespace Go.Proofs.YtlidmoeecphbmaaGreat
open Go.ChangeShapes Go.WideShapes Go.ChangeAt Go.RowKit
set_option linter.unusedVariables false
set_option linter.unusedSimpArgs false
theorem aWJ (x:Int)(w:World):Calls Tryz.prog 291 #[.int .i64 x] w fun e w' =>e= .returned (.bool false)/\w' =w:=by
 go_enter Tryz.func291,Tryz.ntmps291
 go_wp2
 go_ret
 exact⟨by simp,rfl⟩
theorem aM6 (x y:Int)(w:World):Calls Tryz.prog 277 #[.int .i64 x,.int .i64 y] w fun e w' =>e= .returned (.int .i64 (sZ x y))/\w' =w:=by
 go_enter Tryz.func277,Tryz.ntmps277
 go_wp2_with (go_at_call 291;refine(aWJ _ _).mono ?_;rintro e w' ⟨rfl,hw⟩;rw[hw])
 all_goals (go_ret;refine⟨?_,rfl⟩;unfold sZ;(repeat' split)<;>first|rfl|(exfalso;omega))
def aBM (w:World)(a:Option Addr)(l:List Int):Prop:= ∀j x,l[j]? =some x-> ∃b o,a=some ⟨b,o,none⟩/\w.cell? ⟨b,o+j,none⟩=some (.int .i64 x)
set_option maxHeartbeats 1000000 in
theorem aM7 (a1 a2:Option Addr)(c1 c2:Nat)(l m:List Int)(w:World)(hl:l.length<=9223372036854775807)(hm:m.length<=9223372036854775807)(h1:aBM w a1 l)(h2:aBM w a2 m):
 Calls Tryz.prog 262 #[.slice a1 l.length c1,.slice a2 m.length c2] w fun e w' =>e= .returned (.int .i64 (cB l m))/\w' =w:=by
 have H1:=Lib.hid h1;have H2:=Lib.hid h2
 clear h1 h2
 go_enter Tryz.func262,Tryz.ntmps262
 go_wp2
 go_loop [5,6,7,8,11] (fun _ _ _ _ s=> ∃k:Nat,s= .int .i64 k/\k<=l.length/\k<=m.length/\cB (l.drop k) (m.drop k)=cB l m) (fun _ _ _ _ s=>l.length - (intOf s).toNat)
 case atStart=>exact⟨0,rfl,aCC _,aCC _,rfl⟩
 case round=>
  obtain⟨k,rfl,hk,hk2,hv⟩:=hrel;have HV:=Lib.hid hv
  clear hv
  by_cases hlt:k<l.length
  ·obtain⟨x,hx⟩:=dA hlt;obtain⟨b1,o1,rfl,g1⟩:=H1.out k x hx;by_cases hlt2:k<m.length
   ·obtain⟨y,hy⟩:=dA hlt2;obtain⟨b2,o2,rfl,g2⟩:=H2.out k y hy;have HD:=Lib.hid (show cB l m=if sZ x y=0 then cB (l.drop (k+1)) (m.drop (k+1)) else sZ x y by rw[<-HV.out,lK hx,lK hy,aJf]);by_cases hc:sZ x y=0
    ·have HC:=Lib.hid hc
     clear hc
     go_wp2_with (go_at_call 277;refine(aM6 _ _ _).mono ?_;rintro e w' ⟨rfl,hw⟩;rw[hw,HC.out])
     exact⟨⟨k+1,by simp,by omega,by omega,by rw[HD.out,if_pos HC.out]⟩,by simp[intOf];omega⟩
    have HC:=Lib.hid hc;have hcb:(sZ x y !=0)=true:=by simpa using hc
    clear hc
    go_wp2_with (go_at_call 277;refine(aM6 _ _ _).mono ?_;rintro e w' ⟨rfl,hw⟩;rw[hw])
    go_ret
    refine⟨?_,rfl⟩;rw[HD.out,if_neg HC.out];rfl
   have hge:m.length<=k:=by omega
   have HE:=Lib.hid (jT (l:=l) (m:=m) (k:=k) ⟨hk,hk2⟩ (.inr hlt2))
   go_wp2
   go_ret
   refine⟨?_,rfl⟩;rw[<-HV.out,HE.out,if_neg (by omega),if_pos (by omega)];rfl
  have HE:=Lib.hid (jT (l:=l) (m:=m) (k:=k) ⟨hk,hk2⟩ (.inl hlt));by_cases hlm:l.length<m.length
  ·go_wp2
   go_ret
   refine⟨?_,rfl⟩;rw[<-HV.out,HE.out,if_pos hlm];rfl
  go_wp2
  go_ret
  refine⟨?_,rfl⟩;rw[<-HV.out,HE.out,if_neg hlm,if_neg (by omega)];rfl
theorem aT0 (a1 a2:Option Addr)(c1 c2:Nat)(l m:List Int)(w:World)(hl:l.length<=9223372036854775807)(hm:m.length<=9223372036854775807)(h1:aBM w a1 l)(h2:aBM w a2 m):
 Calls Tryz.prog 252 #[.slice a1 l.length c1,.slice a2 m.length c2] w fun e w' =>e= .returned (.int .i64 (cB l m))/\w' =w:=by
 have HC:=Lib.hid (aM7 a1 a2 c1 c2 l m w hl hm h1 h2)
 clear h1 h2
 go_enter Tryz.func252,Tryz.ntmps252
 go_wp2_with (go_at_call 262;refine HC.out.mono ?_;rintro e w' ⟨rfl,hw⟩;rw[hw])
 go_ret
 exact⟨rfl,rfl⟩
end Go.Proofs.YtlidmoeecphbmaaGreat
namespace Go.Proofs.YtlidmoeecphbmaaGreat
open Go.ChangeShapes Go.WideShapes Go.ChangeAt Go.RowKit
set_option linter.unusedVariables false
set_option linter.unusedSimpArgs false
set_option maxRecDepth 100000
set_option maxHeartbeats 4000000
theorem aAZ (l:List Int):cB l l=0:=eP.2 rfl
theorem qL: ∀{l m:List Int},cB l m<0↔0<cB m l
 | [],[]=>by simp[cB]
 | [],_::_=>by simp[cB]
 | _::_,[]=>by simp[cB]
 | a::l,b::m=>by
   simp only[cB];by_cases h1:a<b
   ·simp[h1,show ¬b<a by omega]
   by_cases h2:b<a
   ·simp[h1,h2]
   simp only[h1,h2,if_false];exact qL
theorem mD: ∀{l m n:List Int},cB l m<0->cB m n<0->cB l n<0
 | [],[],n,h1,_=>by simp[cB] at h1
 | [],_::_,[],_,h2=>by simp[cB] at h2
 | [],_::_,_::_,_,_=>by simp[cB]
 | _::_,[],n,h1,_=>by simp[cB] at h1
 | a::l,b::m,[],_,h2=>by simp[cB] at h2
 | a::l,b::m,c::n,h1,h2=>by
   simp only[cB] at*;rcases Int.lt_trichotomy a b with ab | ab | ab
   ·rcases Int.lt_trichotomy b c with bc | bc | bc
    ·rw[if_pos (by omega)];decide
    ·subst bc;rw[if_pos ab];decide
    rw[if_neg (by omega),if_pos bc] at h2;exact absurd h2 (by decide)
   ·subst ab;rcases Int.lt_trichotomy a c with bc | bc | bc
    ·rw[if_pos bc];decide
    ·subst bc;rw[if_neg (by omega),if_neg (by omega)] at*;exact mD h1 h2
    rw[if_neg (by omega),if_pos bc] at h2;exact absurd h2 (by decide)
   rw[if_neg (by omega),if_pos ab] at h1;exact absurd h1 (by decide)
theorem aDz {l m n:List Int}(h1: ¬cB l m<0)(h2: ¬cB m n<0): ¬cB l n<0:=by
 intro h;by_cases e:cB l m=0
 ·rw[eP.1 e] at h;exact h2 h
 exact h2 (mD (qL.2 (by omega)) h)
def leR (a b:List Int):Bool:=decide (cB a b<=0)
theorem aFS {a b:List Int}:leR a b=true↔ ¬cB b a<0:=by
 rw[leR,aTb];constructor
 ·intro h q;have:=qL.1 q;omega
 intro h;have: ¬0<cB a b:=fun q=>h (qL.2 q);omega
theorem aLF {a b:List Int}(h1:leR a b=true)(h2:leR b a=true):a=b:=by
 rw[aFS] at h1 h2;have: ¬0<cB a b:=fun q=>h1 (qL.2 q);exact eP.1 (by omega)
def dD (l:List (List Int)):List (List Int):=l.mergeSort leR
theorem aBN (l:List (List Int)):(dD l).Perm l:=List.mergeSort_perm l leR
theorem aGZ (l:List (List Int)):(dD l).Pairwise (fun a b=>leR a b=true):=
 List.pairwise_mergeSort (fun a b c h1 h2=>by rw[aFS] at*;exact aDz h2 h1) (fun a b=>by
  by_cases h:cB b a<0
  ·have:leR b a=true:=by rw[leR,aTb];omega
   simp[this]
  have:leR a b=true:=aFS.2 h;simp[this]) l
theorem aT1 {l m:List (List Int)}(hp:m.Perm l)(hs:m.Pairwise (fun a b=>leR a b=true)):m=dD l:=
 List.Perm.eq_of_pairwise (le:=fun a b=>leR a b=true) (fun a b _ _ h1 h2=>aLF h1 h2) hs (aGZ l) (hp.trans (aBN l).symm)
theorem aDZ (l:List (List Int)):(dD l).length=l.length:=(aBN l).length_eq
end Go.Proofs.YtlidmoeecphbmaaGreat
namespace Go.Proofs.YtlidmoeecphbmaaGreat
open Go.ChangeShapes Go.WideShapes Go.ChangeAt Go.RowKit Go.Shelf Go.Lib
set_option linter.unusedVariables false
set_option linter.unusedSimpArgs false
theorem aG0 {w:World}{k:Nat}{ι:Type}(f:ι->List bP)(g:ι->List Value)(h:ι->List Nat): ∀{L:List ι},(∀i∈L,(f i).length=k/\dB w (f i) (g i) (h i))->cL w k (L.map f) (L.map g) (L.map h)
 | [],_=>by simp only[List.map_nil];unfold cL;exact⟨rfl,rfl⟩
 | i::L,hL=>by
   simp only[aKT];unfold cL;exact⟨_,_,_,_,rfl,rfl,(hL i (by simp)).1,(hL i (by simp)).2,aG0 f g h fun j hj=>hL j (by simp[hj])⟩
theorem aA0 {w:World}{k:Nat}: ∀{xs:List (List bP)} {css:List (List Value)} {Fs:List (List Nat)},cL w k xs css Fs->css.length=xs.length/\Fs.length=xs.length
 | [],_,_,h=>by unfold cL at h;rw[h.1,h.2];exact⟨rfl,rfl⟩
 | x::xs,_,_,h=>by
   unfold cL at h;obtain⟨c,css',F,Fs',rfl,rfl,_,_,h3⟩:=h;have:=aA0 h3;simp[this.1,this.2]
theorem yJ {w:World}{k:Nat}: ∀{xs:List (List bP)} {css:List (List Value)} {Fs:List (List Nat)} {i:Nat} {x:List bP},cL w k xs css Fs->xs[i]? =some x-> ∃c F,css[i]? =some c/\Fs[i]? =some F/\x.length=k/\dB w x c F
 | [],_,_,_,_,_,hx=>by simp at hx
 | y::xs,_,_,0,x,h,hx=>by
   unfold cL at h;obtain⟨c,css',F,Fs',rfl,rfl,h1,h2,_⟩:=h;simp at hx;subst hx;exact⟨c,F,rfl,rfl,h1,h2⟩
 | y::xs,_,_,i+1,x,h,hx=>by
   unfold cL at h;obtain⟨c,css',F,Fs',rfl,rfl,_,_,h3⟩:=h;simp at hx;simpa using yJ h3 hx
theorem pQ: ∀(l:List (List Value)) (i:Nat) (v:Value),(∀d∈l,d.length=1)->l[i]? =some [v]->l.flatten[i]? =some v
 | [],i,v,_,h=>by simp at h
 | d::l,0,v,hd,h=>by simp at h;subst h;simp
 | d::l,i+1,v,hd,h=>by
   have h1:=hd d (by simp);rw[aOJ,aM8 (by omega),h1];exact pQ l i v (fun d' hd' =>hd d' (by simp[hd'])) (by simpa using h)
theorem aG1 {ι:Type}(f:ι->Value): ∀L:List ι,(L.map fun i=>[f i]).flatten=L.map f
 | []=>rfl
 | i::L=>by rw[aKT,aOJ,aG1 f L];rfl
theorem aC6: ∀(l:List (List Value)),(∀d∈l,d.length=1)->l.flatten.length=l.length
 | [],_=>rfl
 | d::l,hd=>by
   rw[aOJ,aSM,hd d (by simp),aC6 l fun d' hd' =>hd d' (by simp[hd'])];simp;omega
theorem aWt {w:World}{e:Nat}{r:List Int}{c:List Value}{F:List Nat}(h:dB w [.sl e 1 (r.map intD)] c F): ∃a cap,c= [.slice a r.length cap]/\aBM w a r/\(∀x∈a,x.block∈F)/\r.length<=9223372036854775807:=by
 unfold dB at h;obtain⟨v,cs',F1,F2,rfl,rfl,h1,h2⟩:=h;unfold dB at h2;obtain⟨rfl,rfl⟩:=h2;unfold oV at h1;obtain⟨css,Fs,q1,q2,q3⟩:=h1;rcases q1.2 with ⟨rfl,hz⟩ | ⟨g,cap,cur,rfl,_,hb,hn,hcap2,hsz,htk⟩
 ·simp at hz;subst hz;exact⟨none,0,rfl,fun j x hx=>by simp at hx,by simp,by simp⟩
 refine⟨some ⟨g,0,none⟩,cap,by simp,fun j x hx=>⟨g,0,rfl,?_⟩,fun x hx=>?_,by have:cap<=maxLen:=hcap2;unfold maxLen at this;simp at hn;omega⟩
 ·obtain⟨c0,F0,g1,_,_,g4⟩:=yJ q3 (show (r.map intD)[j]? =some (intD x) by rw[aXY,hx];rfl);unfold intD dB at g4;obtain⟨v0,cs0,_,_,rfl,_,g5,g6⟩:=g4;unfold dB at g6;obtain⟨rfl,_⟩:=g6;unfold oV at g5;obtain⟨rfl,_⟩:=g5
  have hlen: ∀d∈css,d.length=1:=fun d hd=>by
   obtain⟨i,hi⟩:=List.getElem?_of_mem hd
   have hil:i<(r.map intD).length:=by
    have:=(aA0 q3).1;have:=(aEa.1 hi).1;omega
   obtain⟨c1,F1,k1,_,k3,k4⟩:=yJ q3 (aEA hil);rw[hi] at k1;injection k1 with k1;subst k1
   rw[List.getElem_map] at k4;unfold intD dB at k4;obtain⟨_,_,_,_,rfl,_,_,k6⟩:=k4;unfold dB at k6;rw[k6.1];rfl
  have hflat:css.flatten[j]? =some (.int .i64 x):=by
   exact pQ css j _ hlen g1
  have hj:j<r.length:=(aEa.1 hx).1;simp only[World.cell?,hb,Nat.zero_add,Option.isSome_none,Bool.false_eq_true,if_false];rw[<-Array.getElem?_toList,<-hflat,<-htk,List.getElem?_take_of_lt (by simpa using hj)]
 simp at hx;subst hx;rw[q2];simp[Value.ownBlock]
theorem aJj {w:World}{enc:Nat->Value}{g n:Nat}{os:Array Obj}{cur:Array Value}{e:TypeId}{fr:Nat × Nat}(d:Array Nat)(hb:w.heap[g]? =some (.cells cur e fr)):
 (sortWorld enc w g 0 n d os).heap[g]? =some (.cells (Go.Sort.putCells enc 0 d cur) e fr):=by
 have hg:g<w.heap.size:=(Array.getElem?_eq_some_iff.1 hb).1;unfold sortWorld;rw[Go.Sort.heap_grow_old _ _ (by simpa using hg)];simp[Go.Sort.putRow,Go.Sort.mapBlock,Go.Sort.ahead,Array.getElem?_modify,hb,Go.Sort.onCells]
theorem rH {w:World}{enc:Nat->Value}{g n k:Nat}{os:Array Obj}(d:Array Nat)(hk:k<w.heap.size)(hne:k≠g):(sortWorld enc w g 0 n d os).heap[k]? =w.heap[k]? :=by
 unfold sortWorld;rw[Go.Sort.heap_grow_old _ _ (by simpa using hk)];simp[Go.Sort.putRow,Go.Sort.mapBlock,Go.Sort.ahead,Array.getElem?_modify,Ne.symm hne]
theorem aM9 (enc:Nat->Value)(cur:Array Value)(ts:List Nat)(h:ts.length<=cur.size):(Go.Sort.putCells enc 0 ts.toArray cur).toList.take ts.length=ts.map enc:=by
 apply List.ext_getElem?;intro j;by_cases hj:j<ts.length
 ·rw[List.getElem?_take_of_lt hj,Array.getElem?_toList];simp[Go.Sort.putCells,hj,show j<cur.size by omega]
 rw[List.getElem?_take_eq_none (by omega),List.getElem?_eq_none (by simp;omega)]
theorem aA1 {w w' :World}{a:Option Addr}{r:List Int}(h:aBM w a r)(hk: ∀x∈a,w'.heap[x.block]? =w.heap[x.block]?):aBM w' a r:=fun j x hx=>by
 obtain⟨b,o,rfl,hc⟩:=h j x hx;refine⟨b,o,rfl,?_⟩;have:=hk ⟨b,o,none⟩ rfl;unfold World.cell? at*;simp only at*;rw[this];exact hc
end Go.Proofs.YtlidmoeecphbmaaGreat
namespace Go.Proofs
open Go.Shelf
namespace YtlidmoeecphbmaaGreat
def Tryz.sortRows_ren:Go.Shelf.Ren:=⟨fun | 6=>255 | 15=>261 | 14=>265 | 28=>275 | 29=>276 | 20=>278 | 21=>279 | 22=>280 | 23=>281 | 24=>282 | 25=>283 | 26=>284 | 27=>285 | 46=>292 | 47=>287 | 48=>288 | 49=>293 | 50=>294 | 57=>296 | n=>n,fun | 22=>92 | 24=>91 | 25=>238 | 3=>3 | 39=>255 | 0=>0 | 53=>267 | 55=>269 | 4=>4 | 46=>259 | 45=>258 | 50=>264 | 5=>5 | 9=>9 | 66=>275 | 70=>279 | 76=>284 | 77=>285 | n=>n,fun | n=>n⟩
theorem Tryz.sortRows:Go.Proofs.SlLaysF.n6 Tryz.prog Tryz.sortRows_ren:={
 mixed:=by kernel_rfl
 f6:=⟨Tryz.f255.name,by decide,Tryz.func255.trans (congrArg some (by kernel_rfl))⟩
 f14:=⟨Tryz.f265.name,by decide,Tryz.func265.trans (congrArg some (by kernel_rfl))⟩
 f15:=Tryz.func261.trans (congrArg some (by kernel_rfl))
 f20:=⟨Tryz.f278.name,by decide,Tryz.func278.trans (congrArg some (by kernel_rfl))⟩
 f21:=⟨Tryz.f279.name,by decide,Tryz.func279.trans (congrArg some (by kernel_rfl))⟩
 f22:=⟨Tryz.f280.name,by decide,Tryz.func280.trans (congrArg some (by kernel_rfl))⟩
 f23:=⟨Tryz.f281.name,by decide,Tryz.func281.trans (congrArg some (by kernel_rfl))⟩
 f24:=⟨Tryz.f282.name,by decide,Tryz.func282.trans (congrArg some (by kernel_rfl))⟩
 f25:=⟨Tryz.f283.name,by decide,Tryz.func283.trans (congrArg some (by kernel_rfl))⟩
 f26:=⟨Tryz.f284.name,by decide,Tryz.func284.trans (congrArg some (by kernel_rfl))⟩
 f27:=⟨Tryz.f285.name,by decide,Tryz.func285.trans (congrArg some (by kernel_rfl))⟩
 f28:=Tryz.func275.trans (congrArg some (by kernel_rfl))
 f29:=Tryz.func276.trans (congrArg some (by kernel_rfl))
 f46:=⟨Tryz.f292.name,by decide,Tryz.func292.trans (congrArg some (by kernel_rfl))⟩
 f47:=Tryz.func287.trans (congrArg some (by kernel_rfl))
 f48:=Tryz.func288.trans (congrArg some (by kernel_rfl))
 f49:=⟨Tryz.f293.name,by decide,Tryz.func293.trans (congrArg some (by kernel_rfl))⟩
 f50:=⟨Tryz.f294.name,by decide,Tryz.func294.trans (congrArg some (by kernel_rfl))⟩
 f57:=⟨Tryz.f296.name,by decide,Tryz.func296.trans (congrArg some (by kernel_rfl))⟩
 t0:=Tryz.underlying0
 a0:=Tryz.isAgg0
 z0:=Tryz.sizeOf0
 v0:=Tryz.zeroValue0
 t3:=Tryz.underlying3
 a3:=Tryz.isAgg3
 z3:=Tryz.sizeOf3
 v3:=Tryz.zeroValue3
 t4:=Tryz.underlying4
 a4:=Tryz.isAgg4
 z4:=Tryz.sizeOf4
 v4:=Tryz.zeroValue4
 t5:=Tryz.underlying5
 a5:=Tryz.isAgg5
 z5:=Tryz.sizeOf5
 v5:=Tryz.zeroValue5
 t9:=Tryz.underlying9
 a9:=Tryz.isAgg9
 z9:=Tryz.sizeOf9
 v9:=Tryz.zeroValue9
 t22:=Tryz.underlying92
 a22:=Tryz.isAgg92
 z22:=Tryz.sizeOf92
 v22:=Tryz.zeroValue92
 a24:=Tryz.isAgg91
 z24:=Tryz.sizeOf91
 t25:=Tryz.underlying238
 a25:=Tryz.isAgg238
 z25:=Tryz.sizeOf238
 v25:=Tryz.zeroValue238
 t39:=Tryz.underlying255
 a39:=Tryz.isAgg255
 z39:=Tryz.sizeOf255
 v39:=Tryz.zeroValue255
 t45:=Tryz.underlying258
 a45:=Tryz.isAgg258
 z45:=Tryz.sizeOf258
 v45:=Tryz.zeroValue258
 t46:=Tryz.underlying259
 a46:=Tryz.isAgg259
 z46:=Tryz.sizeOf259
 v46:=Tryz.zeroValue259
 t50:=Tryz.underlying264
 a50:=Tryz.isAgg264
 z50:=Tryz.sizeOf264
 v50:=Tryz.zeroValue264
 t53:=Tryz.underlying267
 a53:=Tryz.isAgg267
 z53:=Tryz.sizeOf267
 v53:=Tryz.zeroValue267
 t55:=Tryz.underlying269
 a55:=Tryz.isAgg269
 z55:=Tryz.sizeOf269
 v55:=Tryz.zeroValue269
 t66:=Tryz.underlying275
 a66:=Tryz.isAgg275
 z66:=Tryz.sizeOf275
 v66:=Tryz.zeroValue275
 t70:=Tryz.underlying279
 a70:=Tryz.isAgg279
 z70:=Tryz.sizeOf279
 v70:=Tryz.zeroValue279
 t76:=Tryz.underlying284
 a76:=Tryz.isAgg284
 z76:=Tryz.sizeOf284
 v76:=Tryz.zeroValue284
 t77:=Tryz.underlying285
 a77:=Tryz.isAgg285
 z77:=Tryz.sizeOf285
 v77:=Tryz.zeroValue285 }
end YtlidmoeecphbmaaGreat
end Go.Proofs
namespace Go.Proofs.YtlidmoeecphbmaaGreat
open Go.ChangeShapes Go.WideShapes Go.ChangeAt Go.RowKit Go.Shelf Go.Lib
set_option linter.unusedVariables false
set_option linter.unusedSimpArgs false
set_option maxHeartbeats 2000000 in
theorem aT2 (l:List (List Int))(hl:l.length<4611686018427387904):sW Tryz.prog 255 [.own 0,.fn 252 []] [(0,.arr 91 1 true (l.map aC))] (.tup []) [(0,.arr 91 1 true ((dD l).map aC))]:=by
 refine⟨by kernel_rfl,by simp,fun A φ w vs hI hm=>?_⟩;obtain⟨pl,hp,css,Fs,q1,q2,q3,q4⟩:=hI.dom 0 _ rfl;unfold aO at hm;obtain⟨v,us,e1,m1,hm⟩:=hm;unfold aO at hm;obtain⟨v2,us2,e2,m2,hm⟩:=hm;unfold aO at hm;unfold aH at m1 m2;obtain⟨vs2,ev2,m3⟩:=m2;unfold aO at m3;have hv:=m1 pl hp;have e3:vs2= #[]:=by apply Array.ext';simpa using m3
 have ev:vs= #[pl.val,.func (.func 252) #[] #[]]:=by apply Array.ext';rw[e1,e2,hm,hv,ev2,e3]
 rw[ev];have hnd:=hI.nodup 0 pl hp;have hge:=hI.ge 0 pl hp;have hFe:pl.F=pl.val.ownBlock.toList++Fs.flatten:=by unfold Pl.F;rw[q2,q3]
 have hfoot: ∀b∈pl.F,aKq φ b:=fun b hb=>⟨0,pl,trivial,hp,hb⟩
 have h0: ∀h pl',φ h=some pl' ->h=0:=fun h pl' e' =>by
  cases hr:bC [(0,Rs.arr 91 1 true (l.map aC))] h with
  | none=>rw[hI.non h hr] at e';cases e'
  | some r=>
    simp only[bC] at hr;split at hr
    ·assumption
    cases hr
 obtain⟨lc,lF⟩:=aA0 q4;rw[aA8] at lc lF
 have hrow: ∀i,i<l.length-> ∃a cap F,css[i]? =some [.slice a (l.getD i []).length cap]/\Fs[i]? =some F/\aBM w a (l.getD i [])/\(∀x∈a,x.block∈F)/\(l.getD i []).length<=9223372036854775807/\dB w (aC (l.getD i [])) [.slice a (l.getD i []).length cap] F:=fun i hi=>by
  obtain⟨r,hr⟩:=dA hi;have hg:l.getD i []=r:=by simp[aI2,hr]
  obtain⟨c,F,g1,g2,_,g4⟩:=yJ q4 (show (l.map aC)[i]? =some (aC r) by rw[aXY,hr];rfl);obtain⟨a,cap,rfl,k1,k2,k3⟩:=aWt g4;rw[hg];exact⟨a,cap,F,g1,g2,k1,k2,k3,g4⟩
 have hone: ∀d∈css,d.length=1:=fun d hd=>by
  obtain⟨i,hi⟩:=List.getElem?_of_mem hd;obtain⟨a,cap,F,g1,_⟩:=hrow i (by have:=(aEa.1 hi).1;omega);rw[hi] at g1;injection g1 with g1
  rw[g1];rfl
 let enc:Nat->Value:=fun i=>css.flatten.getD i (.slice none 0 0)
 have henc: ∀i,∃a cap,enc i= .slice a (l.getD i []).length cap/\aBM w a (l.getD i [])/\(∀x∈a,x.block∈Fs.flatten)/\(l.getD i []).length<=9223372036854775807:=fun i=>by
  by_cases hi:i<l.length
  ·obtain⟨a,cap,F,g1,g2,g3,g4,g5,_⟩:=hrow i hi;refine⟨a,cap,?_,g3,fun x hx=>List.mem_flatten.2 ⟨F,aCf g2,g4 x hx⟩,g5⟩;show css.flatten.getD i _=_;rw[aI2,pQ css i _ hone g1];rfl
  have hg:l.getD i []= []:=by rw[aI2,List.getElem?_eq_none (by omega)];rfl
  rw[hg];refine⟨none,0,?_,fun j x hx=>by simp at hx,by simp,by simp⟩;show css.flatten.getD i _=_;rw[aI2,List.getElem?_eq_none (by rw[aC6 css hone];omega)];rfl
 have hend: ∀(d' :List Nat) (w' :World),d'.Perm (List.range l.length)->(d'.map fun i=>l.getD i []).Pairwise (fun a b=>leR a b=true)->lN pl.F w w' ->(∀F∈Fs,iV F w w')->w'.ownsRow 0 91 1 pl.val l.length (d'.map enc)->
  ∃v K φ',Ending.returned (.tuple #[])= .returned v/\aQg A φ w [(0,.arr 91 1 true ((dD l).map aC))] K φ' w' /\aH K φ' w' (.tup []) v:=by
  intro d' w' hperm hsort hon hkeep howns
  have hrange:(List.range l.length).map (fun i=>l.getD i [])=l:=by
   apply List.ext_getElem?;intro i;by_cases hi:i<l.length
   ·simp[hi]
   simp[hi]
  have hl' :d'.map (fun i=>l.getD i [])=dD l:=aT1 (by have:=hperm.map (fun i=>l.getD i []);rwa [hrange] at this) hsort
  have hFr:(List.range l.length).map (fun i=>Fs.getD i [])=Fs:=by
   apply List.ext_getElem?;intro i;by_cases hi:i<l.length
   ·simp[hi,show i<Fs.length by omega]
   simp[hi,show ¬i<Fs.length by omega]
  have hFp:(d'.map fun i=>Fs.getD i []).flatten.Perm Fs.flatten:=by
   have:=(hperm.map (fun i=>Fs.getD i [])).flatten
   rwa [hFr] at this
  let pl' :Pl:=⟨pl.val,pl.top,(d'.map fun i=>Fs.getD i []).flatten⟩
  have hmem: ∀g,g∈pl'.F↔g∈pl.F:=fun g=>by
   simp only[pl',Pl.F,aI1,q3,hFp.mem_iff]
  have hnd' :pl'.F.Nodup:=by
   have:pl'.F.Perm pl.F:=by simp only[pl',Pl.F,q3];exact(List.Perm.refl _).append hFp
   exact this.nodup_iff.2 hnd
  refine⟨_,A,fun h=>if h=0 then some pl' else none,rfl,⟨⟨hon.os,hon.tape,hon.output,hon.size,fun b hb hn=>hon.block b hb (fun hm=>hn (hfoot b hm))⟩,fun _ h=>h,fun b hb=>⟨aSP (hI.lt b hb) hon.size,.inl hb⟩,fun b hb h pl1 e' hm' =>?_,fun h r hr=>?_,fun h hr=>?_,fun h h' pl1 pl2 hne ea eb=>?_,fun h pl1 e' =>?_,fun h pl1 e' g hg=>?_,fun h pl1 pl0 e' e0=>?_⟩,?_⟩
  ·split at e'
   ·injection e' with e';subst e'
    exact hI.out b hb 0 pl hp ((hmem b).1 hm')
   cases e'
  ·simp only[bC] at hr;split at hr
   ·rename_i eh;subst eh;injection hr with hr
    subst hr;refine⟨pl',by simp,d'.map (fun i=>[enc i]),d'.map (fun i=>Fs.getD i []),?_,q2,rfl,?_⟩
    ·have e4:(d'.map fun i=>[enc i]).flatten=d'.map enc:=aG1 enc d';rw[e4,aA8,aDZ];exact howns
    rw[<-hl',List.map_map];refine aG0 (fun i=>aC (l.getD i [])) (fun i=>[enc i]) (fun i=>Fs.getD i []) fun i hi=>⟨rfl,?_⟩;have hil:i<l.length:=by simpa using hperm.mem_iff.1 hi
    obtain⟨a,cap,F,g1,g2,g3,g4,g5,g6⟩:=hrow i hil
    have ee:enc i= .slice a (l.getD i []).length cap:=by
     show css.flatten.getD i _=_;rw[aI2,pQ css i _ hone g1];rfl
    have eF:Fs.getD i []=F:=by simp[aI2,g2]
    rw[ee,eF];exact dB.kept _ _ _ (hkeep F (aCf g2)) g6
   cases hr
  ·simp only[bC] at hr;split at hr
   ·cases hr
   rename_i eh;exact if_neg eh
  ·split at ea
   ·split at eb
    ·rename_i x y;exact absurd (x.trans y.symm) hne
    cases eb
   cases ea
  ·split at e'
   ·injection e' with e';subst e';exact hnd'
   cases e'
  ·split at e'
   ·injection e' with e';subst e'
    have:=(hmem g).1 hg;exact⟨.inr (hfoot g this),aSP (hge g this) hon.size⟩
   cases e'
  ·split at e'
   ·rename_i eh;subst eh;rw[hp] at e0;injection e0 with e0;injection e' with e'
    subst e0;subst e';exact⟨rfl,rfl⟩
   cases e'
  unfold aH;exact⟨#[],rfl,by unfold aO;rfl⟩
 rw[aA8] at q1;rcases q1.2 with ⟨hvn,hz⟩ | ⟨g,cap,cur,hvv,hg0,hb,hn,hcap,hsz,htk⟩
 ·have hcon:=AnyF.slices_SortFunc_none { Tryz.sortRows with } none 0 (.func (.func 252) #[] #[]) w;change Calls Tryz.prog 255 _ _ _ at hcon;rw[hvn];refine hcon.mono ?_;rintro en w' ⟨rfl,rfl⟩;have hz' :l= []:=aIi hz;subst hz';exact hend [] w' (by simp) (by simp) (lN.refl _ _) (fun F hF g hg=>rfl) (by rw[hvn];exact⟨by simp,.inl ⟨rfl,rfl⟩⟩)
 have hgF:g ∉ Fs.flatten:=fun hm=>by
  rw[hFe,hvv] at hnd;simp only[Value.ownBlock,Option.toList_some,List.cons_append,aWs,List.nodup_cons] at hnd;exact hnd.1 hm
 have hgs:g<w.heap.size:=(Array.getElem?_eq_some_iff.1 hb).1;have hin: ∀b∈Fs.flatten,b<w.heap.size/\b≠g:=fun b hb' =>⟨hge b (by rw[hFe];exact aI0 _ hb'),fun e=>hgF (e▸hb')⟩
 have hO:Go.Sort.SWO (ltOf fun x y:Nat=>cB (l.getD x []) (l.getD y [])):=
  { irrefl:=fun x=>by show decide (cB (l.getD x []) (l.getD x [])<0)=false;rw [aAZ];rfl
    trans:=fun x y z h1 h2=>by unfold ltOf at*;rw[aTb] at*;exact mD h1 h2
    ntrans:=fun x y z h1 h2=>by unfold ltOf at*;rw[decide_eq_false_iff_not] at*;exact aDz h1 h2 }
 have hcmp:CmpLays1 Tryz.prog 252 #[] enc (fun x y:Nat=>cB (l.getD x []) (l.getD y [])) g 0 (List.range l.length).toArray.size w:=fun m os dk hs x y=>by
  obtain⟨a1,c1,ex,r1,k1,b1⟩:=henc x;obtain⟨a2,c2,ey,r2,k2,b2⟩:=henc y;rw[ex,ey];refine(aT0 a1 a2 c1 c2 _ _ _ b1 b2 (aA1 r1 fun q hq=>rH dk (hin _ (k1 q hq)).1 (hin _ (k1 q hq)).2) (aA1 r2 fun q hq=>rH dk (hin _ (k2 q hq)).1 (hin _ (k2 q hq)).2)).mono ?_;rintro en w' ⟨rfl,rfl⟩;exact⟨rfl,0,#[],by simp[Go.Sort.grow_empty,World.drewN]⟩
 have htk' :cur.toList.take l.length=css.flatten:=by rw[Nat.mul_one] at htk;exact htk
 have hH:Go.Sort.Holds enc w g 0 (List.range l.length).toArray:=fun j hj=>by
  have hj' :j<l.length:=by simpa using hj
  refine⟨?_,by simp[World.frozen?,hb]⟩;have h1:(cur.toList.take l.length)[j]? =css.flatten[j]? :=by rw[htk']
  rw[List.getElem?_take_of_lt hj'] at h1;simp only[World.cell?,hb,Nat.zero_add,Option.isSome_none,Bool.false_eq_true,if_false];rw[<-Array.getElem?_toList,h1];obtain⟨a,cap',F,g1,_⟩:=hrow j hj';have h2:=pQ css j _ hone g1
  have ee:enc j= .slice a (l.getD j []).length cap' :=by
   show css.flatten.getD j _=_;rw[aI2,h2];rfl
  have ej:(List.range l.length).toArray[j]! =j:=by simp[hj']
  rw[h2,ej,ee]
 have hone1:OneCell enc:=fun x=>by
  obtain⟨a,c,ex,_⟩:=henc x;rw[ex];rfl
 have eg: ∀args w,(callFunc 252 args).run Tryz.prog w= .ok (.enter 252 args) w:=enters_of Tryz.func252 (by kernel_rfl) rfl;have hcon:=Any.slices_SortFunc Tryz.sortRows enc hone1 (fun x y:Nat=>cB (l.getD x []) (l.getD y [])) hO 252 #[] g 0 cap (List.range l.length).toArray w eg hcmp hH hgs (by simpa using hl);change Calls Tryz.prog 255 _ _ _ at hcon;have hsz1:((List.range l.length).toArray.size:Nat)=l.length:=by simp
 rw[hsz1] at hcon;rw[hvv];refine hcon.mono ?_;rintro en w' ⟨rfl,d',n,os,hpm,hsd,rfl⟩;obtain⟨p1,_,p3⟩:=hpm;have hds:d'.size=l.length:=by simpa using p1
 have hperm:d'.toList.Perm (List.range l.length):=by
  have e1:(d'.extract 0 l.length).toList=d'.toList:=by rw[<-hds];simp
  have e2:((List.range l.length).toArray.extract 0 l.length).toList=List.range l.length:=by simp
  rw[e1,e2] at p3;exact p3
 have hkb: ∀k,k<w.heap.size->k≠g->(sortWorld enc w g 0 n d' os).heap[k]? =w.heap[k]? :=fun k hk hne=>rH d' hk hne
 have:=hend d'.toList (sortWorld enc w g 0 n d' os) hperm (by
  rw[List.pairwise_map,List.pairwise_iff_getElem];intro i j hi hj hij;have:=hsd i j (aCC _) hij (by simpa [hds] using hj);unfold ltOf at this;rw[decide_eq_false_iff_not] at this;rw[aFS];have ei:d'[i]! =d'.toList[i]:=by simp at hi;simp[hi]
  have ej:d'[j]! =d'.toList[j]:=by simp at hj;simp[hj]
  rw[<-ei,<-ej];exact this)
  ⟨rfl,rfl,rfl,by simp[sortWorld],fun k hk hne=>hkb k hk (fun e=>hne (by rw[hFe,hvv,e];simp[Value.ownBlock]))⟩
  (fun F hF b hb' =>hkb b (hin b (List.mem_flatten.2 ⟨F,hF,hb'⟩)).1 (hin b (List.mem_flatten.2 ⟨F,hF,hb'⟩)).2)
  (by
   rw[hvv];refine⟨by simp[hds],.inr ⟨g,cap,_,rfl,hg0,aJj d' hb,hn,hcap,by simp[Go.Sort.putCells,hsz],?_⟩⟩;rw[Nat.mul_one];have:=aM9 enc cur d'.toList (by rw[aYT,hds];omega);rw[aYT,hds] at this;simpa using this)
 exact this
end Go.Proofs.YtlidmoeecphbmaaGreat
namespace Go.Proofs.YtlidmoeecphbmaaGreat
open Go.ChangeShapes Go.WideShapes Go.ChangeAt Go.RowKit
set_option linter.unusedVariables false
set_option linter.unusedSimpArgs false
theorem aWK {l m:List Int}{k:Nat}{x y:Int}(hx:l[k]? =some x)(hy:m[k]? =some y)(h:(x==y)=false):decide (l=m)=false:=by
 rw[decide_eq_false_iff_not];rintro rfl;rw[hx] at hy;injection hy with hy
 subst hy;simp at h
set_option maxHeartbeats 1000000 in
theorem aQr (a1 a2:Option Addr)(c1 c2:Nat)(l m:List Int)(w:World)(hl:l.length<=9223372036854775807)(hm:m.length<=9223372036854775807)(h1:aBM w a1 l)(h2:aBM w a2 m):
 Calls Tryz.prog 248 #[.slice a1 l.length c1,.slice a2 m.length c2] w fun e w' =>e= .returned (.bool (decide (l=m)))/\ ∃q,w' =w.drewN q:=by
 have mixed:=aKz;have H1:=Lib.hid h1;have H2:=Lib.hid h2
 clear h1 h2
 by_cases hlm:l.length=m.length
 ·have HL:=Lib.hid hlm
  go_enter Tryz.func248,Tryz.ntmps248
  go_wp2
  go_loopg [13] l.length (fun g s wr=> ∃k q:Nat,k<=l.length/\l.length - k<=g/\s= .int .i64 k/\wr=w.drewN q/\Aside (l.take k=m.take k))
  case atStart=>exact⟨0,0,aCC _,by omega,rfl,rfl,rfl⟩
  case round=>
   obtain⟨k,q,hk,hg,rfl,rfl,A⟩:=hrel;by_cases hlt:k<l.length
   ·obtain⟨x,hx⟩:=dA hlt;obtain⟨b1,o1,rfl,g1⟩:=H1.out k x hx;obtain⟨y,hy⟩:=dA (l:=m) (k:=k) (by omega);obtain⟨b2,o2,rfl,g2⟩:=H2.out k y hy;have HX:=Lib.hid hx;have HY:=Lib.hid hy
    clear hx hy
    cases hxy:(x==y) with
    | true=>
      have hne:(x !=y)=false:=by rw[bne,hxy];rfl
      go_wp2_with fail
      go_region_o
      go_wp2
      go_roundg (l.length - (k+1))
      case measure=>omega
      case rel=>exact⟨k+1,q+1,by omega,by omega,by go_num,rfl,(show Aside _ from mS HX.out (by rw[HY.out,show x=y by simpa using hxy]) A.out)⟩
    | false=>
      have hne:(x !=y)=true:=by rw[bne,hxy];rfl
      go_wp2_with fail
      go_region_o
      go_wp2
      go_ret
      refine⟨?_,q+1,rfl⟩;rw[aWK HX.out HY.out hxy];rfl
   go_wp2
   go_ret
   refine⟨?_,q,rfl⟩;rw[decide_eq_true (mT (by omega) HL.out A.out)];rfl
 have hnm: ¬(l.length:Int)=(m.length:Int):=by omega
 go_enter Tryz.func248,Tryz.ntmps248
 go_wp2
 go_ret
 refine⟨?_,0,rfl⟩;rw[decide_eq_false (aGR hnm)];rfl
theorem aWL (a1 a2:Option Addr)(c1 c2:Nat)(l m:List Int)(w:World)(hl:l.length<=9223372036854775807)(hm:m.length<=9223372036854775807)(h1:aBM w a1 l)(h2:aBM w a2 m):
 Calls Tryz.prog 257 #[.slice a1 l.length c1,.slice a2 m.length c2] w fun e w' =>e= .returned (.bool (decide (l=m)))/\ ∃q,w' =w.drewN q:=by
 have HC:=Lib.hid (aQr a1 a2 c1 c2 l m w hl hm h1 h2)
 clear h1 h2
 go_enter Tryz.func257,Tryz.ntmps257
 go_wp2_with (go_at_call 248;refine HC.out.mono ?_;rintro e w' ⟨rfl,q,hw⟩;rw[hw])
 go_ret
 exact⟨rfl,_,rfl⟩
end Go.Proofs.YtlidmoeecphbmaaGreat
namespace Go.Proofs.YtlidmoeecphbmaaGreat
open Go.ChangeShapes Go.WideShapes Go.ChangeAt Go.RowKit Go.Shelf Go.Lib
set_option linter.unusedVariables false
set_option linter.unusedSimpArgs false
section
variable (eq:Nat->Nat->Bool)
def mU (d:Array Nat)(j:Nat):Bool:=decide (j=0) || !eq d[j]! d[j - 1]!
def mV (d:Array Nat)(m:Nat):List Nat:=((List.range m).filter (mU eq d)).map (d[·]!)
theorem aJk (d:Array Nat): ∀j,j<1->mU eq d j=true:=by
 intro j hj;obtain rfl:j=0:=by omega
 simp[mU]
theorem aJl {d:Array Nat}{m:Nat}(h:eq d[m]! d[m - 1]! =false):mU eq d m=true:=by simp[mU,h]
theorem aJm {d:Array Nat}{m:Nat}(hm:0<m)(h:eq d[m]! d[m - 1]! =true):mU eq d m=false:=by
 have:m≠0:=by omega
 simp[mU,h,this]
theorem oJ (d:Array Nat)(m:Nat):mV eq d (m+1)=mV eq d m++(if mU eq d m=true then [d[m]!] else []):=by
 unfold mV;rw[List.range_succ,List.filter_append,aKc]
 congr 1
 by_cases h:mU eq d m=true<;>simp[h]
theorem aD0 (d:Array Nat)(m:Nat)(h: ∀j,j<m->mU eq d j=true):mV eq d m=(List.range m).map (d[·]!):=by
 unfold mV;rw[List.filter_eq_self.2 (fun j hj=>h j (aSN.1 hj))]
theorem aMa (d:Array Nat)(h: ∀j,j<d.size->mU eq d j=true):mV eq d d.size=d.toList:=by
 rw[aD0 eq d _ h];exact range_map_get d
structure tN (d:Array Nat) (m k:Nat) (dk:Array Nat):Prop where
 size:dk.size=d.size
 len:(mV eq d m).length=k
 lt:k<m
 low: ∀j,j<k->(mV eq d m)[j]? =some dk[j]!
 high: ∀j,k<=j->dk[j]! =d[j]!
variable {eq}
theorem tN.start {d:Array Nat}{k0:Nat}(hall: ∀j,j<k0->mU eq d j=true)(hdup:mU eq d k0=false):tN eq d (k0+1) k0 d where
 size:=rfl
 len:=by rw[oJ,hdup,aD0 eq d k0 hall];simp
 lt:=Nat.lt_succ_self _
 low:=fun j hj=>by rw[oJ,hdup,aD0 eq d k0 hall];simp[hj]
 high:=fun _ _=>rfl
theorem tN.keep {d dk:Array Nat}{m k:Nat}(h:tN eq d m k dk)(hm:m<d.size)(hk:mU eq d m=true):tN eq d (m+1) (k+1) (dk.setIfInBounds k d[m]!) where
 size:=by simp[h.size]
 len:=by rw[oJ,hk];simp[h.len]
 lt:=by have:=h.lt;omega
 low:=fun j hj=>by
  rw[oJ,hk,if_pos rfl];by_cases e:j=k
  ·subst e;rw[aM8 (by rw[h.len];exact aSO _),h.len,Nat.sub_self,Go.Sort.getElem!_set_same dk j _ (by have:=h.lt;have:=h.size;omega)];rfl
  rw[aSZ (by rw[h.len];omega),h.low j (by omega),Go.Sort.getElem!_set_other dk k j _ e]
 high:=fun j hj=>by rw[Go.Sort.getElem!_set_other dk k j _ (by omega),h.high j (by omega)]
theorem tN.skip {d dk:Array Nat}{m k:Nat}(h:tN eq d m k dk)(hk:mU eq d m=false):tN eq d (m+1) k dk where
 size:=h.size
 len:=by rw[oJ,hk];simpa using h.len
 lt:=by have:=h.lt;omega
 low:=fun j hj=>by rw[oJ,hk];simpa using h.low j hj
 high:=h.high
theorem tN.done {d dk:Array Nat}{k:Nat}(h:tN eq d d.size k dk)(z:Nat):
 lay dk k (List.replicate (d.size - k) z)=(mV eq d d.size++List.replicate (d.size - k) z).toArray:=by
 have hk:=h.lt;have hs:=h.size;apply Array.ext_getElem?;intro j;rw[lay_get? _ _ _ _ (by simp;omega),show (mV eq d d.size++List.replicate (d.size - k) z).toArray[j]? =(mV eq d d.size++List.replicate (d.size - k) z)[j]? from List.getElem?_toArray];simp only[aYQ];by_cases c:j<k
 ·rw[if_neg (by omega),aSZ (by rw[h.len];exact c),h.low j c,getElem!_pos dk j (by omega),Array.getElem?_eq_getElem]
 rw[aM8 (by rw[h.len];omega),h.len];by_cases c2:j<d.size
 ·rw[if_pos (by omega)]
 rw[if_neg (by omega),Array.getElem?_eq_none (by omega),List.getElem?_eq_none (by simp;omega)]
end
set_option maxHeartbeats 4000000 in
set_option maxRecDepth 1000000 in
theorem aMb (enc:Nat->Value)(eq:Nat->Nat->Bool)(hO:OneCell enc)(zr:Nat)(hz:enc zr= .slice none 0 0)(blk off cap:Nat)(d:Array Nat)(w:World)(hH:Go.Sort.Holds enc w blk off d)(hsz:d.size<=9223372036854775807)(hcap:d.size<=cap)
 (hcmp: ∀(dk:Array Nat) (q:Nat) (x y:Nat),dk.size=d.size-> ∀n,Calls Tryz.prog 257 #[enc x,enc y] ((Go.Sort.putRow enc (Go.Sort.ahead w q) blk off dk).drewN n) fun e w' =>e= .returned (.bool (eq x y))/\ ∃qq,w' =((Go.Sort.putRow enc (Go.Sort.ahead w q) blk off dk).drewN n).drewN qq):
 Calls Tryz.prog 256 #[.slice (some ⟨blk,off,none⟩) d.size cap,.func (.func 257) #[] #[]] w fun e w' =>e= .returned (.slice (some ⟨blk,off,none⟩) (mV eq d d.size).length cap)/\ ∃q,w' =Go.Sort.putRow enc (Go.Sort.ahead w q) blk off (mV eq d d.size++List.replicate (d.size - (mV eq d d.size).length) zr).toArray:=by
 have mixed:=aKz;have hcl0:=hO.cells;simp only[Value.cells] at hcl0;have hst:=hO.store Tryz.prog
 have same: ∀q,(∀j,j<d.size->mU eq d j=true)->(mV eq d d.size).length=d.size/\w.drewN q=Go.Sort.putRow enc (Go.Sort.ahead w q) blk off (mV eq d d.size++List.replicate (d.size - (mV eq d d.size).length) zr).toArray:=by
  intro q hall;have e:mV eq d d.size=d.toList:=aMa eq d hall;rw[e];refine⟨by simp,?_⟩;simp only[aYT,Nat.sub_self,List.replicate_zero,aWr,Array.toArray_toList];exact(Go.Sort.putRow_self enc (Go.Sort.ahead w q) blk off d (Go.Sort.holds_ahead enc w q blk off d hH)).symm
 have HS:Aside _:=same;have HC:Aside _:=hcmp
 clear same hcmp
 by_cases h2:d.size<2
 ·have HH:Aside (Go.Sort.Holds enc w blk off d):=hH
  clear hH
  go_enter Tryz.func256,Tryz.ntmps256
  go_wp2
  go_ret
  obtain⟨e1,e2⟩:=HS.out 0 (fun j hj=>aJk eq d j (by omega));exact⟨by rw[e1];rfl,0,e2⟩
 go_enter Tryz.func256,Tryz.ntmps256
 go_wp2
 go_loopg [5] d.size (fun g s3 wr=> ∃k q:Nat,1<=k/\k<=d.size/\d.size - k<=g/\s3= .int .i64 k/\wr=w.drewN q/\ ∀j,j<k->mU eq d j=true)
 case atStart=>exact⟨1,0,aSO _,by omega,by omega,rfl,rfl,aJk eq d⟩
 case round=>
  obtain⟨k,q,hk1,hk,hg,rfl,rfl,hall⟩:=hrel;by_cases hlt:k<d.size
  ·obtain⟨c1,f1⟩:=hH k hlt;obtain⟨c0,f0⟩:=hH (k - 1) (by omega);have A:Aside (∀j,j<k->mU eq d j=true):=hall;have HH:Aside (Go.Sort.Holds enc w blk off d):=hH;have hc0:=HC.out d q d[k]! d[k - 1]! rfl;have hself:Go.Sort.putRow enc (Go.Sort.ahead w q) blk off d=w.drewN q:=Go.Sort.putRow_self enc (Go.Sort.ahead w q) blk off d (Go.Sort.holds_ahead enc w q blk off d hH);rw[hself] at hc0
   clear hall hH hself
   generalize hx:d[k]! =x at c1 hc0;generalize hy:d[k - 1]! =y at c0 hc0;have B:Aside (d[k]! =x/\d[k - 1]! =y):=⟨hx,hy⟩
   clear hx hy
   obtain⟨kp,rfl⟩: ∃kp,k=kp+1:=⟨k - 1,by omega⟩;simp only[Nat.add_sub_cancel] at c0;have hwp:IntKind.i64.wrap (kp:Int)=(kp:Int):=by rw[IntKind.wrap_i64];omega
   have kz:(kp:Int)+1<(d.size:Int):=by omega
   have kz1:(kp:Int)<(d.size:Int):=by omega
   have p0:(0:Int)<=(kp:Int)+1:=by omega
   have e0:((kp:Int)+1).toNat=kp+1:=by omega
   have c1' :(w.drewN q).cell? ⟨blk,off+(kp+1),none⟩=some (enc x):=c1;have c0' :(w.drewN q).cell? ⟨blk,off+kp,none⟩=some (enc y):=c0
   clear c1 c0
   generalize hwq:w.drewN q=wq at c1' c0' hc0 ⊢;have WQ:Hid (w.drewN q=wq):=hwq
   clear hwq
   cases hdup:eq x y with
   | true=>
     rw[hdup] at hc0
     go_wp2_with fail
     go_quiet (((go_at_call 257;exact Calls.quiet_of (hc0 _))))
     go_wp2
     have W1:Hid (wq.drewN nq=Go.Sort.putRow enc (Go.Sort.ahead w (q+nq)) blk off d):=by
      show _=_;rw[<-WQ.out,World.drewN_drewN];exact(Go.Sort.putRow_self enc (Go.Sort.ahead w (q+nq)) blk off d (Go.Sort.holds_ahead enc w (q+nq) blk off d HH.out)).symm
     clear c1' c0' f0 f1 hc0
     go_loopg [5,7] d.size (fun g s3 s5 wr=> ∃(kk k2 q2:Nat) (dk:Array Nat),s3= .int .i64 kk/\s5= .int .i64 ((k2:Int)+1)/\kp+1+(k2+1)<=d.size/\d.size - (kp+1+(k2+1))<=g/\wr=Go.Sort.putRow enc (Go.Sort.ahead w q2) blk off dk/\tN eq d (kp+1+(k2+1)) kk dk)
     case atStart=>exact⟨kp+1,0,q+nq,d,by go_num,rfl,by omega,by omega,W1.out,tN.start A.out (aJm eq (by omega) (by rw[B.out.1,Nat.add_sub_cancel,show d[kp]! =y from B.out.2];exact hdup))⟩
     case round=>
      obtain⟨kk,k2,q2,dk,rfl,rfl,hle,hg2,hwr,hI⟩:=hrel;have hkk:=hI.lt;have hds:=hI.size;have hHk:Go.Sort.Holds enc wr blk off dk:=by rw[hwr];exact Go.Sort.holds_putRow enc _ blk off d dk (Go.Sort.holds_ahead enc w q2 blk off d HH.out) hds
      have W2:Aside (wr=Go.Sort.putRow enc (Go.Sort.ahead w q2) blk off dk):=hwr;have I2:Aside (tN eq d (kp+1+(k2+1)) kk dk):=hI;by_cases hlt2:kp+1+(k2+1)<d.size
      ·obtain⟨cm,_⟩:=hHk (kp+1+(k2+1)) (by omega);obtain⟨cp,_⟩:=hHk (kp+1+k2) (by omega);obtain⟨ck,fk⟩:=hHk kk (by omega);rw[hI.high (kp+1+(k2+1)) (by omega),show off+(kp+1+(k2+1))=off+(kp+1)+(k2+1) by omega] at cm;rw[hI.high (kp+1+k2) (by omega),show off+(kp+1+k2)=off+(kp+1)+k2 by omega] at cp;have hc1:=HC.out dk q2 d[kp+1+(k2+1)]! d[kp+1+k2]! hds;rw[<-hwr] at hc1
       clear hHk hI hwr
       generalize hu:d[kp+1+(k2+1)]! =u at cm hc1;generalize hv:d[kp+1+k2]! =v at cp hc1;generalize dk[kk]! =old at ck;have C:Aside (d[kp+1+(k2+1)]! =u/\d[kp+1+k2]! =v):=⟨hu,hv⟩
       clear hu hv
       have hwp2:IntKind.i64.wrap (k2:Int)=(k2:Int):=by rw[IntKind.wrap_i64];omega
       have jz:(k2:Int)+1<(d.size:Int) - ((kp:Int)+1):=by omega
       have jz1:(k2:Int)<(d.size:Int) - ((kp:Int)+1):=by omega
       have j0:(0:Int)<=(k2:Int)+1:=by omega
       have je:((k2:Int)+1).toNat=k2+1:=by omega
       cases huv:eq u v with
       | true=>
         rw[huv] at hc1
         go_wp2_with fail
         go_quiet (((go_at_call 257;exact Calls.quiet_of (hc1 _))))
         go_wp2
         go_roundg (d.size - (kp+1+(k2+1+1)))
         case measure=>omega
         case rel=>exact⟨kk,k2+1,q2+nq,dk,rfl,by go_num,by omega,by omega,by rw[W2.out];exact Go.Proofs.putRow_drewN _ _ _ _ _ _ _,I2.out.skip (aJm eq (by omega) (by rw[C.out.1,show kp+1+(k2+1) - 1=kp+1+k2 by omega,C.out.2];exact huv))⟩
       | false=>
         rw[huv] at hc1
         go_wp2_with fail
         go_quiet (((go_at_call 257;exact Calls.quiet_of (hc1 _))))
         go_wp2
         go_roundg (d.size - (kp+1+(k2+1+1)))
         case measure=>omega
         case rel=>
          refine⟨kk+1,k2+1,q2+nq,dk.setIfInBounds kk u,by go_num,by go_num,by omega,by omega,?_,?_⟩
          ·rw[W2.out,show (Go.Sort.putRow enc (Go.Sort.ahead w q2) blk off dk).drewN nq=Go.Sort.putRow enc (Go.Sort.ahead w (q2+nq)) blk off dk from Go.Proofs.putRow_drewN _ _ _ _ _ _ _,Go.Sort.putRow_set enc _ blk off dk kk u (by omega)]
          have:=I2.out.keep hlt2 (aJl eq (by rw[C.out.1,show kp+1+(k2+1) - 1=kp+1+k2 by omega,C.out.2];exact huv))
          rwa [C.out.1] at this
      have hend:kp+1+(k2+1)=d.size:=by omega
      have hcl: ∀ty,(Builtin.clear_ #[92] ty #[.slice (some ⟨blk,off+kk,none⟩) (d.size - kk) (cap - kk)]).run Tryz.prog wr= .ok (.tuple #[]) (wr.setCells blk (off+kk) (List.replicate (d.size - kk) (enc zr))):=
       fun ty=>Lib.run_clear_slice wr _ _ ty _ Tryz.underlying92 (fun w=>by rw[hz];rfl) (hO.cells zr) (hO zr) blk (off+kk) _ _ (by omega) (fun j hj=>by rw[show off+kk+j=off+(kk+j) by omega,(hHk (kk+j) (by omega)).1];rfl) (fun j hj=>by rw[show off+kk+j=off+(kk+j) by omega];exact(hHk (kk+j) (by omega)).2)
      clear hHk hI hwr
      go_wp2
      go_ret
      have hI:=I2.out;rw[hend] at hI;refine⟨by rw[hI.len];rfl,q2,?_⟩;rw[hI.len,<-hI.done zr,<-putRow_setCells enc _ blk off _ dk kk (by simp;omega),<-W2.out,aSQ,hz]
   | false=>
     rw[hdup] at hc0
     go_wp2_with fail
     go_quiet (((go_at_call 257;exact Calls.quiet_of (hc0 _))))
     go_wp2
     go_roundg (d.size - (kp+1+1))
     case measure=>omega
     case rel=>
      refine⟨kp+1+1,q+nq,by omega,by omega,aSO _,by go_num,by rw[<-WQ.out,World.drewN_drewN],fun j hj=>?_⟩;by_cases e:j=kp+1
      ·subst e;exact aJl eq (by rw[B.out.1,B.out.2];exact hdup)
      exact A.out j (by omega)
  obtain rfl:k=d.size:=by omega
  have HH:Aside (Go.Sort.Holds enc w blk off d):=hH
  clear hH
  go_wp2
  go_ret
  obtain⟨e1,e2⟩:=HS.out q hall;exact⟨by rw[e1];rfl,q,e2⟩
end Go.Proofs.YtlidmoeecphbmaaGreat
