/-
  Contracts and plain laws, joined: part 1.
-/
import Derived.Test.YtgamjlgfnmpcjaaGreatRows
import Derived.WalkKit
import Derived.ProofKit
import Derived.OpenShut
import Derived.WalkLawsBesides
import Derived.WalkSpells
import Derived.BigQuiet
import Derived.Deep.QuietTactic
import Derived.Lib.Hide
import Derived.Below
import Derived.Deep.Draws
import Derived.Deep.AppendLies
import Derived.Deep.Slices
import Derived.Laws.BitsAllLaws
import Derived.Laws.BitsLemmas
import Derived.Deep.RegionHeld3
import Derived.Maps.AppendAt
import Derived.RegionTactic
import Derived.Deep.DeepCutAuto
import Derived.Laws.Cells
import Derived.Laws.CopyRow
import Derived.Laws.Tables
import Derived.Great.BuildSlice
import Derived.Laws.OwnMore
namespace Go.Proofs.YtgamjlgfnmpcjaaGreat
open Go.ChangeShapes Go.WideShapes Go.ChangeAt Go.RowKit
set_option linter.all false
set_option maxRecDepth 100000
set_option maxHeartbeats 4000000
abbrev Z:=List Int
abbrev E:=ByteArray
def aGR {a:Prop}(h:a:=by omega):a:=h
def aGS {a b:Prop}(h:a:=by omega)(k:b:=by omega):a/\b:=⟨h,k⟩
abbrev aAb:=@List.length_map
abbrev aBB:=@Bool.and_eq_true
abbrev aBC:=@Nat.zero_le
abbrev aBD:=@List.mem_of_getElem?
abbrev aBF:=@Nat.le_of_ble_eq_true
abbrev aBP:=@List.getElem?_eq_getElem
abbrev aBQ:=@Nat.eq_of_beq_eq_true
abbrev aCO:=@List.getElem?_eq_some_iff
abbrev aCR:=@List.take_of_length_le
abbrev aCS:=@List.all_eq_true
abbrev aCX:=@List.mem_append_right
abbrev aCy:=@List.mem_append
abbrev aCz:=@List.getD_eq_getElem?_getD
abbrev aDE:=@List.eq_nil_of_length_eq_zero
abbrev aDF:=@List.length_set
abbrev aDG:=@List.mem_append_left
abbrev aDH:=@List.map_cons
abbrev aDM:=@List.map_append
abbrev aD2:=@List.append_assoc
abbrev aD8:=@List.getElem?_append_right
abbrev aDr:=@List.mem_cons
abbrev aE8:=@List.flatten_cons
abbrev aE9:=@List.mem_map
abbrev aEb:=@List.length_cons
abbrev aEh:=@List.length_append
abbrev aEt:=@List.mem_range
abbrev aFC:=@Nat.le_refl
abbrev aFD:=@Nat.lt_of_lt_of_le
abbrev aFE:=@List.map_replicate
abbrev aFF:=@List.take_length
abbrev aFG:=@List.getElem?_append_left
abbrev aFH:=@List.nodup_append
abbrev aFI:=@decide_eq_true_eq
abbrev aFQ:=@List.mem_cons_self
abbrev aFR:=@List.mem_cons_of_mem
abbrev aFU:=@List.mem_singleton
abbrev aF5:=@List.length_take
abbrev aF6:=@List.length_drop
abbrev aFk:=@List.append_nil
abbrev aFy:=@List.nil_append
abbrev aGB:=@List.getElem?_map
abbrev aGC:=@List.length_replicate
abbrev aGD:=@Nat.lt_irrefl
abbrev aGE:=@List.mem_filter
abbrev aGF:=@List.getElem_mem
abbrev aGG:=@Array.length_toList
def et1 {p0:Prop} (h0:p0):p0/\True:=⟨h0,trivial⟩
def et2 {p0 p1:Prop} (h0:p0) (h1:p1):p0/\p1/\True:=⟨h0,h1,trivial⟩
def et3 {p0 p1 p2:Prop} (h0:p0) (h1:p1) (h2:p2):p0/\p1/\p2/\True:=⟨h0,h1,h2,trivial⟩
def et4 {p0 p1 p2 p3:Prop} (h0:p0) (h1:p1) (h2:p2) (h3:p3):p0/\p1/\p2/\p3/\True:=⟨h0,h1,h2,h3,trivial⟩
def et5 {p0 p1 p2 p3 p4:Prop} (h0:p0) (h1:p1) (h2:p2) (h3:p3) (h4:p4):p0/\p1/\p2/\p3/\p4/\True:=⟨h0,h1,h2,h3,h4,trivial⟩
def et8 {p0 p1 p2 p3 p4 p5 p6 p7:Prop} (h0:p0) (h1:p1) (h2:p2) (h3:p3) (h4:p4) (h5:p5) (h6:p6) (h7:p7):p0/\p1/\p2/\p3/\p4/\p5/\p6/\p7/\True:=⟨h0,h1,h2,h3,h4,h5,h6,h7,trivial⟩
def Pk (n:Int):Prop:= -9223372036854775808<=n/\n<=9223372036854775807
def Se {n:Int}(h:(Lit.int .i64 n).wf=true):Pk n:=by
 have:=bounds_i64 h;exact this
def Ae (w w' :World):Prop:= ∀p u,w.cell? p=some u->w'.cell? p=some u
def Ae.refl (w:World):Ae w w:=fun _ _ h=>h
def Ae.trans {a b c:World}(h:Ae a b)(k:Ae b c):Ae a c:=fun p u hp=>k p u (h p u hp)
def Ae.below {B:Nat}{w w' :World}(h:Below B w w')(hB:w.heap.size<=B):Ae w w' :=fun p _ hp=>
 (h.cell (p:=p) (aFD (World.block_lt_of_cell? w p hp) hB)).trans hp
def Ae.drew (w:World):Ae w w.drew:=fun _ _ h=>h
def Ae.alloc (w:World)(o:Obj):Ae w (w.alloc o):=Ae.below ((Below.refl w.heap.size w).alloc (aFC _) o) (aFC _)
abbrev Rd (α:Type):=World->List Value->α->Prop
def aD4:Rd Int:=fun _ cs n=>cs= [.int .i64 n]/\Pk n
def wY {α:Type}(k:Nat)(R:Rd α):Rd (List α):=fun w cs xs=>
 ∃A c,cs= [.slice A xs.length c]/\xs.length<=c/\c<=maxLen/\
  ∀i x,xs[i]? =some x-> ∃b off cs',A=some ⟨b,off,none⟩/\cs'.length=k/\(∀j u,cs'[j]? =some u->w.cell? ⟨b,off+i*k+j,none⟩=some u)/\R w cs' x
def aD5 {α:Type}(R:Rd α):Prop:= ∀w w' cs x,Ae w w' ->R w cs x->R w' cs x
def Xl:aD5 aD4:=fun _ _ _ _ _ h=>h
def Sf {α:Type}{k:Nat}{R:Rd α}(hR:aD5 R):aD5 (wY k R):=by
 rintro w w' cs xs hk ⟨A,c,rfl,h1,h2,h3⟩;refine⟨A,c,rfl,h1,h2,fun i x hx=>?_⟩;obtain⟨b,off,cs',rfl,hl,hc,hr⟩:=h3 i x hx;exact⟨b,off,cs',rfl,hl,fun j u hu=>hk _ _ (hc j u hu),hR _ _ _ _ hk hr⟩
def Gm (w:World)(v:Value)(l:Z):Prop:=wY 1 aD4 w [v] l
def Gm.kept {w w' :World}{v:Value}{l:Z}(h:Gm w v l)(hk:Ae w w'):Gm w' v l:=Sf Xl _ _ _ _ hk h
def Gm.below {B:Nat}{w w' :World}{v:Value}{l:Z}(h:Gm w v l)(hb:Below B w w')(hB:w.heap.size<=B):Gm w' v l:=h.kept (Ae.below hb hB)
theorem Gm.at_ {w:World}{A:Option Addr}{n c:Nat}{l:Z}(h:Gm w (.slice A n c) l){k:Nat}(hk:k<l.length):
 ∃b off x,A=some ⟨b,off,none⟩/\Hid (l[k]? =some x)/\Pk x/\b<w.heap.size/\w.cell? ⟨b,off+k,none⟩=some (.int .i64 x):=by
 obtain⟨A',c',hv,h1,h2,h3⟩:=h;simp only[List.cons.injEq,Value.slice.injEq,and_true] at hv;obtain⟨rfl,rfl,rfl⟩:=hv;obtain⟨b,off,cs',rfl,hl,hc,rfl,hf⟩:=h3 k _ (aBP hk);have hc0:=hc 0 _ rfl;simp only[Nat.mul_one,Nat.add_zero] at hc0;exact⟨b,off,_,rfl,aBP hk,hf,World.block_lt_of_cell? w _ hc0,hc0⟩
def bW {α:Type}{l:List α}{k:Nat}{x:α}(h:l[k]? =some x):l.take (k+1)=l.take k++[x]:=by
 rw[List.take_add_one,h];rfl
def cL {α:Type}{p:α->Bool}{l:List α}{k:Nat}{x:α}(h:l[k]? =some x)(ht:(l.take k).all p=true)(hx:p x=true):(l.take (k+1)).all p=true:=by
 rw[bW h,List.all_append,ht];simp[hx]
def eT {α:Type}{p:α->Bool}{l:List α}{k:Nat}{x:α}(h:l[k]? =some x)(hx:p x=false):l.all p=false:=by
 rw[List.all_eq_false];exact⟨x,aBD h,by simp[hx]⟩
def dD {α:Type}{p:α->Bool}{l:List α}{k:Nat}(hk:l.length<=k)(ht:(l.take k).all p=true):l.all p=true:=by
 rwa [aCR hk] at ht
section
variable {H:Type} {enc:TypeId × Value->H} {P:Program} {w:World} {base:Nat} {spare:Nat->Bool} {held:Bool}
theorem trod_int {t:TypeId}{fuel:Nat}{cs:List Value}{x:DataW H × List MemPlace}(ht:P.underlying t=some (.int .i64))(h:DataW.trod enc P w base spare held fuel t cs=some x): ∃n,aD4 w cs n:=by
 obtain⟨n,rfl,_,hw⟩:=DataW.trod_int ht h;exact⟨n,rfl,Se hw⟩
theorem Sg {α:Type}{t e:TypeId}{k:Nat}{R:Rd α}{fuel:Nat}{cs:List Value}{x:DataW H × List MemPlace}(ht:P.underlying t=some (.slice e))(hk:P.cellsOf e=k)(hpos:0<k)
 (hR: ∀n cs x,DataW.trod enc P w base spare held n e cs=some x-> ∃a,R w cs a) (h:DataW.trod enc P w base spare held fuel t cs=some x): ∃xs,wY k R w cs xs:=by
 rcases Deep.open_slice ht h with ⟨rfl,_⟩ | ⟨a,len,cap,m,n,D,Pl,rfl,hb,hl,hm,hmm,hx,hi⟩
 ·exact⟨[],none,0,rfl,aFC _,aBC _,fun i x hx=>by simp at hx⟩
 have hlm:len<=m:=by rw[hmm];split<;>omega
 have hch: ∀i,i<len-> ∃y:α,∃cs',w.cells? base (a.add (i*P.cellsOf e)) (P.cellsOf e)=some cs' /\R w cs' y:=fun i hil=>by
  obtain⟨cs',hc,ht'⟩:=hi i aGR;obtain⟨y,hy⟩:=hR _ _ _ ht';exact⟨y,cs',hc,hy⟩
 have hlist: ∀m,m<=len-> ∃ys:List α,ys.length=m/\ ∀i y,ys[i]? =some y-> ∃cs',w.cells? base (a.add (i*P.cellsOf e)) (P.cellsOf e)=some cs' /\R w cs' y:=by
  intro m
  induction m with
  | zero=>intro _;exact⟨[],rfl,fun i y hy=>by simp at hy⟩
  | succ m ih=>
    intro hm';obtain⟨ys,hyl,hys⟩:=ih aGR;obtain⟨y,hy⟩:=hch m aGR;refine⟨ys++[y],by simp[hyl],fun i z hz=>?_⟩;by_cases him:i<ys.length
    ·rw[aFG him] at hz;exact hys i z hz
    rw[aD8 aGR] at hz
    have:i=m:=by
     have:=(aCO.1 hz).1;simp at this;omega
    subst this;simp[hyl] at hz;subst hz;exact hy
 obtain⟨ys,hyl,hys⟩:=hlist len (aFC _);refine⟨ys,some a,cap,by rw[hyl],aGR,hm,fun i y hy=>?_⟩;obtain⟨cs',hc,hr⟩:=hys i y hy;obtain⟨_,hcl,hat⟩:=World.cells?_some hc;rw[hk] at hcl hat
 have hspot:a.spot=none:=by
  have hyl0:0<ys.length:=by
   have:=(aCO.1 hy).1;omega
  obtain⟨cs0,hc0,_⟩:=hys 0 _ (aBP hyl0);obtain⟨_,hcl0,hat0⟩:=World.cells?_some hc0;rw[hk] at hcl0 hat0;have h0:=hat0 0 hpos;have hv:cs0[0]? =some (cs0[0]'(by omega)):=aBP aGR;rw[hv] at h0;have:=World.cell?_spot h0;simpa [Addr.add] using this
 obtain⟨b,off,spot⟩:=a;simp only at hspot;subst hspot
 have hadd: ∀n,(⟨b,off,none⟩:Addr).add n=⟨b,off+n,none⟩:=fun n=>by
  unfold Addr.add;split<;>simp_all
 refine⟨b,off,cs',rfl,hcl,fun j u hu=>?_,hr⟩
 have hj:j<k:=by
  have:=(aCO.1 hu).1;omega
 have h1:=hat j hj;rw[hu,Deep.add_add,hadd] at h1;rw[<-h1,Nat.add_assoc]
end
def eZ (n a b:Int):Bool:=decide (a<=n)&&decide (n<=b)
def eU {n a b:Int}(h:eZ n a b=true):a<=n/\n<=b:=by simpa [eZ] using h
def qF {n a b:Int}(h:a<=n)(h' :n<=b):eZ n a b=true:=by simp[eZ,h,h']
def UJ (b:Nat)(h:b<=12):1<=(2:Int)^b/\(2:Int)^b<=4096:=by
 have: ∀b:Fin 13,1<=(2:Int)^b.1/\(2:Int)^b.1<=4096:=by decide
 exact this ⟨b,aGR⟩
abbrev vals (l:Z):List Value:=l.map (Value.int .i64)
abbrev aFJ (w:World)(base:Nat)(v:Value)(l:Z):Prop:=w.ownsRow base 3 1 v l.length (vals l)
def UK (w:World)(l:Z)(e:Ending)(w' :World):Prop:= ∃v,e= .returned v/\aFJ w' w.heap.size v l/\Below w.heap.size w w'
def L0 {α:Type}(zs:List α)(k:Nat)(u:α)(h:k<zs.length):(zs.set k u).take (k+1)=zs.take k++[u]:=by
 rw[List.take_add_one,List.getElem?_set_self h,List.take_set,List.set_eq_of_length_le (by simp;omega)];rfl
def lL {w:World}{base e size n:Nat}{v:Value}{xs:List Value}(h:w.ownsRow base e size v n xs): ∃A c,v= .slice A n c/\n<=c/\c<=maxLen/\(0<n-> ∃g,A=some ⟨g,0,none⟩/\base<=g/\g<w.heap.size):=by
 rcases h.2 with ⟨rfl,rfl⟩ | ⟨g,cap,cur,rfl,hb,hg,h1,h2,_⟩
 ·exact⟨none,0,rfl,aFC _,aBC _,fun h=>absurd h aGR⟩
 exact⟨_,cap,rfl,h1,h2,fun _=>⟨g,rfl,hb,(Array.getElem?_eq_some_iff.1 hg).1⟩⟩
abbrev Od (α:Type):=World->List Nat->List Value->α->Prop
def lM (F:List Nat)(w w' :World):Prop:= ∀g∈F,w'.heap[g]? =w.heap[g]?
def aCu {α:Type}(O:Od α):Prop:= ∀w w' F cs x,lM F w w' ->O w F cs x->O w' F cs x
def aD6 {α:Type}(O:Od α):Prop:= ∀w F cs x,O w F cs x-> ∀g∈F,g<w.heap.size
structure oK (S:List Nat) (w w' :World):Prop where
 os:w'.os=w.os
 tape:w'.tape=w.tape
 output:w'.output=w.output
 size:w.heap.size<=w'.heap.size
 block: ∀k,k<w.heap.size->k ∉ S->w'.heap[k]? =w.heap[k]?
def oK.refl (S:List Nat)(w:World):oK S w w:=⟨rfl,rfl,rfl,aFC _,fun _ _ _=>rfl⟩
def oK.of_below {S:List Nat}{w w' :World}(h:Below w.heap.size w w'):oK S w w' :=⟨h.os,h.tape,h.output,h.size,fun k hk _=>h.block k hk⟩
def oK.trans {S:List Nat}{a b c:World}(h:oK S a b)(k:oK S b c):oK S a c:=
 ⟨k.os.trans h.os,k.tape.trans h.tape,k.output.trans h.output,Nat.le_trans h.size k.size,fun i hi hn=>(k.block i (aFD hi h.size) hn).trans (h.block i hi hn)⟩
def oK.mono {S S' :List Nat}{a b:World}(h:oK S a b)(hS: ∀g∈S,g∈S'):oK S' a b:=⟨h.os,h.tape,h.output,h.size,fun i hi hn=>h.block i hi (fun hm=>hn (hS i hm))⟩
def oK.below {S:List Nat}{B:Nat}{a b:World}(h:oK S a b)(hS: ∀g∈S,B<=g)(hB:B<=a.heap.size):Below B a b:=
 ⟨h.os,h.tape,h.output,h.size,fun k hk=>h.block k aGR (fun hm=>by have:=hS k hm;omega)⟩
def lM.below {F:List Nat}{B:Nat}{w w' :World}(h:Below B w w')(hF: ∀g∈F,g<B):lM F w w' :=fun g hg=>h.block g (hF g hg)
def lM.mono {F F' :List Nat}{w w' :World}(h:lM F w w')(hF: ∀g∈F',g∈F):lM F' w w' :=fun g hg=>h g (hF g hg)
def aFK:Od Z:=fun w F cs l=> ∃v,cs= [v]/\aFJ w 0 v l/\F=v.ownBlock.toList/\ ∀x∈l,Pk x
def aD7 {α:Type}(e k:Nat)(O:Od α):Od (List α):=fun w F cs xs=>
 ∃(v:Value) (Fs:List (List Nat)) (css:List (List Value)),cs= [v]/\w.ownsRow 0 e k v xs.length (List.flatten css)/\F=v.ownBlock.toList++List.flatten Fs/\css.length=xs.length/\Fs.length=xs.length/\
  ∀(i:Nat) x,xs[i]? =some x-> ∃Fi ci,Fs[i]? =some Fi/\css[i]? =some ci/\ci.length=k/\O w Fi ci x
def kZ {w w' :World}{base e size n:Nat}{v:Value}{xs:List Value}(h:w.ownsRow base e size v n xs)(hk:lM v.ownBlock.toList w w'):w'.ownsRow base e size v n xs:=by
 refine⟨h.1,?_⟩;rcases h.2 with hn | ⟨g,cap,cur,rfl,hb,hg,r⟩
 ·exact .inl hn
 exact .inr ⟨g,cap,cur,rfl,hb,(hk g (by simp[Value.ownBlock])).trans hg,r⟩
def Fj {w:World}{base base' e size n:Nat}{v:Value}{xs:List Value}(h:w.ownsRow base e size v n xs)(hb: ∀g∈v.ownBlock.toList,base' <=g):w.ownsRow base' e size v n xs:=by
 refine⟨h.1,?_⟩;rcases h.2 with hn | ⟨g,cap,cur,rfl,_,hg,r⟩
 ·exact .inl hn
 exact .inr ⟨g,cap,cur,rfl,hb g (by simp[Value.ownBlock]),hg,r⟩
def yO {w:World}{base e size n:Nat}{v:Value}{xs:List Value}(h:w.ownsRow base e size v n xs): ∀g∈v.ownBlock.toList,base<=g/\g<w.heap.size:=fun g hg=>h.lt g (by simpa using hg)
theorem yP {α:Type}{k:Nat}: ∀(css:List (List α)),(∀c∈css,c.length=k)-> ∀(i j:Nat) (c:List α),css[i]? =some c->j<k->css.flatten[i*k+j]? =c[j]?
 | [],_,i,j,c,h,_=>by simp at h
 | d::css,hl,0,j,c,h,hj=>by
   simp at h;subst h;rw[aE8,Nat.zero_mul,Nat.zero_add,aFG (by rw[hl d (by simp)];exact hj)]
 | d::css,hl,i+1,j,c,h,hj=>by
   have hd:=hl d (by simp);rw[aE8,aD8 (by rw[hd,Nat.add_mul];omega),hd,show (i+1)*k+j - k=i*k+j by rw[Nat.add_mul];omega];exact yP css (fun c hc=>hl c (by simp[hc])) i j c (by simpa using h) hj
def ES (w:World)(g:Nat)(t:TypeId)(cs:Array Value):Prop:=w.heap[g]? =some (.cells cs t (0,0))
section
variable {w w' :World} {g:Nat} {t:TypeId} {cs:Array Value}
theorem ES.lt (h:ES w g t cs):g<w.heap.size:=(Array.getElem?_eq_some_iff.1 h).1
theorem ES.cell (h:ES w g t cs)(i:Nat):w.cell? ⟨g,i,none⟩=cs[i]? :=cell_of_row w g i cs t (0,0) h
theorem ES.new (w:World)(t:TypeId)(cs:Array Value):ES (w.alloc (.cells cs t)) w.heap.size t cs:=heap_alloc_new w _
theorem ES.at_ (w:World)(t:TypeId)(cs:Array Value)(h:w.heap.size=g):ES (w.alloc (.cells cs t)) g t cs:=by subst h;exact heap_alloc_new w _
theorem ES.alloc (h:ES w g t cs)(o:Obj):ES (w.alloc o) g t cs:=(Below.heap_alloc w o g h.lt).trans h
theorem ES.store (h:ES w g t cs)(i:Nat)(u:Value):ES (w.setCell ⟨g,i,none⟩ u) g t (cs.setIfInBounds i u):=heap_setCell_same w g i cs t u h
theorem ES.below {B:Nat}(h:ES w g t cs)(hb:Below B w w')(hg:g<B):ES w' g t cs:=(hb.block g hg).trans h
theorem ES.on (h:ES w g t cs)(hb:Below w.heap.size w w'):ES w' g t cs:=h.below hb h.lt
end
def aGL {α:Type}(O:Od (List α))(w:World)(x:List α)(e:Ending)(w' :World):Prop:=
 ∃F A c,e= .returned (.slice A x.length c)/\O w' F [.slice A x.length c] x/\F.Nodup/\(∀g∈F,w.heap.size<=g)/\Below w.heap.size w w'
def Vl {F G:List Nat}{N:Nat}(hF:F.Nodup)(hG:G.Nodup)(h1: ∀g∈F,g<N)(h2: ∀g∈G,N<=g):(F++G).Nodup:=by
 rw[aFH];exact⟨hF,hG,fun a ha b hb e=>by have:=h1 a ha;have:=h2 b hb;omega⟩
def UK.new {w w' :World}{l:Z}{e:Ending}(h:UK w l e w')(hf: ∀x∈l,Pk x): ∃F A c,e= .returned (.slice A l.length c)/\aFK w' F [.slice A l.length c] l/\F.Nodup/\(∀g∈F,w.heap.size<=g)/\Below w.heap.size w w' :=by
 obtain⟨v,rfl,ho,hb⟩:=h;obtain⟨A,c,rfl,_⟩:=lL ho;refine⟨_,A,c,rfl,⟨_,rfl,Fj ho (fun g _=>aBC g),rfl,hf⟩,?_,fun g hg=>(yO ho g hg).1,hb⟩;cases A<;>simp[Value.ownBlock]
def ES.only {w w' :World}{g:Nat}{t:TypeId}{cs:Array Value}{S:List Nat}(h:ES w g t cs)(ho:oK S w w')(hg:g ∉ S):ES w' g t cs:=(ho.block g h.lt hg).trans h
def oK.alloc {S:List Nat}{a w:World}(h:oK S a w)(o:Obj):oK S a (w.alloc o):=
 h.trans (oK.of_below ((Below.refl _ _).alloc (aFC _) o))
section
variable {α:Type}
theorem wY.at_ {K:Nat}{R:Rd α}{w:World}{A:Option Addr}{n c:Nat}{xs:List α}(h:wY K R w [.slice A n c] xs){k:Nat}(hk:k<xs.length):
 ∃b off cs x,A=some ⟨b,off,none⟩/\Hid (xs[k]? =some x)/\cs.length=K/\(∀j u,cs[j]? =some u->w.cell? ⟨b,off+k*K+j,none⟩=some u)/\R w cs x:=by
 obtain⟨A',c',hv,h1,h2,h3⟩:=h;simp only[List.cons.injEq,Value.slice.injEq,and_true] at hv;obtain⟨rfl,rfl,rfl⟩:=hv;obtain⟨b,off,cs',rfl,hl,hc,hr⟩:=h3 k _ (aBP hk);exact⟨b,off,cs',_,rfl,aBP hk,hl,hc,hr⟩
theorem wY.all_ {K:Nat}{R:Rd α}{w:World}{cs:List Value}{xs:List α}(h:wY K R w cs xs){p:α->Prop}(hp: ∀w cs x,R w cs x->p x): ∀x∈xs,p x:=by
 obtain⟨A',c',hv,h1,h2,h3⟩:=h;intro x hx;obtain⟨i,hi,rfl⟩:=List.getElem_of_mem hx;obtain⟨b,off,cs',_,_,_,hr⟩:=h3 i _ (aBP hi);exact hp _ _ _ hr
def setCells (w:World)(g o:Nat):List Value->World
 | []=>w
 | c::cs=>setCells (w.setCell ⟨g,o,none⟩ c) g (o+1) cs
def vQ (zs:List Value)(o:Nat):List Value->List Value
 | []=>zs
 | c::cs=>vQ (zs.set o c) (o+1) cs
theorem MO (cs:List Value): ∀(zs:List Value) (o:Nat),o+cs.length<=zs.length->(vQ zs o cs).take (o+cs.length)=zs.take o++cs:=by
 induction cs with
 | nil=>intro zs o _;simp[vQ]
 | cons c cs ih=>
   intro zs o h;simp only[aEb] at h ⊢;rw[vQ,show o+(cs.length+1)=(o+1)+cs.length by omega,ih _ _ (by simp;omega),L0 _ _ _ aGR];simp
theorem Vm (cs:List Value): ∀(zs:List Value) (o m:Nat),o+cs.length<=m->(vQ zs o cs).drop m=zs.drop m:=by
 induction cs with
 | nil=>intro zs o m _;rfl
 | cons c cs ih=>
   intro zs o m h;simp only[aEb] at h;rw[vQ,ih _ _ _ aGR,List.drop_set_of_lt aGR]
theorem sF {base e size g n cap:Nat}(cs:List Value): ∀{w:World} {o:Nat} {zs:List Value},w.ownsRow base e size (.slice (some ⟨g,0,none⟩) n cap) n zs->
 (setCells w g o cs).ownsRow base e size (.slice (some ⟨g,0,none⟩) n cap) n (vQ zs o cs):=by
 induction cs with
 | nil=>intro w o zs h;exact h
 | cons c cs ih=>intro w o zs h;exact ih (h.stored o c).1
theorem C7 (cs:List Value): ∀(w:World) (g o k:Nat),k≠g->(setCells w g o cs).heap[k]? =w.heap[k]? :=by
 induction cs with
 | nil=>intro w g o k _;rfl
 | cons c cs ih=>intro w g o k hk;rw[setCells,ih _ _ _ _ hk];exact Below.heap_setCell w ⟨g,o,none⟩ c k hk
theorem L1 (cs:List Value): ∀(w:World) (g o:Nat),(setCells w g o cs).heap.size=w.heap.size:=by
 induction cs with
 | nil=>intro w g o;rfl
 | cons c cs ih=>intro w g o;rw[setCells,ih];simp[World.setCell]
theorem oO {S:List Nat}{a:World}(cs:List Value): ∀{w:World} {g o:Nat},oK S a w->g∈S->oK S a (setCells w g o cs):=by
 induction cs with
 | nil=>intro w g o h _;exact h
 | cons c cs ih=>
   intro w g o h hg;exact ih (h.trans ⟨rfl,rfl,rfl,by simp[World.setCell],fun k _ hk=>Below.heap_setCell w ⟨g,o,none⟩ c k (fun e=>hk (e▸hg))⟩) hg
def Xg (O:Od α)(e K base:Nat)(w:World)(g n:Nat)(xs:List α):Prop:=
 ∃(zs:List Value) (Fs:List (List Nat)) (css:List (List Value)),w.ownsRow base e K (.slice (some ⟨g,0,none⟩) n n) n zs/\zs.take (xs.length*K)=css.flatten/\css.length=xs.length/\Fs.length=xs.length/\
  (∀(i:Nat) x,xs[i]? =some x-> ∃Fi ci,Fs[i]? =some Fi/\css[i]? =some ci/\ci.length=K/\O w Fi ci x)/\Fs.flatten.Nodup/\(∀q∈Fs.flatten,g<q/\q<w.heap.size)
theorem Xg.lt {O:Od α}{e K base:Nat}{w:World}{g n:Nat}{xs:List α}(h:Xg O e K base w g n xs):base<=g/\g<w.heap.size:=by
 obtain⟨zs,Fs,css,ho,_⟩:=h;exact ho.lt g rfl
theorem Xg.grow {O:Od α}(hO:aCu O){e K base:Nat}{w w' :World}{g n:Nat}{xs:List α}(h:Xg O e K base w g n xs)(hb:Below w.heap.size w w'):Xg O e K base w' g n xs:=by
 have hlt:=h.lt;obtain⟨zs,Fs,css,ho,h1,h2,h3,h4,h5,h6⟩:=h;refine⟨zs,Fs,css,kZ ho (lM.below hb (fun q hq=>(yO ho q hq).2)),h1,h2,h3,fun i x hx=>?_,h5,fun q hq=>⟨(h6 q hq).1,aFD (h6 q hq).2 hb.size⟩⟩;obtain⟨Fi,ci,hF,hc,hl,ho'⟩:=h4 i x hx;exact⟨Fi,ci,hF,hc,hl,hO _ _ _ _ _ (lM.below hb (fun q hq=>(h6 q (List.mem_flatten.2 ⟨Fi,aBD hF,hq⟩)).2)) ho'⟩
theorem Xg.cell {O:Od α}{e K base:Nat}{w:World}{g n:Nat}{xs:List α}(h:Xg O e K base w g n xs)(hn:xs.length<n)(j:Nat)(hj:j<K):(∃u,w.cell? ⟨g,xs.length*K+j,none⟩=some u)/\w.frozen? ⟨g,xs.length*K+j,none⟩=false:=by
 obtain⟨zs,Fs,css,ho,_⟩:=h
 have hlt:xs.length*K+j<n*K:=by
  have:(xs.length+1)*K<=n*K:=Nat.mul_le_mul_right K hn;rw[Nat.add_mul] at this;omega
 refine⟨⟨_,(ho.cellAt _ hlt).trans (aBP (by have:=ho.1;omega))⟩,ho.frozenAt _⟩
theorem Xg.step {O:Od α}(hO:aCu O)(hI:aD6 O){e K base:Nat}{w w' :World}{g n:Nat}{xs:List α}(h:Xg O e K base w g n xs)(hn:xs.length<n)(hb:Below w.heap.size w w')
 {F:List Nat} {cs:List Value} {x:α} (ho:O w' F cs x) (hF:F.Nodup) (hlo: ∀q∈F,w.heap.size<=q) (hl:cs.length=K):Xg O e K base (setCells w' g (xs.length*K) cs) g n (xs++[x]):=by
 have hlt:=h.lt;have h6:=h;have hg:=h.grow hO hb;obtain⟨_,_,_,_,_,_,_,_,_,h6⟩:=h6;obtain⟨zs,Fs,css,hw,h1,h2,h3,h4,h5,h7⟩:=hg;obtain⟨zs0,Fs0,css0,hw0,h10,h20,h30,h40,h50,h60⟩:=h
 clear h6
 have hKn:xs.length*K+K<=n*K:=by
  have:(xs.length+1)*K<=n*K:=Nat.mul_le_mul_right K hn;rw[Nat.add_mul] at this;omega
 have hk0:=hw0;refine⟨vQ zs0 (xs.length*K) cs,Fs0++[F],css0++[cs],sF cs (kZ hw0 (lM.below hb (fun q hq=>(yO hw0 q hq).2))),?_,by simp[h20],by simp[h30],?_,?_,?_⟩
 ·rw[aEh,List.length_singleton,Nat.add_mul,Nat.one_mul,<-hl,MO _ _ _ (by have:=hw0.1;rw[hl];omega)];rw[hl,h10];simp
 ·intro i y hy;by_cases hi:i<xs.length
  ·rw[aFG hi] at hy;obtain⟨Fi,ci,hFi,hci,hcl,hoi⟩:=h40 i y hy;refine⟨Fi,ci,by rw[aFG aGR];exact hFi,by rw[aFG aGR];exact hci,hcl,?_⟩;refine hO _ _ _ _ _ (fun q hq=>?_) hoi;have hm:=h60 q (List.mem_flatten.2 ⟨Fi,aBD hFi,hq⟩);rw[C7 _ _ _ _ _ aGR];exact hb.block q hm.2
  rw[aD8 aGR] at hy
  have hi' :i=xs.length:=by
   have:=(aCO.1 hy).1;simp at this;omega
  subst hi';simp at hy;subst hy;refine⟨F,cs,by rw[aD8 aGR];simp[h30],by rw[aD8 aGR];simp[h20],hl,?_⟩;exact hO _ _ _ _ _ (fun q hq=>C7 _ _ _ _ _ (by have:=hlo q hq;omega)) ho
 ·rw[List.flatten_append];simp only[aE8,List.flatten_nil,aFk];exact Vl h50 hF (fun q hq=>(h60 q hq).2) hlo
 intro q hq;rw[List.flatten_append] at hq;simp only[aE8,List.flatten_nil,aFk,aCy] at hq;rw[L1];rcases hq with hq | hq
 ·have:=h60 q hq;have:=hb.size;omega
 have:=hlo q hq;have:=hI _ _ _ _ ho q hq;omega
theorem Xg.done {O:Od α}{e K base:Nat}{w w0:World}{g n:Nat}{xs:List α}(h:Xg O e K base w g n xs)(hn:xs.length=n)(hb:Below w0.heap.size w0 w)(hg:w0.heap.size<=g):
 aGL (aD7 e K O) w0 xs (.returned (.slice (some ⟨g,0,none⟩) n n)) w:=by
 obtain⟨zs,Fs,css,ho,h1,h2,h3,h4,h5,h6⟩:=h;subst hn;have hz:zs=css.flatten:=by rw[<-h1,aCR (by have:=ho.1;omega)]
 subst hz;refine⟨g::Fs.flatten,some ⟨g,0,none⟩,xs.length,rfl,⟨_,Fs,css,rfl,Fj ho (fun g _=>aBC g),rfl,h2,h3,h4⟩,?_,?_,hb⟩
 ·rw[List.nodup_cons];exact⟨fun hm=>aGD _ (h6 g hm).1,h5⟩
 intro q hq;rcases aDr.1 hq with rfl | hq
 ·exact hg
 have:=(h6 q hq).1;omega
end
def qG {α:Type}(c:α->Nat)(xs:List α):Nat:=xs.length+(xs.map c).sum
def Af {α:Type}(c:α->Nat)(xs:List α):xs.length<=qG c xs:=Nat.le_add_right _ _
def aBE {l:List Nat}{n:Nat}(h:n∈l):n<=l.sum:=by
 induction l with
 | nil=>simp at h
 | cons a l ih=>
   rcases aDr.1 h with rfl | h
   ·simp
   have:=ih h;simp;omega
def xH {α:Type}(c:α->Nat){xs:List α}{k:Nat}{x:α}(h:xs[k]? =some x):c x<=qG c xs:=
 Nat.le_trans (aBE (aE9.2 ⟨x,aBD h,rfl⟩)) (Nat.le_add_left _ _)
section
variable {α:Type}
def DI (ct:α->Nat)(l:List α):Nat:=(l.map ct).sum
end
def Lq (w:World)(K:Nat)(sv:Value)(m:Nat)(news:List Value):Prop:=
 ∃A c,sv= .slice A m c/\news.length=m*K/\(A=none->m=0)/\ ∀b,A=some b-> ∀j u,news[j]? =some u->w.cell? (b.add j)=some u
def oP (b off j:Nat):(⟨b,off,none⟩:Addr).add j=⟨b,off+j,none⟩:=by unfold Addr.add;split<;>simp_all
def Lq.one {w:World}{K:Nat}{b:Nat}{t:TypeId}{cs:Array Value}(h:ES w b t cs)(hK:cs.size=K):Lq w K (.slice (some ⟨b,0,none⟩) 1 1) 1 cs.toList:=
 ⟨some ⟨b,0,none⟩,1,rfl,by simp[hK],by simp,fun b' e=>by
  simp only[Option.some.injEq] at e;subst e;exact fun j u hu=>by rw[oP,Nat.zero_add,h.cell j];simpa using hu⟩
def Lq.many {w:World}{K n:Nat}{b:Nat}{t:TypeId}{cs:Array Value}(h:ES w b t cs)(hK:cs.size=n*K):Lq w K (.slice (some ⟨b,0,none⟩) n n) n cs.toList:=
 ⟨some ⟨b,0,none⟩,n,rfl,by simp[hK],by simp,fun b' e=>by
  simp only[Option.some.injEq] at e;subst e;exact fun j u hu=>by rw[oP,Nat.zero_add,h.cell j];simpa using hu⟩
def Lq.kept {w w' :World}{K:Nat}{sv:Value}{m:Nat}{news:List Value}(h:Lq w K sv m news)(hk:Ae w w'):Lq w' K sv m news:=by
 obtain⟨A,c,rfl,h1,h2,h3⟩:=h;exact⟨A,c,rfl,h1,h2,fun b e j u hu=>hk _ _ (h3 b e j u hu)⟩
section
variable {P:Program} (w:World)
theorem Ic (base:Nat)(t ty e:TypeId)(i:TypeInfo)(z:Value)(size bytes:Nat)(ht:P.underlying t=some (.slice e))(hi:P.info? e=some i)(hz:i.zero=some z)
 (hsize:i.size=size) (hby:i.bytes=bytes) (hzs:z.cells.size=size) (hsz:0<size)
 (v:Value) (n:Nat) (xs:List Value) (hown:w.ownsRow base e size v n xs) (sv:Value) (m:Nat) (news:List Value) (hr:Lq w size sv m news) (h1: ∀u∈news,u.oneCell' =true)
 (h63:n+m<=maxLen) (hbytes:(n+m)*bytes<=140737488355328) (hbase:base<=w.heap.size):
 ∃v' w',(Builtin.append_ #[t,t] ty #[v,sv]).run P w= .ok v' w' /\w'.ownsRow base e size v' (n+m) (xs++news)/\w.grownBy w' v.ownBlock/\(v'.ownBlock=v.ownBlock\/v'.ownBlock=some w.heap.size):=by
 obtain⟨A,c,rfl,hl,hA,hc⟩:=hr;rcases A with _ | ad
 ·have hm:=hA rfl;subst hm;have hn:news= []:=aDE (by simpa using hl);subst hn;refine⟨v,w,?_,by simpa using hown,World.grownBy.refl w _,.inl rfl⟩;rcases hown.2 with ⟨rfl,rfl⟩ | ⟨g,cap,cur,rfl,_,_,hnc,_⟩
  ·simp[Builtin.append_,run_underlying ht,sizeOf,typeInfo,hi,Builtin.lenOf,Builtin.firstCells]
  simp[Builtin.append_,run_underlying ht,sizeOf,typeInfo,hi,Builtin.lenOf,Builtin.firstCells,hnc,storeCells]
 obtain⟨v',w',hrun,h2,h3,_,h5⟩:=run_append_own_at (P:=P) w base t ty e i z size bytes ht hi hz hsize hby hzs hsz v n xs hown ad m c news hl (hc ad rfl) h1 h63 hbytes hbase;exact⟨v',w',hrun,h2,h3,h5⟩
theorem L2 {o:Oper}{a:Act}{K:Act->World->Prop}{Q:Exit->Act->World->Prop}(s x:Operand)(t:TypeId)
 (ho:o.op= .call { callee:= .builtin .append,args:= #[s,x],argTypes:= #[t,t] })
 (base:Nat) (e:TypeId) (i:TypeInfo) (z:Value) (size bytes:Nat) (ht:P.underlying t=some (.slice e)) (hi:P.info? e=some i) (hz:i.zero=some z)
 (hsize:i.size=size) (hby:i.bytes=bytes) (hzs:z.cells.size=size) (hsz:0<size)
 (v:Value) (n:Nat) (xs:List Value) (hs:a.eval s=v) (hown:w.ownsRow base e size v n xs) (sv:Value) (m:Nat) (news:List Value) (hx:a.eval x=sv) (hr:Lq w size sv m news) (h1: ∀u∈news,u.oneCell' =true)
 (h63:n+m<=maxLen) (hbytes:(n+m)*bytes<=140737488355328) (hbase:base<=w.heap.size)
 (h: ∀v' w',w'.ownsRow base e size v' (n+m) (xs++news)->w.grownBy w' v.ownBlock->(v'.ownBlock=v.ownBlock\/v'.ownBlock=some w.heap.size)->K (a.put o.dst v') w'):o.wp P a w K Q:=by
 obtain⟨v',w',hrun,h2,h3,h4⟩:=Ic (P:=P) w base t o.type e i z size bytes ht hi hz hsize hby hzs hsz v n xs hown sv m news hr h1 h63 hbytes hbase;unfold Oper.wp execOp;simp only[ho,resolve,invoke,builtin,Sem.run_bind,Sem.run_pure,Result.andThen_ok,List.map_toArray,aDH,List.map_nil,hs,hx,hrun];exact h v' w' h2 h3 h4
end
def wY.src {α:Type}{K:Nat}{R:Rd α}{w:World}{v:Value}{xs:List α}(h:wY K R w [v] xs): ∃css:List (List Value),Lq w K v xs.length css.flatten/\css.length=xs.length/\ ∀(i:Nat) x,xs[i]? =some x-> ∃c,css[i]? =some c/\c.length=K/\R w c x:=by
 obtain⟨A,c,hv,h1,h2,h3⟩:=h;have hv' :v= .slice A xs.length c:=by simpa using hv
 subst hv'
 have hlist: ∀m,m<=xs.length-> ∃css:List (List Value),css.length=m/\ ∀(i:Nat) d,css[i]? =some d-> ∃x b off,xs[i]? =some x/\A=some ⟨b,off,none⟩/\d.length=K/\(∀j u,d[j]? =some u->w.cell? ⟨b,off+i*K+j,none⟩=some u)/\R w d x:=by
  intro m
  induction m with
  | zero=>intro _;exact⟨[],rfl,fun i d hd=>by simp at hd⟩
  | succ m ih=>
    intro hm;obtain⟨css,hl,hc⟩:=ih aGR;obtain⟨b,off,d,hA,hd,hcell,hr⟩:=h3 m _ (aBP (by omega:m<xs.length));refine⟨css++[d],by simp[hl],fun i d' hd' =>?_⟩;by_cases hi:i<css.length
    ·rw[aFG hi] at hd';exact hc i d' hd'
    rw[aD8 aGR] at hd'
    have him:i=m:=by
     have:=(aCO.1 hd').1;simp at this;omega
    subst him;simp[hl] at hd';subst hd';exact⟨_,b,off,aBP aGR,hA,hd,hcell,hr⟩
 obtain⟨css,hl,hc⟩:=hlist xs.length (aFC _)
 have hK: ∀d∈css,d.length=K:=by
  intro d hd;obtain⟨i,hi,rfl⟩:=List.getElem_of_mem hd;obtain⟨_,_,_,_,_,h,_⟩:=hc i _ (aBP hi);exact h
 have hfl:css.flatten.length=xs.length*K:=by
  rw[<-hl]
  clear hc h3 hv h1 h2 hlist hl
  induction css with
  | nil=>simp
  | cons d css ih=>
    rw[aE8,aEh,hK d (by simp),ih (fun d hd=>hK d (by simp[hd])),aEb,Nat.add_mul];omega
 refine⟨css,⟨A,c,rfl,hfl,fun hA=>?_,fun b hb=>?_⟩,hl,fun i x hx=>?_⟩
 ·rcases Nat.eq_zero_or_pos xs.length with h0 | h0
  ·exact h0
  obtain⟨_,_,_,hA',_⟩:=h3 0 _ (aBP h0);rw[hA] at hA';cases hA'
 ·subst hb;intro j u hu;have hj:j<xs.length*K:=by rw[<-hfl];exact(aCO.1 hu).1
  have hKp:0<K:=by
   rcases Nat.eq_zero_or_pos K with h0 | h0
   ·subst h0;simp at hj
   exact h0
  have hq:j/K<xs.length:=Nat.div_lt_of_lt_mul (by rw[Nat.mul_comm];exact hj);obtain⟨x',b',off,_,hA,hd,hcell,_⟩:=hc (j/K) _ (aBP (by omega:j/K<css.length));simp only[Option.some.injEq] at hA;subst hA;have hr:=yP css hK (j/K) (j%K) _ (aBP (by omega:j/K<css.length)) (Nat.mod_lt _ hKp);have hdm:j/K*K+j%K=j:=by rw[Nat.mul_comm];exact Nat.div_add_mod j K
  rw[hdm,hu] at hr;have:=hcell (j%K) u hr.symm;rw[oP];rw[Nat.add_assoc,hdm] at this;exact this
 have hi:i<css.length:=by rw[hl];exact(aCO.1 hx).1
 obtain⟨x',b,off,hx',hA,hd,hcell,hr⟩:=hc i _ (aBP hi);rw[hx] at hx';injection hx' with hx'
 subst hx';exact⟨_,aBP hi,hd,hr⟩
def Xm {w:World}{n base e:Nat}(K:Nat)(h:w.heap.size=n)(hb:base<=w.heap.size):(w.alloc (.cells #[] e)).ownsRow base e K (.slice (some ⟨n,0,none⟩) 0 0) 0 []:=by
 have:=World.ownsRow_made (base:=base) (e:=e) (size:=K) w #[] 0 hb (aBC _) (by simp);rw[show (⟨w.heap.size,0,none⟩:Addr)=⟨n,0,none⟩ by rw[h]] at this;exact this
inductive bX where
 | int (k:IntKind) (n:Int)
 | bool (b:Bool)
 | str (s:E)
 | sl (e k:Nat) (xs:List (List bX))
 | gone
mutual
def jX (A:Nat->Prop)(w:World):bX->Value->Prop
 | .int k n,v=>v= .int k n
 | .bool b,v=>v= .bool b
 | .str s,v=>v= .string s
 | .gone,v=>v.oneCell' =true
 | .sl _ k xs,v=> ∃a c,v= .slice a xs.length c/\xs.length<=c/\c<=maxLen/\iH A w k xs a 0
def iH (A:Nat->Prop)(w:World)(k:Nat):List (List bX)->Option Addr->Nat->Prop
 | [],_,_=>True
 | x::xs,a,o=>x.length=k/\lN A w x a o/\iH A w k xs a (o+k)
def lN (A:Nat->Prop)(w:World):List bX->Option Addr->Nat->Prop
 | [],a,_=> ∃b off,a=some ⟨b,off,none⟩
 | p::ps,a,o=>(∃b off u,a=some ⟨b,off,none⟩/\A b/\w.cell? ⟨b,off+o,none⟩=some u/\jX A w p u)/\lN A w ps a (o+1)
end
def oL (A:Nat->Prop)(w:World):List bX->List Value->Prop
 | [],vs=>vs= []
 | p::ps,vs=> ∃v vs',vs=v::vs' /\jX A w p v/\oL A w ps vs'
def fC (A:Nat->Prop)(w w' :World):Prop:= ∀b,A b->w'.heap[b]? =w.heap[b]?
def fC.cell {A:Nat->Prop}{w w' :World}(h:fC A w w'){b o:Nat}(hb:A b):w'.cell? ⟨b,o,none⟩=w.cell? ⟨b,o,none⟩:=by
 unfold World.cell?;simp only;rw[h b hb]
def fC.below {A:Nat->Prop}{w w' :World}(h:Below w.heap.size w w')(hA: ∀b,A b->b<w.heap.size):fC A w w' :=fun b hb=>h.block b (hA b hb)
mutual
theorem jX.mono {A A' :Nat->Prop}{w w' :World}(h:fC A w w')(hA: ∀b,A b->A' b): ∀(x:bX) (v:Value),jX A w x v->jX A' w' x v
 | .int _ _,_,hx=>by unfold jX at*;exact hx
 | .bool _,_,hx=>by unfold jX at*;exact hx
 | .str _,_,hx=>by unfold jX at*;exact hx
 | .gone,_,hx=>by unfold jX at*;exact hx
 | .sl e k xs,_,hx=>by
   unfold jX at*;obtain⟨a,c,h1,h2,h3,h4⟩:=hx;exact⟨a,c,h1,h2,h3,iH.mono h hA k xs a 0 h4⟩
theorem iH.mono {A A' :Nat->Prop}{w w' :World}(h:fC A w w')(hA: ∀b,A b->A' b): ∀(k:Nat) (xs:List (List bX)) (a:Option Addr) (o:Nat),iH A w k xs a o->iH A' w' k xs a o
 | _,[],_,_,_=>by unfold iH;trivial
 | k,x::xs,a,o,hx=>by
   unfold iH at*;exact⟨hx.1,lN.mono h hA x a o hx.2.1,iH.mono h hA k xs a (o+k) hx.2.2⟩
theorem lN.mono {A A' :Nat->Prop}{w w' :World}(h:fC A w w')(hA: ∀b,A b->A' b): ∀(x:List bX) (a:Option Addr) (o:Nat),lN A w x a o->lN A' w' x a o
 | [],_,_,hx=>by unfold lN at*;exact hx
 | p::ps,a,o,hx=>by
   unfold lN at*;obtain⟨⟨b,off,u,h1,h2,h3,h4⟩,h5⟩:=hx;exact⟨⟨b,off,u,h1,hA b h2,(h.cell h2).trans h3,jX.mono h hA p u h4⟩,lN.mono h hA ps a (o+1) h5⟩
end
theorem oL.mono {A A' :Nat->Prop}{w w' :World}(h:fC A w w')(hA: ∀b,A b->A' b): ∀(xs:List bX) (vs:List Value),oL A w xs vs->oL A' w' xs vs
 | [],_,hx=>hx
 | p::ps,_,⟨v,vs',e,h1,h2⟩=>⟨v,vs',e,jX.mono h hA p v h1,oL.mono h hA ps vs' h2⟩
theorem oL.len {A:Nat->Prop}{w:World}: ∀{xs:List bX} {vs:List Value},oL A w xs vs->vs.length=xs.length
 | [],_,h=>by rw[h];rfl
 | p::ps,_,⟨v,vs',e,_,h2⟩=>by rw[e];simp[oL.len h2]
theorem oL.at_ {A:Nat->Prop}{w:World}: ∀{xs:List bX} {vs:List Value} {i:Nat} {x:bX},oL A w xs vs->xs[i]? =some x-> ∃v,vs[i]? =some v/\jX A w x v
 | [],_,_,_,_,h=>by simp at h
 | p::ps,_,0,x,⟨v,vs',e,h1,_⟩,h=>by simp at h;subst h;subst e;exact⟨v,rfl,h1⟩
 | p::ps,_,i+1,x,⟨v,vs',e,_,h2⟩,h=>by
   simp at h;subst e;obtain⟨u,hu,hr⟩:=oL.at_ h2 h;exact⟨u,by simpa using hu,hr⟩
theorem oL.append {A:Nat->Prop}{w:World}: ∀{xs ys:List bX} {vs us:List Value},oL A w xs vs->oL A w ys us->oL A w (xs++ys) (vs++us)
 | [],_,_,_,h,h' =>by rw[show _= [] from h];exact h'
 | p::ps,ys,_,us,⟨v,vs',e,h1,h2⟩,h' =>by subst e;exact⟨v,vs' ++us,rfl,h1,oL.append h2 h'⟩
theorem iH.at_ {A:Nat->Prop}{w:World}{k:Nat}: ∀{xs:List (List bX)} {a:Option Addr} {o i:Nat} {x:List bX},iH A w k xs a o->xs[i]? =some x->x.length=k/\lN A w x a (o+i*k)
 | [],_,_,_,_,_,h=>by simp at h
 | y::xs,a,o,0,x,hr,h=>by
   simp at h;subst h;unfold iH at hr;exact⟨hr.1,by simpa using hr.2.1⟩
 | y::xs,a,o,i+1,x,hr,h=>by
   simp at h;unfold iH at hr;have:=iH.at_ hr.2.2 h;rw[Nat.add_mul,Nat.one_mul,show o+(i*k+k)=o+k+i*k by omega];exact this
theorem lN.vals {A:Nat->Prop}{w:World}: ∀{x:List bX} {a:Option Addr} {o:Nat},lN A w x a o-> ∃b off vs,a=some ⟨b,off,none⟩/\(x≠[]->A b)/\oL A w x vs/\ ∀j v,vs[j]? =some v->w.cell? ⟨b,off+o+j,none⟩=some v
 | [],_,_,h=>by
   unfold lN at h;obtain⟨b,off,e⟩:=h;exact⟨b,off,[],e,by simp,rfl,by simp⟩
 | p::ps,a,o,h=>by
   unfold lN at h;obtain⟨⟨b,off,u,e,hb,hc,hr⟩,h2⟩:=h;obtain⟨b',off',vs,e',_,hl,hcs⟩:=lN.vals h2;rw[e] at e';simp only[Option.some.injEq,Addr.mk.injEq,and_true] at e';obtain⟨rfl,rfl⟩:=e';refine⟨b,off,u::vs,e,fun _=>hb,⟨u,vs,rfl,hr,hl⟩,fun j v hv=>?_⟩;rcases j with _ | j
   ·simp at hv;subst hv;exact hc
   have:=hcs j v (by simpa using hv);rw[show off+o+(j+1)=off+(o+1)+j by omega];exact this
theorem lN.mk {A:Nat->Prop}{w:World}{b off:Nat}: ∀{x:List bX} {o:Nat} {vs:List Value},(x≠[]->A b)->oL A w x vs->(∀j v,vs[j]? =some v->w.cell? ⟨b,off+o+j,none⟩=some v)->lN A w x (some ⟨b,off,none⟩) o
 | [],_,_,_,_,_=>by unfold lN;exact⟨b,off,rfl⟩
 | p::ps,o,_,hb,⟨v,vs',e,h1,h2⟩,hc=>by
   unfold lN;subst e;refine⟨⟨b,off,v,rfl,hb (by simp),by simpa using hc 0 v rfl,h1⟩,lN.mk (fun _=>hb (by simp)) h2 fun j u hu=>?_⟩;have:=hc (j+1) u (by simpa using hu);rw[show off+(o+1)+j=off+o+(j+1) by omega];exact this
def bX.val? :bX->Option Value
 | .int k n=>some (.int k n)
 | .bool b=>some (.bool b)
 | .str s=>some (.string s)
 | .sl _ _ _=>none
 | .gone=>none
def jX.scalar {A:Nat->Prop}{w:World}{x:bX}{v u:Value}(h:x.val? =some v):jX A w x u↔u=v:=by
 cases x<;>simp[bX.val?] at h<;>subst h<;>unfold jX<;>exact Iff.rfl
inductive AV where
 | p (o:Option Nat) (x:bX)
 | own (h:Nat)
 | ptr (h:Nat) (off:Nat)
 | ep (h:Nat) (k i off:Nat)
 | rp (o:Option Nat) (x:List bX)
 | agg (cs:List AV)
 | tup (vs:List AV)
 | fn (f:FuncId) (cap:List AV)
 | nil
 | bsl (h:Nat) (n:Nat)
 | no
inductive Rs where
 | box (t:TypeId) (cs:List AV)
 | arr (e k:Nat) (deep:Bool) (xs:List (List bX))
 | hole (e k:Nat) (xs:List (List bX)) (i j h:Nat)
structure Pl where
 val:Value
 top:List Nat
 sub:List Nat
abbrev jS:=Nat->Option Pl
mutual
def cZ:AV->List Nat
 | .p (some h) _=>[h]
 | .p none _=>[]
 | .own h=>[h]
 | .ptr h _=>[h]
 | .ep h _ _ _=>[h]
 | .rp (some h) _=>[h]
 | .rp none _=>[]
 | .agg cs=>gY cs
 | .tup cs=>gY cs
 | .fn _ cs=>gY cs
 | .nil=>[]
 | .bsl h _=>[h]
 | .no=>[]
def gY:List AV->List Nat
 | []=>[]
 | x::xs=>cZ x++gY xs
end
def kG:Rs->List Nat
 | .box _ cs=>gY cs
 | .arr _ _ _ _=>[]
 | .hole _ _ _ _ _ h=>[h]
def In (K:Nat->Prop)(pl:Pl):Nat->Prop:=fun b=>K b\/b∈pl.sub
mutual
def aH (K:Nat->Prop)(φ:jS)(w:World):AV->Value->Prop
 | .p none x,v=>jX K w x v
 | .p (some h) x,v=> ∀pl,φ h=some pl->jX (In K pl) w x v
 | .own h,v=> ∀pl,φ h=some pl->v=pl.val
 | .ptr h off,v=> ∃g,v= .pointer (some ⟨g,off,none⟩)/\ ∀pl,φ h=some pl->pl.top= [g]
 | .ep h k i off,v=> ∀pl,φ h=some pl-> ∃g,pl.top= [g]/\v= .pointer (some ⟨g,i*k+off,none⟩)
 | .rp none x,v=> ∃a,v= .pointer a/\lN K w x a 0
 | .rp (some h) x,v=> ∀pl,φ h=some pl-> ∃a,v= .pointer a/\lN (In K pl) w x a 0
 | .agg cs,v=> ∃vs:Array Value,v= .agg vs/\(∀u∈vs.toList,u.oneCell' =true)/\aS K φ w cs vs.toList
 | .tup cs,v=> ∃vs:Array Value,v= .tuple vs/\aS K φ w cs vs.toList
 | .fn f cs,v=> ∃vs:Array Value,v= .func (.func f) #[] vs/\aS K φ w cs vs.toList
 | .nil,v=>v= .slice none 0 0
 | .bsl h n,v=> ∀pl,φ h=some pl-> ∃g,pl.top= [g]/\v= .slice (some ⟨g,0,none⟩) n n
 | .no,_=>True
def aS (K:Nat->Prop)(φ:jS)(w:World):List AV->List Value->Prop
 | [],vs=>vs= []
 | x::xs,vs=> ∃v vs',vs=v::vs' /\aH K φ w x v/\aS K φ w xs vs'
end
mutual
theorem aH.mono {K K' :Nat->Prop}{φ φ' :jS}{w w' :World}(hs:fC K w w')(hK: ∀b,K b->K' b):
 ∀(x:AV) (v:Value),(∀h pl,h∈cZ x->φ' h=some pl->φ h=some pl/\fC (· ∈pl.sub) w w')->aH K φ w x v->aH K' φ' w' x v
 | .p none x,v,_,hx=>by unfold aH at*;exact jX.mono hs hK x v hx
 | .p (some h) x,v,hm,hx=>by
   unfold aH at*;intro pl hp;obtain⟨h1,h2⟩:=hm h pl (by simp[cZ]) hp;exact jX.mono (fun b hb=>by rcases hb with hb | hb;exact hs b hb;exact h2 b hb) (fun b hb=>by rcases hb with hb | hb;exact .inl (hK b hb);exact .inr hb) x v (hx pl h1)
 | .own h,v,hm,hx=>by
   unfold aH at*;intro pl hp;exact hx pl (hm h pl (by simp[cZ]) hp).1
 | .ptr h off,v,hm,hx=>by
   unfold aH at*;obtain⟨g,e,q⟩:=hx;exact⟨g,e,fun pl hp=>q pl (hm h pl (by simp[cZ]) hp).1⟩
 | .ep h k i off,v,hm,hx=>by
   unfold aH at*;intro pl hp;exact hx pl (hm h pl (by simp[cZ]) hp).1
 | .rp none x,v,_,hx=>by
   unfold aH at*;obtain⟨a,e,hr⟩:=hx;exact⟨a,e,lN.mono hs hK x a 0 hr⟩
 | .rp (some h) x,v,hm,hx=>by
   unfold aH at*;intro pl hp;obtain⟨h1,h2⟩:=hm h pl (by simp[cZ]) hp;obtain⟨a,e,hr⟩:=hx pl h1;exact⟨a,e,lN.mono (fun b hb=>by rcases hb with hb | hb;exact hs b hb;exact h2 b hb) (fun b hb=>by rcases hb with hb | hb;exact .inl (hK b hb);exact .inr hb) x a 0 hr⟩
 | .agg cs,v,hm,hx=>by
   unfold aH at*;obtain⟨vs,e,h1,hl⟩:=hx;exact⟨vs,e,h1,aS.mono hs hK cs _ (fun h pl hh=>hm h pl (by simpa [cZ] using hh)) hl⟩
 | .tup cs,v,hm,hx=>by
   unfold aH at*;obtain⟨vs,e,hl⟩:=hx;exact⟨vs,e,aS.mono hs hK cs _ (fun h pl hh=>hm h pl (by simpa [cZ] using hh)) hl⟩
 | .fn f cs,v,hm,hx=>by
   unfold aH at*;obtain⟨vs,e,hl⟩:=hx;exact⟨vs,e,aS.mono hs hK cs _ (fun h pl hh=>hm h pl (by simpa [cZ] using hh)) hl⟩
 | .nil,v,_,hx=>by unfold aH at*;exact hx
 | .bsl h n,v,hm,hx=>by
   unfold aH at*;intro pl hp;exact hx pl (hm h pl (by simp[cZ]) hp).1
 | .no,_,_,_=>by unfold aH;trivial
theorem aS.mono {K K' :Nat->Prop}{φ φ' :jS}{w w' :World}(hs:fC K w w')(hK: ∀b,K b->K' b):
 ∀(xs:List AV) (vs:List Value),(∀h pl,h∈gY xs->φ' h=some pl->φ h=some pl/\fC (· ∈pl.sub) w w')->aS K φ w xs vs->aS K' φ' w' xs vs
 | [],_,_,hx=>by unfold aS at*;exact hx
 | x::xs,vs,hm,hx=>by
   unfold aS at*;obtain⟨v,vs',e,h1,h2⟩:=hx;exact⟨v,vs',e,aH.mono hs hK x v (fun h pl hh=>hm h pl (by simp[gY,hh])) h1,aS.mono hs hK xs vs' (fun h pl hh=>hm h pl (by simp[gY,hh])) h2⟩
end
mutual
def sG (w:World):bX->Value->List Nat->Prop
 | .int k n,v,F=>v= .int k n/\F= []
 | .bool b,v,F=>v= .bool b/\F= []
 | .str s,v,F=>v= .string s/\F= []
 | .gone,v,F=>v.oneCell' =true/\F= []
 | .sl e k xs,v,F=> ∃(css:List (List Value)) (Fs:List (List Nat)),w.ownsRow 0 e k v xs.length css.flatten/\F=v.ownBlock.toList++Fs.flatten/\dB w k xs css Fs
def dB (w:World)(k:Nat):List (List bX)->List (List Value)->List (List Nat)->Prop
 | [],css,Fs=>css= []/\Fs= []
 | x::xs,css,Fs=> ∃c css' F Fs',css=c::css' /\Fs=F::Fs' /\x.length=k/\dW w x c F/\dB w k xs css' Fs'
def dW (w:World):List bX->List Value->List Nat->Prop
 | [],cs,F=>cs= []/\F= []
 | p::ps,cs,F=> ∃v cs' F1 F2,cs=v::cs' /\F=F1++F2/\sG w p v F1/\dW w ps cs' F2
end
mutual
theorem sG.kept {w w' :World}: ∀(x:bX) (v:Value) (F:List Nat),lM F w w' ->sG w x v F->sG w' x v F
 | .int _ _,_,_,_,h=>by unfold sG at*;exact h
 | .bool _,_,_,_,h=>by unfold sG at*;exact h
 | .str _,_,_,_,h=>by unfold sG at*;exact h
 | .gone,_,_,_,h=>by unfold sG at*;exact h
 | .sl e k xs,v,F,hk,h=>by
   unfold sG at*;obtain⟨css,Fs,h1,rfl,h2⟩:=h;exact⟨css,Fs,kZ h1 (hk.mono fun g hg=>aDG _ hg),rfl,dB.kept k xs css Fs (hk.mono fun g hg=>aCX _ hg) h2⟩
theorem dB.kept {w w' :World}: ∀(k:Nat) (xs:List (List bX)) (css:List (List Value)) (Fs:List (List Nat)),lM Fs.flatten w w' ->dB w k xs css Fs->dB w' k xs css Fs
 | _,[],_,_,_,h=>by unfold dB at*;exact h
 | k,x::xs,_,_,hk,h=>by
   unfold dB at*;obtain⟨c,css',F,Fs',rfl,rfl,h1,h2,h3⟩:=h;exact⟨c,css',F,Fs',rfl,rfl,h1,dW.kept x c F (hk.mono fun g hg=>by simp[hg]) h2,dB.kept k xs css' Fs' (hk.mono fun g hg=>by simp only[aE8,aCy];exact .inr hg) h3⟩
theorem dW.kept {w w' :World}: ∀(x:List bX) (cs:List Value) (F:List Nat),lM F w w' ->dW w x cs F->dW w' x cs F
 | [],_,_,_,h=>by unfold dW at*;exact h
 | p::ps,_,_,hk,h=>by
   unfold dW at*;obtain⟨v,cs',F1,F2,rfl,rfl,h1,h2⟩:=h;exact⟨v,cs',F1,F2,rfl,rfl,sG.kept p v F1 (hk.mono fun g hg=>aDG _ hg) h1,dW.kept ps cs' F2 (hk.mono fun g hg=>aCX _ hg) h2⟩
end
theorem dW.len {w:World}: ∀{x:List bX} {cs:List Value} {F:List Nat},dW w x cs F->cs.length=x.length
 | [],_,_,h=>by unfold dW at h;rw[h.1];rfl
 | p::ps,_,_,h=>by
   unfold dW at h;obtain⟨v,cs',F1,F2,rfl,rfl,h1,h2⟩:=h;simp[dW.len h2]
theorem dB.len {w:World}{k:Nat}: ∀{xs:List (List bX)} {css:List (List Value)} {Fs:List (List Nat)},dB w k xs css Fs->css.length=xs.length/\(∀c∈css,c.length=k)
 | [],_,_,h=>by unfold dB at h;rw[h.1];simp
 | x::xs,_,_,h=>by
   unfold dB at h;obtain⟨c,css',F,Fs',rfl,rfl,h1,h2,h3⟩:=h;have:=dB.len h3;refine⟨by simp[this.1],fun d hd=>?_⟩;rcases aDr.1 hd with rfl | hd
   ·rw[h2.len,h1]
   exact this.2 d hd
theorem pD {w:World}{e k n:Nat}{v:Value}{css:List (List Value)}(ho:w.ownsRow 0 e k v n css.flatten)(hc: ∀c∈css,c.length=k)(hl:css.length=n):
 ∃a c,v= .slice a n c/\n<=c/\c<=maxLen/\(0<n-> ∃g,a=some ⟨g,0,none⟩/\v.ownBlock=some g)/\
  ∀(i:Nat) c,css[i]? =some c-> ∃g,a=some ⟨g,0,none⟩/\v.ownBlock=some g/\ ∀(j:Nat) u,c[j]? =some u->w.cell? ⟨g,i*k+j,none⟩=some u:=by
 obtain⟨A,c,rfl,hc1,hc2,hA⟩:=lL ho
 have hA' :0<n-> ∃g,A=some ⟨g,0,none⟩/\(Value.slice A n c).ownBlock=some g:=fun hn=>by
  obtain⟨g,rfl,_,_⟩:=hA hn;exact⟨g,rfl,rfl⟩
 refine⟨A,c,rfl,hc1,hc2,hA',fun i d hd=>?_⟩;have hi:i<n:=by have:=(aCO.1 hd).1;omega
 obtain⟨g,rfl,hg⟩:=hA' aGR;refine⟨g,rfl,hg,fun j u hu=>?_⟩
 have hj:j<k:=by
  have:=(aCO.1 hu).1;rw[hc d (aBD hd)] at this;exact this
 have hik:i*k+j<n*k:=by
  have:(i+1)*k<=n*k:=Nat.mul_le_mul_right k aGR;rw[Nat.add_mul] at this;omega
 rw[ho.cellAt (i*k+j) hik,yP css hc i j d hd hj];exact hu
theorem CI {A:Nat->Prop}{w:World}{k g:Nat}: ∀{xs:List (List bX)} {css:List (List Value)} {o:Nat},A g->css.length=xs.length->(∀(i:Nat) x c,xs[i]? =some x->css[i]? =some c->x.length=k/\oL A w x c)->
 (∀(i:Nat) c,css[i]? =some c-> ∀(j:Nat) u,c[j]? =some u->w.cell? ⟨g,o+i*k+j,none⟩=some u)->iH A w k xs (some ⟨g,0,none⟩) o
 | [],_,_,_,_,_,_=>by unfold iH;trivial
 | x::xs,[],_,_,hl,_,_=>by simp at hl
 | x::xs,c::css,o,hA,hl,hr,hc=>by
   unfold iH;obtain⟨h1,h2⟩:=hr 0 x c rfl rfl;refine⟨h1,lN.mk (fun _=>hA) h2 fun j u hu=>?_,CI hA (by simpa using hl) (fun i x' c' hx hc' =>hr (i+1) x' c' (by simpa using hx) (by simpa using hc')) fun i c' hc' j u hu=>?_⟩
   ·have:=hc 0 c rfl j u hu;simpa using this
   have:=hc (i+1) c' (by simpa using hc') j u hu;rw[show o+k+i*k+j=o+(i+1)*k+j by rw[Nat.add_mul];omega];exact this
mutual
theorem sG.rd {A:Nat->Prop}{w:World}: ∀(x:bX) (v:Value) (F:List Nat),(∀g∈F,A g)->sG w x v F->jX A w x v
 | .int _ _,_,_,_,h=>by unfold sG jX at*;exact h.1
 | .bool _,_,_,_,h=>by unfold sG jX at*;exact h.1
 | .str _,_,_,_,h=>by unfold sG jX at*;exact h.1
 | .gone,_,_,_,h=>by unfold sG jX at*;exact h.1
 | .sl e k xs,v,F,hF,h=>by
   unfold sG at h;unfold jX;obtain⟨css,Fs,ho,rfl,h2⟩:=h;have hl:=dB.len h2;obtain⟨a,c,rfl,h3,h4,h5,h6⟩:=pD ho hl.2 hl.1;refine⟨a,c,rfl,h3,h4,?_⟩;by_cases hn:0<xs.length
   ·obtain⟨g,rfl,hg⟩:=h5 hn;refine CI (hF g (by simp[hg])) hl.1 (fun i x c' hx hc' =>dB.rd k xs css Fs i x c' (fun q hq=>hF q (aCX _ hq)) h2 hx hc') fun i c' hc' j u hu=>?_;obtain⟨g',e1,_,e2⟩:=h6 i c' hc';simp only[Option.some.injEq,Addr.mk.injEq,and_true] at e1;subst e1;have:=e2 j u hu
    rwa [Nat.zero_add]
   have:xs= []:=aDE aGR;subst this;unfold iH;trivial
theorem dB.rd {A:Nat->Prop}{w:World}: ∀(k:Nat) (xs:List (List bX)) (css:List (List Value)) (Fs:List (List Nat)) (i:Nat) (x:List bX) (c:List Value),(∀g∈Fs.flatten,A g)->dB w k xs css Fs->xs[i]? =some x->css[i]? =some c->x.length=k/\oL A w x c
 | _,[],_,_,_,_,_,_,_,hx,_=>by simp at hx
 | k,y::xs,_,_,0,x,c,hF,h,hx,hc=>by
   unfold dB at h;obtain⟨c',css',F,Fs',rfl,rfl,h1,h2,h3⟩:=h;simp at hx hc;subst hx;subst hc;exact⟨h1,dW.rd y c' F (fun g hg=>hF g (by simp[hg])) h2⟩
 | k,y::xs,_,_,i+1,x,c,hF,h,hx,hc=>by
   unfold dB at h;obtain⟨c',css',F,Fs',rfl,rfl,h1,h2,h3⟩:=h;simp at hx hc;exact dB.rd k xs css' Fs' i x c (fun g hg=>hF g (by simp only[aE8,aCy];exact .inr hg)) h3 hx hc
theorem dW.rd {A:Nat->Prop}{w:World}: ∀(x:List bX) (cs:List Value) (F:List Nat),(∀g∈F,A g)->dW w x cs F->oL A w x cs
 | [],_,_,_,h=>by unfold dW at h;exact h.1
 | p::ps,_,_,hF,h=>by
   unfold dW at h;obtain⟨v,cs',F1,F2,rfl,rfl,h1,h2⟩:=h;exact⟨v,cs',rfl,sG.rd p v F1 (fun g hg=>hF g (aDG _ hg)) h1,dW.rd ps cs' F2 (fun g hg=>hF g (aCX _ hg)) h2⟩
end
def fM (K:Nat->Prop)(w:World)(k:Nat):List (List bX)->List (List Value)->Prop
 | [],css=>css= []
 | x::xs,css=> ∃c css',css=c::css' /\x.length=k/\oL K w x c/\fM K w k xs css'
theorem fM.mono {K K' :Nat->Prop}{w w' :World}{k:Nat}(hs:fC K w w')(hK: ∀b,K b->K' b): ∀{xs:List (List bX)} {css:List (List Value)},fM K w k xs css->fM K' w' k xs css
 | [],_,h=>h
 | x::xs,_,⟨c,css',e,h1,h2,h3⟩=>⟨c,css',e,h1,oL.mono hs hK x c h2,fM.mono hs hK h3⟩
theorem fM.len {K:Nat->Prop}{w:World}{k:Nat}: ∀{xs:List (List bX)} {css:List (List Value)},fM K w k xs css->css.length=xs.length/\ ∀c∈css,c.length=k
 | [],_,h=>by rw[show _= [] from h];simp
 | x::xs,_,⟨c,css',e,h1,h2,h3⟩=>by
   subst e;have:=fM.len h3;refine⟨by simp[this.1],fun d hd=>?_⟩;rcases aDr.1 hd with rfl | hd
   ·rw[h2.len,h1]
   exact this.2 d hd
theorem fM.at_ {K:Nat->Prop}{w:World}{k:Nat}: ∀{xs:List (List bX)} {css:List (List Value)} {i:Nat} {x:List bX} {c:List Value},fM K w k xs css->xs[i]? =some x->css[i]? =some c->x.length=k/\oL K w x c
 | [],_,_,_,_,_,h,_=>by simp at h
 | y::xs,_,0,x,c,⟨c',css',e,h1,h2,h3⟩,hx,hc=>by
   subst e;simp at hx hc;subst hx;subst hc;exact⟨h1,h2⟩
 | y::xs,_,i+1,x,c,⟨c',css',e,h1,h2,h3⟩,hx,hc=>by
   subst e;simp at hx hc;exact fM.at_ h3 hx hc
def Pl.F (pl:Pl):List Nat:=pl.top++pl.sub
def Holds (K:Nat->Prop)(φ:jS)(w:World)(pl:Pl):Rs->Prop
 | .box t cs=> ∃g vs,pl=⟨.pointer (some ⟨g,0,none⟩),[g],[]⟩/\ES w g t vs/\(∀u∈vs.toList,u.oneCell' =true)/\aS K φ w cs vs.toList
 | .arr e k true xs=> ∃css Fs,w.ownsRow 0 e k pl.val xs.length css.flatten/\pl.top=pl.val.ownBlock.toList/\pl.sub=Fs.flatten/\dB w k xs css Fs
 | .arr e k false xs=> ∃css,w.ownsRow 0 e k pl.val xs.length css.flatten/\pl.top=pl.val.ownBlock.toList/\pl.sub= []/\fM K w k xs css
 | .hole e k xs i j h=> ∃xs1 x1 d x2 xs2 css1 c1 v c2 css2 Fs1 F1 F2 Fs2,xs=xs1++(x1++d::x2)::xs2/\xs1.length=i/\x1.length=j/\(x1++d::x2).length=k/\w.ownsRow 0 e k pl.val xs.length (css1++(c1++v::c2)::css2).flatten/\pl.top=pl.val.ownBlock.toList/\pl.sub=Fs1.flatten++((F1++F2)++Fs2.flatten)/\
  dB w k xs1 css1 Fs1/\dW w x1 c1 F1/\dW w x2 c2 F2/\dB w k xs2 css2 Fs2/\v.oneCell' =true/\ ∀pl',φ h=some pl' ->v=pl'.val
theorem Holds.mono {K K' :Nat->Prop}{φ φ' :jS}{w w' :World}{pl:Pl}(hs:fC K w w')(hK: ∀b,K b->K' b)(hk:lM pl.F w w'):
 ∀(r:Rs),(∀h pl,h∈kG r->φ' h=some pl->φ h=some pl/\fC (· ∈pl.sub) w w')->Holds K φ w pl r->Holds K' φ' w' pl r
 | .box t cs,hm,⟨g,vs,e,hb,h1,hl⟩=>by
   subst e;exact⟨g,vs,rfl,(hk g (by simp[Pl.F])).trans hb,h1,aS.mono hs hK cs _ hm hl⟩
 | .arr e k true xs,_,⟨css,Fs,h1,h2,h3,h4⟩=>
   ⟨css,Fs,kZ h1 (hk.mono fun g hg=>by unfold Pl.F;rw[h2];exact aDG _ hg),h2,h3,dB.kept k xs css Fs (hk.mono fun g hg=>by unfold Pl.F;rw[h3];exact aCX _ hg) h4⟩
 | .arr e k false xs,_,⟨css,h1,h2,h3,h4⟩=>
   ⟨css,kZ h1 (hk.mono fun g hg=>by unfold Pl.F;rw[h2];exact aDG _ hg),h2,h3,h4.mono hs hK⟩
 | .hole e k xs i j h,hm,⟨xs1,x1,d,x2,xs2,css1,c1,v,c2,css2,Fs1,F1,F2,Fs2,e0,e1,e2,e3,h1,h2,h3,h4,h5,h6,h7,h8⟩=>
   ⟨xs1,x1,d,x2,xs2,css1,c1,v,c2,css2,Fs1,F1,F2,Fs2,e0,e1,e2,e3,kZ h1 (hk.mono fun g hg=>by unfold Pl.F;rw[h2];exact aDG _ hg),h2,h3,
    dB.kept k xs1 css1 Fs1 (hk.mono fun g hg=>by unfold Pl.F;rw[h3];simp only[aCy];exact .inr (.inl hg)) h4,dW.kept x1 c1 F1 (hk.mono fun g hg=>by unfold Pl.F;rw[h3];simp only[aCy];exact .inr (.inr (.inl (.inl hg)))) h5,
    dW.kept x2 c2 F2 (hk.mono fun g hg=>by unfold Pl.F;rw[h3];simp only[aCy];exact .inr (.inr (.inl (.inr hg)))) h6,dB.kept k xs2 css2 Fs2 (hk.mono fun g hg=>by unfold Pl.F;rw[h3];simp only[aCy];exact .inr (.inr (.inr hg))) h7,⟨h8.1,fun pl' e' =>h8.2 pl' (hm h pl' (by simp[kG]) e').1⟩⟩
structure St where
 slots:Nat->AV
 res:Nat->Option Rs
def upd {α:Type}(f:Nat->α)(d:Nat)(v:α):Nat->α:=fun t=>if t=d then v else f t
def St.put (S:St):Option Nat->AV->St
 | some d,v=>{ S with slots:=upd S.slots d v }
 | none,_=>S
structure Ag (U:Nat->Prop) (w w' :World):Prop where
 os:w'.os=w.os
 tape:w'.tape=w.tape
 output:w'.output=w.output
 size:w.heap.size<=w'.heap.size
 block: ∀k,k<w.heap.size-> ¬U k->w'.heap[k]? =w.heap[k]?
def Ag.of_below {w w' :World}(h:Below w.heap.size w w')(U:Nat->Prop):Ag U w w' :=⟨h.os,h.tape,h.output,h.size,fun k hk _=>h.block k hk⟩
structure Aa where
 w:World
 U:Nat->Prop
 φ:jS
 dom: ∀h pl,φ h=some pl->h<100
def Aa.mine (o:Aa)(b:Nat):Prop:=o.w.heap.size<=b\/o.U b
def Ag.more {o:Aa}{U:Nat->Prop}{w w' :World}(hb:Ag o.U o.w w)(h:Ag U w w')(hU: ∀b,U b->o.mine b):Ag o.U o.w w' :=
 ⟨h.os.trans hb.os,h.tape.trans hb.tape,h.output.trans hb.output,Nat.le_trans hb.size h.size,fun k hk hn=>(h.block k (aFD hk hb.size) (fun hu=>by rcases hU k hu with q | q;omega;exact hn q)).trans (hb.block k hk hn)⟩
def Ag.below {B:Nat}{U:Nat->Prop}{w0 w w' :World}(hb:Below B w0 w)(h:Ag U w w')(hU: ∀b,U b->B<=b)(hB:B<=w.heap.size):Below B w0 w' :=
 ⟨h.os.trans hb.os,h.tape.trans hb.tape,h.output.trans hb.output,Nat.le_trans hb.size h.size,fun k hk=>(h.block k aGR (fun hu=>by have:=hU k hu;omega)).trans (hb.block k hk)⟩
structure G (K:Nat->Prop) (φ:jS) (A:Nat->Prop) (w0:Aa) (N:Nat) (S:St) (a:Act) (w:World):Prop where
 dom: ∀h r,S.res h=some r-> ∃pl,φ h=some pl/\Holds K φ w pl r
 non: ∀h,S.res h=none->φ h=none
 disj: ∀h h' pl pl',h≠h' ->φ h=some pl->φ h' =some pl' -> ∀g∈pl.F,g ∉ pl'.F
 nodup: ∀h pl,φ h=some pl->pl.F.Nodup
 ge: ∀h pl,φ h=some pl-> ∀g∈pl.F,w0.mine g/\g<w.heap.size
 kin: ∀b,K b->b<w.heap.size/\(A b\/w0.mine b)
 kout: ∀b,K b-> ∀h pl,φ h=some pl->b ∉ pl.F
 aK: ∀b,A b->K b
 slots: ∀t,aH K φ w (S.slots t) (a.tmps.getD t undef)
 bel:Ag w0.U w0.w w
 nd:a.defers= []
 size:a.tmps.size=N
 pin: ∀h pl pl0,φ h=some pl->w0.φ h=some pl0->pl.val=pl0.val/\pl.top=pl0.top
def dM (C:Nat->Prop)[DecidablePred C](φr φ:jS):jS:=fun h=>match φr h with | some pl=>some pl | .none=>if C h then .none else φ h
def iI (C:Nat->Prop)[DecidablePred C](ρ res:Nat->Option Rs):Nat->Option Rs:=fun h=>match ρ h with | some r=>some r | .none=>if C h then .none else res h
def cF {C:Nat->Prop}[DecidablePred C]{φr φ:jS}{h:Nat}{pl:Pl}(e:dM C φr φ h=some pl):φr h=some pl\/(φr h= .none/\ ¬C h/\φ h=some pl):=by
 unfold dM at e;split at e
 ·rename_i p hp;injection e with e
  subst e;exact .inl hp
 rename_i hp;split at e
 ·cases e
 exact .inr ⟨hp,by assumption,e⟩
section
variable {K:Nat->Prop} {φ:jS} {A:Nat->Prop} {w0:Aa} {N:Nat} {S:St} {a:Act} {w:World}
def jD (φ:jS)(C:Nat->Prop):Nat->Prop:=fun b=> ∃h pl,C h/\φ h=some pl/\b∈pl.F
theorem G.step (hG:G K φ A w0 N S a w){C:Nat->Prop}[DecidablePred C]{φr:jS}{ρ:Nat->Option Rs}{K' :Nat->Prop}{w' :World}
 (hU:Ag (jD φ C) w w')
 (hR: ∀h pl,φr h=some pl->pl.F.Nodup/\ ∀g∈pl.F,g<w'.heap.size/\(w.heap.size<=g\/jD φ C g))
 (hD: ∀h h' pl pl',h≠h' ->φr h=some pl->φr h' =some pl' -> ∀g∈pl.F,g ∉ pl'.F)
 (hρ: ∀h r,ρ h=some r-> ∃pl,φr h=some pl/\Holds K' (dM C φr φ) w' pl r)
 (hρn: ∀h,ρ h= .none->φr h= .none)
 (hK: ∀b,K b->K' b)
 (hK' : ∀b,K' b->K b\/(b<w'.heap.size/\(w.heap.size<=b\/jD φ C b)/\ ∀h pl,φr h=some pl->b ∉ pl.F))
 (hM: ∀t h pl,h∈cZ (S.slots t)->φr h=some pl->φ h=some pl/\fC (· ∈pl.sub) w w')
 (hMr: ∀h' r h pl,¬C h' ->S.res h' =some r->h∈kG r->φr h=some pl->φ h=some pl/\fC (· ∈pl.sub) w w')
 (hP: ∀h pl,φr h=some pl->φ h=some pl\/100<=h):
 G K' (dM C φr φ) A w0 N { S with res:=iI C ρ S.res } a w' :=by
 have hF: ∀b,jD φ C b->w0.mine b/\b<w.heap.size:=fun b ⟨h,pl,_,hp,hb⟩=>hG.ge h pl hp b hb;have hsz:w0.w.heap.size<=w.heap.size:=hG.bel.size;have hsame:fC K w w' :=fun b hb=>hU.block b (hG.kin b hb).1 (fun ⟨h,pl,_,hp,hm⟩=>hG.kout b hb h pl hp hm)
 have hkeep: ∀h pl,¬C h->φ h=some pl->lM pl.F w w' :=fun h pl hc hp g hg=>
  hU.block g (hG.ge h pl hp g hg).2 (fun ⟨h',pl',hc',hp',hm⟩=>by
   by_cases e:h=h'
   ·subst e;exact hc hc'
   exact hG.disj h h' pl pl' e hp hp' g hg hm)
 have hsub: ∀h pl,¬C h->φ h=some pl->fC (· ∈pl.sub) w w' :=fun h pl hc hp g hg=>hkeep h pl hc hp g (aCX _ hg)
 have hslot: ∀x v,(∀h pl,h∈cZ x->φr h=some pl->φ h=some pl/\fC (· ∈pl.sub) w w')->aH K φ w x v->aH K' (dM C φr φ) w' x v:=fun x v hm hx=>
  aH.mono hsame hK x v (fun h pl hh e=>by
   rcases cF e with e | ⟨_,hc,e⟩
   ·exact hm h pl hh e
   exact⟨e,hsub h pl hc e⟩) hx
 refine⟨?_,?_,?_,?_,?_,?_,?_,fun b hb=>hK b (hG.aK b hb),fun t=>hslot _ _ (hM t) (hG.slots t),Ag.more hG.bel hU (fun b hb=>(hF b hb).1),hG.nd,hG.size,fun h pl pl0 e e0=>?_⟩
 ·intro h r hr;simp only[iI] at hr;split at hr
  ·rename_i r' hr';injection hr with hr
   subst hr;obtain⟨pl,hp,hh⟩:=hρ h _ hr';exact⟨pl,by simp[dM,hp],hh⟩
  rename_i hn;split at hr
  ·cases hr
  rename_i hc;obtain⟨pl,hp,hh⟩:=hG.dom h r hr;refine⟨pl,by simp[dM,hρn h hn,hc,hp],Holds.mono hsame hK (hkeep h pl hc hp) r (fun h2 pl2 hm e=>?_) hh⟩;rcases cF e with e | ⟨_,hc2,e⟩
  ·exact hMr h r h2 pl2 hc hr hm e
  exact⟨e,hsub h2 pl2 hc2 e⟩
 ·intro h hr;simp only[iI] at hr;split at hr
  ·cases hr
  rename_i hn;simp only[dM,hρn h hn];split at hr
  ·rename_i hc;simp[hc]
  rename_i hc;simp[hc,hG.non h hr]
 ·intro h h' pl pl' hne e e' g hg hg';rcases cF e with e | ⟨_,hc,e⟩<;>rcases cF e' with e' | ⟨_,hc',e'⟩
  ·exact hD h h' pl pl' hne e e' g hg hg'
  ·rcases((hR h pl e).2 g hg).2 with h1 | ⟨h2,pl2,hc2,e2,hm⟩
   ·have:=(hG.ge h' pl' e' g hg').2;omega
   exact hG.disj h2 h' pl2 pl' (fun e=>by subst e;exact hc' hc2) e2 e' g hm hg'
  ·rcases((hR h' pl' e').2 g hg').2 with h1 | ⟨h2,pl2,hc2,e2,hm⟩
   ·have:=(hG.ge h pl e g hg).2;omega
   exact hG.disj h2 h pl2 pl (fun e=>by subst e;exact hc hc2) e2 e g hm hg
  exact hG.disj h h' pl pl' hne e e' g hg hg'
 ·intro h pl e;rcases cF e with e | ⟨_,_,e⟩
  ·exact(hR h pl e).1
  exact hG.nodup h pl e
 ·intro h pl e g hg;rcases cF e with e | ⟨_,_,e⟩
  ·obtain⟨h1,h2⟩:=(hR h pl e).2 g hg;refine⟨?_,h1⟩;rcases h2 with h2 | h2
   ·exact .inl aGR
   exact(hF g h2).1
  have:=hG.ge h pl e g hg;exact⟨this.1,aFD this.2 hU.size⟩
 ·intro b hb;rcases hK' b hb with hb | ⟨h1,h2,_⟩
  ·have:=hG.kin b hb;exact⟨aFD this.1 hU.size,this.2⟩
  refine⟨h1,.inr ?_⟩;rcases h2 with h2 | h2
  ·exact .inl aGR
  exact(hF b h2).1
 ·intro b hb h pl e hm;rcases hK' b hb with hb | ⟨_,h2,h3⟩
  ·rcases cF e with e | ⟨_,_,e⟩
   ·rcases((hR h pl e).2 b hm).2 with h1 | ⟨h2,pl2,hc2,e2,hm2⟩
    ·have:=(hG.kin b hb).1;omega
    exact hG.kout b hb h2 pl2 e2 hm2
   exact hG.kout b hb h pl e hm
  rcases cF e with e | ⟨_,hc,e⟩
  ·exact h3 h pl e hm
  rcases h2 with h2 | ⟨h4,pl4,hc4,e4,hm4⟩
  ·have:=(hG.ge h pl e b hm).2;omega
  exact hG.disj h4 h pl4 pl (fun e=>by subst e;exact hc hc4) e4 e b hm4 hm
 rcases cF e with e | ⟨_,_,e⟩
 ·rcases hP h pl e with q | q
  ·exact hG.pin h pl pl0 q e0
  have:=w0.dom h pl0 e0;omega
 exact hG.pin h pl pl0 e e0
structure Tr (K:Nat->Prop) (φ:jS) (w:World) (C:Nat->Prop) (new:Nat->Option Rs) (K' :Nat->Prop) (φ' :jS) (w' :World):Prop where
 chg:Ag (jD φ C) w w'
 kk: ∀b,K b->K' b
 kk' : ∀b,K' b->K b\/w.heap.size<=b\/jD φ C b
 ph: ∀h pl,φ' h=some pl->φ h=some pl\/(φ h= .none/\(∃r,new h=some r)/\ ∀g∈pl.F,w.heap.size<=g\/jD φ C g)
 sub: ∀h pl,φ' h=some pl->φ h=some pl->fC (· ∈pl.sub) w w'
theorem Tr.refl (K:Nat->Prop)(φ:jS)(w:World)(C:Nat->Prop)(new:Nat->Option Rs):Tr K φ w C new K φ w:=⟨⟨rfl,rfl,rfl,aFC _,fun _ _ _=>rfl⟩,fun _ h=>h,fun _ h=> .inl h,fun _ _ h=> .inl h,fun _ _ _ _ _ _=>rfl⟩
theorem G.put (hG:G K φ A w0 N S a w){d:Option Nat}{x:AV}{v:Value}(hd: ∀d',d=some d' ->d' <N)(hx:aH K φ w x v):G K φ A w0 N (S.put d x) (a.put d v) w:=by
 cases d with
 | none=>exact hG
 | some d=>
   have hd' :=hd d rfl;refine⟨hG.dom,hG.non,hG.disj,hG.nodup,hG.ge,hG.kin,hG.kout,hG.aK,fun t=>?_,hG.bel,hG.nd,by simp[Act.put,hG.size],hG.pin⟩;simp only[St.put,upd,Act.put];by_cases e:t=d
   ·subst e;rw[if_pos rfl,Array.getD_eq_getD_getElem?,Array.getElem?_setIfInBounds_self_of_lt (by rw[hG.size];exact hd')];exact hx
   rw[if_neg e,Array.getD_eq_getD_getElem?,Array.getElem?_setIfInBounds_ne (fun h=>e h.symm),<-Array.getD_eq_getD_getElem?];exact hG.slots t
end
def iJ (P:Program)(t:TypeId):Option (Bool × Nat × Nat × Value):=
 match P.info? t,P.underlying t with
 | some i,some d=>match i.zero with
   | some z=>if z.cells.size=i.size/\z.cells.toList.all Value.oneCell' =true then some ((match d with | .struct _ | .array _ _=>true | _=>false),i.size,i.bytes,z) else none
   | none=>none
 | _,_=>none
theorem iE {P:Program}{t:TypeId}{g:Bool}{n b:Nat}{z:Value}(h:iJ P t=some (g,n,b,z))(w:World):
 (isAgg t).run P w= .ok g w/\(sizeOf t).run P w= .ok n w/\(zeroValue t).run P w= .ok z w/\(typeInfo t).run P w= .ok ((P.info? t).getD default) w/\((P.info? t).getD default).bytes=b/\P.info? t=some ((P.info? t).getD default)/\((P.info? t).getD default).size=n/\((P.info? t).getD default).zero=some z:=by
 unfold iJ at h;split at h
 ·rename_i i d hi hd;split at h
  ·rename_i z' hz;split at h
   ·simp only[Option.some.injEq,Prod.mk.injEq] at h;obtain⟨h1,h2,h3,h4⟩:=h;subst h4;refine⟨?_,?_,?_,?_,?_,?_,?_,?_⟩
    ·simp only[isAgg,Sem.run_bind,run_underlying hd,Result.andThen_ok];subst h1;cases d<;>rfl
    ·simp[sizeOf,typeInfo,hi,h2]
    ·simp[zeroValue,typeInfo,hi,hz]
    ·simp[typeInfo,hi]
    ·simp[hi,h3]
    ·simp[hi]
    ·simp[hi,h2]
    simp[hi,hz]
   cases h
  cases h
 cases h
def CJ {P:Program}{t:TypeId}{g:Bool}{n b:Nat}{z:Value}(h:iJ P t=some (g,n,b,z)):z.cells.size=n/\ ∀u∈z.cells.toList,u.oneCell' =true:=by
 unfold iJ at h;split at h
 ·split at h
  ·split at h
   ·rename_i hc;simp only[Option.some.injEq,Prod.mk.injEq] at h;obtain⟨h1,h2,h3,h4⟩:=h;subst h4;exact⟨by rw[<-h2];exact hc.1,fun u hu=>aCS.1 hc.2 u hu⟩
   cases h
  cases h
 cases h
abbrev aGJ:=List (Nat × Rs)
structure Eff where
 v:AV
 del:List Nat
 new:aGJ
def bF:aGJ->Nat->Option Rs
 | [],_=>none
 | (k,r)::l,h=>if h=k then some r else bF l h
def St.apply (S:St)(d:Option Nat)(e:Eff):St:=({ S with res:=iI (· ∈e.del) (bF e.new) S.res }:St).put d e.v
def UL:Value->AV
 | .int k n=> .p none (.int k n)
 | .bool b=> .p none (.bool b)
 | .string s=> .p none (.str s)
 | .slice none 0 0=> .nil
 | _=> .no
def St.ev (S:St):Operand->AV
 | .tmp t=>S.slots t
 | .const v=>UL v
 | .func f=> .fn f []
 | .global _=> .no
def MP (K:Nat->Prop)(φ:jS)(w:World)(v:Value):aH K φ w (UL v) v:=by
 unfold UL;split<;>unfold aH
 ·unfold jX;rfl
 ·unfold jX;rfl
 ·unfold jX;rfl
 ·rfl
 trivial
section
variable {K:Nat->Prop} {φ:jS} {A:Nat->Prop} {w0:Aa} {N:Nat} {S:St} {a:Act} {w:World} {P:Program}
theorem G.ev (hG:G K φ A w0 N S a w)(x:Operand):aH K φ w (S.ev x) (a.eval x):=by
 cases x with
 | tmp t=>exact hG.slots t
 | const v=>exact MP K φ w v
 | func f=>simp only[St.ev,Act.eval];unfold aH;exact⟨#[],rfl,by unfold aS;rfl⟩
 | global g=>simp only[St.ev];unfold aH;trivial
theorem St.apply_nil (S:St)(d:Option Nat)(v:AV):S.apply d ⟨v,[],[]⟩=S.put d v:=by
 have:iI (· ∈([]:List Nat)) (bF []) S.res=S.res:=by
  funext h;simp[iI,bF]
 simp only[St.apply,this]
def bP (P:Program)(o:Oper)(S:St)(e:Eff):Prop:=
 ∀(K:Nat->Prop) (φ:jS) (A:Nat->Prop) (w0:Aa) (N:Nat) (a:Act) (w:World) (Q:Exit->Act->World->Prop),(∀d,o.dst=some d->d<N)->G K φ A w0 N S a w->
  o.wp P a w (fun a' w' => ∃K' φ' v,a' =a.put o.dst v/\G K' φ' A w0 N (S.apply o.dst e) a' w' /\Tr K φ w (· ∈e.del) (bF e.new) K' φ' w') Q
def Ah (P:Program)(o:Oper)(S:St)(e:Eff):Prop:=
 ∀(K:Nat->Prop) (φ:jS) (A:Nat->Prop) (w0:Aa) (N:Nat) (a:Act) (w:World) (Q:Exit->Act->World->Prop),(∀d,o.dst=some d->d<N)->G K φ A w0 N S a w->
  o.wp P a w (fun a' w' => ∃K' φ' v,a' =a.put o.dst v/\G K' φ' A w0 N (S.apply o.dst e) a' w') Q
theorem bP.to0 {o:Oper}{e:Eff}(h:bP P o S e):Ah P o S e:=fun K φ A w0 N a w Q hd hG=>Oper.wp_mono (fun a' w' ⟨K',φ',v,h1,h2,_⟩=>⟨K',φ',v,h1,h2⟩) (h K φ A w0 N a w Q hd hG)
theorem eC {o:Oper}{x:AV}(h: ∀K φ A w0 N a w,G K φ A w0 N S a w-> ∃v,(execOp a.eval o).run P w= .ok (.value v) w/\aH K φ w x v):bP P o S ⟨x,[],[]⟩:=by
 intro K φ A w0 N a w Q hd hG;obtain⟨v,hr,hm⟩:=h K φ A w0 N a w hG;unfold Oper.wp;rw[hr,Oper.upon_value,St.apply_nil];exact⟨K,φ,v,rfl,hG.put hd hm,Tr.refl _ _ _ _ _⟩
def Xn:AV->Option Value
 | .p none x=>x.val?
 | .agg [.p none x]=>x.val?.map fun a=> .agg #[a]
 | .agg [.p none x,.p none y]=>match x.val?,y.val? with | some a,some b=>some (.agg #[a,b]) | _,_=>none
 | .agg [.p none x,.p none y,.p none z]=>match x.val?,y.val?,z.val? with | some a,some b,some c=>some (.agg #[a,b,c]) | _,_,_=>none
 | .agg [.p none x,.p none y,.p none z,.p none u]=>match x.val?,y.val?,z.val?,u.val? with | some a,some b,some c,some d=>some (.agg #[a,b,c,d]) | _,_,_,_=>none
 | _=>none
theorem lA {K:Nat->Prop}{φ:jS}{w:World}: ∀{xs:List bX} {us vs:List Value},xs.map bX.val? =us.map some->aS K φ w (xs.map (AV.p none)) vs->vs=us
 | [],us,vs,h,hm=>by
   cases us with
   | nil=>unfold aS at hm;exact hm
   | cons u us=>simp at h
 | x::xs,us,vs,h,hm=>by
   cases us with
   | nil=>simp at h
   | cons u us=>
     simp only[aDH,List.cons.injEq] at h;simp only[aDH] at hm;unfold aS at hm;obtain⟨v,vs',rfl,h1,h2⟩:=hm;unfold aH at h1;rw[(jX.scalar h.1).1 h1,lA h.2 h2]
theorem lO {x:AV}{u v:Value}(h:Xn x=some u)(hm:aH K φ w x v):v=u:=by
 unfold Xn at h;split at h
 ·unfold aH at hm;exact(jX.scalar h).1 hm
 ·rename_i x;unfold aH at hm;obtain⟨vs,rfl,_,hl⟩:=hm;cases hx:x.val? with
  | none=>simp[hx] at h
  | some p=>
    simp only[hx,Option.map_some,Option.some.injEq] at h;subst h;have:=lA (xs:=[x]) (us:=[p]) (by simp[hx]) hl
    congr 1;apply Array.ext';simpa using this
 ·rename_i x y;unfold aH at hm;obtain⟨vs,rfl,_,hl⟩:=hm;split at h
  ·rename_i p q hx hy;simp only[Option.some.injEq] at h;subst h;have:=lA (xs:=[x,y]) (us:=[p,q]) (by simp[hx,hy]) hl
   congr 1;apply Array.ext';simpa using this
  cases h
 ·rename_i x y z;unfold aH at hm;obtain⟨vs,rfl,_,hl⟩:=hm;split at h
  ·rename_i p q r hx hy hz;simp only[Option.some.injEq] at h;subst h;have:=lA (xs:=[x,y,z]) (us:=[p,q,r]) (by simp[hx,hy,hz]) hl
   congr 1;apply Array.ext';simpa using this
  cases h
 ·rename_i x y z u;unfold aH at hm;obtain⟨vs,rfl,_,hl⟩:=hm;split at h
  ·rename_i p q r s hx hy hz hu;simp only[Option.some.injEq] at h;subst h;have:=lA (xs:=[x,y,z,u]) (us:=[p,q,r,s]) (by simp[hx,hy,hz,hu]) hl
   congr 1;apply Array.ext';simpa using this
  cases h
 cases h
theorem Sh {o:Oper}{x:bX}{v:Value}(hx:x.val? =some v)
 (h: ∀(e:Operand->Value) (w:World),(∀y u,Xn (S.ev y)=some u->e y=u)->(execOp e o).run P w= .ok (.value v) w):bP P o S ⟨.p none x,[],[]⟩:=
 eC fun K φ A w0 N a w hG=>⟨v,h a.eval w (fun y u hu=>lO hu (hG.ev y)),by unfold aH;exact(jX.scalar hx).2 rfl⟩
theorem DJ {o:Oper}{x:Operand}(ho:o.op= .move x\/o.op= .assign x):bP P o S ⟨S.ev x,[],[]⟩:=
 eC fun K φ A w0 N a w hG=>⟨a.eval x,by rcases ho with ho | ho<;>simp[execOp,ho],hG.ev x⟩
theorem Si {o:Oper}{c x y:Operand}{t:Bool}(ho:o.op= .pick c x y)(hc:S.ev c= .p none (.bool t)):bP P o S ⟨if t then S.ev x else S.ev y,[],[]⟩:=
 eC fun K φ A w0 N a w hG=>by
  have h1:a.eval c= .bool t:=lO (x:=S.ev c) (by rw[hc];rfl) (hG.ev c);refine⟨if t then a.eval x else a.eval y,by cases t<;>simp[execOp,ho,h1,asBool],?_⟩;cases t
  ·exact hG.ev y
  exact hG.ev x
theorem rC {K:Nat->Prop}{φ:jS}{w:World}: ∀{xs:List AV} {vs:List Value} {i:Nat} {x:AV},aS K φ w xs vs->xs[i]? =some x-> ∃v,vs[i]? =some v/\aH K φ w x v
 | [],_,_,_,_,h=>by simp at h
 | y::xs,_,0,x,hm,h=>by
   unfold aS at hm;obtain⟨v,vs',rfl,h1,_⟩:=hm;simp at h;subst h;exact⟨v,rfl,h1⟩
 | y::xs,_,i+1,x,hm,h=>by
   unfold aS at hm;obtain⟨v,vs',rfl,_,h2⟩:=hm;simp at h;obtain⟨u,hu,h3⟩:=rC h2 h;exact⟨u,by simpa using hu,h3⟩
theorem mN {K:Nat->Prop}{φ:jS}{w:World}: ∀{xs:List AV} {vs:List Value},aS K φ w xs vs->vs.length=xs.length
 | [],_,h=>by unfold aS at h;rw[h];rfl
 | y::xs,_,h=>by
   unfold aS at h;obtain⟨v,vs',rfl,_,h2⟩:=h;simp[mN h2]
theorem sL {K:Nat->Prop}{φ:jS}{w:World}: ∀{xs:List AV} {vs:List Value} (i:Nat),aS K φ w xs vs->aS K φ w (xs.drop i) (vs.drop i)
 | xs,vs,0,h=>h
 | [],_,i+1,h=>by unfold aS at h;subst h;simp only[List.drop_nil];unfold aS;rfl
 | y::xs,_,i+1,h=>by
   unfold aS at h;obtain⟨v,vs',rfl,_,h2⟩:=h;exact sL i h2
theorem sM {K:Nat->Prop}{φ:jS}{w:World}: ∀{xs:List AV} {vs:List Value} (i:Nat),aS K φ w xs vs->aS K φ w (xs.take i) (vs.take i)
 | xs,vs,0,h=>by simp only[List.take_zero];unfold aS;rfl
 | [],_,i+1,h=>by unfold aS at h;subst h;simp only[List.take_nil];unfold aS;rfl
 | y::xs,_,i+1,h=>by
   unfold aS at h;obtain⟨v,vs',rfl,h1,h2⟩:=h;simp only[List.take_succ_cons];unfold aS;exact⟨v,_,rfl,h1,sM i h2⟩
theorem nA {K:Nat->Prop}{φ:jS}{w:World}: ∀{xs ys:List AV} {vs us:List Value},aS K φ w xs vs->aS K φ w ys us->aS K φ w (xs++ys) (vs++us)
 | [],_,_,_,h,h' =>by unfold aS at h;subst h;exact h'
 | y::xs,ys,_,us,h,h' =>by
   unfold aS at h;obtain⟨v,vs',rfl,h1,h2⟩:=h;simp only[List.cons_append];unfold aS;exact⟨v,_,rfl,h1,nA h2 h'⟩
theorem L3 {o:Oper}{x:Operand}{i:Nat}{vs:List AV}{y:AV}(ho:o.op= .extract x i)(hx:S.ev x= .tup vs)(hy:vs[i]? =some y):bP P o S ⟨y,[],[]⟩:=
 eC fun K φ A w0 N a w hG=>by
  have h1:=hG.ev x;rw[hx] at h1;unfold aH at h1;obtain⟨us,he,hl⟩:=h1;obtain⟨v,hv,hm⟩:=rC hl hy;have hv' :us[i]? =some v:=by rw[<-Array.getElem?_toList];exact hv
  exact⟨v,by simp[execOp,ho,he,Instr.extract,hv'],hm⟩
def UM (S:St):AV->Nat->Prop
 | .p none (.sl _ _ xs),n=>n=xs.length
 | .p (some h) (.sl _ _ xs),n=>(∃r,S.res h=some r)/\n=xs.length
 | .own h,n=> ∃e k d xs,S.res h=some (.arr e k d xs)/\n=xs.length
 | .nil,n=>n=0
 | _,_=>False
theorem G.owned (hG:G K φ A w0 N S a w){h:Nat}{e k:Nat}{d:Bool}{xs:List (List bX)}(hr:S.res h=some (.arr e k d xs)):
 ∃(pl:Pl) (css:List (List Value)),φ h=some pl/\w.ownsRow 0 e k pl.val xs.length css.flatten/\css.length=xs.length/\(∀c∈css,c.length=k)/\pl.top=pl.val.ownBlock.toList/\
  ∀(i:Nat) x c,xs[i]? =some x->css[i]? =some c->x.length=k/\oL (In K pl) w x c/\(d=false->oL K w x c):=by
 obtain⟨pl,hp,hh⟩:=hG.dom h _ hr;cases d with
 | true=>
   obtain⟨css,Fs,h1,h2,h3,h4⟩:=hh;have hl:=h4.len;refine⟨pl,css,hp,h1,hl.1,hl.2,h2,fun i x c hx hc=>?_⟩;have:=dB.rd (A:=In K pl) k xs css Fs i x c (fun g hg=> .inr (by rw[h3];exact hg)) h4 hx hc;exact⟨this.1,this.2,fun e=>by cases e⟩
 | false=>
   obtain⟨css,h1,h2,h3,h4⟩:=hh;have hl:=h4.len;refine⟨pl,css,hp,h1,hl.1,hl.2,h2,fun i x c hx hc=>?_⟩;have:=h4.at_ hx hc;exact⟨this.1,oL.mono (fun _ _=>rfl) (fun b hb=> .inl hb) x c this.2,fun _=>this.2⟩
theorem Pm (hG:G K φ A w0 N S a w){x:AV}{n:Nat}{v:Value}(hn:UM S x n)(hm:aH K φ w x v): ∃b c,v= .slice b n c/\n<=c/\c<=maxLen:=by
 unfold UM at hn;split at hn
 ·unfold aH jX at hm;obtain⟨b,c,e,h1,h2,_⟩:=hm;exact⟨b,c,by rw[e,hn],aGR,h2⟩
 ·obtain⟨⟨r,hr⟩,hn⟩:=hn;obtain⟨pl,hp,_⟩:=hG.dom _ r hr;unfold aH at hm;have:=hm pl hp;unfold jX at this;obtain⟨b,c,e,h1,h2,_⟩:=this;exact⟨b,c,by rw[e,hn],aGR,h2⟩
 ·obtain⟨e,k,d,xs,hr,hn⟩:=hn;obtain⟨pl,css,hp,ho,_⟩:=hG.owned hr;unfold aH at hm;obtain⟨b,c,e,h1,h2,_⟩:=lL ho;exact⟨b,c,by rw[hm pl hp,e,hn],aGR,h2⟩
 ·unfold aH at hm;exact⟨none,0,by rw[hm,hn],aGR,by unfold maxLen;omega⟩
 exact hn.elim
end
def tN (P:Program)(s:TypeId)(f:Nat):Option (Nat × TypeId):=
 match P.underlying s with
 | some (.struct fields)=>match fields[f]? with
   | some fd=>match P.info? fd.type with
     | some i=>if i.size=0 then none else some (fd.offset,fd.type)
     | none=>none
   | none=>none
 | _=>none
def Ai {P:Program}{s:TypeId}{f off:Nat}{ft:TypeId}(h:tN P s f=some (off,ft))(w:World)(g o:Nat):(Instr.fieldAt s (.pointer (some ⟨g,o,none⟩)) f).run P w= .ok (.pointer (some ⟨g,o+off,none⟩)) w:=by
 unfold tN at h;split at h
 ·rename_i fields hu;split at h
  ·rename_i fd hf;split at h
   ·rename_i i hi;split at h
    ·cases h
    rename_i hz;simp only[Option.some.injEq,Prod.mk.injEq] at h;obtain⟨rfl,rfl⟩:=h;simp[Instr.fieldAt,run_underlying hu,hf,Instr.sureAddr,fieldPlace,sizeOf,typeInfo,hi,hz,oP]
   cases h
  cases h
 cases h
def qZ (S:St):Option Nat->Prop
 | none=>True
 | some h=> ∃r,S.res h=some r
section
variable {K:Nat->Prop} {φ:jS} {A:Nat->Prop} {w0:Aa} {N:Nat} {S:St} {a:Act} {w:World} {P:Program}
theorem G.inO (hG:G K φ A w0 N S a w){o:Option Nat}(hl:qZ S o): ∃B:Nat->Prop,(∀x v,aH K φ w (.p o x) v↔jX B w x v)/\(∀x v,aH K φ w (.rp o x) v↔ ∃b,v= .pointer b/\lN B w x b 0):=by
 cases o with
 | none=>exact⟨K,fun x v=>by unfold aH;exact Iff.rfl,fun x v=>by unfold aH;exact Iff.rfl⟩
 | some h=>
   obtain⟨r,hr⟩:=hl;obtain⟨pl,hp,_⟩:=hG.dom h r hr;refine⟨In K pl,fun x v=>?_,fun x v=>?_⟩
   ·unfold aH;exact⟨fun h=>h pl hp,fun h pl' hp' =>by rw[hp] at hp';injection hp' with e;subst e;exact h⟩
   unfold aH;exact⟨fun h=>h pl hp,fun h pl' hp' =>by rw[hp] at hp';injection hp' with e;subst e;exact h⟩
theorem Vn {o:Oper}{x:Operand}{t e:TypeId}{n:Nat}(ho:o.op= .call { callee:= .builtin .len,args:= #[x],argTypes:= #[t] })(ht:P.underlying t=some (.slice e))(hn:UM S (S.ev x) n):bP P o S ⟨.p none (.int .i64 n),[],[]⟩:=
 eC fun K φ A w0 N a w hG=>by
  obtain⟨b,c,he,_⟩:=Pm hG hn (hG.ev x);refine⟨.int .i64 n,?_,by unfold aH jX;rfl⟩;simp[execOp,ho,resolve,invoke,builtin,Builtin.len_,run_underlying ht,he,goInt]
theorem Vo {B:Nat->Prop}{w:World}: ∀(f:Nat) {x:List bX} {b off:Nat},lN B w x (some ⟨b,off,none⟩) 0->lN B w (x.drop f) (some ⟨b,off+f,none⟩) 0:=by
 intro f x b off h;obtain⟨b',off',vs,e,hb,hl,hc⟩:=h.vals;simp only[Option.some.injEq,Addr.mk.injEq,and_true] at e;obtain⟨rfl,rfl⟩:=e
 have hld: ∀(f:Nat) {x:List bX} {vs:List Value},oL B w x vs->oL B w (x.drop f) (vs.drop f):=by
  intro f
  induction f with
  | zero=>intro x vs h;exact h
  | succ f ih=>
    intro x vs h;cases x with
    | nil=>rw[show vs= [] from h];exact rfl
    | cons y ys=>obtain⟨v,vs',rfl,_,h2⟩:=h;exact ih h2
 refine lN.mk (fun hne=>hb (fun e=>by subst e;simp at hne)) (hld f hl) fun j v hv=>?_;rw[List.getElem?_drop] at hv;have:=hc (f+j) v hv;rw[show off+f+0+j=off+0+(f+j) by omega];exact this
theorem xI {o:Oper}{x:Operand}{s:TypeId}{f off o' :Nat}{ft:TypeId}{h:Nat}(ho:o.op= .fieldAddr s x f)(hf:tN P s f=some (off,ft))(hx:S.ev x= .ptr h o'):bP P o S ⟨.ptr h (o' +off),[],[]⟩:=
 eC fun K φ A w0 N a w hG=>by
  have h1:=hG.ev x;rw[hx] at h1;unfold aH at h1;obtain⟨g,he,hq⟩:=h1;refine⟨.pointer (some ⟨g,o' +off,none⟩),by simp[execOp,ho,he,Ai hf],?_⟩;unfold aH;exact⟨g,rfl,hq⟩
theorem Ie {o:Oper}{x:Operand}{s:TypeId}{f off k i o' :Nat}{ft:TypeId}{h:Nat}(ho:o.op= .fieldAddr s x f)(hf:tN P s f=some (off,ft))(hx:S.ev x= .ep h k i o')(hl:qZ S (some h)):bP P o S ⟨.ep h k i (o' +off),[],[]⟩:=
 eC fun K φ A w0 N a w hG=>by
  obtain⟨r,hr⟩:=hl;obtain⟨pl,hp,_⟩:=hG.dom h r hr;have h1:=hG.ev x;rw[hx] at h1;unfold aH at h1;obtain⟨g,hg,he⟩:=h1 pl hp;refine⟨.pointer (some ⟨g,i*k+(o' +off),none⟩),by simp[execOp,ho,he,Ai hf,Nat.add_assoc],?_⟩;unfold aH;exact fun pl' hp' =>by rw[hp] at hp';injection hp' with e;subst e;exact⟨g,hg,rfl⟩
theorem Ig {o:Oper}{x:Operand}{s:TypeId}{f off:Nat}{ft:TypeId}{o' :Option Nat}{xs:List bX}(ho:o.op= .fieldAddr s x f)(hf:tN P s f=some (off,ft))(hx:S.ev x= .rp o' xs)(hl:qZ S o'):bP P o S ⟨.rp o' (xs.drop off),[],[]⟩:=
 eC fun K φ A w0 N a w hG=>by
  obtain⟨B,_,hB⟩:=hG.inO hl;have h1:=hG.ev x;rw[hx,hB] at h1;obtain⟨b,he,hr⟩:=h1;obtain⟨b',off',vs,rfl,_⟩:=hr.vals;exact⟨.pointer (some ⟨b',off' +off,none⟩),by simp[execOp,ho,he,Ai hf],(hB _ _).2 ⟨_,rfl,Vo off hr⟩⟩
theorem Aj {P:Program}{t e:TypeId}{k bt:Nat}{ag:Bool}{z:Value}(ht:P.underlying t=some (.slice e))(hk:iJ P e=some (ag,k,bt,z))(w:World)(ik:IntKind)(n:Int)(len c g o:Nat)(h0:0<=n)(h1:n<len):
 (Instr.indexAt t (.slice (some ⟨g,o,none⟩) len c) (.int ik n)).run P w= .ok (.pointer (some ⟨g,o+n.toNat*k,none⟩)) w:=by
 have hs:=(iE hk w).2.1;simp[Instr.indexAt,asIntOf,run_underlying ht,h0,h1,hs,oP]
theorem L4 {o:Oper}{x y:Operand}{t e:TypeId}{k bt:Nat}{ag:Bool}{z:Value}{o' :Option Nat}{te:Nat}{xs:List (List bX)}{ik:IntKind}{n:Int}{row:List bX}(ho:o.op= .indexAddr t x y)(ht:P.underlying t=some (.slice e))(hk:iJ P e=some (ag,k,bt,z))
 (hx:S.ev x= .p o' (.sl te k xs)) (hl:qZ S o') (hy:S.ev y= .p none (.int ik n)) (h0:0<=n) (hr:xs[n.toNat]? =some row):bP P o S ⟨.rp o' row,[],[]⟩:=
 eC fun K φ A w0 N a w hG=>by
  obtain⟨B,hBp,hB⟩:=hG.inO hl;have h1:=hG.ev x;rw[hx,hBp] at h1;unfold jX at h1;obtain⟨b,c,he,_,_,hrs⟩:=h1;have h2:a.eval y= .int ik n:=lO (x:=S.ev y) (by rw[hy];rfl) (hG.ev y);obtain⟨_,hcs⟩:=hrs.at_ hr;have hn:n<xs.length:=by have:=(aCO.1 hr).1;omega
  obtain⟨g,off,vs,rfl,hb,hl,hc⟩:=hcs.vals;refine⟨.pointer (some ⟨g,off+n.toNat*k,none⟩),by simp[execOp,ho,he,h2,Aj ht hk w ik n xs.length c g off h0 hn],(hB _ _).2 ⟨_,rfl,lN.mk hb hl fun j v hv=>?_⟩⟩;have:=hc j v hv;simpa using this
theorem Hv {o:Oper}{x y:Operand}{t e:TypeId}{k bt:Nat}{ag:Bool}{z:Value}{h:Nat}{e' :Nat}{d:Bool}{xs:List (List bX)}{ik:IntKind}{n:Int}(ho:o.op= .indexAddr t x y)(ht:P.underlying t=some (.slice e))(hk:iJ P e=some (ag,k,bt,z))
 (hx:S.ev x= .own h) (hh:S.res h=some (.arr e' k d xs)) (hy:S.ev y= .p none (.int ik n)) (h0:0<=n) (hn:n<xs.length):bP P o S ⟨.ep h k n.toNat 0,[],[]⟩:=
 eC fun K φ A w0 N a w hG=>by
  obtain⟨pl,css,hp,hown,hl,hc,htop,_⟩:=hG.owned hh;have h1:=hG.ev x;rw[hx] at h1;unfold aH at h1;have he:=h1 pl hp;have h2:a.eval y= .int ik n:=lO (x:=S.ev y) (by rw[hy];rfl) (hG.ev y);obtain⟨b,c,hv,_,_,hb⟩:=lL hown;obtain⟨g,rfl,_,_⟩:=hb aGR;rw[hv] at he htop;refine⟨.pointer (some ⟨g,0+n.toNat*k,none⟩),by simp[execOp,ho,he,h2,Aj ht hk w ik n xs.length c g 0 h0 hn],?_⟩;unfold aH;exact fun pl' hp' =>by rw[hp] at hp';injection hp' with e;subst e;exact⟨g,by rw[htop];rfl,by simp⟩
theorem vV {P:Program}{t:TypeId}{n bt:Nat}{z:Value}(ht:iJ P t=some (true,n,bt,z))(w:World)(g o:Nat)(cs:List Value)(hn:cs.length=n)(h: ∀j v,cs[j]? =some v->w.cell? ⟨g,o+j,none⟩=some v):
 (Instr.loadAt t (.pointer (some ⟨g,o,none⟩))).run P w= .ok (.agg cs.toArray) w:=by
 obtain⟨h1,h2,_⟩:=iE ht w;have h3:=run_loadCells_list (P:=P) w ⟨g,o,none⟩ cs (fun j v hv=>by rw[oP];exact h j v hv);rw[hn] at h3;simp[Instr.loadAt,Instr.sureAddr,loadVar,h1,h2,h3]
theorem sN {P:Program}{t:TypeId}{n bt:Nat}{z:Value}(ht:iJ P t=some (false,n,bt,z))(w:World)(g o:Nat)(v:Value)(h:w.cell? ⟨g,o,none⟩=some v):
 (Instr.loadAt t (.pointer (some ⟨g,o,none⟩))).run P w= .ok v w:=by
 obtain⟨h1,h2,_⟩:=iE ht w;simp[Instr.loadAt,Instr.sureAddr,loadVar,h1,run_load,h]
theorem G.boxed (hG:G K φ A w0 N S a w){h:Nat}{t:TypeId}{cs:List AV}(hr:S.res h=some (.box t cs)):
 ∃g vs,φ h=some ⟨.pointer (some ⟨g,0,none⟩),[g],[]⟩/\ES w g t vs/\(∀u∈vs.toList,u.oneCell' =true)/\aS K φ w cs vs.toList:=by
 obtain⟨pl,hp,g,vs,rfl,h1,h2,h3⟩:=hG.dom h _ hr;exact⟨g,vs,hp,h1,h2,h3⟩
theorem L5 {α:Type}{l:List α}{i n:Nat}{x:α}(h:x∈(l.drop i).take n):x∈l:=List.mem_of_mem_drop (List.mem_of_mem_take h)
theorem Ak {o:Oper}{x:Operand}{t tb:TypeId}{n bt off:Nat}{z:Value}{h:Nat}{cs:List AV}(ho:o.op= .load t x)(ht:iJ P t=some (true,n,bt,z))(hx:S.ev x= .ptr h off)(hh:S.res h=some (.box tb cs))(hn:off+n<=cs.length):
 bP P o S ⟨.agg ((cs.drop off).take n),[],[]⟩:=
 eC fun K φ A w0 N a w hG=>by
  obtain⟨g,vs,hp,hB,h1,hl⟩:=hG.boxed hh;have h2:=hG.ev x;rw[hx] at h2;unfold aH at h2;obtain⟨g',he,hq'⟩:=h2;have hg' :=hq' _ hp;simp only[List.cons.injEq,and_true] at hg';subst hg';have hlen:=mN hl;refine⟨.agg ((vs.toList.drop off).take n).toArray,?_,?_⟩
  ·simp only[execOp,ho,he,Sem.run_bind];rw[vV ht w g off ((vs.toList.drop off).take n) (by simp at hlen ⊢;omega)]
   ·rfl
   intro j v hv;rw[hB.cell,<-Array.getElem?_toList];rw[List.getElem?_take] at hv;split at hv
   ·rwa [List.getElem?_drop] at hv
   cases hv
  unfold aH;exact⟨_,rfl,fun u hu=>h1 u (L5 (by simpa using hu)),by simpa using sM n (sL off hl)⟩
theorem AN {o:Oper}{x:Operand}{t tb:TypeId}{n bt off:Nat}{z:Value}{h:Nat}{cs:List AV}{y:AV}(ho:o.op= .load t x)(ht:iJ P t=some (false,n,bt,z))(hx:S.ev x= .ptr h off)(hh:S.res h=some (.box tb cs))(hy:cs[off]? =some y):
 bP P o S ⟨y,[],[]⟩:=
 eC fun K φ A w0 N a w hG=>by
  obtain⟨g,vs,hp,hB,h1,hl⟩:=hG.boxed hh;have h2:=hG.ev x;rw[hx] at h2;unfold aH at h2;obtain⟨g',he,hq'⟩:=h2;have hg' :=hq' _ hp;simp only[List.cons.injEq,and_true] at hg';subst hg';obtain⟨v,hv,hm⟩:=rC hl hy;refine⟨v,?_,hm⟩;simp only[execOp,ho,he,Sem.run_bind];rw[sN ht w g off v (by rw[hB.cell,<-Array.getElem?_toList];exact hv)];rfl
def OP (o:Option Nat)(x:bX):AV:=match x with | .sl e k xs=> .p o (.sl e k xs) | x=> .p none x
theorem Fk {B:Nat->Prop}{o:Option Nat}(hB: ∀x v,aH K φ w (.p o x) v↔jX B w x v){x:bX}{v:Value}(h:jX B w x v):aH K φ w (OP o x) v:=by
 unfold OP;split
 ·exact(hB _ _).2 h
 rename_i h1;cases x with
 | sl e k xs=>exact absurd rfl (h1 e k xs)
 | _=>unfold aH;unfold jX at*;exact h
theorem OQ {B:Nat->Prop}{x:bX}{v:Value}(h:jX B w x v):v.oneCell' =true:=by
 cases x<;>unfold jX at h
 ·rw[h];rfl
 ·rw[h];rfl
 ·rw[h];rfl
 ·obtain⟨a,c,rfl,_⟩:=h;rfl
 exact h
theorem oB {B:Nat->Prop}{o:Option Nat}(hB: ∀x v,aH K φ w (.p o x) v↔jX B w x v): ∀{xs:List bX} {vs:List Value},oL B w xs vs->aS K φ w (xs.map (OP o)) vs/\ ∀u∈vs,u.oneCell' =true
 | [],vs,h=>by rw[show vs= [] from h];exact⟨by simp only[List.map_nil];unfold aS;rfl,by simp⟩
 | x::xs,_,⟨v,vs',e,h1,h2⟩=>by
   subst e;obtain⟨h3,h4⟩:=oB hB h2;refine⟨by simp only[aDH];unfold aS;exact⟨v,vs',rfl,Fk hB h1,h3⟩,fun u hu=>?_⟩;rcases aDr.1 hu with rfl | hu
   ·exact OQ h1
   exact h4 u hu
theorem Ih {B:Nat->Prop}: ∀(n:Nat) {xs:List bX} {vs:List Value},oL B w xs vs->oL B w (xs.take n) (vs.take n)
 | 0,xs,vs,_=>rfl
 | n+1,[],vs,h=>by rw[show vs= [] from h];exact rfl
 | n+1,x::xs,_,⟨v,vs',e,h1,h2⟩=>by subst e;exact⟨v,_,rfl,h1,Ih n h2⟩
theorem Pn {B:Nat->Prop}: ∀(n:Nat) {xs:List bX} {vs:List Value},oL B w xs vs->oL B w (xs.drop n) (vs.drop n)
 | 0,xs,vs,h=>h
 | n+1,[],vs,h=>by rw[show vs= [] from h];exact rfl
 | n+1,x::xs,_,⟨v,vs',e,h1,h2⟩=>by subst e;exact Pn n h2
theorem L6 {o:Oper}{x:Operand}{t:TypeId}{n bt:Nat}{z:Value}{o' :Option Nat}{xs:List bX}(ho:o.op= .load t x)(ht:iJ P t=some (true,n,bt,z))(hx:S.ev x= .rp o' xs)(hl:qZ S o')(hn:n<=xs.length):
 bP P o S ⟨.agg ((xs.take n).map (OP o')),[],[]⟩:=
 eC fun K φ A w0 N a w hG=>by
  obtain⟨B,hBp,hB⟩:=hG.inO hl;have h1:=hG.ev x;rw[hx,hB] at h1;obtain⟨b,he,hr⟩:=h1;obtain⟨g,off,vs,rfl,_,hl,hc⟩:=hr.vals;have hlen:=hl.len;obtain⟨h3,h4⟩:=oB hBp (Ih n hl);refine⟨.agg (vs.take n).toArray,?_,by unfold aH;exact⟨_,rfl,by simpa using h4,by simpa using h3⟩⟩;simp only[execOp,ho,he,Sem.run_bind];rw[vV ht w g off (vs.take n) (by simp;omega)]
  ·rfl
  intro j v hv;rw[List.getElem?_take] at hv;split at hv
  ·have:=hc j v hv;simpa using this
  cases hv
theorem Ii {o:Oper}{x:Operand}{t:TypeId}{n bt:Nat}{z:Value}{o' :Option Nat}{xs:List bX}{y:bX}(ho:o.op= .load t x)(ht:iJ P t=some (false,n,bt,z))(hx:S.ev x= .rp o' xs)(hl:qZ S o')(hy:xs[0]? =some y):
 bP P o S ⟨OP o' y,[],[]⟩:=
 eC fun K φ A w0 N a w hG=>by
  obtain⟨B,hBp,hB⟩:=hG.inO hl;have h1:=hG.ev x;rw[hx,hB] at h1;obtain⟨b,he,hr⟩:=h1;obtain⟨g,off,vs,rfl,_,hl,hc⟩:=hr.vals;obtain⟨v,hv,hm⟩:=hl.at_ hy;refine⟨v,?_,Fk hBp hm⟩;simp only[execOp,ho,he,Sem.run_bind];rw[sN ht w g off v (by have:=hc 0 v hv;simpa using this)];rfl
theorem G.elem (hG:G K φ A w0 N S a w){h:Nat}{e k:Nat}{d:Bool}{xs:List (List bX)}{i:Nat}{row:List bX}(hr:S.res h=some (.arr e k d xs))(hi:xs[i]? =some row):
 ∃(pl:Pl) (g:Nat) (c:List Value) (B:Nat->Prop),φ h=some pl/\pl.top= [g]/\row.length=k/\oL B w row c/\(∀x v,aH K φ w (.p (if d then some h else none) x) v↔jX B w x v)/\ ∀(j:Nat) u,c[j]? =some u->w.cell? ⟨g,i*k+j,none⟩=some u:=by
 obtain⟨pl,css,hp,hown,hl,hc,htop,hrow⟩:=hG.owned hr;have hi' :i<css.length:=by have:=(aCO.1 hi).1;omega
 obtain⟨b,c,hv,_,_,hb,hcell⟩:=pD hown hc hl;obtain⟨g,rfl,hg,hcs⟩:=hcell i _ (aBP hi');obtain⟨h1,h2,h3⟩:=hrow i row _ hi (aBP hi');cases d with
 | true=>
   refine⟨pl,g,_,In K pl,hp,by rw[htop,hg];rfl,h1,h2,fun x v=>?_,hcs⟩;simp only[if_true];unfold aH;exact⟨fun h=>h pl hp,fun h pl' hp' =>by rw[hp] at hp';injection hp' with e;subst e;exact h⟩
 | false=>
   refine⟨pl,g,_,K,hp,by rw[htop,hg];rfl,h1,h3 rfl,fun x v=>?_,hcs⟩;simp only[Bool.false_eq_true,if_false];unfold aH;exact Iff.rfl
theorem L7 {o:Oper}{x:Operand}{t:TypeId}{n bt:Nat}{z:Value}{h:Nat}{e k i off:Nat}{d:Bool}{xs:List (List bX)}{row:List bX}(ho:o.op= .load t x)(ht:iJ P t=some (true,n,bt,z))(hx:S.ev x= .ep h k i off)(hh:S.res h=some (.arr e k d xs))(hr:xs[i]? =some row)(hn:off+n<=row.length):
 bP P o S ⟨.agg (((row.drop off).take n).map (OP (if d then some h else none))),[],[]⟩:=
 eC fun K φ A w0 N a w hG=>by
  obtain⟨pl,g,c,B,hp,htop,hk,hl,hB,hc⟩:=hG.elem hh hr;have h1:=hG.ev x;rw[hx] at h1;unfold aH at h1;obtain⟨g',hg',he⟩:=h1 pl hp;rw[htop] at hg';simp only[List.cons.injEq,and_true] at hg';subst hg';have hlen:=hl.len;obtain⟨h3,h4⟩:=oB hB (Ih n (Pn off hl));refine⟨.agg ((c.drop off).take n).toArray,?_,by unfold aH;exact⟨_,rfl,by simpa using h4,by simpa using h3⟩⟩;simp only[execOp,ho,he,Sem.run_bind];rw[vV ht w g (i*k+off) ((c.drop off).take n) (by simp;omega)]
  ·rfl
  intro j v hv;rw[List.getElem?_take] at hv;split at hv
  ·rw[List.getElem?_drop] at hv;have:=hc (off+j) v hv;rw[Nat.add_assoc];exact this
  cases hv
theorem Ij {o:Oper}{x:Operand}{t:TypeId}{n bt:Nat}{z:Value}{h:Nat}{e k i off:Nat}{d:Bool}{xs:List (List bX)}{row:List bX}{y:bX}(ho:o.op= .load t x)(ht:iJ P t=some (false,n,bt,z))(hx:S.ev x= .ep h k i off)(hh:S.res h=some (.arr e k d xs))(hr:xs[i]? =some row)(hy:row[off]? =some y):
 bP P o S ⟨OP (if d then some h else none) y,[],[]⟩:=
 eC fun K φ A w0 N a w hG=>by
  obtain⟨pl,g,c,B,hp,htop,hk,hl,hB,hc⟩:=hG.elem hh hr;have h1:=hG.ev x;rw[hx] at h1;unfold aH at h1;obtain⟨g',hg',he⟩:=h1 pl hp;rw[htop] at hg';simp only[List.cons.injEq,and_true] at hg';subst hg';obtain⟨v,hv,hm⟩:=hl.at_ hy;refine⟨v,?_,Fk hB hm⟩;simp only[execOp,ho,he,Sem.run_bind];rw[sN ht w g (i*k+off) v (hc off v hv)];rfl
end
def jP (S:St)(h:Nat):Prop:=(∀t,h ∉ cZ (S.slots t))/\(∀h' r,S.res h' =some r->h ∉ kG r)/\S.res h=none/\100<=h
def gJ:AV->List AV
 | .agg cs=>cs
 | x=>[x]
def sO (S:St):AV->Prop
 | .p o _=>qZ S o
 | .own h=>qZ S (some h)
 | .ptr h _=>qZ S (some h)
 | .ep h _ _ _=>qZ S (some h)
 | .rp o _=>qZ S o
 | .bsl h _=>qZ S (some h)
 | .fn _ _=>True
 | .nil=>True
 | .agg _=>True
 | _=>False
section
variable {K:Nat->Prop} {φ:jS} {A:Nat->Prop} {w0:Aa} {N:Nat} {S:St} {a:Act} {w:World} {P:Program}
theorem Xo (S:St)(x:Operand){h:Nat}(hm:h∈cZ (S.ev x)): ∃t,h∈cZ (S.slots t):=by
 cases x with
 | tmp t=>exact⟨t,hm⟩
 | const v=>simp only[St.ev] at hm;unfold UL at hm;split at hm<;>simp[cZ] at hm
 | func f=>simp[St.ev,cZ,gY] at hm
 | global g=>simp[St.ev,cZ] at hm
theorem Po {x:AV}{h:Nat}:h∈gY (gJ x)↔h∈cZ x:=by
 cases x with
 | p o x=>cases o<;>simp[gJ,gY,cZ]
 | rp o x=>cases o<;>simp[gJ,gY,cZ]
 | _=>simp[gJ,gY,cZ]
theorem Vp (vs:List Value):gY (vs.map UL)= []:=by
 induction vs with
 | nil=>rfl
 | cons v vs ih=>
   simp only[aDH,gY,ih,aFk];unfold UL;split<;>simp[cZ]
theorem Ik (vs:List Value):aS K φ w (vs.map UL) vs:=by
 induction vs with
 | nil=>simp only[List.map_nil];unfold aS;rfl
 | cons v vs ih=>simp only[aDH];unfold aS;exact⟨v,vs,rfl,MP K φ w v,ih⟩
theorem sP (hG:G K φ A w0 N S a w){x:AV}{v:Value}(hc:sO S x)(hm:aH K φ w x v):aS K φ w (gJ x) v.cells.toList/\ ∀u∈v.cells.toList,u.oneCell' =true:=by
 have one:v.oneCell' =true->(∀cs,x≠ .agg cs)->aS K φ w (gJ x) v.cells.toList/\ ∀u∈v.cells.toList,u.oneCell' =true:=fun h1 hx=>by
  have e:v.cells= #[v]:=by cases v<;>simp[Value.cells,Value.oneCell'] at*
  have e2:gJ x= [x]:=by cases x<;>simp[gJ] at*
  rw[e,e2];refine⟨by unfold aS;exact⟨v,[],rfl,hm,by unfold aS;rfl⟩,by simp[h1]⟩
 have live: ∀{h:Nat},qZ S (some h)-> ∃pl,φ h=some pl/\ ∃r,S.res h=some r/\Holds K φ w pl r:=fun ⟨r,hr⟩=>by
  obtain⟨pl,hp,hh⟩:=hG.dom _ r hr;exact⟨pl,hp,r,hr,hh⟩
 cases x with
 | p o x=>
   obtain⟨B,hB,_⟩:=hG.inO (o:=o) hc;exact one (OQ ((hB _ _).1 hm)) (by simp)
 | own h=>
   obtain⟨pl,hp,r,hr,hh⟩:=live hc;unfold aH at hm;have e:=hm pl hp;refine one ?_ (by simp);rw[e];cases r with
   | box t cs=>obtain⟨g,vs,rfl,_⟩:=hh;rfl
   | hole e k xs i j h=>
     obtain⟨xs1,x1,d,x2,xs2,css1,c1,v,c2,css2,Fs1,F1,F2,Fs2,_,_,_,_,ho,_⟩:=hh;obtain⟨_,_,e,_⟩:=lL ho;rw[e];rfl
   | arr e k d xs=>
     obtain⟨pl',css,hp',ho,_⟩:=hG.owned hr;rw[hp] at hp';injection hp' with e'
     subst e';obtain⟨_,_,e,_⟩:=lL ho;rw[e];rfl
 | ptr h off=>
   obtain⟨pl,hp,_⟩:=live hc;unfold aH at hm;obtain⟨g,e,_⟩:=hm;exact one (by rw[e];rfl) (by simp)
 | ep h k i off=>
   obtain⟨pl,hp,_⟩:=live hc;unfold aH at hm;obtain⟨g,_,e⟩:=hm pl hp;exact one (by rw[e];rfl) (by simp)
 | bsl h n=>
   obtain⟨pl,hp,_⟩:=live hc;unfold aH at hm;obtain⟨g,_,e⟩:=hm pl hp;exact one (by rw[e];rfl) (by simp)
 | rp o xs=>
   obtain⟨B,_,hB⟩:=hG.inO (o:=o) hc;obtain⟨b,e,_⟩:=(hB _ _).1 hm;exact one (by rw[e];rfl) (by simp)
 | fn f cs=>
   unfold aH at hm;obtain⟨vs,e,_⟩:=hm;exact one (by rw[e];rfl) (by simp)
 | nil=>
   unfold aH at hm;exact one (by rw[hm];rfl) (by simp)
 | agg cs=>
   unfold aH at hm;obtain⟨vs,rfl,h1,h2⟩:=hm;exact⟨by simpa [gJ,Value.cells] using h2,by simpa [Value.cells] using h1⟩
 | tup cs=>exact hc.elim
 | no=>exact hc.elim
theorem G.newH (hG:G K φ A w0 N S a w){h:Nat}{r:Rs}{pl:Pl}{w' :World}(hb:Below w.heap.size w w')(hf:jP S h)(hF:pl.F.Nodup)(hn: ∀g∈pl.F,w.heap.size<=g/\g<w'.heap.size)
 (hh:Holds K (dM (· ∈([]:List Nat)) (fun x=>if x=h then some pl else none) φ) w' pl r):
 G K (dM (· ∈([]:List Nat)) (fun x=>if x=h then some pl else none) φ) A w0 N { S with res:=iI (· ∈([]:List Nat)) (bF [(h,r)]) S.res } a w' :=by
 refine hG.step (Ag.of_below hb _) ?_ ?_ ?_ ?_ (fun b h=>h) (fun b h=> .inl h) ?_ ?_ ?_
 ·intro x pl' e;split at e
  ·injection e with e;subst e;exact⟨hF,fun g hg=>⟨(hn g hg).2,.inl (hn g hg).1⟩⟩
  cases e
 ·intro x x' pl1 pl2 hne e e';split at e
  ·split at e'
   ·subst_vars;exact absurd rfl hne
   cases e'
  cases e
 ·intro x r' e;simp only[bF] at e;split at e
  ·injection e with e
   subst_vars
   exact⟨pl,by simp,hh⟩
  cases e
 ·intro x e;simp only[bF] at e;split at e
  ·cases e
  rename_i hx;simp[hx]
 ·intro t x pl' hm e;split at e
  ·subst_vars;exact absurd hm (hf.1 t)
  cases e
 ·intro h' r' x pl' _ hr hm e;split at e
  ·subst_vars;exact absurd hm (hf.2.1 h' r' hr)
  cases e
 intro x pl' e;split at e
 ·subst_vars;exact .inr hf.2.2.2
 cases e
theorem Sj (hG:G K φ A w0 N S a w){h:Nat}{r:Rs}{pl:Pl}{w' :World}(hb:Below w.heap.size w w')(hf:jP S h)(hn: ∀g∈pl.F,w.heap.size<=g/\g<w'.heap.size):
 Tr K φ w (· ∈([]:List Nat)) (bF [(h,r)]) K (dM (· ∈([]:List Nat)) (fun x=>if x=h then some pl else none) φ) w' :=by
 refine⟨Ag.of_below hb _,fun _ h=>h,fun _ h=> .inl h,fun x pl' e=>?_,fun x pl' _ e g hg=>hb.block g (hG.ge x pl' e g (aCX _ hg)).2⟩;rcases cF e with e | ⟨_,_,e⟩
 ·split at e
  ·rename_i hx;injection e with e
   subst e;subst hx;exact .inr ⟨hG.non _ hf.2.2.1,⟨r,by simp[bF]⟩,fun g hg=> .inl (hn g hg).1⟩
  cases e
 exact .inl e
theorem ET {h:Nat}{pl:Pl}{x:Nat}{pl' :Pl}(hx:x≠h)(e:dM (· ∈([]:List Nat)) (fun y=>if y=h then some pl else none) φ x=some pl'):φ x=some pl' :=by
 rcases cF e with e | ⟨_,_,e⟩
 ·split at e
  ·exact absurd (by assumption) hx
  cases e
 exact e
theorem EU {o:Oper}{h:Nat}{t:TypeId}{cs:List AV}(hf:jP S h)(hm:h ∉ gY cs)
 (hr: ∀K φ A w0 N a w,G K φ A w0 N S a w-> ∃vs:Array Value,(execOp a.eval o).run P w= .ok (.value (.pointer (some ⟨w.heap.size,0,none⟩))) (w.alloc (.cells vs t))/\aS K φ w cs vs.toList/\ ∀u∈vs.toList,u.oneCell' =true):
 bP P o S ⟨.ptr h 0,[],[(h,.box t cs)]⟩:=by
 intro K φ A w0 N a w Q hd hG;obtain⟨vs,hrun,hl,h1⟩:=hr K φ A w0 N a w hG;unfold Oper.wp;rw[hrun,Oper.upon_value];have hb:Below w.heap.size w (w.alloc (.cells vs t)):=(Below.refl _ _).alloc (aFC _) _
 have hn:=hG.newH (h:=h) (r:= .box t cs) (pl:=⟨.pointer (some ⟨w.heap.size,0,none⟩),[w.heap.size],[]⟩) hb hf (by simp[Pl.F]) (by simp[Pl.F])
  ⟨_,vs,rfl,ES.new w t vs,h1,aS.mono (fC.below hb (fun b hb=>(hG.kin b hb).1)) (fun _ h=>h) cs _ (fun x pl hx e=>by
   have e' :=ET (fun e=>by subst e;exact hm hx) e;exact⟨e',fC.below hb (fun b hb' =>(hG.ge x pl e' b (aCX _ hb')).2)⟩) hl⟩
 refine⟨_,_,_,rfl,hn.put hd ?_,Sj hG hb hf (by simp[Pl.F])⟩;unfold aH;refine⟨_,rfl,fun pl hp=>?_⟩;simp only[dM,if_true,Option.some.injEq] at hp;subst hp;rfl
theorem Vq {o:Oper}{x:Operand}{h:Nat}{t:TypeId}(ho:o.op= .box t x)(hc:sO S (S.ev x))(hf:jP S h):bP P o S ⟨.ptr h 0,[],[(h,.box t (gJ (S.ev x)))]⟩:=
 EU hf (fun hm=>by obtain⟨t,ht⟩:=Xo S x (Po.1 hm);exact hf.1 t ht) fun K φ A w0 N a w hG=>by
  obtain⟨h1,h2⟩:=sP hG hc (hG.ev x);exact⟨(a.eval x).cells,by simp[execOp,ho,Instr.box,newVar,newRow],h1,h2⟩
theorem Pp {o:Oper}{h:Nat}{t:TypeId}{ag:Bool}{n bt:Nat}{z:Value}(ho:o.op= .alloc t)(ht:iJ P t=some (ag,n,bt,z))(hf:jP S h):bP P o S ⟨.ptr h 0,[],[(h,.box t (z.cells.toList.map UL))]⟩:=
 EU hf (by rw[Vp];simp) fun K φ A w0 N a w hG=>
  ⟨z.cells,by simp[execOp,ho,Instr.alloc,(iE ht w).2.2.1,newVar,newRow],Ik _,(CJ ht).2⟩
theorem G.writeH (hG:G K φ A w0 N S a w){h:Nat}{r r0:Rs}{pl:Pl}{w' :World}(hr:S.res h=some r0)(hp:φ h=some pl)(hc:Ag (· ∈pl.top) w w')(hh:Holds K φ w' pl r):
 G K φ A w0 N { S with res:=iI (· ∈[h]) (bF [(h,r)]) S.res } a w' :=by
 have hφ:dM (· ∈[h]) (fun x=>if x=h then some pl else none) φ=φ:=by
  funext x;simp only[dM,aFU];by_cases e:x=h
  ·subst e;simp[hp]
  simp[e]
 have hsub: ∀x pl',φ x=some pl' ->fC (· ∈pl'.sub) w w' :=fun x pl' e g hg=>hc.block g (hG.ge x pl' e g (aCX _ hg)).2 (fun hm=>by
  by_cases ex:x=h
  ·subst ex;rw[hp] at e;injection e with e
   subst e;exact(aFH.1 (hG.nodup x pl hp)).2.2 g hm g hg rfl
  exact hG.disj x h pl' pl ex e hp g (aCX _ hg) (aDG _ hm))
 have hs:=hG.step (C:=(· ∈[h])) (φr:=fun x=>if x=h then some pl else none) (ρ:=bF [(h,r)]) (K' :=K) (w' :=w')
  ⟨hc.os,hc.tape,hc.output,hc.size,fun k hk hn=>hc.block k hk (fun hm=>hn ⟨h,pl,by simp,hp,aDG _ hm⟩)⟩
  (by
   intro x pl' e;split at e
   ·injection e with e;subst e
    exact⟨hG.nodup h pl hp,fun g hg=>⟨aFD (hG.ge h pl hp g hg).2 hc.size,.inr ⟨h,pl,by simp,hp,hg⟩⟩⟩
   cases e)
  (by
   intro x x' pl1 pl2 hne e e';split at e
   ·split at e'
    ·subst_vars;exact absurd rfl hne
    cases e'
   cases e)
  (by
   intro x r' e;simp only[bF] at e;split at e
   ·injection e with e
    subst_vars
    exact⟨pl,by simp,by rw[hφ];exact hh⟩
   cases e)
  (by
   intro x e;simp only[bF] at e;split at e
   ·cases e
   rename_i hx;simp[hx])
  (fun b h=>h) (fun b h=> .inl h)
  (by
   intro t x pl' hm e;split at e
   ·injection e with e;subst_vars;exact⟨hp,hsub _ _ hp⟩
   cases e)
  (by
   intro h' r' x pl' _ hr hm e;split at e
   ·injection e with e;subst_vars;exact⟨hp,hsub _ _ hp⟩
   cases e)
  (by
   intro x pl' e;split at e
   ·injection e with e;subst_vars;exact .inl hp
   cases e)
 rw[hφ] at hs;exact hs
theorem Il (hG:G K φ A w0 N S a w){h:Nat}{new:Nat->Option Rs}{pl:Pl}{w' :World}(hp:φ h=some pl)(hc:Ag (· ∈pl.top) w w'):Tr K φ w (· ∈[h]) new K φ w' :=
 ⟨⟨hc.os,hc.tape,hc.output,hc.size,fun k hk hn=>hc.block k hk (fun hm=>hn ⟨h,pl,by simp,hp,aDG _ hm⟩)⟩,fun _ h=>h,fun _ h=> .inl h,fun _ _ h=> .inl h,fun x pl' e _ g hg=>hc.block g (hG.ge x pl' e g (aCX _ hg)).2 (fun hm=>by
   by_cases ex:x=h
   ·subst ex;rw[hp] at e;injection e with e
    subst e;exact(aFH.1 (hG.nodup x pl hp)).2.2 g hm g hg rfl
   exact hG.disj x h pl' pl ex e hp g (aCX _ hg) (aDG _ hm))⟩
theorem Sk {w:World}{g:Nat}{cs:Array Value}:Ag (· ∈[g]) w (w.setRow g cs):=
 ⟨rfl,rfl,rfl,by simp[World.setRow],fun k hk hn=>by
  unfold World.setRow;simp only[aFU] at hn;rw[Array.getElem?_modify];rw[if_neg (fun e=>hn e.symm)]⟩
theorem Hw {o:Oper}{x y:Operand}{t tb:TypeId}{ag:Bool}{n bt off:Nat}{z:Value}{h:Nat}{cs:List AV}(ho:o.op= .store t x y)(ht:iJ P t=some (ag,n,bt,z))(hx:S.ev x= .ptr h off)(hh:S.res h=some (.box tb cs))
 (hc:sO S (S.ev y)) (hn:(gJ (S.ev y)).length=n) (hl:off+n<=cs.length):
 bP P o S ⟨.no,[h],[(h,.box tb (cs.take off++gJ (S.ev y)++cs.drop (off+n)))]⟩:=by
 intro K φ A w0 N a w Q hd hG;obtain⟨g,vs,hp,hB,h1,hm⟩:=hG.boxed hh;have h2:=hG.ev x;rw[hx] at h2;unfold aH at h2;obtain⟨g',he,hq'⟩:=h2;have hg' :=hq' _ hp;simp only[List.cons.injEq,and_true] at hg';subst hg';obtain⟨h3,h4⟩:=sP hG hc (hG.ev y);have hlen:=mN hm;have hlen3:=mN h3;simp only[aGG] at hlen hlen3;have hrun:=run_storeCells_at (P:=P) g off tb (a.eval y).cells.toList 0 vs w hB (by simp;omega) h4;have hsz:=(iE ht w).2.1;unfold Oper.wp
 have:(execOp a.eval o).run P w= .ok .skip (w.setRow g (vs.toList.take (off+0)++(a.eval y).cells.toList++vs.toList.drop (off+0+(a.eval y).cells.toList.length)).toArray):=by
  simp only[execOp,ho,he,Instr.storeAt,Instr.sureAddr,storeVar,Sem.run_bind,Sem.run_pure,Result.andThen_ok,hsz,hlen3,hn,ne_eq,not_true_eq_false,if_false,hrun]
 rw[this,Oper.upon_skip];have hBlk:ES (w.setRow g (vs.toList.take (off+0)++(a.eval y).cells.toList++vs.toList.drop (off+0+(a.eval y).cells.toList.length)).toArray) g tb _:=setRow_heap w g vs _ tb _ hB;have hchg:Ag (· ∈[g]) w _:=Sk (w:=w) (g:=g) (cs:=(vs.toList.take (off+0)++(a.eval y).cells.toList++vs.toList.drop (off+0+(a.eval y).cells.toList.length)).toArray);have hsame:fC K w _:=fun b hb=>hchg.block b (hG.kin b hb).1 (fun hm=>hG.kout b hb h _ hp (by simp at hm;subst hm;simp[Pl.F]))
 have hmono: ∀xs us,aS K φ w xs us->aS K φ (w.setRow g (vs.toList.take (off+0)++(a.eval y).cells.toList++vs.toList.drop (off+0+(a.eval y).cells.toList.length)).toArray) xs us:=fun xs us hx=>
  aS.mono hsame (fun _ h=>h) xs us (fun h' pl' _ e=>⟨e,fun b hb=>hchg.block b (hG.ge h' pl' e b (aCX _ hb)).2 (fun hm=>by
   simp at hm;subst hm;by_cases ex:h' =h
   ·subst ex;rw[hp] at e;injection e with e;subst e;simp at hb
   exact hG.disj h' h pl' _ ex e hp b (aCX _ hb) (by simp[Pl.F]))⟩) hx
 have hw:=hG.writeH (r:= .box tb (cs.take off++gJ (S.ev y)++cs.drop (off+n))) hh hp hchg
  ⟨g,_,rfl,hBlk,fun u hu=>by
   simp only[aCy,Nat.add_zero] at hu;rcases hu with (hu | hu) | hu
   ·exact h1 u (List.mem_of_mem_take hu)
   ·exact h4 u hu
   ·exact h1 u (List.mem_of_mem_drop hu),by
   have:=hmono _ _ (nA (nA (sM off hm) h3) (sL (off+n) hm));simpa [hlen3,hn] using this⟩
 exact⟨_,_,_,rfl,hw.put hd (by unfold aH;trivial),Il hG hp hchg⟩
end
def Fl (cs:List Value): ∀(zs ys:List Value) (o:Nat),o+cs.length<=zs.length->vQ (zs++ys) o cs=vQ zs o cs++ys:=by
 induction cs with
 | nil=>intro zs ys o _;rfl
 | cons c cs ih=>
   intro zs ys o h;simp only[aEb] at h;rw[vQ,vQ,List.set_append_left _ _ aGR,ih _ _ _ (by simp;omega)]
def EV (cs:List Value): ∀(zs ys:List Value) (o:Nat),vQ (zs++ys) (zs.length+o) cs=zs++vQ ys o cs:=by
 induction cs with
 | nil=>intro zs ys o;rfl
 | cons c cs ih=>
   intro zs ys o;rw[vQ,vQ,List.set_append_right _ _ aGR,show zs.length+o - zs.length=o by omega,Nat.add_assoc,ih]
theorem CK {k:Nat}(vs:List Value): ∀(css:List (List Value)) (i off:Nat) (c:List Value),(∀d∈css,d.length=k)->css[i]? =some c->off+vs.length<=k->vQ css.flatten (i*k+off) vs=(css.set i (vQ c off vs)).flatten
 | [],_,_,_,_,h,_=>by simp at h
 | d::css,0,off,c,hk,h,hl=>by
   simp at h;subst h;rw[Nat.zero_mul,Nat.zero_add,aE8,Fl _ _ _ _ (by rw[hk d (by simp)];exact hl)];rfl
 | d::css,i+1,off,c,hk,h,hl=>by
   simp at h;have:=CK vs css i off c (fun d hd=>hk d (by simp[hd])) h hl;rw[aE8,show (i+1)*k+off=d.length+(i*k+off) by rw[hk d (by simp),Nat.add_mul];omega,EV,this];rfl
def H8 {c vs:List Value}{off:Nat}(h:off+vs.length<=c.length):vQ c off vs=c.take off++vs++c.drop (off+vs.length):=by
 rw[<-List.take_append_drop (off+vs.length) (vQ c off vs),MO vs c off h,Vm vs c off _ (aFC _)]
def mH (x:List bX)(vs:List Value):Prop:=x.map bX.val? =vs.map some
theorem mH.owCs {w:World}: ∀{x:List bX} {vs:List Value},mH x vs->dW w x vs []
 | [],vs,h=>by
   cases vs with
   | nil=>unfold dW;exact⟨rfl,rfl⟩
   | cons v vs=>simp[mH] at h
 | y::x,[],h=>by simp[mH] at h
 | y::x,v::vs,h=>by
   simp only[mH,aDH,List.cons.injEq] at h;unfold dW;refine⟨v,vs,[],[],rfl,rfl,?_,mH.owCs h.2⟩;cases y<;>simp[bX.val?] at h<;>unfold sG<;>simp[h.1]
theorem mH.owCs_eq {w:World}: ∀{x:List bX} {vs c:List Value} {F:List Nat},mH x vs->dW w x c F->c=vs/\F= []
 | [],vs,c,F,h,ho=>by
   unfold dW at ho;cases vs with
   | nil=>exact ho
   | cons v vs=>simp[mH] at h
 | y::x,[],c,F,h,ho=>by simp[mH] at h
 | y::x,v::vs,c,F,h,ho=>by
   simp only[mH,aDH,List.cons.injEq] at h;unfold dW at ho;obtain⟨u,cs',F1,F2,rfl,rfl,h1,h2⟩:=ho;obtain⟨rfl,rfl⟩:=mH.owCs_eq h.2 h2;cases y<;>simp[bX.val?] at h<;>unfold sG at h1<;>simp[h.1,h1]
def mH.rdL {B:Nat->Prop}{w:World}{x:List bX}{vs:List Value}(h:mH x vs):oL B w x vs:=dW.rd x vs [] (by simp) h.owCs
def mH.len {x:List bX}{vs:List Value}(h:mH x vs):vs.length=x.length:=by
 have:=congrArg List.length h;simpa using this.symm
def mH.one {x:List bX}{vs:List Value}(h:mH x vs): ∀u∈vs,u.oneCell' =true:=by
 have h1:oL (fun _=>True) default x vs:=h.rdL;have:=oB (K:=fun _=>True) (φ:=fun _=>none) (w:=default) (o:=none) (B:=fun _=>True) (fun x v=>by unfold aH;exact Iff.rfl) h1;exact this.2
def mH.set {x:List bX}{vs:List Value}{y:List bX}{us:List Value}{off:Nat}(h:mH x vs)(h' :mH y us):mH (x.take off++y++x.drop (off+y.length)) (vs.take off++us++vs.drop (off+us.length)):=by
 have e:=h'.len;unfold mH at*;rw[aDM,aDM,aDM,aDM,List.map_take,List.map_drop,h,h',e,<-List.map_take,<-List.map_drop]
theorem dB.set_ {w:World}{k:Nat}: ∀{xs:List (List bX)} {css:List (List Value)} {Fs:List (List Nat)} {i:Nat} {row row' :List bX} {vs vs' :List Value},dB w k xs css Fs->xs[i]? =some row->mH row vs->mH row' vs' ->row'.length=k->
 css[i]? =some vs/\dB w k (xs.set i row') (css.set i vs') Fs
 | [],_,_,_,_,_,_,_,_,h,_,_,_=>by simp at h
 | x::xs,css,Fs,0,row,row',vs,vs',ho,h,hf,hf',hk=>by
   unfold dB at ho;obtain⟨c,css',F,Fs',rfl,rfl,h1,h2,h3⟩:=ho;simp at h;subst h;obtain⟨rfl,rfl⟩:=hf.owCs_eq h2;refine⟨rfl,?_⟩;simp only[List.set_cons_zero];unfold dB;exact⟨vs',css',[],Fs',rfl,rfl,hk,hf'.owCs,h3⟩
 | x::xs,css,Fs,i+1,row,row',vs,vs',ho,h,hf,hf',hk=>by
   unfold dB at ho;obtain⟨c,css',F,Fs',rfl,rfl,h1,h2,h3⟩:=ho;simp at h;obtain⟨h4,h5⟩:=dB.set_ h3 h hf hf' hk;refine⟨by simpa using h4,?_⟩;simp only[List.set_cons_succ];unfold dB;exact⟨c,css'.set i vs',F,Fs',rfl,rfl,h1,h2,h5⟩
theorem fM.set_ {K:Nat->Prop}{w:World}{k:Nat}: ∀{xs:List (List bX)} {css:List (List Value)} {i:Nat} {row' :List bX} {vs' :List Value},fM K w k xs css->oL K w row' vs' ->row'.length=k->fM K w k (xs.set i row') (css.set i vs')
 | [],css,i,row',vs',h,_,_=>by rw[show css= [] from h];exact rfl
 | x::xs,_,0,row',vs',⟨c,css',e,h1,h2,h3⟩,hr,hk=>by subst e;exact⟨vs',css',rfl,hk,hr,h3⟩
 | x::xs,_,i+1,row',vs',⟨c,css',e,h1,h2,h3⟩,hr,hk=>by subst e;exact⟨c,css'.set i vs',rfl,h1,h2,fM.set_ h3 hr hk⟩
section
variable {K:Nat->Prop} {φ:jS} {A:Nat->Prop} {w0:Aa} {N:Nat} {S:St} {a:Act} {w:World} {P:Program}
theorem pE {e k n g c o0:Nat}: ∀(vs:List Value) (i:Nat) (w:World) (zs:List Value),w.ownsRow 0 e k (.slice (some ⟨g,0,none⟩) n c) n zs->o0+i+vs.length<=n*k->(∀v∈vs,v.oneCell' =true)->
 (storeCells ⟨g,o0,none⟩ vs i).run P w= .ok () (setCells w g (o0+i) vs)
 | [],i,w,zs,_,_,_=>rfl
 | v::vs,i,w,zs,ho,hl,h1=>by
   simp only[aEb] at hl;have hcell:w.cell? ⟨g,o0+i,none⟩=some (zs[o0+i]'(by have:=ho.1;omega)):=(ho.cellAt (o0+i) aGR).trans (aBP _)
   have hst:(store ((⟨g,o0,none⟩:Addr).add i) v).run P w= .ok () (w.setCell ⟨g,o0+i,none⟩ v):=by
    rw[oP,run_store P w _ v _ (h1 v (by simp)),hcell];simp[ho.frozenAt]
   have ih:=pE (o0:=o0) vs (i+1) (w.setCell ⟨g,o0+i,none⟩ v) _ (ho.stored (o0+i) v).1 aGR (fun u hu=>h1 u (by simp[hu]));simp only[storeCells,Sem.run_bind,hst,Result.andThen_ok,ih,setCells];rw[Nat.add_assoc]
theorem EW {w:World}{g o:Nat}(cs:List Value):Ag (· ∈[g]) w (setCells w g o cs):=
 ⟨(oO cs (oK.refl [g] w) (by simp)).os,(oO cs (oK.refl [g] w) (by simp)).tape,(oO cs (oK.refl [g] w) (by simp)).output,(oO cs (oK.refl [g] w) (by simp)).size,(oO cs (oK.refl [g] w) (by simp)).block⟩
theorem Im {o:Oper}{x y:Operand}{t:TypeId}{ag:Bool}{n bt off:Nat}{z:Value}{h:Nat}{e k i:Nat}{d:Bool}{xs:List (List bX)}{row ys:List bX}{vs us:List Value}(ho:o.op= .store t x y)(ht:iJ P t=some (ag,n,bt,z))(hx:S.ev x= .ep h k i off)
 (hh:S.res h=some (.arr e k d xs)) (hr:xs[i]? =some row) (hrow:mH row vs) (hy:gJ (S.ev y)=ys.map (AV.p none)) (hys:mH ys us) (hn:ys.length=n) (hl:off+n<=row.length):
 bP P o S ⟨.no,[h],[(h,.arr e k d (xs.set i (row.take off++ys++row.drop (off+n))))]⟩:=by
 intro K φ A w0 N a w Q hd hG;have hev:=hG.ev y
 have hval:(a.eval y).cells.toList=us:=by
  have hc:sO S (S.ev y):=by
   cases hS:S.ev y with
   | agg cs=>trivial
   | p o q=>
     rw[hS] at hy;cases ys with
     | nil=>simp[gJ] at hy
     | cons y1 ys=>simp[gJ] at hy;rw[hy.1.1];trivial
   | _=>rw[hS] at hy;cases ys<;>simp[gJ] at hy
  obtain⟨h3,_⟩:=sP hG hc hev;rw[hy] at h3;exact lA hys h3
 have hsz:=(iE ht w).2.1;have hus:=hys.len;have hvs:=hrow.len;obtain⟨pl,css,hp,hown,hcl,hck,htop,hrows⟩:=hG.owned hh;have hi:i<xs.length:=(aCO.1 hr).1;obtain⟨b,c,hv,_,_,hb⟩:=lL hown;obtain⟨g,rfl,_,_⟩:=hb aGR;have h2:=hG.ev x;rw[hx] at h2;unfold aH at h2;obtain⟨g',hg',he⟩:=h2 pl hp;have htop' :pl.top= [g]:=by rw[htop,hv];rfl
 rw[htop'] at hg';simp only[List.cons.injEq,and_true] at hg';subst hg';have hk:row.length=k:=(hrows i row _ hr (aBP aGR)).1
 have hlt:i*k+off+us.length<=xs.length*k:=by
  have:(i+1)*k<=xs.length*k:=Nat.mul_le_mul_right k aGR;rw[Nat.add_mul] at this;omega
 have hown' :=hown;rw[hv] at hown';have hrun:=pE (P:=P) (o0:=i*k+off) us 0 w _ hown' aGR hys.one;unfold Oper.wp
 have:(execOp a.eval o).run P w= .ok .skip (setCells w g (i*k+off+0) us):=by
  have hsize:(a.eval y).cells.size=n:=by rw[<-aGG,hval];omega
  simp only[execOp,ho,he,Instr.storeAt,Instr.sureAddr,storeVar,Sem.run_bind,Sem.run_pure,Result.andThen_ok,hsz,hsize,ne_eq,not_true_eq_false,if_false,hval,hrun]
 rw[this,Oper.upon_skip,Nat.add_zero];have hchg:Ag (· ∈pl.top) w (setCells w g (i*k+off) us):=by rw[htop'];exact EW us
 have hsame:fC K w (setCells w g (i*k+off) us):=fun b hb=>hchg.block b (hG.kin b hb).1 (fun hm=>hG.kout b hb h _ hp (aDG _ hm));have hsub:lM pl.sub w (setCells w g (i*k+off) us):=fun b hb=>hchg.block b (hG.ge h pl hp b (aCX _ hb)).2 (fun hm=>(aFH.1 (hG.nodup h pl hp)).2.2 b hm b hb rfl);have hset:=mH.set (off:=off) hrow hys;have hlen2:(row.take off++ys++row.drop (off+n)).length=k:=by simp;omega
 have hH:Holds K φ (setCells w g (i*k+off) us) pl (.arr e k d (xs.set i (row.take off++ys++row.drop (off+n)))):=by
  obtain⟨pl',hp',hh'⟩:=hG.dom h _ hh;rw[hp] at hp';injection hp' with e'
  subst e';cases d with
  | true=>
    obtain⟨css2,Fs,q1,q2,q3,q4⟩:=hh';obtain⟨q5,q6⟩:=q4.set_ hr hrow hset (by rw[hn];exact hlen2);rw[hn] at q6;refine⟨css2.set i _,Fs,?_,q2,q3,dB.kept _ _ _ _ (by rw[<-q3];exact hsub) q6⟩;have:=sF us (o:=i*k+off) (by rw[hv] at q1;exact q1);rw[CK us css2 i off vs q4.len.2 q5 aGR,H8 aGR] at this;rw[hv];simpa using this
  | false=>
    obtain⟨css2,q1,q2,q3,q4⟩:=hh'
    have q5:css2[i]? =some vs:=by
     have hi2:i<css2.length:=by rw[q4.len.1];exact hi
     rw[aBP hi2];have:=(q4.at_ hr (aBP hi2)).2;have hm:=(oB (K:=K) (φ:=φ) (w:=w) (o:=none) (fun x v=>by unfold aH;exact Iff.rfl) this).1
     have e2:row.map (OP none)=row.map (AV.p none):=by
      apply List.map_congr_left;intro y _;unfold OP;split<;>rfl
     rw[e2] at hm;rw[lA hrow hm]
    refine⟨css2.set i (vs.take off++us++vs.drop (off+us.length)),?_,q2,q3,(q4.mono hsame (fun _ h=>h)).set_ (by have:=hset.rdL (B:=K) (w:=setCells w g (i*k+off) us);rw[hn] at this;exact this) hlen2⟩;have:=sF us (o:=i*k+off) (by rw[hv] at q1;exact q1);rw[CK us css2 i off vs q4.len.2 q5 aGR,H8 aGR] at this;rw[hv];simpa using this
 exact⟨_,_,_,rfl,(hG.writeH hh hp hchg hH).put hd (by unfold aH;trivial),Il hG hp hchg⟩
end
def aD9 (cs:List AV)(off:Nat)(xs:List AV):List AV:=cs.take off++xs++cs.drop (off+xs.length)
abbrev aGK:=List (Nat × AV)
def xJ (place:Nat->Option (Nat × Nat))(cs:List AV):aGK->Option (List AV)
 | []=>some cs
 | (i,x)::rest=>match place i with
   | none=>none
   | some (off,size)=>if (gJ x).length=size/\off+size<=cs.length then xJ place (aD9 cs off (gJ x)) rest else none
theorem Io (off:Nat): ∀(us:List Value) (j:Nat) (vs:Array Value),((us.zipIdx j).foldl (fun cs (x:Value × Nat)=>cs.setIfInBounds (off+x.2) x.1) vs).toList=vQ vs.toList (off+j) us
 | [],_,_=>rfl
 | u::us,j,vs=>by
   rw[List.zipIdx_cons,List.foldl_cons,Io off us (j+1),vQ,Array.toList_setIfInBounds,Nat.add_assoc]
abbrev aGM:=List (Nat × Nat)
def EX (P:Program)(t:TypeId):Option (Value × aGM):=
 match P.info? t,P.underlying t with
 | some it,some (.struct fields)=>match it.zero,fields.toList.mapM (fun f=>(P.info? f.type).map fun i=>(f.offset,i.size)) with
   | some z,some ps=>if z.cells.toList.all Value.oneCell' =true then some (z,ps) else none
   | _,_=>none
 | _,_=>none
section
variable {K:Nat->Prop} {φ:jS} {A:Nat->Prop} {w0:Aa} {N:Nat} {S:St} {a:Act} {w:World} {P:Program}
theorem DK (hG:G K φ A w0 N S a w)(place:Nat->Option (Nat × Nat)): ∀(parts:List (Nat × Operand)) (cs cs' :List AV) (vs:Array Value),aS K φ w cs vs.toList->(∀u∈vs.toList,u.oneCell' =true)->(∀q∈parts,sO S (S.ev q.2))->
 xJ place cs (parts.map fun q=>(q.1,S.ev q.2))=some cs' -> ∃vs',Instr.fill place vs (parts.map fun q=>(q.1,a.eval q.2))=some vs' /\aS K φ w cs' vs'.toList/\(∀u∈vs'.toList,u.oneCell' =true)/\vs'.size=vs.size
 | [],cs,cs',vs,hm,h1,_,hf=>by
   simp only[List.map_nil,xJ,Option.some.injEq] at hf;subst hf;exact⟨vs,rfl,hm,h1,rfl⟩
 | (i,x)::parts,cs,cs',vs,hm,h1,hc,hf=>by
   simp only[aDH,xJ] at hf;split at hf
   ·cases hf
   rename_i off size hpl;split at hf
   ·rename_i hsz;obtain⟨h2,h3⟩:=sP hG (hc (i,x) (by simp)) (hG.ev x);have hl:=mN hm;have hl2:=mN h2;simp only[aGG] at hl hl2;have hfold:=Io off (a.eval x).cells.toList 0 vs;rw[Nat.add_zero,H8 (by simp;omega)] at hfold
    have hm' :aS K φ w (aD9 cs off (gJ (S.ev x))) ((((a.eval x).cells.toList.zipIdx 0).foldl (fun cs (x:Value × Nat)=>cs.setIfInBounds (off+x.2) x.1) vs).toList):=by
     rw[hfold];unfold aD9;have:=nA (nA (sM off hm) h2) (sL (off+(gJ (S.ev x)).length) hm);simpa [hl2] using this
    obtain⟨vs',q1,q2,q3,q4⟩:=DK hG place parts _ cs' _ hm' (by
     rw[hfold];intro u hu;simp only[aCy] at hu;rcases hu with (hu | hu) | hu
     ·exact h1 u (List.mem_of_mem_take hu)
     ·exact h3 u hu
     exact h1 u (List.mem_of_mem_drop hu)) (fun q hq=>hc q (by simp[hq])) hf
    refine⟨vs',?_,q2,q3,?_⟩
    ·simp only[aDH,Instr.fill,hpl];rw[if_neg (by simp;omega)];rw[<-q1,<-Array.foldl_toList,Array.toList_zipIdx]
    rw[q4,<-aGG,hfold];simp;omega
   cases hf
theorem Pq {o:Oper}{t:TypeId}{parts:Array (Nat × Operand)}{z:Value}{ps:aGM}{cs:List AV}(ho:o.op= .build t parts)(ht:EX P t=some (z,ps))(hc: ∀q∈parts.toList,sO S (S.ev q.2))
 (hf:xJ (ps.toArray[·]?) (z.cells.toList.map UL) (parts.toList.map fun q=>(q.1,S.ev q.2))=some cs):bP P o S ⟨.agg cs,[],[]⟩:=
 eC fun K φ A w0 N a w hG=>by
  unfold EX at ht;split at ht
  ·rename_i it fields hi hu;split at ht
   ·rename_i z' ps' hz hps;split at ht
    ·rename_i h1;simp only[Option.some.injEq,Prod.mk.injEq] at ht;obtain⟨rfl,rfl⟩:=ht;obtain⟨vs,q1,q2,q3,_⟩:=DK hG _ parts.toList _ cs z'.cells (Ik _) (fun u hu=>aCS.1 h1 u hu) hc hf;refine⟨.agg vs,?_,by unfold aH;exact⟨vs,rfl,q3,q2⟩⟩
     have hb:P.built t (parts.map fun (i,x)=>(i,a.eval x)).toList=some vs:=by
      unfold Program.built;simp only[hi,hu,hz,hps];rw[<-q1];simp
     simp only[execOp,ho,Sem.run_bind];rw[run_build w t _ vs hb];rfl
    cases ht
   cases ht
  cases ht
theorem aBG (z:Array Value)(k:Nat)(hz:z.size=k): ∀n,(madeCells z (n*k)).toList=(List.replicate n z.toList).flatten:=by
 intro n;apply List.ext_getElem?;intro j;by_cases hj:j<n*k
 ·have hk:0<k:=by
   rcases Nat.eq_zero_or_pos k with h | h
   ·subst h;simp at hj
   exact h
  have hq:j/k<n:=Nat.div_lt_of_lt_mul (by rw[Nat.mul_comm];exact hj);have hr:=yP (k:=k) (List.replicate n z.toList) (fun c hc=>by rw[List.eq_of_mem_replicate hc];simpa using hz) (j/k) (j%k) z.toList (by simp[hq]) (Nat.mod_lt _ hk);have hdm:j/k*k+j%k=j:=by rw[Nat.mul_comm];exact Nat.div_add_mod j k
  rw[hdm] at hr;rw[hr];simp only[madeCells,Array.toList_map,Array.toList_range,aGB,List.getElem?_range hj,Option.map_some,Array.getElem?_toList];rw[hz,getElem!_pos z (j%k) (by rw[hz];exact Nat.mod_lt _ hk),Array.getElem?_eq_getElem]
 rw[List.getElem?_eq_none (by simp[madeCells];omega),List.getElem?_eq_none (by simp[hz];omega)]
theorem Al {w:World}{k:Nat}{zr:List bX}{zs:List Value}(h:dW w zr zs [])(hk:zr.length=k): ∀n,dB w k (List.replicate n zr) (List.replicate n zs) (List.replicate n [])
 | 0=>by simp only[List.replicate_zero];unfold dB;exact⟨rfl,rfl⟩
 | n+1=>by simp only[List.replicate_succ];unfold dB;exact⟨zs,_,[],_,rfl,rfl,hk,h,Al h hk n⟩
theorem OR (n:Nat):(List.replicate n ([]:List Nat)).flatten= []:=by
 induction n with
 | zero=>rfl
 | succ n ih=>simp[List.replicate_succ,ih]
theorem yQ {o:Oper}{h:Nat}{e k:Nat}{xs:List (List bX)}(hf:jP S h)
 (hr: ∀K φ A w0 N a w,G K φ A w0 N S a w-> ∃(w' :World) (css:List (List Value)) (c:Nat),(execOp a.eval o).run P w= .ok (.value (.slice (some ⟨w.heap.size,0,none⟩) xs.length c)) w' /\w'.ownsRow 0 e k (.slice (some ⟨w.heap.size,0,none⟩) xs.length c) xs.length css.flatten/\
  dB w' k xs css (List.replicate xs.length [])/\Below w.heap.size w w' /\w.heap.size<w'.heap.size):bP P o S ⟨.own h,[],[(h,.arr e k true xs)]⟩:=by
 intro K φ A w0 N a w Q hd hG;obtain⟨w',css,c,hrun,ho,hrs,hb,hlt⟩:=hr K φ A w0 N a w hG;unfold Oper.wp;rw[hrun,Oper.upon_value]
 have hn:=hG.newH (h:=h) (r:= .arr e k true xs) (pl:=⟨.slice (some ⟨w.heap.size,0,none⟩) xs.length c,[w.heap.size],[]⟩) hb hf (by simp[Pl.F]) (by simp[Pl.F,hlt])
  ⟨css,_,ho,rfl,(OR _).symm,hrs⟩
 refine⟨_,_,_,rfl,hn.put hd ?_,Sj hG hb hf (by simp[Pl.F,hlt])⟩;unfold aH;intro pl hp;simp only[dM,if_true,Option.some.injEq] at hp;subst hp;rfl
theorem Hx {o:Oper}{x y:Operand}{t e:TypeId}{k bt:Nat}{ag:Bool}{z:Value}{h:Nat}{n:Nat}{kl kc:IntKind}{zr:List bX}(ho:o.op= .makeSlice t x y)(ht:P.underlying t=some (.slice e))(hk:iJ P e=some (ag,k,bt,z))
 (hx:S.ev x= .p none (.int kl n)) (hy:S.ev y= .p none (.int kc n)) (hz: ∀w,dW w zr z.cells.toList []) (hn:bt*n<=281474976710656) (hm:n<=maxLen) (hf:jP S h):
 bP P o S ⟨.own h,[],[(h,.arr e k true (List.replicate n zr))]⟩:=
 yQ hf fun K φ A w0 N a w hG=>by
  have h1:a.eval x= .int kl n:=lO (x:=S.ev x) (by rw[hx];rfl) (hG.ev x);have h2:a.eval y= .int kc n:=lO (x:=S.ev y) (by rw[hy];rfl) (hG.ev y);obtain⟨_,_,_,_,q5,q6,q7,q8⟩:=iE hk w;obtain⟨w',hrun,hown,hg⟩:=run_make_full (P:=P) w 0 t e _ z k ht q6 q8 q7 kl kc n (by rw[q5];exact hn) hm (aBC _);have hzs:=(CJ hk).1;have hb:Below w.heap.size w w' :=(Below.refl _ _).grown hg (aFC _) (by simp);rw[aBG _ k hzs] at hown;refine⟨w',List.replicate n z.cells.toList,n,by simp[execOp,ho,h1,h2,hrun],by simpa using hown,?_,hb,?_⟩
  ·rw[aGC];exact Al (hz w') (by have:=(hz w').len;simp at this;omega) n
  exact(hown.lt w.heap.size rfl).2
theorem OS {o:Oper}{t e:TypeId}{k bt:Nat}{ag:Bool}{z:Value}{h:Nat}(ho:o.op= .buildSlice t 0 #[])(ht:P.underlying t=some (.slice e))(hk:iJ P e=some (ag,k,bt,z))(hf:jP S h):bP P o S ⟨.own h,[],[(h,.arr e k true [])]⟩:=
 yQ hf fun K φ A w0 N a w hG=>by
  obtain⟨_,q2,q3,_⟩:=iE hk w;refine⟨w.alloc (.cells #[] e),[],0,?_,Xm k rfl (aBC _),by simp only[List.length_nil,List.replicate_zero];unfold dB;exact⟨rfl,rfl⟩,(Below.refl _ _).alloc (aFC _) _,by simp⟩;simp[execOp,ho,Instr.buildSlice,run_underlying ht,q2,Instr.fill,newRow]
  congr 2
  exact Array.eq_empty_of_size_eq_zero (by simp)
end
def qH:List (List bX)->List (List Value)->Prop
 | [],css=>css= []
 | x::xs,css=> ∃c css',css=c::css' /\mH x c/\qH xs css'
theorem qH.owRs {w:World}{k:Nat}: ∀{xs:List (List bX)} {css:List (List Value)},qH xs css->(∀x∈xs,x.length=k)->dB w k xs css (List.replicate xs.length [])
 | [],css,h,_=>by rw[show css= [] from h];simp only[List.length_nil,List.replicate_zero];unfold dB;exact⟨rfl,rfl⟩
 | x::xs,_,⟨c,css',e,h1,h2⟩,hk=>by
   subst e;simp only[aEb,List.replicate_succ];unfold dB;exact⟨c,css',[],_,rfl,rfl,hk x (by simp),h1.owCs,h2.owRs (fun x hx=>hk x (by simp[hx]))⟩
theorem qH.rdRows {K:Nat->Prop}{w:World}{k:Nat}: ∀{xs:List (List bX)} {css:List (List Value)},qH xs css->(∀x∈xs,x.length=k)->fM K w k xs css
 | [],css,h,_=>h
 | x::xs,_,⟨c,css',e,h1,h2⟩,hk=>⟨c,css',e,hk x (by simp),h1.rdL,h2.rdRows (fun x hx=>hk x (by simp[hx]))⟩
theorem qH.one: ∀{xs:List (List bX)} {css:List (List Value)},qH xs css-> ∀u∈css.flatten,u.oneCell' =true
 | [],css,h=>by rw[show css= [] from h];simp
 | x::xs,_,⟨c,css',e,h1,h2⟩=>by
   subst e;intro u hu;simp only[aE8,aCy] at hu;rcases hu with hu | hu
   ·exact h1.one u hu
   exact h2.one u hu
theorem qH.len: ∀{xs:List (List bX)} {css:List (List Value)},qH xs css->css.length=xs.length
 | [],css,h=>by rw[show css= [] from h];rfl
 | x::xs,_,⟨c,css',e,h1,h2⟩=>by subst e;simp[h2.len]
theorem qH.flat: ∀{xs:List (List bX)} {css:List (List Value)},qH xs css->mH xs.flatten css.flatten
 | [],css,h=>by rw[show css= [] from h];rfl
 | x::xs,_,⟨c,css',e,h1,h2⟩=>by
   subst e;have:=h2.flat;unfold mH at*;simp only[aE8,aDM,h1,this]
theorem fM.flats_eq {K:Nat->Prop}{w:World}{k:Nat}: ∀{xs:List (List bX)} {css css' :List (List Value)},qH xs css->fM K w k xs css' ->css' =css
 | [],css,css',h,h' =>by rw[show css= [] from h,show css' = [] from h']
 | x::xs,_,_,⟨c,css,e,h1,h2⟩,⟨c',css',e',h3,h4,h5⟩=>by
   subst e;subst e';have hm:=(oB (K:=K) (φ:=fun _=>none) (w:=w) (o:=none) (fun x v=>by unfold aH;exact Iff.rfl) h4).1
   have e2:x.map (OP none)=x.map (AV.p none):=by
    apply List.map_congr_left;intro y _;unfold OP;split<;>rfl
   rw[e2] at hm;rw[lA h1 hm,fM.flats_eq h2 h5]
theorem fM.append {K:Nat->Prop}{w:World}{k:Nat}: ∀{xs ys:List (List bX)} {css dss:List (List Value)},fM K w k xs css->fM K w k ys dss->fM K w k (xs++ys) (css++dss)
 | [],_,css,_,h,h' =>by rw[show css= [] from h];exact h'
 | x::xs,ys,_,dss,⟨c,css',e,h1,h2,h3⟩,h' =>by subst e;exact⟨c,css' ++dss,rfl,h1,h2,fM.append h3 h'⟩
theorem dB.append {w:World}{k:Nat}: ∀{xs ys:List (List bX)} {css dss:List (List Value)} {Fs Gs:List (List Nat)},dB w k xs css Fs->dB w k ys dss Gs->dB w k (xs++ys) (css++dss) (Fs++Gs)
 | [],_,css,_,Fs,_,h,h' =>by unfold dB at h;rw[h.1,h.2];exact h'
 | x::xs,ys,_,dss,_,Gs,h,h' =>by
   unfold dB at h;obtain⟨c,css',F,Fs',rfl,rfl,h1,h2,h3⟩:=h;simp only[List.cons_append];unfold dB;exact⟨c,_,F,_,rfl,rfl,h1,h2,dB.append h3 h'⟩
theorem iH.vals {B:Nat->Prop}{w:World}{k:Nat}: ∀{xs:List (List bX)} {a:Option Addr} {o:Nat},iH B w k xs a o-> ∃css,fM B w k xs css/\(xs≠[]-> ∃b off,a=some ⟨b,off,none⟩/\ ∀j v,css.flatten[j]? =some v->w.cell? ⟨b,off+o+j,none⟩=some v)
 | [],_,_,_=>⟨[],rfl,by simp⟩
 | x::xs,a,o,h=>by
   unfold iH at h;obtain⟨h1,h2,h3⟩:=h;obtain⟨b,off,vs,rfl,_,hl,hc⟩:=h2.vals;obtain⟨css,hr,hrest⟩:=iH.vals h3;refine⟨vs::css,⟨vs,css,rfl,h1,hl,hr⟩,fun _=>⟨b,off,rfl,fun j v hv=>?_⟩⟩;rw[aE8] at hv;have hlen:=hl.len;by_cases hj:j<vs.length
   ·rw[aFG hj] at hv;exact hc j v hv
   rw[aD8 aGR] at hv;by_cases hx:xs= []
   ·subst hx;rw[show css= [] from hr] at hv;simp at hv
   obtain⟨b',off',e,hc'⟩:=hrest hx;simp only[Option.some.injEq,Addr.mk.injEq,and_true] at e;obtain⟨rfl,rfl⟩:=e;have:=hc' _ v hv;rw[show off+(o+k)+(j - vs.length)=off+o+j by omega] at this;exact this
def Pr {css:List (List Value)}{k:Nat}(h: ∀c∈css,c.length=k):css.flatten.length=css.length*k:=by
 induction css with
 | nil=>simp
 | cons d css ih=>rw[aE8,aEh,h d (by simp),ih (fun d hd=>h d (by simp[hd])),aEb,Nat.add_mul];omega
section
variable {K:Nat->Prop} {φ:jS} {A:Nat->Prop} {w0:Aa} {N:Nat} {S:St} {a:Act} {w:World} {P:Program}
theorem MQ {K:Nat->Prop}{φ:jS}{w:World}: ∀(vs:List Value),aS K φ w (List.replicate vs.length AV.no) vs
 | []=>by simp only[List.length_nil,List.replicate_zero];unfold aS;rfl
 | v::vs=>by simp only[aEb,List.replicate_succ];unfold aS;exact⟨v,vs,rfl,by unfold aH;trivial,MQ vs⟩
theorem Gn (hG:G K φ A w0 N S a w){t e:TypeId}{len k bt:Nat}{ag:Bool}{z:Value}{parts:Array (Nat × Operand)}{cs:List AV}(ht:P.underlying t=some (.slice e))(hk:iJ P e=some (ag,k,bt,z))
 (hs:len*k<=16777216) (hp:0<len*k) (hc: ∀q∈parts.toList,sO S (S.ev q.2)) (hf:xJ (fun i=>some (i*k,k)) (List.replicate (len*k) AV.no) (parts.toList.map fun q=>(q.1,S.ev q.2))=some cs):
 ∃vs:Array Value,(Instr.buildSlice t len (parts.map fun (i,x)=>(i,a.eval x))).run P w= .ok (.slice (some ⟨w.heap.size,0,none⟩) len len) (w.alloc (.cells vs e))/\aS K φ w cs vs.toList/\(∀u∈vs.toList,u.oneCell' =true)/\vs.size=len*k:=by
 obtain⟨_,_,_,_,q5,q6,q7,q8⟩:=iE hk w;obtain⟨z1,z2⟩:=CJ hk;have hkp:0<k:=Nat.pos_of_mul_pos_left hp;have hsz:((Array.range (len*k)).map (z.cells[· %z.cells.size]!)).size=len*k:=by simp
 have h1: ∀u∈((Array.range (len*k)).map (z.cells[· %z.cells.size]!)).toList,u.oneCell' =true:=by
  intro u hu;simp only[Array.toList_map,aE9] at hu;obtain⟨j,_,rfl⟩:=hu;have hlt:j%z.cells.size<z.cells.size:=Nat.mod_lt _ aGR;rw[getElem!_pos z.cells _ hlt];exact z2 _ (by simp)
 have hm:aS K φ w (List.replicate (len*k) AV.no) ((Array.range (len*k)).map (z.cells[· %z.cells.size]!)).toList:=by
  have:=MQ (K:=K) (φ:=φ) (w:=w) ((Array.range (len*k)).map (z.cells[· %z.cells.size]!)).toList
  rwa [aGG,hsz] at this
 obtain⟨vs,r1,r2,r3,r4⟩:=DK hG _ parts.toList _ cs _ hm h1 hc hf;refine⟨vs,?_,r2,r3,by rw[r4,hsz]⟩;refine run_buildSlice w t e len _ vs _ z ht q6 q8 (by rw[q7];omega) (by rw[q7];omega) ?_;rw[q7,<-r1];simp
theorem Vr {o:Oper}{t e:TypeId}{len k bt:Nat}{ag:Bool}{z:Value}{parts:Array (Nat × Operand)}{cs:List AV}{h:Nat}(ho:o.op= .buildSlice t len parts)(ht:P.underlying t=some (.slice e))(hk:iJ P e=some (ag,k,bt,z))
 (hs:len*k<=16777216) (hp:0<len*k) (hc: ∀q∈parts.toList,sO S (S.ev q.2)) (hf:xJ (fun i=>some (i*k,k)) (List.replicate (len*k) AV.no) (parts.toList.map fun q=>(q.1,S.ev q.2))=some cs) (hfr:jP S h) (hm:h ∉ gY cs):
 bP P o S ⟨.bsl h len,[],[(h,.box e cs)]⟩:=by
 intro K φ A w0 N a w Q hd hG;obtain⟨vs,hrun,hl,h1,_⟩:=Gn hG ht hk hs hp hc hf;have hb:Below w.heap.size w (w.alloc (.cells vs e)):=(Below.refl _ _).alloc (aFC _) _;unfold Oper.wp
 have:(execOp a.eval o).run P w= .ok (.value (.slice (some ⟨w.heap.size,0,none⟩) len len)) (w.alloc (.cells vs e)):=by
  simp only[execOp,ho,Sem.run_bind,hrun];rfl
 rw[this,Oper.upon_value]
 have hn:=hG.newH (h:=h) (r:= .box e cs) (pl:=⟨.pointer (some ⟨w.heap.size,0,none⟩),[w.heap.size],[]⟩) hb hfr (by simp[Pl.F]) (by simp[Pl.F])
  ⟨_,vs,rfl,ES.new w e vs,h1,aS.mono (fC.below hb (fun b hb=>(hG.kin b hb).1)) (fun _ h=>h) cs _ (fun x pl hx e=>by
   have e' :=ET (fun e=>by subst e;exact hm hx) e;exact⟨e',fC.below hb (fun b hb' =>(hG.ge x pl e' b (aCX _ hb')).2)⟩) hl⟩
 refine⟨_,_,_,rfl,hn.put hd ?_,Sj hG hb hfr (by simp[Pl.F])⟩;unfold aH;intro pl hp;simp only[dM,if_true,Option.some.injEq] at hp;subst hp;exact⟨_,rfl,rfl⟩
theorem OT {o:Oper}{t e:TypeId}{len k bt:Nat}{ag:Bool}{z:Value}{parts:Array (Nat × Operand)}{rows:List (List bX)}{css:List (List Value)}{h:Nat}(ho:o.op= .buildSlice t len parts)(ht:P.underlying t=some (.slice e))(hk:iJ P e=some (ag,k,bt,z))
 (hs:len*k<=16777216) (hp:0<len*k) (hc: ∀q∈parts.toList,sO S (S.ev q.2)) (hf:xJ (fun i=>some (i*k,k)) (List.replicate (len*k) AV.no) (parts.toList.map fun q=>(q.1,S.ev q.2))=some (rows.flatten.map (AV.p none))) (hfr:jP S h)
 (hfl:qH rows css) (hrk: ∀x∈rows,x.length=k) (hrl:rows.length=len):
 bP P o S ⟨.own h,[],[(h,.arr e k true rows)]⟩:=
 yQ hfr fun K φ A w0 N a w hG=>by
  obtain⟨vs,hrun,hl,h1,hsz⟩:=Gn hG ht hk hs hp hc hf;have hv:=lA hfl.flat hl
  have hlen:len<=maxLen:=by
   have:len<=len*k:=Nat.le_mul_of_pos_right len (Nat.pos_of_mul_pos_left hp);unfold maxLen;omega
  refine⟨w.alloc (.cells vs e),css,len,by simp only[execOp,ho,Sem.run_bind,hrun,hrl];rfl,?_,hfl.owRs hrk,(Below.refl _ _).alloc (aFC _) _,by simp⟩;rw[hrl,<-hv];exact World.ownsRow_lit w vs len (aBC _) hlen hsz
theorem G.consume (hG:G K φ A w0 N S a w){del:List Nat}{h:Nat}{r:Rs}{pl:Pl}{K' :Nat->Prop}{w' :World}(hU:Ag (jD φ (· ∈del)) w w')(hf:jP S h)(hn:pl.F.Nodup)(hF: ∀g∈pl.F,g<w'.heap.size/\(w.heap.size<=g\/jD φ (· ∈del) g))
 (hK: ∀b,K b->K' b) (hK' : ∀b,K' b->K b\/(b<w'.heap.size/\(w.heap.size<=b\/jD φ (· ∈del) b)/\b ∉ pl.F))
 (hh:Holds K' (dM (· ∈del) (fun x=>if x=h then some pl else none) φ) w' pl r):
 G K' (dM (· ∈del) (fun x=>if x=h then some pl else none) φ) A w0 N { S with res:=iI (· ∈del) (bF [(h,r)]) S.res } a w' :=by
 refine hG.step hU ?_ ?_ ?_ ?_ hK (fun b hb=>?_) ?_ ?_ ?_
 ·intro x pl' e;split at e
  ·injection e with e;subst e;exact⟨hn,hF⟩
  cases e
 ·intro x x' pl1 pl2 hne e e';split at e
  ·split at e'
   ·subst_vars;exact absurd rfl hne
   cases e'
  cases e
 ·intro x r' e;simp only[bF] at e;split at e
  ·injection e with e
   subst_vars
   exact⟨pl,by simp,hh⟩
  cases e
 ·intro x e;simp only[bF] at e;split at e
  ·cases e
  rename_i hx;simp[hx]
 ·rcases hK' b hb with hb | ⟨h1,h2,h3⟩
  ·exact .inl hb
  refine .inr ⟨h1,h2,fun x pl' e=>?_⟩;split at e
  ·injection e with e;subst e;exact h3
  cases e
 ·intro t x pl' hm e;split at e
  ·subst_vars;exact absurd hm (hf.1 t)
  cases e
 ·intro h' r' x pl' _ hr hm e;split at e
  ·subst_vars;exact absurd hm (hf.2.1 h' r' hr)
  cases e
 intro x pl' e;split at e
 ·subst_vars;exact .inr hf.2.2.2
 cases e
theorem rD (hG:G K φ A w0 N S a w){del:List Nat}{h:Nat}{r:Rs}{pl:Pl}{w' :World}(hU:Ag (jD φ (· ∈del)) w w')(hf:jP S h)(hF: ∀g∈pl.F,g<w'.heap.size/\(w.heap.size<=g\/jD φ (· ∈del) g)):
 Tr K φ w (· ∈del) (bF [(h,r)]) K (dM (· ∈del) (fun x=>if x=h then some pl else none) φ) w' :=by
 refine⟨hU,fun _ h=>h,fun _ h=> .inl h,fun x pl' e=>?_,fun x pl' e' e g hg=>hU.block g (hG.ge x pl' e g (aCX _ hg)).2 (fun ⟨h3,pl3,hc3,e3,hm3⟩=>?_)⟩
 rotate_left
 ·by_cases ex:x=h3
  ·subst ex;rcases cF e' with e' | ⟨_,hn,_⟩
   ·split at e'
    ·rename_i hx;subst hx;rw[hG.non _ hf.2.2.1] at e;cases e
    cases e'
   exact hn hc3
  exact hG.disj x h3 pl' pl3 ex e e3 g (aCX _ hg) hm3
 rcases cF e with e | ⟨_,_,e⟩
 ·split at e
  ·rename_i hx;injection e with e
   subst e;subst hx;exact .inr ⟨hG.non _ hf.2.2.1,⟨r,by simp[bF]⟩,fun g hg=>(hF g hg).2⟩
  cases e
 exact .inl e
def Am (S:St):AV->List Nat->Nat->Nat->Bool->List (List bX)->Prop
 | .own h,del,e,k,d,xs=>S.res h=some (.arr e k d xs)/\del= [h]
 | .nil,del,_,_,_,xs=>del= []/\xs= []
 | _,_,_,_,_,_=>False
theorem CL (hG:G K φ A w0 N S a w){x:AV}{del:List Nat}{e k:Nat}{d:Bool}{xs:List (List bX)}{v:Value}(ht:Am S x del e k d xs)(hm:aH K φ w x v):
 ∃css:List (List Value),w.ownsRow 0 e k v xs.length css.flatten/\css.length=xs.length/\(∀c∈css,c.length=k)/\(∀g∈v.ownBlock.toList,jD φ (· ∈del) g)/\
  (d=true-> ∃Fs,dB w k xs css Fs/\(v.ownBlock.toList++Fs.flatten).Nodup/\ ∀g∈Fs.flatten,jD φ (· ∈del) g)/\(d=false\/xs= []->fM K w k xs css):=by
 unfold Am at ht;split at ht
 ·rename_i h;obtain⟨hr,rfl⟩:=ht;unfold aH at hm;obtain⟨pl,hp,hh⟩:=hG.dom h _ hr;have e1:=hm pl hp;subst e1;have hnd:=hG.nodup h pl hp;cases d with
  | true=>
    obtain⟨css,Fs,h1,h2,h3,h4⟩:=hh;refine⟨css,h1,h4.len.1,h4.len.2,fun g hg=>⟨h,pl,by simp,hp,aDG _ (by rw[h2];exact hg)⟩,fun _=>⟨Fs,h4,by rw[<-h2,<-h3];exact hnd,fun g hg=>⟨h,pl,by simp,hp,aCX _ (by rw[h3];exact hg)⟩⟩,fun hx=>?_⟩;rcases hx with hx | hx
    ·cases hx
    subst hx;unfold dB at h4;rw[h4.1];exact rfl
  | false=>
    obtain⟨css,h1,h2,h3,h4⟩:=hh;exact⟨css,h1,h4.len.1,h4.len.2,fun g hg=>⟨h,pl,by simp,hp,aDG _ (by rw[h2];exact hg)⟩,by simp,fun _=>h4⟩
 ·obtain⟨rfl,rfl⟩:=ht;unfold aH at hm;subst hm;exact⟨[],⟨by simp,.inl ⟨rfl,rfl⟩⟩,rfl,by simp,by simp[Value.ownBlock],fun _=>⟨[],by unfold dB;exact⟨rfl,rfl⟩,by simp[Value.ownBlock],by simp⟩,fun _=>rfl⟩
 exact ht.elim
theorem Vs {w w' :World}{v:Value}{U:Nat->Prop}(h:w.grownBy w' v.ownBlock)(hU: ∀g∈v.ownBlock.toList,U g):Ag U w w' :=
 ⟨h.os,h.tape,h.output,h.size,fun k hk hn=>h.block k hk (fun e=>hn (hU k (by rw[<-e];simp)))⟩
end
theorem MR {B:Nat->Prop}{w:World}{k:Nat}: ∀{xs:List (List bX)} {css:List (List Value)},css.length=xs.length->(∀(i:Nat) x c,xs[i]? =some x->css[i]? =some c->x.length=k/\oL B w x c)->fM B w k xs css
 | [],[],_,_=>rfl
 | [],c::css,h,_=>by simp at h
 | x::xs,[],h,_=>by simp at h
 | x::xs,c::css,h,hr=>⟨c,css,rfl,(hr 0 x c rfl rfl).1,(hr 0 x c rfl rfl).2,MR (by simpa using h) fun i x' c' hx hc=>hr (i+1) x' c' (by simpa using hx) (by simpa using hc)⟩
def EY (S:St):AV->Nat->List (List bX)->Prop
 | .p o (.sl _ k' xs),k,ys=>qZ S o/\k' =k/\ys=xs
 | .own h,k,ys=> ∃e d,S.res h=some (.arr e k d ys)
 | .nil,_,ys=>ys= []
 | _,_,_=>False
def Ps (S:St):AV->Nat->List (List bX)->Prop
 | .p none (.sl _ k' xs),k,ys=>k' =k/\ys=xs
 | .bsl h n,k,ys=> ∃e,n=ys.length/\S.res h=some (.box e (ys.flatten.map (AV.p none)))/\ ∀r∈ys,r.length=k
 | _,_,_=>False
def aCv (S:St):AV->bX->List Nat->Prop
 | .p none y,x,h=>x=y/\y.val?.isSome=true/\h= []
 | .own g,x,h=> ∃e k ys,S.res g=some (.arr e k true ys)/\x= .sl e k ys/\h= [g]
 | .nil,x,h=> ∃e k,x= .sl e k []/\h= []
 | _,_,_=>False
def EZ (S:St):List AV->List bX->List Nat->Prop
 | [],row,hs=>row= []/\hs= []
 | c::cs,row,hs=> ∃x row' h1 h2,row=x::row' /\hs=h1++h2/\aCv S c x h1/\EZ S cs row' h2
section
variable {K:Nat->Prop} {φ:jS} {A:Nat->Prop} {w0:Aa} {N:Nat} {S:St} {a:Act} {w:World} {P:Program}
theorem MS {B:Nat->Prop}{k:Nat}{xs:List (List bX)}{b:Option Addr}{c:Nat}(h:iH B w k xs b 0): ∃css,fM B w k xs css/\Lq w k (.slice b xs.length c) xs.length css.flatten:=by
 obtain⟨css,h1,h2⟩:=h.vals;refine⟨css,h1,b,c,rfl,by rw[Pr h1.len.2,h1.len.1],fun hb=>?_,fun ad e j u hu=>?_⟩
 ·rcases xs with _ | ⟨x,xs⟩
  ·rfl
  obtain⟨_,_,e,_⟩:=h2 (by simp);rw[hb] at e;cases e
 have hne:xs≠[]:=by
  rintro rfl;rw[show css= [] from h1] at hu;simp at hu
 obtain⟨b',off,e',hc⟩:=h2 hne;rw[e] at e';injection e' with e'
 subst e';rw[oP];have:=hc j u hu;simpa using this
theorem Sn {e k n:Nat}{v:Value}{css:List (List Value)}(ho:w.ownsRow 0 e k v n css.flatten)(hk:0<k):Lq w k v n css.flatten:=by
 obtain⟨b,c,rfl,h1,h2,h3⟩:=lL ho;refine⟨b,c,rfl,ho.1,fun hb=>?_,fun ad e j u hu=>?_⟩
 ·rcases Nat.eq_zero_or_pos n with hn | hn
  ·exact hn
  obtain⟨g,e,_⟩:=h3 hn;rw[hb] at e;cases e
 have hj:j<n*k:=by have:=(aCO.1 hu).1;rw[ho.1] at this;exact this
 have hn:0<n:=by
  rcases Nat.eq_zero_or_pos n with hn | hn
  ·subst hn;simp at hj
  exact hn
 obtain⟨g,e',_⟩:=h3 hn;rw[e] at e';injection e' with e'
 subst e';subst e;rw[oP,Nat.zero_add,ho.cellAt j hj];exact hu
theorem L8 (hG:G K φ A w0 N S a w){x:AV}{k:Nat}{ys:List (List bX)}{dss:List (List Value)}{v:Value}(hk:0<k)(h:EY S x k ys)(hf:qH ys dss)(hm:aH K φ w x v):Lq w k v ys.length dss.flatten/\ ∀y∈ys,y.length=k:=by
 have lens: ∀{B:Nat->Prop} {css:List (List Value)},fM B w k ys css-> ∀y∈ys,y.length=k:=by
  intro B css hr y hy;obtain⟨i,hi,rfl⟩:=List.getElem_of_mem hy;have hc:i<css.length:=by rw[hr.len.1];exact hi
  exact(hr.at_ (aBP hi) (aBP hc)).1
 unfold EY at h;split at h
 ·rename_i o _ k' xs;obtain⟨hl,rfl,rfl⟩:=h;obtain⟨B,hB,_⟩:=hG.inO hl;have:=(hB _ _).1 hm;unfold jX at this;obtain⟨b,c,rfl,_,_,hr⟩:=this;obtain⟨css,h1,h2⟩:=MS (c:=c) hr;rw[h1.flats_eq hf] at h2;exact⟨h2,lens h1⟩
 ·rename_i h;obtain⟨e,d,hr⟩:=h;obtain⟨pl,css,hp,ho,hcl,hck,_,hrow⟩:=hG.owned hr;unfold aH at hm;rw[hm pl hp];have h1:fM (In K pl) w k ys css:=MR hcl fun i x c hx hc=>⟨(hrow i x c hx hc).1,(hrow i x c hx hc).2.1⟩;rw[h1.flats_eq hf] at ho;exact⟨Sn ho hk,lens h1⟩
 ·subst h;unfold aH at hm;rw[hm,show dss= [] from hf];exact⟨⟨none,0,rfl,by simp,fun _=>rfl,by simp⟩,by simp⟩
 exact h.elim
theorem CM {K:Nat->Prop}{w:World}: ∀{x y:List bX} {us:List Value},oL K w (x++y) us-> ∃c d,us=c++d/\oL K w x c/\oL K w y d
 | [],y,us,h=>⟨[],us,rfl,rfl,h⟩
 | a::x,y,_,⟨u,us',rfl,h1,h2⟩=>by
   obtain⟨c,d,rfl,h3,h4⟩:=CM (x:=x) h2;exact⟨u::c,d,rfl,⟨u,c,rfl,h1,h3⟩,h4⟩
theorem Ea {K:Nat->Prop}{w:World}{k:Nat}: ∀{ys:List (List bX)} {us:List Value},(∀r∈ys,r.length=k)->oL K w ys.flatten us-> ∃dss,us=dss.flatten/\fM K w k ys dss
 | [],us,_,h=>⟨[],h,rfl⟩
 | r::ys,us,hk,h=>by
   rw[aE8] at h;obtain⟨c,d,rfl,h1,h2⟩:=CM h;obtain⟨dss,rfl,h3⟩:=Ea (fun r hr=>hk r (aFR _ hr)) h2;exact⟨c::dss,by rw[aE8],c,dss,rfl,hk r aFQ,h1,h3⟩
theorem MT {k:Nat}: ∀{ys:List (List bX)},(∀r∈ys,r.length=k)->ys.flatten.length=ys.length*k
 | [],_=>by simp
 | r::ys,hk=>by
   rw[aE8,aEh,MT (fun r hr=>hk r (aFR _ hr)),hk r aFQ,aEb,Nat.add_mul];omega
theorem Pt (hG:G K φ A w0 N S a w){x:AV}{k:Nat}{ys:List (List bX)}{v:Value}(h:Ps S x k ys)(hm:aH K φ w x v): ∃dss,Lq w k v ys.length dss.flatten/\fM K w k ys dss:=by
 unfold Ps at h;split at h
 ·obtain⟨rfl,rfl⟩:=h;unfold aH jX at hm;obtain⟨b,c,rfl,_,_,hr⟩:=hm;obtain⟨css,h1,h2⟩:=MS (c:=c) hr;exact⟨css,h2,h1⟩
 ·obtain⟨e,rfl,hr,hk⟩:=h;obtain⟨g,vs,hp,hB,h1,hl⟩:=hG.boxed hr;unfold aH at hm;obtain⟨g',hg',rfl⟩:=hm _ hp;simp only[List.cons.injEq,and_true] at hg';subst hg'
  have hrd:oL K w ys.flatten vs.toList:=by
   clear h1 hB hr hk hp hm
   generalize vs.toList=us at*;generalize ys.flatten=row at*
   induction row generalizing us with
   | nil=>simp only[List.map_nil] at hl;unfold aS at hl;exact hl
   | cons y row ih=>
     simp only[aDH] at hl;unfold aS at hl;obtain⟨u,us',rfl,q1,q2⟩:=hl;unfold aH at q1;exact⟨u,us',rfl,q1,ih _ q2⟩
  obtain⟨dss,e1,e2⟩:=Ea hk hrd;have hlen:=hrd.len;rw[MT hk,aGG] at hlen;refine⟨dss,?_,e2⟩;rw[<-e1];exact Lq.many hB aGR
 exact h.elim
theorem DL {K:Nat->Prop}{w:World}{k:Nat}: ∀{xs:List (List bX)} {css:List (List Value)},fM K w k xs css-> ∀u∈css.flatten,u.oneCell' =true
 | [],css,h=>by rw[show css= [] from h];simp
 | x::xs,_,⟨c,css',e,h1,h2,h3⟩=>by
   subst e;intro u hu;simp only[aE8,aCy] at hu;rcases hu with hu | hu
   ·exact(oB (K:=K) (φ:=fun _=>none) (w:=w) (o:=none) (fun x v=>by unfold aH;exact Iff.rfl) h2).2 u hu
   exact DL h3 u hu
theorem uF {o:Oper}{s x:Operand}{t e:TypeId}{k bt:Nat}{ag:Bool}{z:Value}{n m:Nat}{old news:List Value}{K1:Act->World->Prop}{Q:Exit->Act->World->Prop}(ho:o.op= .call { callee:= .builtin .append,args:= #[s,x],argTypes:= #[t,t] })
 (ht:P.underlying t=some (.slice e)) (hk:iJ P e=some (ag,k,bt,z)) (hpos:0<k) (hown:w.ownsRow 0 e k (a.eval s) n old) (hsrc:Lq w k (a.eval x) m news) (h1: ∀u∈news,u.oneCell' =true) (h63:n+m<=maxLen) (hb:(n+m)*bt<=140737488355328)
 (h: ∀v' w',w'.ownsRow 0 e k v' (n+m) (old++news)->w.grownBy w' (a.eval s).ownBlock->(v'.ownBlock=(a.eval s).ownBlock\/v'.ownBlock=some w.heap.size)->K1 (a.put o.dst v') w'):o.wp P a w K1 Q:=by
 obtain⟨_,_,_,_,q5,q6,q7,q8⟩:=iE hk w;exact L2 w s x t ho 0 e _ z k bt ht q6 q8 q7 q5 (CJ hk).1 hpos _ n old rfl hown _ m news rfl hsrc h1 h63 hb (aBC _) h
theorem tV (hG:G K φ A w0 N S a w){del:List Nat}{v v' :Value}{w' :World}{e k n:Nat}{xs:List Value}{sub:List Nat}(hg:w.grownBy w' v.ownBlock)(ho:w'.ownsRow 0 e k v' n xs)(hv:v'.ownBlock=v.ownBlock\/v'.ownBlock=some w.heap.size)
 (hd: ∀g∈v.ownBlock.toList,jD φ (· ∈del) g) (hs: ∀g∈sub,jD φ (· ∈del) g) (hn:(v.ownBlock.toList++sub).Nodup):
 (v'.ownBlock.toList++sub).Nodup/\(∀g∈v'.ownBlock.toList++sub,g<w'.heap.size/\(w.heap.size<=g\/jD φ (· ∈del) g))/\Ag (jD φ (· ∈del)) w w' /\lM sub w w' /\fC K w w' :=by
 have hlt: ∀g,jD φ (· ∈del) g->g<w.heap.size:=fun g ⟨h,pl,_,hp,hm⟩=>(hG.ge h pl hp g hm).2;have hc:Ag (jD φ (· ∈del)) w w' :=Vs hg hd;refine⟨?_,fun g hm=>?_,hc,fun g hm=>hg.block g (hlt g (hs g hm)) (fun e=>(aFH.1 hn).2.2 g (by rw[<-e];simp) g hm rfl),fun b hb=>hc.block b (hG.kin b hb).1 (fun ⟨h,pl,_,hp,hm⟩=>hG.kout b hb h pl hp hm)⟩
 ·rcases hv with hv | hv
  ·rw[hv];exact hn
  rw[hv];simp only[Option.toList_some,List.singleton_append,List.nodup_cons];exact⟨fun hm=>by have:=hlt _ (hs _ hm);omega,(aFH.1 hn).2.1⟩
 rcases aCy.1 hm with hm | hm
 ·refine⟨(yO ho g hm).2,?_⟩;rcases hv with hv | hv
  ·rw[hv] at hm;exact .inr (hd g hm)
  rw[hv] at hm;simp at hm;subst hm;exact .inl (aFC _)
 have:=hlt g (hs g hm);exact⟨aFD this hg.size,.inr (hs g hm)⟩
theorem CN {h:Nat}{pl:Pl}{C:Nat->Prop}[DecidablePred C]{w' :World}:aH K (dM C (fun x=>if x=h then some pl else none) φ) w' (.own h) pl.val:=by
 unfold aH;intro pl' hp;simp only[dM,if_true,Option.some.injEq] at hp;subst hp;rfl
section
variable {o:Oper} {s x:Operand} {t e:TypeId} {k bt:Nat} {ag:Bool} {z:Value} {del:List Nat} {d:Bool} {xs ys:List (List bX)} {h:Nat}
theorem Ip {dss:List (List Value)}(ho:o.op= .call { callee:= .builtin .append,args:= #[s,x],argTypes:= #[t,t] })(ht:P.underlying t=some (.slice e))(hk:iJ P e=some (ag,k,bt,z))(hpos:0<k)
 (htgt:Am S (S.ev s) del e k d xs) (hsrc:EY S (S.ev x) k ys) (hf:qH ys dss) (h63:xs.length+ys.length<=maxLen) (hb:(xs.length+ys.length)*bt<=140737488355328) (hfr:jP S h):
 bP P o S ⟨.own h,del,[(h,.arr e k d (xs++ys))]⟩:=by
 intro K φ A w0 N a w Q hd hG;obtain⟨css,h1,h2,h3,h4,h5,h6⟩:=CL hG htgt (hG.ev s);obtain⟨hS,hyk⟩:=L8 hG hpos hsrc hf (hG.ev x);refine uF ho ht hk hpos h1 hS hf.one h63 hb fun v' w' hown hg hv=>?_;cases d with
 | true=>
   obtain⟨Fs,q1,q2,q3⟩:=h5 rfl;obtain⟨p1,p2,p3,p4,p5⟩:=tV hG hg hown hv h4 q3 q2
   have:=hG.consume (r:= .arr e k true (xs++ys)) (pl:=⟨v',v'.ownBlock.toList,Fs.flatten⟩) (K' :=K) p3 hfr p1 p2 (fun _ h=>h) (fun _ h=> .inl h)
    ⟨css++dss,Fs++List.replicate ys.length [],by simpa using hown,rfl,by simp,(dB.kept _ _ _ _ p4 q1).append (hf.owRs hyk)⟩
   exact⟨_,_,_,rfl,this.put hd CN,rD hG p3 hfr p2⟩
 | false=>
   have q1:=h6 (.inl rfl);obtain⟨p1,p2,p3,p4,p5⟩:=tV (sub:=[]) hG hg hown hv h4 (by simp) (by cases (a.eval s).ownBlock<;>simp)
   have:=hG.consume (r:= .arr e k false (xs++ys)) (pl:=⟨v',v'.ownBlock.toList,[]⟩) (K' :=K) p3 hfr p1 p2 (fun _ h=>h) (fun _ h=> .inl h)
    ⟨css++dss,by simpa using hown,rfl,rfl,(q1.mono p5 (fun _ h=>h)).append (hf.rdRows hyk)⟩
   exact⟨_,_,_,rfl,this.put hd CN,rD hG p3 hfr p2⟩
theorem OU (ho:o.op= .call { callee:= .builtin .append,args:= #[s,x],argTypes:= #[t,t] })(ht:P.underlying t=some (.slice e))(hk:iJ P e=some (ag,k,bt,z))(hpos:0<k)
 (htgt:Am S (S.ev s) del e k d xs) (hdx:d=false\/xs= []) (hsrc:Ps S (S.ev x) k ys) (h63:xs.length+ys.length<=maxLen) (hb:(xs.length+ys.length)*bt<=140737488355328) (hfr:jP S h):
 bP P o S ⟨.own h,del,[(h,.arr e k false (xs++ys))]⟩:=by
 intro K φ A w0 N a w Q hd hG;obtain⟨css,h1,h2,h3,h4,h5,h6⟩:=CL hG htgt (hG.ev s);obtain⟨dss,hS,hR⟩:=Pt hG hsrc (hG.ev x);refine uF ho ht hk hpos h1 hS (DL hR) h63 hb fun v' w' hown hg hv=>?_;have q1:=h6 hdx;obtain⟨p1,p2,p3,p4,p5⟩:=tV (sub:=[]) hG hg hown hv h4 (by simp) (by cases (a.eval s).ownBlock<;>simp)
 have:=hG.consume (r:= .arr e k false (xs++ys)) (pl:=⟨v',v'.ownBlock.toList,[]⟩) (K' :=K) p3 hfr p1 p2 (fun _ h=>h) (fun _ h=> .inl h)
  ⟨css++dss,by simpa using hown,rfl,rfl,(q1.append hR).mono p5 (fun _ h=>h)⟩
 exact⟨_,_,_,rfl,this.put hd CN,rD hG p3 hfr p2⟩
theorem An (hG:G K φ A w0 N S a w): ∀{cs:List AV} {row:List bX} {hs:List Nat} {vs:List Value},EZ S cs row hs->hs.Nodup->aS K φ w cs vs-> ∃F,dW w row vs F/\F.Nodup/\ ∀g∈F,jD φ (· ∈hs) g
 | [],row,hs,vs,h,_,hm=>by
   unfold EZ at h;unfold aS at hm;rw[h.1,h.2,hm];exact⟨[],by unfold dW;exact⟨rfl,rfl⟩,by simp,by simp⟩
 | c::cs,row,hs,vs,h,hnd,hm=>by
   unfold EZ at h;obtain⟨x,row',g1,g2,rfl,rfl,hc,hcs⟩:=h;unfold aS at hm;obtain⟨v,vs',rfl,hv,hvs⟩:=hm;have hn:=aFH.1 hnd;obtain⟨F2,r1,r2,r3⟩:=An hG hcs hn.2.1 hvs
   have hone: ∃F1,sG w x v F1/\F1.Nodup/\ ∀g∈F1,jD φ (· ∈g1) g:=by
    unfold aCv at hc;split at hc
    ·obtain⟨rfl,hs,rfl⟩:=hc;unfold aH at hv;refine⟨[],?_,by simp,by simp⟩;cases x<;>unfold jX at hv<;>unfold sG
     ·exact⟨hv,rfl⟩
     ·exact⟨hv,rfl⟩
     ·exact⟨hv,rfl⟩
     ·simp[bX.val?] at hs
     exact⟨hv,rfl⟩
    ·rename_i g;obtain⟨e,k,ys,hr,rfl,rfl⟩:=hc;obtain⟨pl,hp,css,Fs,q1,q2,q3,q4⟩:=hG.dom g _ hr;unfold aH at hv;have e1:=hv pl hp;subst e1;refine⟨pl.F,?_,hG.nodup g pl hp,fun b hb=>⟨g,pl,by simp,hp,hb⟩⟩;unfold sG;exact⟨css,Fs,q1,by unfold Pl.F;rw[q2,q3],q4⟩
    ·obtain⟨e,k,rfl,rfl⟩:=hc;unfold aH at hv;refine⟨[],?_,by simp,by simp⟩;unfold sG;exact⟨[],[],by rw[hv];exact⟨by simp,.inl ⟨rfl,rfl⟩⟩,by rw[hv];rfl,by unfold dB;exact⟨rfl,rfl⟩⟩
    exact hc.elim
   obtain⟨F1,s1,s2,s3⟩:=hone;refine⟨F1++F2,by unfold dW;exact⟨v,vs',F1,F2,rfl,rfl,s1,r1⟩,?_,fun g hg=>?_⟩
   ·rw[aFH];refine⟨s2,r2,fun p hp q hq e=>?_⟩;subst e;obtain⟨h1,pl1,m1,p1,b1⟩:=s3 p hp;obtain⟨h2,pl2,m2,p2,b2⟩:=r3 p hq;exact hG.disj h1 h2 pl1 pl2 (fun e=>hn.2.2 h1 m1 h2 m2 e) p1 p2 p b1 b2
   rcases aCy.1 hg with hg | hg
   ·obtain⟨h1,pl1,m1,p1,b1⟩:=s3 g hg;exact⟨h1,pl1,aDG _ m1,p1,b1⟩
   obtain⟨h1,pl1,m1,p1,b1⟩:=r3 g hg;exact⟨h1,pl1,aCX _ m1,p1,b1⟩
theorem Pu {w:World}{row:List bX}{vs:List Value}{F:List Nat}(h:dW w row vs F): ∀u∈vs,u.oneCell' =true:=
 (oB (K:=fun _=>True) (φ:=fun _=>none) (w:=w) (o:=none) (fun x v=>by unfold aH;exact Iff.rfl) (dW.rd (A:=fun _=>True) row vs F (by simp) h)).2
theorem Iq {h2:Nat}{e2:TypeId}{cs:List AV}{row:List bX}{hs:List Nat}(ho:o.op= .call { callee:= .builtin .append,args:= #[s,x],argTypes:= #[t,t] })(ht:P.underlying t=some (.slice e))(hk:iJ P e=some (ag,k,bt,z))(hpos:0<k)
 (htgt:Am S (S.ev s) del e k d xs) (hdx:d=true\/xs= []) (hx:S.ev x= .bsl h2 1) (hr:S.res h2=some (.box e2 cs)) (hm:EZ S cs row hs) (hrow:row.length=k) (hnd:(del++hs).Nodup) (h63:xs.length+1<=maxLen) (hb:(xs.length+1)*bt<=140737488355328) (hfr:jP S h):
 bP P o S ⟨.own h,del++hs,[(h,.arr e k true (xs++[row]))]⟩:=by
 intro K φ A w0 N a w Q hd hG;obtain⟨css,h1,h2',h3,h4,h5,h6⟩:=CL hG htgt (hG.ev s);obtain⟨g,vs,hp,hB,hone,hl⟩:=hG.boxed hr;have hn:=aFH.1 hnd;obtain⟨F,r1,r2,r3⟩:=An hG hm hn.2.1 hl;have hev:=hG.ev x;rw[hx] at hev;unfold aH at hev;obtain⟨g',hg',he⟩:=hev _ hp;simp only[List.cons.injEq,and_true] at hg';subst hg'
 have hS:Lq w k (a.eval x) 1 vs.toList:=by
  rw[he];exact Lq.one hB (by have:=r1.len;simp at this;omega)
 have hT: ∃Fs,dB w k xs css Fs/\((a.eval s).ownBlock.toList++Fs.flatten).Nodup/\ ∀g∈Fs.flatten,jD φ (· ∈del) g:=by
  cases d with
  | true=>exact h5 rfl
  | false=>
    have hxs:xs= []:=by rcases hdx with h | h;cases h;exact h
    subst hxs;have:css= []:=aDE (by simpa using h2');subst this;exact⟨[],by unfold dB;exact⟨rfl,rfl⟩,by cases (a.eval s).ownBlock<;>simp,by simp⟩
 obtain⟨Fs,q1,q2,q3⟩:=hT;refine uF ho ht hk hpos h1 hS (Pu r1) h63 hb fun v' w' hown hg hv=>?_;have up1: ∀b,jD φ (· ∈del) b->jD φ (· ∈del++hs) b:=fun b ⟨h1,pl1,m1,p1,b1⟩=>⟨h1,pl1,aDG _ m1,p1,b1⟩;have up2: ∀b,jD φ (· ∈hs) b->jD φ (· ∈del++hs) b:=fun b ⟨h1,pl1,m1,p1,b1⟩=>⟨h1,pl1,aCX _ m1,p1,b1⟩;have apart: ∀b,jD φ (· ∈del) b-> ¬jD φ (· ∈hs) b:=fun b ⟨h1,pl1,m1,p1,b1⟩ ⟨h2,pl2,m2,p2,b2⟩=>hG.disj h1 h2 pl1 pl2 (fun e=>hn.2.2 h1 m1 h2 m2 e) p1 p2 b b1 b2
 obtain⟨p1,p2,p3,p4,p5⟩:=tV (del:=del++hs) (sub:=Fs.flatten++F) hG hg hown hv (fun g hg=>up1 g (h4 g hg)) (fun g hg=>by rcases aCy.1 hg with hg | hg;exact up1 g (q3 g hg);exact up2 g (r3 g hg)) (by
  rw[<-aD2,aFH];refine⟨q2,r2,fun p hp q hq e=>?_⟩;subst e;rcases aCy.1 hp with hp | hp
  ·exact apart p (h4 p hp) (r3 p hq)
  exact apart p (q3 p hp) (r3 p hq))
 have:=hG.consume (r:= .arr e k true (xs++[row])) (pl:=⟨v',v'.ownBlock.toList,Fs.flatten++F⟩) (K' :=K) p3 hfr p1 p2 (fun _ h=>h) (fun _ h=> .inl h)
  ⟨css++[vs.toList],Fs++[F],by simpa using hown,rfl,by simp,(dB.kept _ _ _ _ (p4.mono fun g hg=>aDG _ hg) q1).append (by unfold dB;exact⟨vs.toList,[],F,[],rfl,rfl,hrow,dW.kept _ _ _ (p4.mono fun g hg=>aCX _ hg) r1,by unfold dB;exact⟨rfl,rfl⟩⟩)⟩
 exact⟨_,_,_,rfl,this.put hd CN,rD hG p3 hfr p2⟩
def L9:List AV->List bX->Prop
 | [],row=>row= []
 | .p none y::cs,row=> ∃row',row=y::row' /\L9 cs row'
 | .nil::cs,row=> ∃e k row',row= .sl e k []::row' /\L9 cs row'
 | _::_,_=>False
theorem So {K:Nat->Prop}{φ:jS}{w:World}: ∀{cs:List AV} {ys:List bX} {vs:List Value},L9 cs ys->aS K φ w cs vs->oL K w ys vs
 | [],ys,vs,h,hm=>by
   unfold L9 at h;unfold aS at hm;rw[h,hm];rfl
 | .p none y::cs,ys,vs,h,hm=>by
   unfold L9 at h;obtain⟨row',rfl,h⟩:=h;unfold aS at hm;obtain⟨v,vs',rfl,h1,h2⟩:=hm;unfold aH at h1;exact⟨v,vs',rfl,h1,So h h2⟩
 | .nil::cs,ys,vs,h,hm=>by
   unfold L9 at h;obtain⟨e,k,row',rfl,h⟩:=h;unfold aS at hm;obtain⟨v,vs',rfl,h1,h2⟩:=hm;unfold aH at h1;exact⟨v,vs',rfl,by rw[h1];unfold jX;exact⟨none,0,rfl,aBC _,by simp,by unfold iH;trivial⟩,So h h2⟩
 | .p (some _) _::_,_,_,h,_=>by unfold L9 at h;cases h
 | .own _::_,_,_,h,_=>by unfold L9 at h;cases h
 | .agg _::_,_,_,h,_=>by unfold L9 at h;cases h
 | .tup _::_,_,_,h,_=>by unfold L9 at h;cases h
 | .ptr _ _::_,_,_,h,_=>by unfold L9 at h;cases h
 | .ep _ _ _ _::_,_,_,h,_=>by unfold L9 at h;cases h
 | .rp _ _::_,_,_,h,_=>by unfold L9 at h;cases h
 | .fn _ _::_,_,_,h,_=>by unfold L9 at h;cases h
 | .bsl _ _::_,_,_,h,_=>by unfold L9 at h;cases h
 | .no::_,_,_,h,_=>by unfold L9 at h;cases h
theorem Eb {K:Nat->Prop}{w:World}: ∀{ys:List bX} {vs:List Value},oL K w ys vs->vs.length=ys.length
 | [],vs,h=>by rw[show vs= [] from h];rfl
 | y::ys,_,⟨v,vs',e,_,h⟩=>by rw[e,aEb,aEb,Eb h]
theorem Ir {x y:Operand}{t2:TypeId}{n off:Nat}{i:Nat}{row ys:List bX}{bt2:Nat}(ho:o.op= .store t2 x y)(ht:iJ P t2=some (ag,n,bt2,z))(hx:S.ev x= .ep h k i off)
 (hh:S.res h=some (.arr e k false xs)) (hr:xs[i]? =some row) (hc:sO S (S.ev y)) (hy:L9 (gJ (S.ev y)) ys) (hn:ys.length=n) (hl:off+n<=row.length):
 bP P o S ⟨.no,[h],[(h,.arr e k false (xs.set i (row.take off++ys++row.drop (off+n))))]⟩:=by
 intro K φ A w0 N a w Q hd hG;have hev:=hG.ev y;obtain⟨hml,hone⟩:=sP hG hc hev;have hrd:=So hy hml;generalize hval:(a.eval y).cells.toList=us at*;have hsz:=(iE ht w).2.1;have hus:=Eb hrd;obtain⟨pl,css,hp,hown,hcl,hck,htop,hrows⟩:=hG.owned hh;have hi:i<xs.length:=(aCO.1 hr).1;obtain⟨b,c,hv,_,_,hb⟩:=lL hown;obtain⟨g,rfl,_,_⟩:=hb aGR;have h2:=hG.ev x;rw[hx] at h2;unfold aH at h2;obtain⟨g',hg',he⟩:=h2 pl hp;have htop' :pl.top= [g]:=by rw[htop,hv];rfl
 rw[htop'] at hg';simp only[List.cons.injEq,and_true] at hg';subst hg';have hk:row.length=k:=(hrows i row _ hr (aBP aGR)).1
 have hlt:i*k+off+us.length<=xs.length*k:=by
  have:(i+1)*k<=xs.length*k:=Nat.mul_le_mul_right k aGR;rw[Nat.add_mul] at this;omega
 have hown' :=hown;rw[hv] at hown';have hrun:=pE (P:=P) (o0:=i*k+off) us 0 w _ hown' aGR hone;unfold Oper.wp
 have:(execOp a.eval o).run P w= .ok .skip (setCells w g (i*k+off+0) us):=by
  have hsize:(a.eval y).cells.size=n:=by rw[<-aGG,hval];omega
  simp only[execOp,ho,he,Instr.storeAt,Instr.sureAddr,storeVar,Sem.run_bind,Sem.run_pure,Result.andThen_ok,hsz,hsize,ne_eq,not_true_eq_false,if_false,hval,hrun]
 rw[this,Oper.upon_skip,Nat.add_zero];have hchg:Ag (· ∈pl.top) w (setCells w g (i*k+off) us):=by rw[htop'];exact EW us
 have hsame:fC K w (setCells w g (i*k+off) us):=fun b hb=>hchg.block b (hG.kin b hb).1 (fun hm=>hG.kout b hb h _ hp (aDG _ hm));have hlen2:(row.take off++ys++row.drop (off+n)).length=k:=by simp;omega
 have hH:Holds K φ (setCells w g (i*k+off) us) pl (.arr e k false (xs.set i (row.take off++ys++row.drop (off+n)))):=by
  obtain⟨pl',hp',hh'⟩:=hG.dom h _ hh;rw[hp] at hp';injection hp' with e'
  subst e';obtain⟨css2,q1,q2,q3,q4⟩:=hh';have hi2:i<css2.length:=by rw[q4.len.1];exact hi
  have q5:css2[i]? =some css2[i]:=aBP hi2;have hq:=(q4.at_ hr q5).2;generalize css2[i]=vs at*
  have er:row=row.take off++((row.drop off).take n++row.drop (off+n)):=by
   rw[show row.drop (off+n)=(row.drop off).drop n by rw[List.drop_drop],List.take_append_drop,List.take_append_drop]
  rw[er] at hq;obtain⟨ca,c',rfl,t1,t2'⟩:=CM hq;obtain⟨cb,cc,rfl,t3,t4⟩:=CM t2';have la:=Eb t1;have lb:=Eb t3;have lc:=Eb t4;simp only[aF5,aF6] at la lb lc;have a1:ca.length=off:=aGR
  have a2:cb.length=n:=aGR
  have e1:(ca++(cb++cc)).take off=ca:=by rw[<-a1];exact List.take_left
  have e2:(ca++(cb++cc)).drop (off+us.length)=cc:=by rw[<-aD2,show off+us.length=(ca++cb).length by rw[aEh];omega];exact List.drop_left
  refine⟨css2.set i (ca++us++cc),?_,q2,q3,(q4.mono hsame (fun _ h=>h)).set_ (oL.append (oL.append (t1.mono hsame (fun _ h=>h)) (hrd.mono hsame (fun _ h=>h))) (t4.mono hsame (fun _ h=>h))) hlen2⟩;have:=sF us (o:=i*k+off) (by rw[hv] at q1;exact q1);rw[CK us css2 i off (ca++(cb++cc)) q4.len.2 q5 aGR,H8 (by simp only[aEh];omega),e1,e2] at this;rw[hv];simpa using this
 exact⟨_,_,_,rfl,(hG.writeH hh hp hchg hH).put hd (by unfold aH;trivial),Il hG hp hchg⟩
theorem It {h2 hp:Nat}{e2 e3:TypeId}{k3:Nat}{zs:List (List bX)}(ho:o.op= .call { callee:= .builtin .append,args:= #[s,x],argTypes:= #[t,t] })(ht:P.underlying t=some (.slice e))(hk:iJ P e=some (ag,1,bt,z))
 (htgt:Am S (S.ev s) del e 1 true xs) (hx:S.ev x= .bsl h2 1) (hr:S.res h2=some (.box e2 [.own hp])) (hhp:S.res hp=some (.arr e3 k3 true zs)) (hnd:hp ∉ del) (h63:xs.length+1<=maxLen) (hb:(xs.length+1)*bt<=140737488355328) (hfr:jP S h):
 bP P o S ⟨.own h,del,[(h,.hole e 1 (xs++[[.sl e3 k3 zs]]) xs.length 0 hp)]⟩:=by
 intro K φ A w0 N a w Q hd hG;obtain⟨css,h1,h2',h3,h4,h5,h6⟩:=CL hG htgt (hG.ev s);obtain⟨g,vs,hpb,hB,hone,hl⟩:=hG.boxed hr;have hev:=hG.ev x;rw[hx] at hev;unfold aH at hev;obtain⟨g',hg',he⟩:=hev _ hpb;simp only[List.cons.injEq,and_true] at hg';subst hg';unfold aS at hl;obtain⟨v,vs',hvs,hv,hnil⟩:=hl;unfold aS at hnil;subst hnil;obtain⟨plp,hpp,_⟩:=hG.dom hp _ hhp;unfold aH at hv;have hve:=hv plp hpp;have hvl:vs.toList.length=1:=by rw[hvs];rfl
 have hS:Lq w 1 (a.eval x) 1 vs.toList:=by
  rw[he];exact Lq.one hB (by simpa using hvl)
 obtain⟨Fs,q1,q2,q3⟩:=h5 rfl;have hne:hp≠h:=fun q=>by subst q;have:=hfr.2.2.1;rw[hhp] at this;cases this
 refine uF ho ht hk aGR h1 hS hone h63 hb fun v' w' hown hg hv' =>?_;obtain⟨p1,p2,p3,p4,p5⟩:=tV (del:=del) (sub:=Fs.flatten) hG hg hown hv' h4 q3 q2
 have:=hG.consume (r:= .hole e 1 (xs++[[.sl e3 k3 zs]]) xs.length 0 hp) (pl:=⟨v',v'.ownBlock.toList,Fs.flatten⟩) (K' :=K) p3 hfr p1 p2 (fun _ h=>h) (fun _ h=> .inl h)
  ⟨xs,[],.sl e3 k3 zs,[],[],css,[],v,[],[],Fs,[],[],[],rfl,rfl,rfl,rfl,by simpa [hvs] using hown,rfl,by simp,dB.kept _ _ _ _ p4 q1,by unfold dW;exact⟨rfl,rfl⟩,by unfold dW;exact⟨rfl,rfl⟩,by unfold dB;exact⟨rfl,rfl⟩,hone v (by rw[hvs];simp),fun pl' e' =>by
   simp only[dM,if_neg hne,if_neg hnd,hpp,Option.some.injEq] at e';rw[<-e'];exact hve⟩
 exact⟨_,_,_,rfl,this.put hd CN,rD hG p3 hfr p2⟩
theorem Iu {h0 h2 hp i j:Nat}{e2:TypeId}{cs:List AV}{row:List bX}{hs:List Nat}(ho:o.op= .call { callee:= .builtin .append,args:= #[s,x],argTypes:= #[t,t] })(ht:P.underlying t=some (.slice e))(hk:iJ P e=some (ag,k,bt,z))(hpos:0<k)
 (hs0:S.ev s= .own h0) (hr0:S.res h0=some (.hole e k xs i j hp)) (hx:S.ev x= .bsl h2 1) (hr:S.res h2=some (.box e2 cs)) (hm:EZ S cs row hs) (hrow:row.length=k) (hnd:(h0::hs).Nodup) (hnp:hp ∉ h0::hs) (hne:hp≠h) (h63:xs.length+1<=maxLen) (hb:(xs.length+1)*bt<=140737488355328) (hfr:jP S h):
 bP P o S ⟨.own h,h0::hs,[(h,.hole e k (xs++[row]) i j hp)]⟩:=by
 intro K φ A w0 N a w Q hd hG;obtain⟨pl0,hp0,xs1,x1,d1,x2,xs2,css1,c1,v,c2,css2,Fs1,F1,F2,Fs2,e0,e1,e2',e3,t1,t2,t3,t4,t5,t6,t7,t8⟩:=hG.dom h0 _ hr0;have hv0:=hG.ev s;rw[hs0] at hv0;unfold aH at hv0;have hv0:=hv0 pl0 hp0;obtain⟨g,vs,hpb,hB,hone,hl⟩:=hG.boxed hr;have hn:=aFH.1 (show ([h0]++hs).Nodup from hnd);obtain⟨F,r1,r2,r3⟩:=An hG hm hn.2.1 hl;have hev:=hG.ev x;rw[hx] at hev;unfold aH at hev;obtain⟨g',hg',he⟩:=hev _ hpb;simp only[List.cons.injEq,and_true] at hg';subst hg'
 have hS:Lq w k (a.eval x) 1 vs.toList:=by
  rw[he];exact Lq.one hB (by have:=r1.len;simp at this;omega)
 rw[<-hv0] at t1 t2
 let sub0:=Fs1.flatten++((F1++F2)++Fs2.flatten)
 have q2:((a.eval s).ownBlock.toList++sub0).Nodup:=by have:=hG.nodup h0 pl0 hp0;unfold Pl.F at this;rw[t2,t3] at this;exact this
 have f0: ∀b,b∈pl0.F->jD φ (· ∈h0::hs) b:=fun b hb=>⟨h0,pl0,by simp,hp0,hb⟩;have h4: ∀g∈(a.eval s).ownBlock.toList,jD φ (· ∈h0::hs) g:=fun g hg=>f0 g (by unfold Pl.F;rw[t2];exact aDG _ hg);have q3: ∀g∈sub0,jD φ (· ∈h0::hs) g:=fun g hg=>f0 g (by unfold Pl.F;rw[t3];exact aCX _ hg);have up2: ∀b,jD φ (· ∈hs) b->jD φ (· ∈h0::hs) b:=fun b ⟨h1,pl1,m1,p1,b1⟩=>⟨h1,pl1,aFR _ m1,p1,b1⟩;have apart: ∀b,b∈pl0.F-> ¬jD φ (· ∈hs) b:=fun b b1 ⟨h2,pl2,m2,p2,b2⟩=>hG.disj h0 h2 pl0 pl2 (fun e=>hn.2.2 h0 (by simp) h2 m2 e) hp0 p2 b b1 b2;refine uF ho ht hk hpos t1 hS (Pu r1) h63 hb fun v' w' hown hg hv=>?_
 obtain⟨p1,p2,p3,p4,p5⟩:=tV (del:=h0::hs) (sub:=sub0++F) hG hg hown hv h4 (fun g hg=>by rcases aCy.1 hg with hg | hg;exact q3 g hg;exact up2 g (r3 g hg)) (by
  rw[<-aD2,aFH];refine⟨q2,r2,fun p hp q hq e=>?_⟩;subst e;refine apart p ?_ (r3 p hq);unfold Pl.F;rw[t2,t3];exact hp)
 have:=hG.consume (r:= .hole e k (xs++[row]) i j hp) (pl:=⟨v',v'.ownBlock.toList,sub0++F⟩) (K' :=K) p3 hfr p1 p2 (fun _ h=>h) (fun _ h=> .inl h)
  ⟨xs1,x1,d1,x2,xs2++[row],css1,c1,v,c2,css2++[vs.toList],Fs1,F1,F2,Fs2++[F],by rw[e0];simp,e1,e2',e3,by simpa using hown,rfl,by simp[sub0],
   dB.kept _ _ _ _ (p4.mono fun g hg=>by simp only[sub0,aCy];exact .inl (.inl hg)) t4,dW.kept _ _ _ (p4.mono fun g hg=>by simp only[sub0,aCy];exact .inl (.inr (.inl (.inl hg)))) t5,dW.kept _ _ _ (p4.mono fun g hg=>by simp only[sub0,aCy];exact .inl (.inr (.inl (.inr hg)))) t6,
   (dB.kept _ _ _ _ (p4.mono fun g hg=>by simp only[sub0,aCy];exact .inl (.inr (.inr hg))) t7).append (by unfold dB;exact⟨vs.toList,[],F,[],rfl,rfl,hrow,dW.kept _ _ _ (p4.mono fun g hg=>aCX _ hg) r1,by unfold dB;exact⟨rfl,rfl⟩⟩),
   t8.1,fun pl' e' =>by
    simp only[dM,if_neg hne,if_neg hnp] at e';exact t8.2 pl' e'⟩
 exact⟨_,_,_,rfl,this.put hd CN,rD hG p3 hfr p2⟩
end
end
end Go.Proofs.YtgamjlgfnmpcjaaGreat
