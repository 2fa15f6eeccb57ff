/-
  Contracts and plain laws, joined: part 10.
-/
import Derived.Test.YtafmaholhcgakaaGreatfs3
import Derived.Test.YtafmaholhcgakaaGreatfs6
import Derived.Test.YtafmaholhcgakaaGreatfs7
import Derived.Test.YtafmaholhcgakaaGreatfs8
import Derived.Test.YtafmaholhcgakaaGreatfs4
import Derived.Shelf.Sort.Plain
import Derived.Shelf.Slices.In.SortNone
import Derived.Sort.OwnSortedInts
import Derived.Shelf.SlicesE.Compact
import Derived.Ground.SlgnProg
namespace Go.Proofs.YtafmaholhcgakaaGreat
open Go.ChangeShapes Go.WideShapes Go.ChangeAt Go.RowKit
set_option linter.unusedVariables false
set_option linter.unusedSimpArgs false
set_option maxRecDepth 100000
set_option maxHeartbeats 4000000
abbrev aE5 (l:List Int):Prop:=Cn 5 [.one (.sl 5 1 (l.map aZ))] (vB (decide (1048576<(l.length:Int)))) []
theorem aN9 (l:List Int):aE5 l:=by
 refine cq Tryz.func5 (.len l.length<| .fin []) (p:=Lx (l.map aZ)<| Lm aZ l/\(decide (1048576<(l.length:Int)))=(decide (1048576<(l.length:Int)))/\True) (by kernel_rfl) ?_;refine lx fun n0=>?_;refine⟨aAK _,?_,trivial⟩
 ·rfl
def cS (l:List Int)(val:Int)(c:Cu):Int × Cu:=aA l c val
def cG (l:List Int)(u:Cu)(xs:List ByteArray):ByteArray × Cu:=(xs.getD (aA l u xs.length).1.toNat ⟨#[]⟩,(aA l u xs.length).2)
theorem aLk {l:List Int}{u:Cu}{xs:List ByteArray}{x:ByteArray}(h:xs[(aA l u xs.length).1.toNat]? =some x):cG l u xs=(x,(aA l u xs.length).2):=by rw[cG,aEP,h];rfl
theorem aJf (l:List Int)(u:Cu){xs:List ByteArray}(h:0<xs.length):(cG l u xs).1∈xs:=by
 have hb:=cP l u (n:=xs.length) (by omega);have hlt:(aA l u xs.length).1.toNat<xs.length:=by omega
 rw[cG,aEP,aBI hlt];exact aMZ hlt
theorem mJ (l:List Int)(u:Cu){xs:List ByteArray}{m:Nat}(h:0<xs.length)(hs: ∀x∈xs,x.size<=m):(cG l u xs).1.size<=m:=hs _ (aJf l u h)
structure TS where
 rows:List (List Int)
 cu:Cu
def aHe (l:List Int)(ar:Nat)(val:Int)(s:TS):TS:=⟨iY (cR (cS l val) ar s.cu).1 s.rows,(cR (cS l val) ar s.cu).2⟩
theorem aGi (l:List Int)(ar:Nat)(val:Int)(s:TS): ∀j,(lS (aHe l ar val) j s).rows.length<=s.rows.length+j
 | 0=>aKC _
 | j+1=>by
   have h:=aGi l ar val s j;have h2:=aCd (row:=(cR (cS l val) ar (lS (aHe l ar val) j s).cu).1) (xs:=(lS (aHe l ar val) j s).rows);rw[lS,aHe]
   dsimp only
   omega
theorem aGj {l:List Int}{ar m:Nat}(hm:ar<=m){val:Int}{s:TS}(hs: ∀r∈s.rows,r.length<=m): ∀j,∀r∈(lS (aHe l ar val) j s).rows,r.length<=m
 | 0,r,hr=>hs r hr
 | j+1,r,hr=>by
   rw[lS,aHe] at hr;rcases zN.1 hr with rfl | hr
   ·rw[uH];exact hm
   exact aGj hm hs j r hr
def eS (l:List Int)(u:Cu)(ar:Nat)(most val:Int)(j:Nat):TS:=lS (aHe l ar val) j ⟨[],(aA l u (most+1)).2⟩
def aPH (l:List Int)(u:Cu)(ar:Nat)(most val:Int):TS:=eS l u ar most val (aA l u (most+1)).1.toNat
def dF (l:List Int)(u:Cu)(nm:ByteArray)(ar most val:Int):aJ × Cu:=(⟨nm,ar,(aPH l u ar.toNat most val).rows⟩,(aPH l u ar.toNat most val).cu)
theorem aCt (l:List Int)(u:Cu)(ar:Nat)(most val:Int)(j:Nat):(eS l u ar most val j).rows.length<=j:=by
 have h:=aGi l ar val ⟨[],(aA l u (most+1)).2⟩ j;simpa [eS] using h
theorem aHf (l:List Int)(u:Cu){ar:Nat}(har:ar<=3)(most val:Int){j:Nat}(hj:j<=8):cM (eS l u ar most val j).rows<=32:=by
 have h1:=aCt l u ar most val j;have h2:=nV (l:=(eS l u ar most val j).rows) (m:=3) (aGj har (by simp) j);omega
theorem aBa (l:List Int)(u:Cu)(nm:ByteArray)(ar:Int){most:Int}(h0:0<=most)(val:Int):((dF l u nm ar most val).1.rows.length:Int)<=most:=by
 have h1:=aCt l u ar.toNat most val (aA l u (most+1)).1.toNat;have h2:=cP l u (n:=most+1) (by omega);show ((eS l u ar.toNat most val (aA l u (most+1)).1.toNat).rows.length:Int)<=most;omega
theorem aLl (l:List Int)(u:Cu)(nm:ByteArray){ar:Int}(har:ar<=3){most:Int}(h0:0<=most)(h8:most<=8)(val:Int):cY (dF l u nm ar most val).1<=nm.size+32:=by
 have h2:=cP l u (n:=most+1) (by omega);have h3:=aHf l u (ar:=ar.toNat) (by omega) most val (j:=(aA l u (most+1)).1.toNat) (by omega);show nm.size+cM (eS l u ar.toNat most val (aA l u (most+1)).1.toNat).rows<=nm.size+32;omega
theorem vA {α:Type}{c:α->Nat}{m:Nat}: ∀{l:List α},(∀x∈l,c x<=m)->kF c l<=l.length+l.length*m
 | [],_=>by simp[kF]
 | x::l,h=>by
   have h1:=vA (l:=l) (fun y hy=>h y (aLo _ hy));have h2:=h x aKS;simp only[kF,aGQ,List.sum_cons,aIl,Nat.add_mul,Nat.one_mul] at h1 ⊢;omega
theorem aAc {α:Type}(c:α->Nat)(l:List α)(x:α):kF c (l++[x])=kF c l+1+c x:=by
 simp only[kF,aJi,aIl,List.length_nil,aG0,aGQ,List.map_nil,List.sum_append,List.sum_cons,List.sum_nil];omega
def rN {α:Type}(l:List α)(i:Nat)(f:α->α):List α:=match l[i]? with | some e=>l.set i (f e) | none=>l
theorem aGk {α:Type}{l:List α}{i:Nat}{f:α->α}{e:α}(h:l[i]? =some e):rN l i f=l.set i (f e):=by rw[rN,h]
theorem aJg {α:Type}(l:List α)(i:Nat)(f:α->α):(rN l i f).length=l.length:=by unfold rN;split;exact aEj;rfl
theorem aJh {α:Type}{l:List α}{i:Nat}{f:α->α}{p:α->Prop}(hl: ∀x∈l,p x)(hf: ∀x,p x->p (f x)): ∀x∈rN l i f,p x:=by
 unfold rN;split
 ·rename_i e he;intro x hx;rcases List.mem_or_eq_of_mem_set hx with h | rfl
  ·exact hl x h
  exact hf _ (hl _ (aBA he))
 exact hl
def nmL:List ByteArray:=[⟨#[114]⟩,⟨#[115]⟩,⟨#[116]⟩,⟨#[117]⟩,⟨#[118]⟩]
def arN (n:ByteArray):Int:=if n=⟨#[118]⟩ then 1 else if n=⟨#[117]⟩ then 3 else 2
theorem aNa (n:ByteArray):1<=arN n/\arN n<=3:=by unfold arN;split;omega;split;omega;omega
theorem aGl: ∀k,(nmL.getD k ⟨#[]⟩).size<=1
 | 0 | 1 | 2 | 3 | 4=>aKC _
 | _+5=>aAd _
structure DS where
 tabs:List aJ
 cu:Cu
def dbG (l:List Int)(most val:Int)(n:ByteArray)(s:DS):DS:=⟨s.tabs++[(dF l s.cu n (arN n) most val).1],(dF l s.cu n (arN n) most val).2⟩
def dbP (l:List Int)(most val:Int):Nat->DS->DS
 | 0,s=>s
 | k+1,s=>dbG l most val (nmL.getD k ⟨#[]⟩) (dbP l most val k s)
theorem aIi (l:List Int)(most val:Int)(s:DS): ∀k,(dbP l most val k s).tabs.length=s.tabs.length+k
 | 0=>rfl
 | k+1=>by
   have h:=aIi l most val s k;rw[dbP,dbG];simp only[aJi,aIl,List.length_nil];omega
theorem aIj {l:List Int}{most val:Int}(h0:0<=most)(h8:most<=8){s:DS}(hs: ∀t∈s.tabs,cY t<=33/\t.rows.length<=8): ∀k,∀t∈(dbP l most val k s).tabs,cY t<=33/\t.rows.length<=8
 | 0,t,ht=>hs t ht
 | k+1,t,ht=>by
   rw[dbP,dbG] at ht;rcases aD4.1 ht with ht | ht
   ·exact aIj h0 h8 hs k t ht
   rw[aLp.1 ht];have h1:=aLl l (dbP l most val k s).cu (nmL.getD k ⟨#[]⟩) (ar:=arN (nmL.getD k ⟨#[]⟩)) (aNa _).2 h0 h8 val;have h2:=aBa l (dbP l most val k s).cu (nmL.getD k ⟨#[]⟩) (arN (nmL.getD k ⟨#[]⟩)) h0 val;have h3:=aGl k;exact⟨by omega,by omega⟩
def iZ (l:List Int)(u:Cu):Int × Cu:=bJ l u [2,3,4,6]
def jL (l:List Int)(u:Cu):Int × Cu:=bJ l (iZ l u).2 [2,4,6,8]
def cU (l:List Int)(u:Cu)(k:Nat):DS:=dbP l (jL l u).1 (iZ l u).1 k ⟨[],(jL l u).2⟩
def noR (t:aJ):aJ:=⟨t.name,t.arity,[]⟩
def dbI (l:List Int)(u:Cu):Int × Cu:=aA l (aA l (cU l u 5).cu 8).2 5
def eR (l:List Int)(u:Cu):aI × Cu:=if (aA l (cU l u 5).cu 8).1=0 then (⟨rN (cU l u 5).tabs (dbI l u).1.toNat noR⟩,(dbI l u).2) else (⟨(cU l u 5).tabs⟩,(aA l (cU l u 5).cu 8).2)
theorem aIk (l:List Int)(u:Cu):0<=(jL l u).1/\(jL l u).1<=8:=by
 have h:=aLM l (iZ l u).2 (xs:=[2,4,6,8]) (by decide);have e:(jL l u).1=(bJ l (iZ l u).2 [2,4,6,8]).1:=rfl;rw[e];simp only[aHB,List.not_mem_nil,or_false] at h;omega
theorem aFT (l:List Int)(u:Cu)(k:Nat):(∀t∈(cU l u k).tabs,cY t<=33/\t.rows.length<=8)/\(cU l u k).tabs.length=k:=by
 have h:=aIk l u;exact⟨aIj h.1 h.2 (by simp) k,by rw[cU,aIi];exact Nat.zero_add k⟩
theorem aFU (l:List Int)(u:Cu):(∀t∈(eR l u).1.tables,cY t<=33/\t.rows.length<=8)/\(eR l u).1.tables.length=5:=by
 have h:=aFT l u 5;unfold eR;split
 ·refine⟨aJh h.1 fun t ht=>?_,by rw[<-h.2];exact aJg _ _ _⟩;have e:cY t=t.name.size+cM t.rows:=rfl;have e2:cY (noR t)=t.name.size+cM []:=rfl;have e3:cM []=0:=rfl;exact⟨by omega,aAd _⟩
 exact h
theorem aLm (l:List Int)(u:Cu):aT (eR l u).1<=170:=by
 have h:=aFU l u;have h2:=vA (c:=cY) (fun t ht=>(h.1 t ht).1);rw[h.2] at h2;exact h2
def t4N (l:List Int)(u:Cu):ByteArray × Cu:=cG l u [⟨#[114]⟩,⟨#[115]⟩,⟨#[116]⟩]
def t4A (l:List Int)(u:Cu):Int × Cu:=aA l (t4N l u).2 3
def mK (l:List Int)(u:Cu):aJ × Cu:=dF l (t4A l u).2 (t4N l u).1 (1+(t4A l u).1) 6 4
def lQ (l:List Int)(u:Cu):Int × Cu:=aA l (mK l u).2 12
def pT (l:List Int)(u:Cu):aJ × Cu:=
 if (lQ l u).1=0 then (⟨(cG l (lQ l u).2 [⟨#[]⟩,⟨#[82]⟩,⟨#[114,115]⟩,⟨#[122]⟩]).1,(mK l u).1.arity,(mK l u).1.rows⟩,(cG l (lQ l u).2 [⟨#[]⟩,⟨#[82]⟩,⟨#[114,115]⟩,⟨#[122]⟩]).2)
 else if (lQ l u).1=1 then (⟨(mK l u).1.name,(bJ l (lQ l u).2 [0,4,-1]).1,(mK l u).1.rows⟩,(bJ l (lQ l u).2 [0,4,-1]).2)
 else if (lQ l u).1=2 then (⟨(mK l u).1.name,(mK l u).1.arity,(mK l u).1.rows++[[0]]⟩,(lQ l u).2)
 else if (lQ l u).1=3 then (⟨(mK l u).1.name,(mK l u).1.arity,(mK l u).1.rows++[[9,9,10]]⟩,(lQ l u).2)
 else ((mK l u).1,(lQ l u).2)
theorem zW (l:List (List Int))(r:List Int):cM (l++[r])=cM l+1+r.length:=by
 simp only[cM,kF,aJi,aIl,List.length_nil,aG0,aGQ,List.map_nil,List.sum_append,List.sum_cons,List.sum_nil];show _+1+(_+(r.length+0))=_;omega
theorem aNu (l:List Int)(u:Cu):(mK l u).1.name.size<=1/\cM (mK l u).1.rows<=32/\(mK l u).1.rows.length<=6:=by
 have h1:(t4N l u).1.size<=1:=mJ l u (by decide) (by decide);have h2:=cP l (t4N l u).2 (n:=3) (by omega);have h3:=cP l (t4A l u).2 (n:=6+1) (by omega);have h4:=aHf l (t4A l u).2 (ar:=(1+(t4A l u).1).toNat) (by have e:(t4A l u).1=(aA l (t4N l u).2 3).1:=rfl;omega) 6 4 (j:=(aA l (t4A l u).2 (6+1)).1.toNat) (by omega);have h5:=aBa l (t4A l u).2 (t4N l u).1 (1+(t4A l u).1) (most:=6) (by omega) 4;exact⟨h1,h4,by have e:(mK l u).1=(dF l (t4A l u).2 (t4N l u).1 (1+(t4A l u).1) 6 4).1:=rfl;rw[e];omega⟩
theorem aP9 (l:List Int)(u:Cu):cY (pT l u).1<=40/\(pT l u).1.rows.length<=8:=by
 have h:=aNu l u;have hs:(cG l (lQ l u).2 [⟨#[]⟩,⟨#[82]⟩,⟨#[114,115]⟩,⟨#[122]⟩]).1.size<=2:=mJ l _ (by decide) (by decide);have e: ∀t:aJ,cY t=t.name.size+cM t.rows:=fun _=>rfl;unfold pT;split
 ·rw[e];dsimp only;omega
 split
 ·rw[e];dsimp only;omega
 split
 ·rw[e];dsimp only;rw[zW,aJi];simp only[aIl,List.length_nil];omega
 split
 ·rw[e];dsimp only;rw[zW,aJi];simp only[aIl,List.length_nil];omega
 rw[e];dsimp only;omega
def azL:List ByteArray:=[⟨#[97]⟩,⟨#[119]⟩,⟨#[122]⟩]
def gI (l:List Int)(u:Cu):Int × Cu:=aA l (eR l u).2 10
def xZ (l:List Int)(u:Cu):aJ × Cu:=pT l (gI l u).2
def daN (l:List Int)(u:Cu):ByteArray × Cu:=cG l (gI l u).2 azL
def daX (l:List Int)(u:Cu):aJ × Cu:=dF l (daN l u).2 (daN l u).1 2 4 3
def daY (l:List Int)(u:Cu):aJ × Cu:=dF l (gI l u).2 ⟨#[119]⟩ 1 2 3
def daZ (l:List Int)(u:Cu):aJ × Cu:=dF l (daY l u).2 ⟨#[120]⟩ 1 2 3
def rT (l:List Int)(u:Cu):aI × Cu:=
 if (gI l u).1=0 then (⟨(eR l u).1.tables.set (aA l (xZ l u).2 5).1.toNat (xZ l u).1⟩,(aA l (xZ l u).2 5).2)
 else if (gI l u).1=1 then (⟨(eR l u).1.tables++[(daX l u).1]⟩,(daX l u).2)
 else if (gI l u).1=2 then (⟨(eR l u).1.tables.drop (aA l (gI l u).2 5).1.toNat⟩,(aA l (gI l u).2 5).2)
 else if (gI l u).1=3 then (⟨(eR l u).1.tables++[(daY l u).1,(daZ l u).1]⟩,(daZ l u).2)
 else ((eR l u).1,(gI l u).2)
theorem aNc (l:List Int)(u:Cu):(∀t∈(rT l u).1.tables,cY t<=40/\t.rows.length<=8)/\(rT l u).1.tables.length<=7:=by
 have h:=aFU l u;have hw: ∀t∈(eR l u).1.tables,cY t<=40/\t.rows.length<=8:=fun t ht=>⟨by have:=h.1 t ht;omega,(h.1 t ht).2⟩
 have hx:cY (daX l u).1<=40/\(daX l u).1.rows.length<=8:=by
  have h1:(daN l u).1.size<=1:=mJ l _ (by decide) (by decide);have h2:=aLl l (daN l u).2 (daN l u).1 (ar:=2) (by omega) (most:=4) (by omega) (by omega) 3;have h3:=aBa l (daN l u).2 (daN l u).1 2 (most:=4) (by omega) 3;exact⟨by rw[daX];omega,by rw[daX];omega⟩
 have hy: ∀(c:Cu) (n:ByteArray),n.size<=1->cY (dF l c n 1 2 3).1<=40/\(dF l c n 1 2 3).1.rows.length<=8:=fun c n hn=>by
  have h2:=aLl l c n (ar:=1) (by omega) (most:=2) (by omega) (by omega) 3;have h3:=aBa l c n 1 (most:=2) (by omega) 3;exact⟨by omega,by omega⟩
 unfold rT;split
 ·refine⟨fun t ht=>?_,by rw[aEj];omega⟩;rcases List.mem_or_eq_of_mem_set ht with ht | rfl
  ·exact hw t ht
  exact aP9 l _
 split
 ·refine⟨fun t ht=>?_,by simp only[aJi,aIl,List.length_nil];omega⟩;rcases aD4.1 ht with ht | ht
  ·exact hw t ht
  rw[aLp.1 ht];exact hx
 split
 ·exact⟨fun t ht=>hw t (List.mem_of_mem_drop ht),by rw[aMO];omega⟩
 split
 ·refine⟨fun t ht=>?_,by simp only[aJi,aIl,List.length_nil];omega⟩;rcases aD4.1 ht with ht | ht
  ·exact hw t ht
  rcases aHB.1 ht with rfl | ht
  ·exact hy _ _ (aKC _)
  rw[aLp.1 ht];exact hy _ _ (aKC _)
 exact⟨hw,by dsimp only;omega⟩
theorem aNw (l:List Int)(u:Cu):aT (rT l u).1<=300:=by
 have h:=aNc l u;have h2:=vA (c:=cY) (fun t ht=>(h.1 t ht).1);show kF cY (rT l u).1.tables<=300;omega
def aNd:List Int:=[2,2,2,3,1]
theorem aGn: ∀k,aNd.getD k 0<=3
 | 0 | 1 | 2 | 3 | 4=>by decide
 | _+5=>by show (0:Int)<=3;omega
def aLn (l:List Int)(dt:Int)(i:Nat)(s:List Int × Cu):List Int × Cu:=if (i:Int)=dt then s else if (aA l s.2 2).1=0 then (s.1++[(i:Int)],(aA l s.2 2).2) else (s.1,(aA l s.2 2).2)
def bR (l:List Int)(dt:Int):Nat->List Int × Cu->List Int × Cu
 | 0,s=>s
 | i+1,s=>aLn l dt i (bR l dt i s)
theorem aCu (l:List Int)(dt:Int)(s:List Int × Cu): ∀i,(bR l dt i s).1.length<=s.1.length+i
 | 0=>aKC _
 | i+1=>by
   have h:=aCu l dt s i;rw[bR,aLn];split
   ·omega
   split
   ·simp only[aJi,aIl,List.length_nil];omega
   dsimp only;omega
def bQ (l:List Int)(u:Cu):Int × Cu:=aA l u 5
def deM (l:List Int)(u:Cu):Int:=aNd.getD (bQ l u).1.toNat 0
def deT (l:List Int)(u:Cu):Int × Cu:=aA l (bQ l u).2 (deM l u)
def deL (l:List Int)(u:Cu):List Int × Cu:=bR l (deT l u).1 (deM l u).toNat ([],(deT l u).2)
def deO (l:List Int)(u:Cu):Int × Cu:=aA l (deL l u).2 14
def deD (l:List Int)(u:Cu):Int × Cu:=if (deO l u).1=0 then bJ l (deO l u).2 [-1,3,0] else ((deT l u).1,(deO l u).2)
def deQ (l:List Int)(u:Cu):Int × Cu:=aA l (deD l u).2 16
def deN (l:List Int)(u:Cu):ByteArray:=nmL.getD (bQ l u).1.toNat ⟨#[]⟩
def dC (l:List Int)(u:Cu):aN × Cu:=
 if (deQ l u).1=0 then (⟨deN l u,(deL l u).1++[(bJ l (deQ l u).2 [-1,0,3,9223372036854775807]).1],(deD l u).1⟩,(bJ l (deQ l u).2 [-1,0,3,9223372036854775807]).2)
 else (⟨deN l u,(deL l u).1,(deD l u).1⟩,(deQ l u).2)
theorem aHg (l:List Int)(u:Cu):dM (dC l u).1<=5:=by
 have h:=aCu l (deT l u).1 ([],(deT l u).2) (deM l u).toNat;have h2:=aGn (bQ l u).1.toNat;have h3:(deN l u).size<=1:=aGl _;have e: ∀f:aN,dM f=f.name.size+f.src.length:=fun _=>rfl;have e2:deM l u=aNd.getD (bQ l u).1.toNat 0:=rfl;have e3:(deL l u).1=(bR l (deT l u).1 (deM l u).toNat ([],(deT l u).2)).1:=rfl;simp only[List.length_nil] at h;unfold dC;split
 ·rw[e];dsimp only;simp only[aJi,aIl,List.length_nil];rw[e3];omega
 rw[e];dsimp only;rw[e3];omega
def inN (l:List Int)(u:Cu):ByteArray × Cu:=cG l u nmL
def inC (l:List Int)(u:Cu):Int × Cu:=aA l (inN l u).2 2
def inI (l:List Int)(u:Cu):ByteArray × Cu:=cG l (inC l u).2 nmL
def tE (l:List Int)(u:Cu):Int × Cu:=aA l (inI l u).2 2
def inO (l:List Int)(u:Cu):Int × Cu:=aA l (tE l u).2 14
def wU (n:ByteArray)(x:Int):Int:=if n=⟨#[118]⟩ then 0 else x
def cN (l:List Int)(u:Cu):aO × Cu:=
 if (inO l u).1=0 then (⟨(inN l u).1,(bJ l (inO l u).2 [-1,3]).1,(inI l u).1,wU (inI l u).1 (tE l u).1⟩,(bJ l (inO l u).2 [-1,3]).2)
 else (⟨(inN l u).1,wU (inN l u).1 (inC l u).1,(inI l u).1,wU (inI l u).1 (tE l u).1⟩,(inO l u).2)
theorem aHh (l:List Int)(u:Cu):fW (cN l u).1<=2:=by
 have h1:(inN l u).1.size<=1:=mJ l u (by decide) (by decide);have h2:(inI l u).1.size<=1:=mJ l _ (by decide) (by decide);have e: ∀x:aO,fW x=x.name.size+x.into.size:=fun _=>rfl;unfold cN;split
 ·rw[e];dsimp only;omega
 rw[e];dsimp only;omega
theorem zX: ∀{x y z:List UInt8},Op.bytesLess x y=true->Op.bytesLess y z=true->Op.bytesLess x z=true
 | [],[],_,h,_=>by simp[Op.bytesLess] at h
 | [],_::_,[],_,h=>by simp[Op.bytesLess] at h
 | [],_::_,_::_,_,_=>by simp[Op.bytesLess]
 | _::_,[],_,h,_=>by simp[Op.bytesLess] at h
 | _::_,_::_,[],_,h=>by simp[Op.bytesLess] at h
 | a::x,b::y,c::z,h1,h2=>by
   simp only[Op.bytesLess,Bool.or_eq_true,aAO,aKQ,beq_iff_eq] at*;rcases h1 with h1 | ⟨rfl,h1⟩<;>rcases h2 with h2 | ⟨rfl,h2⟩
   ·exact .inl (UInt8.lt_trans h1 h2)
   ·exact .inl h1
   ·exact .inl h2
   exact .inr ⟨rfl,zX h1 h2⟩
theorem aFV: ∀(x:List UInt8),Op.bytesLess x x=false
 | []=>rfl
 | a::x=>by simp[Op.bytesLess,aFV x,UInt8.lt_irrefl]
theorem aCw: ∀{x y:List UInt8},Op.bytesLess x y=false-> ¬x=y->Op.bytesLess y x=true
 | [],[],_,h=>absurd rfl h
 | [],_::_,h,_=>by simp[Op.bytesLess] at h
 | _::_,[],_,_=>by simp[Op.bytesLess]
 | a::x,b::y,h,hne=>by
   simp only[Op.bytesLess,Bool.or_eq_false_iff,decide_eq_false_iff_not,Bool.and_eq_false_iff] at h;simp only[Op.bytesLess,Bool.or_eq_true,aAO,aKQ,beq_iff_eq];by_cases e:a=b
   ·subst e;refine .inr ⟨rfl,aCw ?_ fun q=>hne (by rw[q])⟩;rcases h.2 with q | q
    ·simp at q
    exact q
   refine .inl ?_;have h1:=h.1;rw[UInt8.not_lt] at h1;exact UInt8.lt_of_le_of_ne h1 fun q=>e q.symm
abbrev ltN (a b:aJ):Prop:=Op.bytesLess a.name.toList b.name.toList=true
theorem aJj {a b c:aJ}(h1:ltN a b)(h2:ltN b c):ltN a c:=zX h1 h2
theorem aGo: ∀{l:List aJ},(∀i,i+1<l.length->ltN (l.getD i nK) (l.getD (i+1) nK))->l.Pairwise ltN
 | [],_=>List.Pairwise.nil
 | [a],_=>List.pairwise_singleton _ _
 | a::b::l,h=>by
   have ih:=aGo (l:=b::l) fun i hi=>by
    have:=h (i+1) (by simpa using hi);simpa using this
   have h0:ltN a b:=by
    have:=h 0 (by simp);simpa using this
   refine List.pairwise_cons.2 ⟨fun y hy=>?_,ih⟩;rcases aHB.1 hy with rfl | q
   ·exact h0
   exact aJj h0 ((List.pairwise_cons.1 ih).1 y q)
theorem aGp {d:aI}:dT d=true↔d.tables.all aP=true/\d.tables.Pairwise ltN/\d.tables.length<=6:=by
 simp only[dT,aAO,aKQ];constructor
 ·rintro⟨h1,h2,h3⟩;refine⟨h1,aGo fun i hi=>?_,by omega⟩;have:=aDT.1 h2 i (aJy.2 (by omega));simpa [eJ] using this
 rintro⟨h1,h2,h3⟩;refine⟨h1,aDT.2 fun i hi=>?_,by omega⟩;have hi:=aJy.1 hi;have:=List.pairwise_iff_getElem.1 h2 i (i+1) (by omega) (by omega) (by omega);simpa [eJ,aEP,show i<d.tables.length by omega,show i+1<d.tables.length by omega] using this
def qP (t:aJ):Bool->List aJ->List aJ
 | p,[]=>if p=true then [] else [t]
 | p,x::xs=>(if p=false/\Op.bytesLess x.name.toList t.name.toList=false then [t] else [])++(if x.name.toList=t.name.toList then [] else [x])++qP t (p || !Op.bytesLess x.name.toList t.name.toList) xs
def fD (t:aJ)(l:List aJ):List aJ:=qP t false l
theorem aBc {t y:aJ}: ∀{l:List aJ} {p:Bool},y∈qP t p l->y∈l\/(p=false/\y=t)
 | [],p,h=>by
   rw[qP] at h;split at h
   ·simp at h
   rename_i hp;exact .inr ⟨by simpa using hp,by simpa using h⟩
 | x::xs,p,h=>by
   rw[qP,aD4,aD4] at h;rcases h with (h | h) | h
   ·split at h
    ·rename_i hp;exact .inr ⟨hp.1,by simpa using h⟩
    simp at h
   ·split at h
    ·simp at h
    left;simp at h;simp[h]
   rcases aBc h with q | ⟨q1,q2⟩
   ·left;simp[q]
   exact .inr ⟨by simp at q1;exact q1.1,q2⟩
theorem aCx {t:aJ}: ∀{l:List aJ} {p:Bool},l.Pairwise ltN->(p=true-> ∀x∈l,ltN t x\/x.name.toList=t.name.toList)->(qP t p l).Pairwise ltN
 | [],p,_,_=>by rw[qP];split<;>simp
 | x::xs,p,hl,hp=>by
   have hx:=List.pairwise_cons.1 hl;rw[qP];cases hb:Op.bytesLess x.name.toList t.name.toList with
   | true=>
     have hp' :p=false:=by
      cases p with
      | false=>rfl
      | true=>
        rcases hp rfl x (by simp) with q | q
        ·have:=zX hb q;rw[aFV] at this;cases this
        rw[q,aFV] at hb;cases hb
     subst hp';have hne: ¬x.name.toList=t.name.toList:=fun q=>by rw[q,aFV] at hb;cases hb
     rw[if_neg (by simp),if_neg hne];simp only[aMU,List.singleton_append,Bool.not_true,Bool.or_false];refine List.pairwise_cons.2 ⟨fun y hy=>?_,aCx hx.2 (fun q=>by cases q)⟩;rcases aBc hy with q | ⟨_,rfl⟩
     ·exact hx.1 y q
     exact hb
   | false=>
     have hxs: ∀y∈xs,ltN t y:=fun y hy=>by
      by_cases e:x.name.toList=t.name.toList
      ·have:=hx.1 y hy;unfold ltN at*
       rwa [e] at this
      exact zX (aCw hb e) (hx.1 y hy)
     have ih:=aCx (t:=t) (p:=true) hx.2 (fun _ y hy=> .inl (hxs y hy))
     have hmem: ∀y∈qP t true xs,y∈xs:=fun y hy=>by
      rcases aBc hy with q | ⟨q,_⟩
      ·exact q
      cases q
     have hrest:((if x.name.toList=t.name.toList then [] else [x])++qP t true xs).Pairwise ltN/\ ∀y∈(if x.name.toList=t.name.toList then [] else [x])++qP t true xs,ltN t y:=by
      split
      ·exact⟨by simpa using ih,fun y hy=>hxs y (hmem y (by simpa using hy))⟩
      rename_i e;refine⟨List.pairwise_cons.2 ⟨fun y hy=>hx.1 y (hmem y hy),ih⟩,fun y hy=>?_⟩;rcases aHB.1 hy with rfl | q
      ·exact aCw hb e
      exact hxs y (hmem y q)
     simp only[Bool.not_false,Bool.or_true,and_true];cases p with
     | true=>simpa using hrest.1
     | false=>
       simp only[if_true,List.singleton_append,List.cons_append];exact List.pairwise_cons.2 ⟨hrest.2,hrest.1⟩
def dL (d:aI)(t:aJ):aI × Bool:=if (dT d&&(aP t&&decide ((fD t d.tables).length<=6)))=true then (⟨fD t d.tables⟩,true) else (d,false)
theorem vC {d:aI}{t:aJ}(h1:dT d=true)(h2:aP t=true):dT ⟨fD t d.tables⟩=decide ((fD t d.tables).length<=6):=by
 obtain⟨q1,q2,q3⟩:=aGp.1 h1;have hp:=aCx (t:=t) (p:=false) q2 (fun q=>by cases q)
 have ha:(fD t d.tables).all aP=true:=aDT.2 fun y hy=>by
  rcases aBc hy with q | ⟨_,rfl⟩
  ·exact aDT.1 q1 y q
  exact h2
 apply Bool.eq_iff_iff.2;rw[aGp,aKQ];exact⟨fun q=>q.2.2,fun q=>⟨ha,hp,q⟩⟩
abbrev yA (x:aQ):AV × List (Nat × Rs):=(.agg [.p none (.str x.name),vI x.arity,vI x.rowCount,.own 0],[(0,.arr 138 3 true (x.groups.map aM))])
abbrev aCy (x:aQ):Prop:=Cn 151 [.agg [.str x.name,.int .i64 x.arity,.int .i64 x.rowCount,.sl 138 3 (x.groups.map aM)]] (yA x).1 (yA x).2
theorem aLq (x:aQ)(hc:dW x<=1048576):aCy x:=by
 refine cq Tryz.func151 (.loop (Nat × (List aR)) (Q2 Nat (List aR)) ([4,5,6]++rg 14 57) [300,500,2100,2800,2900,3600,5100,6100,6200,6300,6800,6900,9000,9001] (fun yy0=>[(4,vI (yy0.1:Int))]) (fun yy0=>[(300,some (.box 91 [.p none (.str x.name),vI x.arity,vI x.rowCount,.own 9000])),(9000,some (.arr 138 3 true (yy0.2.map aM)))]) (fun yy0=>yy0.1<=x.groups.length/\yy0.2=x.groups.take yy0.1) (fun yy0=>x.groups.length - yy0.1) (fun yy0=> .len x.groups.length<| .br (.elem _ aM x.groups (fun e25=> .app Int intD ([]:List Int) e25.columns<| .elem _ aM x.groups (fun e33=> .app Int intD ([]:List Int) e33.counts<| .loop (Nat × (List (List Int))) (Q2 Nat (List (List Int))) ([6]++rg 38 27) [500,5100,6100,6200,6300,9001] (fun yy1=>[(6,vI (yy1.1:Int))]) (fun yy1=>[(500,some (.box 138 [.own 2800,.own 9001,.own 3600])),(9001,some (.arr 34 1 true (yy1.2.map aE)))]) (fun yy1=>yy1.1<=e25.values.length/\yy1.2=e25.values.take yy1.1) (fun yy1=>e25.values.length - yy1.1) (fun yy1=> .elem _ aM x.groups (fun e42=> .len e42.values.length<| .br (.elem _ aM x.groups (fun e55=> .elem _ aE e55.values (fun e59=> .app Int intD ([]:List Int) e59<| .appx (List Int) aE yy1.2 (([]:List Int)++e59)<| .back [(500,500),(9001,6300)]))) (.appx aR aM yy0.2 (⟨([]:List Int)++e25.columns,yy1.2,([]:List Int)++e33.counts⟩:aR)<| .back [(300,300),(9000,6900)])))))) (.fin [(0,9000)]))) (p:=Lx (x.groups.map aM)<| (∃(k:Nat) (out:List aR),0=(k:Int)/\x.name=x.name/\x.arity=x.arity/\x.rowCount=x.rowCount/\[]=out.map aM/\k<=x.groups.length/\out=x.groups.take k)/\ ∀(k:Nat) (out:List aR),(k<=x.groups.length/\out=x.groups.take k)->Lm aM x.groups/\Br ((k:Int)<(x.groups.length:Int)) (0<=(k:Int)/\Em aM x.groups k fun e25=>Ap intD ([]:List Int) e25.columns 8 (0<=(k:Int)/\Em aM x.groups k fun e33=>Ap intD ([]:List Int) e33.counts 8 ((∃(i:Nat) (v:List (List Int)),0=(i:Int)/\[]=v.map aE/\i<=e25.values.length/\v=e25.values.take i)/\ ∀(i:Nat) (v:List (List Int)),(i<=e25.values.length/\v=e25.values.take i)->0<=(k:Int)/\Em aM x.groups k fun e42=>Lm aE e42.values/\Br ((i:Int)<(e42.values.length:Int)) (0<=(k:Int)/\Em aM x.groups k fun e55=>0<=(i:Int)/\Em aE e55.values i fun e59=>Ap intD ([]:List Int) e59 8 (v.map aE=v.map aE/\(([]:List Int)++e59).map intD=(([]:List Int)++e59).map intD/\(v.length+1)*24<=140737488355328/\cW ((i:Int)+1)/\ ∃(i' :Nat) (v' :List (List Int)),((i:Int)+1)=(i' :Int)/\(v++[([]:List Int)++e59]).map aE=v'.map aE/\(i' <=e25.values.length/\v' =e25.values.take i')/\e25.values.length - i' <e25.values.length - i)) (out.map aM=out.map aM/\(([]:List Int)++e25.columns).map intD=(⟨([]:List Int)++e25.columns,v,([]:List Int)++e33.counts⟩:aR).columns.map intD/\v.map aE=(⟨([]:List Int)++e25.columns,v,([]:List Int)++e33.counts⟩:aR).values.map aE/\(([]:List Int)++e33.counts).map intD=(⟨([]:List Int)++e25.columns,v,([]:List Int)++e33.counts⟩:aR).counts.map intD/\(out.length+1)*72<=140737488355328/\cW ((k:Int)+1)/\ ∃(k' :Nat) (out' :List aR),((k:Int)+1)=(k' :Int)/\x.name=x.name/\x.arity=x.arity/\x.rowCount=x.rowCount/\(out++[(⟨([]:List Int)++e25.columns,v,([]:List Int)++e33.counts⟩:aR)]).map aM=out'.map aM/\(k' <=x.groups.length/\out' =x.groups.take k')/\x.groups.length - k' <x.groups.length - k)))) (x.name=x.name/\x.arity=x.arity/\x.rowCount=x.rowCount/\out.map aM=x.groups.map aM/\True)) (by kernel_rfl) ?_;refine lx fun n0=>?_;have q2:dW x=x.name.size+jK x.groups:=rfl;have q5:=rC x.groups;refine⟨⟨0,([]:List aR),rfl,rfl,rfl,rfl,rfl,aAd _,rfl⟩,fun k out ⟨hk,ho⟩=>?_⟩;refine⟨aAK _,dd (fun c0=>?_) fun c0=>?_⟩
 ·refine⟨by omega,rfl,by omega,fun e25 h25=>?_⟩
  try (obtain rfl:=(bA h25 h25).symm)
  have q1:=nL h25;have q3:iF e25=fL e25.columns+cM e25.values+fL e25.counts:=rfl;have q6:fL e25.columns=e25.columns.length:=rfl;have q7:fL e25.counts=e25.counts.length:=rfl;have q8:=eV e25.values;refine ap ?_ (fun _=>rfl) (by (simp;omega));refine⟨by omega,rfl,by omega,fun e33 h33=>?_⟩
  try (obtain rfl:=(bA h25 h33).symm)
  refine ap ?_ (fun _=>rfl) (by (simp;omega));refine⟨⟨0,([]:List (List Int)),rfl,rfl,aAd _,rfl⟩,fun i v ⟨hi,hv⟩=>?_⟩;refine⟨by omega,rfl,by omega,fun e42 h42=>?_⟩
  try (obtain rfl:=(bA h25 h42).symm)
  refine⟨aAK _,dd (fun c1=>?_) fun c1=>?_⟩
  ·refine⟨by omega,rfl,by omega,fun e55 h55=>?_⟩
   try (obtain rfl:=(bA h25 h55).symm)
   refine⟨by omega,rfl,by omega,fun e59 h59=>?_⟩;have hp3:=oF h59;refine ap ?_ (fun _=>rfl) (by (simp;omega));refine⟨rfl,rfl,by (simp[hv];omega),⟨by omega,by omega⟩,?_⟩;exact⟨i+1,_,rfl,rfl,⟨by omega,by rw[hv,cC h59];rfl⟩,by omega⟩
  ·have hvv:v=e25.values:=by rw[hv,aCv (by omega)]
   refine⟨rfl,rfl,rfl,rfl,by (simp[ho];omega),⟨by omega,by omega⟩,?_⟩;exact⟨k+1,_,rfl,rfl,rfl,rfl,rfl,⟨by omega,by rw[ho,cC h25,hvv];rfl⟩,by omega⟩
 ·refine⟨rfl,rfl,rfl,?_,trivial⟩
  ·(rw[ho,aCv (by omega)])
end Go.Proofs.YtafmaholhcgakaaGreat
namespace Go.Proofs
open Go.Shelf
namespace YtafmaholhcgakaaGreat
def Tryz.lays189_ren:Go.Shelf.Ren:=⟨fun | 189=>189 | 125=>200 | 257=>202 | 128=>213 | 129=>214 | 294=>216 | 295=>217 | 296=>218 | 297=>219 | 298=>220 | 299=>221 | 216=>222 | 300=>223 | 301=>224 | 328=>231 | 329=>226 | 330=>227 | 331=>232 | 332=>233 | 215=>230 | 343=>235 | n=>n,fun | 28=>34 | 3=>3 | 46=>179 | 0=>0 | 51=>208 | 53=>210 | 4=>4 | 183=>201 | 182=>200 | 131=>205 | 5=>5 | 9=>9 | 218=>218 | 222=>222 | 228=>227 | 229=>228 | n=>n,fun | n=>n⟩
theorem Tryz.lays189:Go.Proofs.Lays.n189 Tryz.prog Tryz.lays189_ren:={
 mixed:=by kernel_rfl
 f125:=Tryz.func200.trans (congrArg some (by kernel_rfl))
 f128:=Tryz.func213.trans (congrArg some (by kernel_rfl))
 f129:=Tryz.func214.trans (congrArg some (by kernel_rfl))
 f189:=Tryz.func189.trans (congrArg some (by kernel_rfl))
 f215:=Tryz.func230.trans (congrArg some (by kernel_rfl))
 f216:=Tryz.func222.trans (congrArg some (by kernel_rfl))
 f257:=Tryz.func202.trans (congrArg some (by kernel_rfl))
 f294:=Tryz.func216.trans (congrArg some (by kernel_rfl))
 f295:=Tryz.func217.trans (congrArg some (by kernel_rfl))
 f296:=Tryz.func218.trans (congrArg some (by kernel_rfl))
 f297:=Tryz.func219.trans (congrArg some (by kernel_rfl))
 f298:=Tryz.func220.trans (congrArg some (by kernel_rfl))
 f299:=Tryz.func221.trans (congrArg some (by kernel_rfl))
 f300:=Tryz.func223.trans (congrArg some (by kernel_rfl))
 f301:=Tryz.func224.trans (congrArg some (by kernel_rfl))
 f328:=Tryz.func231.trans (congrArg some (by kernel_rfl))
 f329:=Tryz.func226.trans (congrArg some (by kernel_rfl))
 f330:=Tryz.func227.trans (congrArg some (by kernel_rfl))
 f331:=Tryz.func232.trans (congrArg some (by kernel_rfl))
 f332:=Tryz.func233.trans (congrArg some (by kernel_rfl))
 f343:=Tryz.func235.trans (congrArg some (by kernel_rfl))
 t0:=Tryz.underlying0
 a0:=Tryz.isAgg0
 z0:=Tryz.sizeOf0
 v0:=Tryz.zeroValue0
 t3:=Tryz.underlying3
 a3:=Tryz.isAgg3
 z3:=Tryz.sizeOf3
 v3:=Tryz.zeroValue3
 t4:=Tryz.underlying4
 a4:=Tryz.isAgg4
 z4:=Tryz.sizeOf4
 v4:=Tryz.zeroValue4
 t5:=Tryz.underlying5
 a5:=Tryz.isAgg5
 z5:=Tryz.sizeOf5
 v5:=Tryz.zeroValue5
 t9:=Tryz.underlying9
 a9:=Tryz.isAgg9
 z9:=Tryz.sizeOf9
 v9:=Tryz.zeroValue9
 t28:=Tryz.underlying34
 a28:=Tryz.isAgg34
 z28:=Tryz.sizeOf34
 v28:=Tryz.zeroValue34
 t46:=Tryz.underlying179
 a46:=Tryz.isAgg179
 z46:=Tryz.sizeOf179
 v46:=Tryz.zeroValue179
 t51:=Tryz.underlying208
 a51:=Tryz.isAgg208
 z51:=Tryz.sizeOf208
 v51:=Tryz.zeroValue208
 t53:=Tryz.underlying210
 a53:=Tryz.isAgg210
 z53:=Tryz.sizeOf210
 v53:=Tryz.zeroValue210
 t131:=Tryz.underlying205
 a131:=Tryz.isAgg205
 z131:=Tryz.sizeOf205
 v131:=Tryz.zeroValue205
 t182:=Tryz.underlying200
 a182:=Tryz.isAgg200
 z182:=Tryz.sizeOf200
 v182:=Tryz.zeroValue200
 t183:=Tryz.underlying201
 a183:=Tryz.isAgg201
 z183:=Tryz.sizeOf201
 v183:=Tryz.zeroValue201
 t218:=Tryz.underlying218
 a218:=Tryz.isAgg218
 z218:=Tryz.sizeOf218
 v218:=Tryz.zeroValue218
 t222:=Tryz.underlying222
 a222:=Tryz.isAgg222
 z222:=Tryz.sizeOf222
 v222:=Tryz.zeroValue222
 t228:=Tryz.underlying227
 a228:=Tryz.isAgg227
 z228:=Tryz.sizeOf227
 v228:=Tryz.zeroValue227
 t229:=Tryz.underlying228
 a229:=Tryz.isAgg228
 z229:=Tryz.sizeOf228
 v229:=Tryz.zeroValue228 }
end YtafmaholhcgakaaGreat
end Go.Proofs
namespace Go.Proofs.YtafmaholhcgakaaGreat
open Go.ChangeShapes Go.WideShapes Go.ChangeAt Go.RowKit
set_option linter.unusedVariables false
set_option linter.unusedSimpArgs false
theorem aAe {w:World}: ∀{l:List Int} {css:List (List Value)} {Fs:List (List Nat)},bT w 1 (l.map intD) css Fs->css.flatten=l.map (Value.int .i64)/\Fs.flatten= []
 | [],css,Fs,h=>by
   simp only[List.map_nil] at h;unfold bT at h;rw[h.1,h.2];simp
 | n::l,css,Fs,h=>by
   simp only[aGQ] at h;unfold bT at h;obtain⟨c,css',F,Fs',rfl,rfl,_,h1,h2⟩:=h;obtain⟨q1,q2⟩:=aAe h2;unfold intD cD at h1;obtain⟨v,cs',F1,F2,rfl,rfl,h3,h4⟩:=h1;unfold cD at h4;unfold oK at h3;simp[q1,q2,h4.1,h4.2,h3.1,h3.2]
theorem sM (w:World): ∀(l:List Int),bT w 1 (l.map intD) (l.map fun n=>[Value.int .i64 n]) (l.map fun _=>[])
 | []=>by simp only[List.map_nil];unfold bT;exact⟨rfl,rfl⟩
 | n::l=>by
   simp only[aGQ];unfold bT;refine⟨_,_,_,_,rfl,rfl,rfl,?_,sM w l⟩;unfold intD cD;refine⟨_,_,[],[],rfl,rfl,?_,?_⟩
   ·unfold oK;exact⟨rfl,rfl⟩
   unfold cD;exact⟨rfl,rfl⟩
theorem aAf: ∀(m:List Int),(m.map fun n=>[Value.int .i64 n]).flatten=m.map (Value.int .i64)
 | []=>rfl
 | a::l=>by simp only[aGQ,aHS,aAf l];rfl
theorem aJk {P:Program}{f:FuncId}{e:Nat}(l m:List Int)(hc:hJ P f=true)(hm:m.length=l.length)
 (hn0:l= []-> ∀w,Calls P f #[.slice none 0 0] w (fun ex w' =>ex= .returned (.tuple #[])/\w' =w))
 (hs: ∀(blk cap:Nat) (w:World),Go.Sort.Holds (Value.int .i64) w blk 0 l.toArray->blk<w.heap.size->l.length<=cap->Calls P f #[.slice (some ⟨blk,0,none⟩) l.length cap] w (fun ex w' =>ex= .returned (.tuple #[])/\ ∃n os,w' =Go.Sort.grow (Go.Sort.putRow (Value.int .i64) (Go.Sort.ahead w n) blk 0 m.toArray) os)):
 rA P f [.own 0] [(0,.arr e 1 true (l.map intD))] (.tup []) [(0,.arr e 1 true (m.map intD))]:=by
 refine⟨hc,by simp,fun A φ w vs hI hM=>?_⟩;obtain⟨pl,hp,css,Fs,q1,q2,q3,q4⟩:=hI.dom 0 _ rfl;unfold aL at hM;obtain⟨v,us,e1,m1,hM⟩:=hM;unfold aL at hM;unfold aF at m1;have hv:=m1 pl hp;have ev:vs= #[pl.val]:=by apply Array.ext';rw[e1,hM,hv]
 rw[ev];obtain⟨c1,c2⟩:=aAe q4;rw[c1,aAK] at q1;have hge:=hI.ge 0 pl hp;have hsub:pl.sub= []:=by rw[q3,c2]
 have hfoot: ∀b∈pl.F,aDa φ b:=fun b hb=>⟨0,pl,trivial,hp,hb⟩
 have hend: ∀(w' :World),jH pl.F w w' ->w'.ownsRow 0 e 1 pl.val l.length (m.map (Value.int .i64))->
  ∃v K φ',Ending.returned (.tuple #[])= .returned v/\aHY A φ w [(0,.arr e 1 true (m.map intD))] K φ' w' /\aF K φ' w' (.tup []) v:=by
  intro w' hon howns;refine⟨_,A,fun h=>if h=0 then some pl else none,rfl,⟨⟨hon.os,hon.tape,hon.output,hon.size,fun b hb hn=>hon.block b hb (fun hm=>hn (hfoot b hm))⟩,fun _ h=>h,fun b hb=>⟨aKD (hI.lt b hb) hon.size,.inl hb⟩,fun b hb h pl1 e' hm' =>?_,fun h r hr=>?_,fun h hr=>?_,fun h h' pl1 pl2 hne ea eb=>?_,fun h pl1 e' =>?_,fun h pl1 e' g hg=>?_,fun h pl1 pl0 e' e0=>?_⟩,?_⟩
  ·split at e'
   ·injection e' with e';subst e'
    exact hI.out b hb 0 pl hp hm'
   cases e'
  ·simp only[aS] at hr;split at hr
   ·rename_i eh;subst eh;injection hr with hr
    subst hr;refine⟨pl,by simp,m.map fun n=>[Value.int .i64 n],m.map fun _=>[],?_,q2,?_,sM _ m⟩
    ·rw[aAf,aAK,hm];exact howns
    rw[hsub];simp
   cases hr
  ·simp only[aS] at hr;split at hr
   ·cases hr
   rename_i eh;exact if_neg eh
  ·split at ea
   ·split at eb
    ·rename_i x y;exact absurd (x.trans y.symm) hne
    cases eb
   cases ea
  ·split at e'
   ·injection e' with e';subst e';exact hI.nodup 0 pl hp
   cases e'
  ·split at e'
   ·injection e' with e';subst e'
    exact⟨.inr (hfoot g hg),aKD (hge g hg) hon.size⟩
   cases e'
  ·split at e'
   ·rename_i eh;subst eh;rw[hp] at e0;injection e0 with e0;injection e' with e'
    subst e0;subst e';exact⟨rfl,rfl⟩
   cases e'
  unfold aF;exact⟨#[],rfl,by unfold aL;rfl⟩
 rcases q1.2 with ⟨hvn,hz⟩ | ⟨g,cap,cur,hvv,hg0,hb,hn,hcap,hsz,htk⟩
 ·have hz' :l= []:=aE6 hz;rw[hvn];refine(hn0 hz' w).mono ?_;rintro en w' ⟨rfl,rfl⟩;have hm0:m= []:=aE6 (by rw[hm,hz]);refine hend w' (jH.refl _ _) ?_;rw[hvn,hm0,hz];exact⟨by simp,.inl ⟨rfl,rfl⟩⟩
 have hlt:g<w.heap.size:=(Array.getElem?_eq_some_iff.1 hb).1;have hH:Go.Sort.Holds (Value.int .i64) w g 0 l.toArray:=holds_of_blockI hb (by rw[Nat.mul_one] at htk;exact htk);rw[hvv];refine(hs g cap w hH hlt hn).mono ?_;rintro en w' ⟨rfl,n,os,rfl⟩;have hgb:=grownBy_sortedI (w:=w) (g:=g) (n:=n) (os:=os) m.toArray;have hown:=ownsRow_sortedI (n:=n) (os:=os) hm hg0 hb hn hcap hsz;refine hend _ ⟨hgb.os,hgb.tape,hgb.output,hgb.size,fun k hk hne=>hgb.block k hk (fun e=>hne (by injection e with e;subst e;unfold Pl.F;rw[q2,hvv];simp[Value.ownBlock]))⟩ ?_;rw[hvv];exact hown
def nQ (l:List Int):List Int:=l.mergeSort fun x y=>decide (x<=y)
theorem aHi (l:List Int):(nQ l).Perm l:=List.mergeSort_perm l _
theorem wH (l:List Int):(nQ l).length=l.length:=(aHi l).length_eq
theorem aJl (l:List Int)(hl:l.length<4611686018427387904):rA Tryz.prog 189 [.own 0] [(0,.arr 3 1 true (l.map intD))] (.tup []) [(0,.arr 3 1 true ((nQ l).map intD))]:=
 aJk l (nQ l) (by kernel_rfl) (wH l)
  (fun h w=>Any.slices_Sort_int_none Tryz.lays189 none 0 w)
  (fun blk cap w hH hblk _=>Any.slices_Sort_int Tryz.lays189 blk 0 cap l w hH hblk hl)
end Go.Proofs.YtafmaholhcgakaaGreat
namespace Go.Proofs
open Go.Shelf
namespace YtafmaholhcgakaaGreat
def Tryz.compInts_ren:Go.Shelf.Ren:=⟨fun | 43=>190 | n=>n,fun | 22=>34 | 23=>3 | 3=>3 | 4=>4 | 0=>0 | n=>n,fun | n=>n⟩
theorem Tryz.compInts:Go.Proofs.SlLaysE.n43 Tryz.prog Tryz.compInts_ren:={
 mixed:=by kernel_rfl
 f43:=⟨Tryz.f190.name,by decide,Tryz.func190.trans (congrArg some (by kernel_rfl))⟩
 t0:=Tryz.underlying0
 a0:=Tryz.isAgg0
 z0:=Tryz.sizeOf0
 v0:=Tryz.zeroValue0
 t3:=Tryz.underlying3
 a3:=Tryz.isAgg3
 z3:=Tryz.sizeOf3
 v3:=Tryz.zeroValue3
 t4:=Tryz.underlying4
 a4:=Tryz.isAgg4
 z4:=Tryz.sizeOf4
 v4:=Tryz.zeroValue4
 t22:=Tryz.underlying34
 a22:=Tryz.isAgg34
 z22:=Tryz.sizeOf34
 v22:=Tryz.zeroValue34
 a23:=Tryz.isAgg3
 z23:=Tryz.sizeOf3 }
end YtafmaholhcgakaaGreat
end Go.Proofs
namespace Go.Proofs.YtafmaholhcgakaaGreat
open Go.ChangeShapes Go.WideShapes Go.ChangeAt Go.RowKit Go.Lib
set_option linter.unusedVariables false
set_option linter.unusedSimpArgs false
theorem aHj {P:Program}{f:FuncId}{e:Nat}(l m:List Int)(hc:hJ P f=true)(hm:m.length<=l.length)(hm0:l= []->m= [])
 (hn0:l= []-> ∀w,Calls P f #[.slice none 0 0] w (fun ex w' =>ex= .returned (.slice none 0 0)/\w' =w))
 (hs: ∀(blk cap:Nat) (w:World),Go.Sort.Holds (Value.int .i64) w blk 0 l.toArray->blk<w.heap.size->l.length<=cap->Calls P f #[.slice (some ⟨blk,0,none⟩) l.length cap] w (fun ex w' =>ex= .returned (.slice (some ⟨blk,0,none⟩) m.length cap)/\ ∃n os z,(m++z).length=l.length/\w' =Go.Sort.grow (Go.Sort.putRow (Value.int .i64) (Go.Sort.ahead w n) blk 0 (m++z).toArray) os)):
 rA P f [.own 0] [(0,.arr e 1 true (l.map intD))] (.own 1) [(1,.arr e 1 true (m.map intD))]:=by
 refine⟨hc,by simp,fun A φ w vs hI hM=>?_⟩;obtain⟨pl,hp,css,Fs,q1,q2,q3,q4⟩:=hI.dom 0 _ rfl;unfold aL at hM;obtain⟨v,us,e1,m1,hM⟩:=hM;unfold aL at hM;unfold aF at m1;have hv:=m1 pl hp;have ev:vs= #[pl.val]:=by apply Array.ext';rw[e1,hM,hv]
 rw[ev];obtain⟨c1,c2⟩:=aAe q4;rw[c1,aAK] at q1;have hge:=hI.ge 0 pl hp;have hsub:pl.sub= []:=by rw[q3,c2]
 have hfoot: ∀b∈pl.F,aDa φ b:=fun b hb=>⟨0,pl,trivial,hp,hb⟩;have h1:φ 1=none:=hI.non 1 rfl
 have hend: ∀(v' :Value) (w' :World),jH pl.F w w' ->(∀b∈v'.ownBlock,b∈pl.val.ownBlock)->w'.ownsRow 0 e 1 v' m.length (m.map (Value.int .i64))->
  ∃v K φ',Ending.returned v' = .returned v/\aHY A φ w [(1,.arr e 1 true (m.map intD))] K φ' w' /\aF K φ' w' (.own 1) v:=by
  intro v' w' hon hvb howns
  let pl' :Pl:=⟨v',v'.ownBlock.toList,[]⟩
  have hmem: ∀g,g∈pl'.F->g∈pl.F:=fun g hg=>by
   unfold Pl.F;simp only[pl',Pl.F,aMT,Option.mem_toList] at hg;rw[q2];exact aFw _ (by rw[Option.mem_toList];exact hvb g hg)
  have hnd' :pl'.F.Nodup:=by simp only[pl',Pl.F,aMT];cases v'.ownBlock<;>simp
  refine⟨_,A,fun h=>if h=1 then some pl' else none,rfl,⟨⟨hon.os,hon.tape,hon.output,hon.size,fun b hb hn=>hon.block b hb (fun hm=>hn (hfoot b hm))⟩,fun _ h=>h,fun b hb=>⟨aKD (hI.lt b hb) hon.size,.inl hb⟩,fun b hb h pl1 e' hm' =>?_,fun h r hr=>?_,fun h hr=>?_,fun h h' pl1 pl2 hne ea eb=>?_,fun h pl1 e' =>?_,fun h pl1 e' g hg=>?_,fun h pl1 pl0 e' e0=>?_⟩,?_⟩
  ·split at e'
   ·injection e' with e';subst e'
    exact hI.out b hb 0 pl hp (hmem b hm')
   cases e'
  ·simp only[aS] at hr;split at hr
   ·rename_i eh;subst eh;injection hr with hr
    subst hr;refine⟨pl',by simp,m.map fun n=>[Value.int .i64 n],m.map fun _=>[],?_,rfl,?_,sM _ m⟩
    ·rw[aAf,aAK];exact howns
    simp[pl']
   cases hr
  ·simp only[aS] at hr;split at hr
   ·cases hr
   rename_i eh;exact if_neg eh
  ·split at ea
   ·split at eb
    ·rename_i x y;exact absurd (x.trans y.symm) hne
    cases eb
   cases ea
  ·split at e'
   ·injection e' with e';subst e';exact hnd'
   cases e'
  ·split at e'
   ·injection e' with e';subst e'
    have:=hmem g hg;exact⟨.inr (hfoot g this),aKD (hge g this) hon.size⟩
   cases e'
  ·split at e'
   ·rename_i eh;subst eh;rw[h1] at e0;cases e0
   cases e'
  unfold aF;intro pl1 e';simp at e';subst e';rfl
 rcases q1.2 with ⟨hvn,hz⟩ | ⟨g,cap,cur,hvv,hg0,hb,hn,hcap,hsz,htk⟩
 ·have hz' :l= []:=aE6 hz;rw[hvn];refine(hn0 hz' w).mono ?_;rintro en w' ⟨rfl,rfl⟩;refine hend (.slice none 0 0) w' (jH.refl _ _) (fun b hb=>by cases hb) ?_;rw[hm0 hz'];exact⟨by simp,.inl ⟨rfl,rfl⟩⟩
 have hlt:g<w.heap.size:=(Array.getElem?_eq_some_iff.1 hb).1;have hH:Go.Sort.Holds (Value.int .i64) w g 0 l.toArray:=holds_of_blockI hb (by rw[Nat.mul_one] at htk;exact htk);rw[hvv];refine(hs g cap w hH hlt hn).mono ?_;rintro en w' ⟨rfl,n,os,z,hz,rfl⟩;have hgb:=grownBy_sortedI (w:=w) (g:=g) (n:=n) (os:=os) (m++z).toArray;have hown:=ownsRow_sortedI (n:=n) (os:=os) hz hg0 hb hn hcap hsz;refine hend _ _ ⟨hgb.os,hgb.tape,hgb.output,hgb.size,fun k hk hne=>hgb.block k hk (fun e=>hne (by injection e with e;subst e;unfold Pl.F;rw[q2,hvv];simp[Value.ownBlock]))⟩ (fun b hb' =>by rw[hvv];exact hb') ?_;rcases hown.2 with ⟨hvn,_⟩ | ⟨g',cap',cur',hv',hg',hb',hn',hcap',hsz',htk'⟩
 ·cases hvn
 simp only[Value.slice.injEq,Option.some.injEq,Addr.mk.injEq,and_true] at hv';obtain⟨rfl,_,rfl⟩:=hv';refine⟨by simp,.inr ⟨g,cap,cur',rfl,hg',hb',by omega,hcap',hsz',?_⟩⟩;rw[Nat.mul_one] at*;have h3:=congrArg (List.take m.length) htk';rw[List.take_take,Nat.min_eq_left hm,aG0,List.take_append_of_le_length (by simp)] at h3;rw[h3,aCv (by simp)]
def pU (l:List Int):List Int:=compactUpTo l.toArray l.toArray.size
theorem aGq (l:List Int):(pU l).length<=l.length:=by
 unfold pU compactUpTo;rw[aAK];have:=(List.filter_sublist (l:=List.range l.toArray.size) (p:=keeps l.toArray)).length_le;simpa using this
theorem aE7 {l:List Int}:pU l= []↔l= []:=by
 constructor
 ·intro h;by_cases e:l= []
  ·exact e
  exfalso;have hp:0<l.length:=List.length_pos_iff.2 e;unfold pU compactUpTo at h;rw[List.map_eq_nil_iff,List.filter_eq_nil_iff] at h;exact h 0 (aJy.2 (by simpa using hp)) (keeps_lt_one _ 0 (by omega))
 rintro rfl;rfl
theorem tyI:eM Tryz.prog 3=some (false,1,8,.int .i64 0):=by kernel_rfl
theorem aPa (w:World):(zeroValue 3).run Tryz.prog w= .ok (.int .i64 0) w:=(eK tyI w).2.2.1
theorem aJm (l:List Int)(hl:l.length<4611686018427387904):rA Tryz.prog 190 [.own 0] [(0,.arr 3 1 true (l.map intD))] (.own 1) [(1,.arr 3 1 true ((pU l).map intD))]:=
 aHj l (pU l) (by kernel_rfl) (aGq l) (fun h=>aE7.2 h)
  (fun h w=>by
   go_enter Tryz.func190,Tryz.ntmps190
   go_wp2
   go_ret
   exact⟨rfl,rfl⟩)
  (fun blk cap w hH hblk hn=>(AnyE.slices_Compact Tryz.compInts (Value.int .i64) (fun _=>rfl) (EqlAt.intD _ _ .i64) (NeqAt.intD _ _ .i64) 0 (fun w=>aPa w) blk 0 cap l.toArray w hH (by rw[List.size_toArray];omega) (by rw[List.size_toArray];exact hn)).mono fun e w' ⟨he,q,hw⟩=>
   ⟨by have e1:l.toArray.size=l.length:=by simp
       rw[e1] at he;unfold pU;rw[e1];exact he,q,#[],List.replicate (l.length - (pU l).length) 0,by have:=aGq l;simp;omega,by rw[hw,Go.Sort.grow_empty];simp[pU]⟩)
end Go.Proofs.YtafmaholhcgakaaGreat
