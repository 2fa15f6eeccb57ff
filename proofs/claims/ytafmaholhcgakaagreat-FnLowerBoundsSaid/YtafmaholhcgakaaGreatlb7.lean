/-
  Contracts and plain laws, joined: part 8.
-/
import Derived.Test.YtafmaholhcgakaaGreatlb6
import Derived.Test.YtafmaholhcgakaaGreatlb4
import Derived.Test.YtafmaholhcgakaaGreatlb5
namespace Go.Proofs.YtafmaholhcgakaaGreat
open Go.ChangeShapes Go.WideShapes Go.ChangeAt Go.RowKit
set_option linter.unusedVariables false
set_option linter.unusedSimpArgs false
set_option maxRecDepth 100000
set_option maxHeartbeats 4000000
abbrev aH4 (l:List Int):Prop:=Cn 5 [.one (.sl 5 1 (l.map bD))] (vB (decide (1048576<(l.length:Int)))) []
theorem aTM (l:List Int):aH4 l:=by
 refine cq Tryz.func5 (.len l.length<| .fin []) (p:=Lx (l.map bD)<| Lm bD l/\(decide (1048576<(l.length:Int)))=(decide (1048576<(l.length:Int)))/\True) (by kernel_rfl) ?_;refine lx fun n0=>?_;refine⟨aAJ _,?_,trivial⟩
 ·rfl
def lL (l:List Int)(val:Int)(c:Cu):Int × Cu:=aA l c val
def cO (l:List Int)(u:Cu)(xs:List ByteArray):ByteArray × Cu:=(xs.getD (aA l u xs.length).1.toNat ⟨#[]⟩,(aA l u xs.length).2)
theorem aQy {l:List Int}{u:Cu}{xs:List ByteArray}{x:ByteArray}(h:xs[(aA l u xs.length).1.toNat]? =some x):cO l u xs=(x,(aA l u xs.length).2):=by rw[cO,aEE,h];rfl
theorem aCw (l:List Int)(u:Cu){xs:List ByteArray}(h:0<xs.length):(cO l u xs).1∈xs:=by
 have hb:=dK l u (n:=xs.length) (by omega);have hlt:(aA l u xs.length).1.toNat<xs.length:=by omega
 rw[cO,aEE,aBJ hlt];exact aQU hlt
theorem oL (l:List Int)(u:Cu){xs:List ByteArray}{m:Nat}(h:0<xs.length)(hs: ∀x∈xs,x.size<=m):(cO l u xs).1.size<=m:=hs _ (aCw l u h)
structure TS where
 rows:List (List Int)
 cu:Cu
def aLg (l:List Int)(ar:Nat)(val:Int)(s:TS):TS:=⟨kB (kE (lL l val) ar s.cu).1 s.rows,(kE (lL l val) ar s.cu).2⟩
theorem aKS (l:List Int)(ar:Nat)(val:Int)(s:TS): ∀j,(tR (aLg l ar val) j s).rows.length<=s.rows.length+j
 | 0=>aKU _
 | j+1=>by
   have h:=aKS l ar val s j;have h2:=aFH (row:=(kE (lL l val) ar (tR (aLg l ar val) j s).cu).1) (xs:=(tR (aLg l ar val) j s).rows);rw[tR,aLg]
   dsimp only
   omega
theorem aKT {l:List Int}{ar m:Nat}(hm:ar<=m){val:Int}{s:TS}(hs: ∀r∈s.rows,r.length<=m): ∀j,∀r∈(tR (aLg l ar val) j s).rows,r.length<=m
 | 0,r,hr=>hs r hr
 | j+1,r,hr=>by
   rw[tR,aLg] at hr;rcases aBh.1 hr with rfl | hr
   ·rw[aFi];exact hm
   exact aKT hm hs j r hr
def fT (l:List Int)(u:Cu)(ar:Nat)(most val:Int)(j:Nat):TS:=tR (aLg l ar val) j ⟨[],(aA l u (most+1)).2⟩
def aVJ (l:List Int)(u:Cu)(ar:Nat)(most val:Int):TS:=fT l u ar most val (aA l u (most+1)).1.toNat
def dY (l:List Int)(u:Cu)(nm:ByteArray)(ar most val:Int):aP × Cu:=(⟨nm,ar,(aVJ l u ar.toNat most val).rows⟩,(aVJ l u ar.toNat most val).cu)
theorem aFk (l:List Int)(u:Cu)(ar:Nat)(most val:Int)(j:Nat):(fT l u ar most val j).rows.length<=j:=by
 have h:=aKS l ar val ⟨[],(aA l u (most+1)).2⟩ j;simpa [fT] using h
theorem aLh (l:List Int)(u:Cu){ar:Nat}(har:ar<=3)(most val:Int){j:Nat}(hj:j<=8):cV (fT l u ar most val j).rows<=32:=by
 have h1:=aFk l u ar most val j;have h2:=uP (l:=(fT l u ar most val j).rows) (m:=3) (aKT har (by simp) j);omega
theorem aDx (l:List Int)(u:Cu)(nm:ByteArray)(ar:Int){most:Int}(h0:0<=most)(val:Int):((dY l u nm ar most val).1.rows.length:Int)<=most:=by
 have h1:=aFk l u ar.toNat most val (aA l u (most+1)).1.toNat;have h2:=dK l u (n:=most+1) (by omega);show ((fT l u ar.toNat most val (aA l u (most+1)).1.toNat).rows.length:Int)<=most;omega
theorem aQz (l:List Int)(u:Cu)(nm:ByteArray){ar:Int}(har:ar<=3){most:Int}(h0:0<=most)(h8:most<=8)(val:Int):iP (dY l u nm ar most val).1<=nm.size+32:=by
 have h2:=dK l u (n:=most+1) (by omega);have h3:=aLh l u (ar:=ar.toNat) (by omega) most val (j:=(aA l u (most+1)).1.toNat) (by omega);show nm.size+cV (fT l u ar.toNat most val (aA l u (most+1)).1.toNat).rows<=nm.size+32;omega
theorem tT {α:Type}{c:α->Nat}{m:Nat}: ∀{l:List α},(∀x∈l,c x<=m)->nA c l<=l.length+l.length*m
 | [],_=>by simp[nA]
 | x::l,h=>by
   have h1:=tT (l:=l) (fun y hy=>h y (aML _ hy));have h2:=h x aLu;simp only[nA,aGN,List.sum_cons,aHl,Nat.add_mul,Nat.one_mul] at h1 ⊢;omega
theorem aAA {α:Type}(c:α->Nat)(l:List α)(x:α):nA c (l++[x])=nA c l+1+c x:=by
 simp only[nA,aJP,aHl,List.length_nil,aGO,aGN,List.map_nil,List.sum_append,List.sum_cons,List.sum_nil];omega
def rL {α:Type}(l:List α)(i:Nat)(f:α->α):List α:=match l[i]? with | some e=>l.set i (f e) | none=>l
theorem aCC {α:Type}{l:List α}{i:Nat}{f:α->α}{e:α}(h:l[i]? =some e):rL l i f=l.set i (f e):=by rw[rL,h]
theorem aOc {α:Type}(l:List α)(i:Nat)(f:α->α):(rL l i f).length=l.length:=by unfold rL;split;exact aFn;rfl
theorem aOd {α:Type}{l:List α}{i:Nat}{f:α->α}{p:α->Prop}(hl: ∀x∈l,p x)(hf: ∀x,p x->p (f x)): ∀x∈rL l i f,p x:=by
 unfold rL;split
 ·rename_i e he;intro x hx;rcases List.mem_or_eq_of_mem_set hx with h | rfl
  ·exact hl x h
  exact hf _ (hl _ (aAx he))
 exact hl
def nmL:List ByteArray:=[⟨#[114]⟩,⟨#[115]⟩,⟨#[116]⟩,⟨#[117]⟩,⟨#[118]⟩]
def arN (n:ByteArray):Int:=if n=⟨#[118]⟩ then 1 else if n=⟨#[117]⟩ then 3 else 2
theorem aTN (n:ByteArray):1<=arN n/\arN n<=3:=by unfold arN;split;omega;split;omega;omega
theorem aFl: ∀k,(nmL.getD k ⟨#[]⟩).size<=1
 | 0 | 1 | 2 | 3 | 4=>aKU _
 | _+5=>aAU _
structure DS where
 tabs:List aP
 cu:Cu
def dbG (l:List Int)(most val:Int)(n:ByteArray)(s:DS):DS:=⟨s.tabs++[(dY l s.cu n (arN n) most val).1],(dY l s.cu n (arN n) most val).2⟩
def dbP (l:List Int)(most val:Int):Nat->DS->DS
 | 0,s=>s
 | k+1,s=>dbG l most val (nmL.getD k ⟨#[]⟩) (dbP l most val k s)
theorem aMx (l:List Int)(most val:Int)(s:DS): ∀k,(dbP l most val k s).tabs.length=s.tabs.length+k
 | 0=>rfl
 | k+1=>by
   have h:=aMx l most val s k;rw[dbP,dbG];simp only[aJP,aHl,List.length_nil];omega
theorem aMy {l:List Int}{most val:Int}(h0:0<=most)(h8:most<=8){s:DS}(hs: ∀t∈s.tabs,iP t<=33/\t.rows.length<=8): ∀k,∀t∈(dbP l most val k s).tabs,iP t<=33/\t.rows.length<=8
 | 0,t,ht=>hs t ht
 | k+1,t,ht=>by
   rw[dbP,dbG] at ht;rcases aDy.1 ht with ht | ht
   ·exact aMy h0 h8 hs k t ht
   rw[aNQ.1 ht];have h1:=aQz l (dbP l most val k s).cu (nmL.getD k ⟨#[]⟩) (ar:=arN (nmL.getD k ⟨#[]⟩)) (aTN _).2 h0 h8 val;have h2:=aDx l (dbP l most val k s).cu (nmL.getD k ⟨#[]⟩) (arN (nmL.getD k ⟨#[]⟩)) h0 val;have h3:=aFl k;exact⟨by omega,by omega⟩
def kU (l:List Int)(u:Cu):Int × Cu:=bI l u [2,3,4,6]
def lM (l:List Int)(u:Cu):Int × Cu:=bI l (kU l u).2 [2,4,6,8]
def dL (l:List Int)(u:Cu)(k:Nat):DS:=dbP l (lM l u).1 (kU l u).1 k ⟨[],(lM l u).2⟩
def noR (t:aP):aP:=⟨t.name,t.arity,[]⟩
def dbI (l:List Int)(u:Cu):Int × Cu:=aA l (aA l (dL l u 5).cu 8).2 5
def fZ (l:List Int)(u:Cu):aL × Cu:=if (aA l (dL l u 5).cu 8).1=0 then (⟨rL (dL l u 5).tabs (dbI l u).1.toNat noR⟩,(dbI l u).2) else (⟨(dL l u 5).tabs⟩,(aA l (dL l u 5).cu 8).2)
theorem aMz (l:List Int)(u:Cu):0<=(lM l u).1/\(lM l u).1<=8:=by
 have h:=aQv l (kU l u).2 (xs:=[2,4,6,8]) (by decide);have e:(lM l u).1=(bI l (kU l u).2 [2,4,6,8]).1:=rfl;rw[e];simp only[aG7,List.not_mem_nil,or_false] at h;omega
theorem aI5 (l:List Int)(u:Cu)(k:Nat):(∀t∈(dL l u k).tabs,iP t<=33/\t.rows.length<=8)/\(dL l u k).tabs.length=k:=by
 have h:=aMz l u;exact⟨aMy h.1 h.2 (by simp) k,by rw[dL,aMx];exact Nat.zero_add k⟩
theorem aI6 (l:List Int)(u:Cu):(∀t∈(fZ l u).1.tables,iP t<=33/\t.rows.length<=8)/\(fZ l u).1.tables.length=5:=by
 have h:=aI5 l u 5;unfold fZ;split
 ·refine⟨aOd h.1 fun t ht=>?_,by rw[<-h.2];exact aOc _ _ _⟩;have e:iP t=t.name.size+cV t.rows:=rfl;have e2:iP (noR t)=t.name.size+cV []:=rfl;have e3:cV []=0:=rfl;exact⟨by omega,aAU _⟩
 exact h
theorem aTi (l:List Int)(u:Cu):bO (fZ l u).1<=170:=by
 have h:=aI6 l u;have h2:=tT (c:=iP) (fun t ht=>(h.1 t ht).1);rw[h.2] at h2;exact h2
def t4N (l:List Int)(u:Cu):ByteArray × Cu:=cO l u [⟨#[114]⟩,⟨#[115]⟩,⟨#[116]⟩]
def t4A (l:List Int)(u:Cu):Int × Cu:=aA l (t4N l u).2 3
def oM (l:List Int)(u:Cu):aP × Cu:=dY l (t4A l u).2 (t4N l u).1 (1+(t4A l u).1) 6 4
def nQ (l:List Int)(u:Cu):Int × Cu:=aA l (oM l u).2 12
def sK (l:List Int)(u:Cu):aP × Cu:=
 if (nQ l u).1=0 then (⟨(cO l (nQ l u).2 [⟨#[]⟩,⟨#[82]⟩,⟨#[114,115]⟩,⟨#[122]⟩]).1,(oM l u).1.arity,(oM l u).1.rows⟩,(cO l (nQ l u).2 [⟨#[]⟩,⟨#[82]⟩,⟨#[114,115]⟩,⟨#[122]⟩]).2)
 else if (nQ l u).1=1 then (⟨(oM l u).1.name,(bI l (nQ l u).2 [0,4,-1]).1,(oM l u).1.rows⟩,(bI l (nQ l u).2 [0,4,-1]).2)
 else if (nQ l u).1=2 then (⟨(oM l u).1.name,(oM l u).1.arity,(oM l u).1.rows++[[0]]⟩,(nQ l u).2)
 else if (nQ l u).1=3 then (⟨(oM l u).1.name,(oM l u).1.arity,(oM l u).1.rows++[[9,9,10]]⟩,(nQ l u).2)
 else ((oM l u).1,(nQ l u).2)
theorem aCD (l:List (List Int))(r:List Int):cV (l++[r])=cV l+1+r.length:=by
 simp only[cV,nA,aJP,aHl,List.length_nil,aGO,aGN,List.map_nil,List.sum_append,List.sum_cons,List.sum_nil];show _+1+(_+(r.length+0))=_;omega
theorem aTj (l:List Int)(u:Cu):(oM l u).1.name.size<=1/\cV (oM l u).1.rows<=32/\(oM l u).1.rows.length<=6:=by
 have h1:(t4N l u).1.size<=1:=oL l u (by decide) (by decide);have h2:=dK l (t4N l u).2 (n:=3) (by omega);have h3:=dK l (t4A l u).2 (n:=6+1) (by omega);have h4:=aLh l (t4A l u).2 (ar:=(1+(t4A l u).1).toNat) (by have e:(t4A l u).1=(aA l (t4N l u).2 3).1:=rfl;omega) 6 4 (j:=(aA l (t4A l u).2 (6+1)).1.toNat) (by omega);have h5:=aDx l (t4A l u).2 (t4N l u).1 (1+(t4A l u).1) (most:=6) (by omega) 4;exact⟨h1,h4,by have e:(oM l u).1=(dY l (t4A l u).2 (t4N l u).1 (1+(t4A l u).1) 6 4).1:=rfl;rw[e];omega⟩
theorem aVm (l:List Int)(u:Cu):iP (sK l u).1<=40/\(sK l u).1.rows.length<=8:=by
 have h:=aTj l u;have hs:(cO l (nQ l u).2 [⟨#[]⟩,⟨#[82]⟩,⟨#[114,115]⟩,⟨#[122]⟩]).1.size<=2:=oL l _ (by decide) (by decide);have e: ∀t:aP,iP t=t.name.size+cV t.rows:=fun _=>rfl;unfold sK;split
 ·rw[e];dsimp only;omega
 split
 ·rw[e];dsimp only;omega
 split
 ·rw[e];dsimp only;rw[aCD,aJP];simp only[aHl,List.length_nil];omega
 split
 ·rw[e];dsimp only;rw[aCD,aJP];simp only[aHl,List.length_nil];omega
 rw[e];dsimp only;omega
def azL:List ByteArray:=[⟨#[97]⟩,⟨#[119]⟩,⟨#[122]⟩]
def iQ (l:List Int)(u:Cu):Int × Cu:=aA l (fZ l u).2 10
def daT (l:List Int)(u:Cu):aP × Cu:=sK l (iQ l u).2
def daN (l:List Int)(u:Cu):ByteArray × Cu:=cO l (iQ l u).2 azL
def daX (l:List Int)(u:Cu):aP × Cu:=dY l (daN l u).2 (daN l u).1 2 4 3
def daY (l:List Int)(u:Cu):aP × Cu:=dY l (iQ l u).2 ⟨#[119]⟩ 1 2 3
def daZ (l:List Int)(u:Cu):aP × Cu:=dY l (daY l u).2 ⟨#[120]⟩ 1 2 3
def uC (l:List Int)(u:Cu):aL × Cu:=
 if (iQ l u).1=0 then (⟨(fZ l u).1.tables.set (aA l (daT l u).2 5).1.toNat (daT l u).1⟩,(aA l (daT l u).2 5).2)
 else if (iQ l u).1=1 then (⟨(fZ l u).1.tables++[(daX l u).1]⟩,(daX l u).2)
 else if (iQ l u).1=2 then (⟨(fZ l u).1.tables.drop (aA l (iQ l u).2 5).1.toNat⟩,(aA l (iQ l u).2 5).2)
 else if (iQ l u).1=3 then (⟨(fZ l u).1.tables++[(daY l u).1,(daZ l u).1]⟩,(daZ l u).2)
 else ((fZ l u).1,(iQ l u).2)
theorem aTP (l:List Int)(u:Cu):(∀t∈(uC l u).1.tables,iP t<=40/\t.rows.length<=8)/\(uC l u).1.tables.length<=7:=by
 have h:=aI6 l u;have hw: ∀t∈(fZ l u).1.tables,iP t<=40/\t.rows.length<=8:=fun t ht=>⟨by have:=h.1 t ht;omega,(h.1 t ht).2⟩
 have hx:iP (daX l u).1<=40/\(daX l u).1.rows.length<=8:=by
  have h1:(daN l u).1.size<=1:=oL l _ (by decide) (by decide);have h2:=aQz l (daN l u).2 (daN l u).1 (ar:=2) (by omega) (most:=4) (by omega) (by omega) 3;have h3:=aDx l (daN l u).2 (daN l u).1 2 (most:=4) (by omega) 3;exact⟨by rw[daX];omega,by rw[daX];omega⟩
 have hy: ∀(c:Cu) (n:ByteArray),n.size<=1->iP (dY l c n 1 2 3).1<=40/\(dY l c n 1 2 3).1.rows.length<=8:=fun c n hn=>by
  have h2:=aQz l c n (ar:=1) (by omega) (most:=2) (by omega) (by omega) 3;have h3:=aDx l c n 1 (most:=2) (by omega) 3;exact⟨by omega,by omega⟩
 unfold uC;split
 ·refine⟨fun t ht=>?_,by rw[aFn];omega⟩;rcases List.mem_or_eq_of_mem_set ht with ht | rfl
  ·exact hw t ht
  exact aVm l _
 split
 ·refine⟨fun t ht=>?_,by simp only[aJP,aHl,List.length_nil];omega⟩;rcases aDy.1 ht with ht | ht
  ·exact hw t ht
  rw[aNQ.1 ht];exact hx
 split
 ·exact⟨fun t ht=>hw t (List.mem_of_mem_drop ht),by rw[aOs];omega⟩
 split
 ·refine⟨fun t ht=>?_,by simp only[aJP,aHl,List.length_nil];omega⟩;rcases aDy.1 ht with ht | ht
  ·exact hw t ht
  rcases aG7.1 ht with rfl | ht
  ·exact hy _ _ (aKU _)
  rw[aNQ.1 ht];exact hy _ _ (aKU _)
 exact⟨hw,by dsimp only;omega⟩
theorem aVn (l:List Int)(u:Cu):bO (uC l u).1<=300:=by
 have h:=aTP l u;have h2:=tT (c:=iP) (fun t ht=>(h.1 t ht).1);show nA iP (uC l u).1.tables<=300;omega
def aLi:List Int:=[2,2,2,3,1]
theorem aCE: ∀k,aLi.getD k 0<=3
 | 0 | 1 | 2 | 3 | 4=>by decide
 | _+5=>by show (0:Int)<=3;omega
def aRA (l:List Int)(dt:Int)(i:Nat)(s:List Int × Cu):List Int × Cu:=if (i:Int)=dt then s else if (aA l s.2 2).1=0 then (s.1++[(i:Int)],(aA l s.2 2).2) else (s.1,(aA l s.2 2).2)
def bY (l:List Int)(dt:Int):Nat->List Int × Cu->List Int × Cu
 | 0,s=>s
 | i+1,s=>aRA l dt i (bY l dt i s)
theorem aFm (l:List Int)(dt:Int)(s:List Int × Cu): ∀i,(bY l dt i s).1.length<=s.1.length+i
 | 0=>aKU _
 | i+1=>by
   have h:=aFm l dt s i;rw[bY,aRA];split
   ·omega
   split
   ·simp only[aJP,aHl,List.length_nil];omega
   dsimp only;omega
def bX (l:List Int)(u:Cu):Int × Cu:=aA l u 5
def deM (l:List Int)(u:Cu):Int:=aLi.getD (bX l u).1.toNat 0
def deT (l:List Int)(u:Cu):Int × Cu:=aA l (bX l u).2 (deM l u)
def deL (l:List Int)(u:Cu):List Int × Cu:=bY l (deT l u).1 (deM l u).toNat ([],(deT l u).2)
def deO (l:List Int)(u:Cu):Int × Cu:=aA l (deL l u).2 14
def deD (l:List Int)(u:Cu):Int × Cu:=if (deO l u).1=0 then bI l (deO l u).2 [-1,3,0] else ((deT l u).1,(deO l u).2)
def deQ (l:List Int)(u:Cu):Int × Cu:=aA l (deD l u).2 16
def deN (l:List Int)(u:Cu):ByteArray:=nmL.getD (bX l u).1.toNat ⟨#[]⟩
def dR (l:List Int)(u:Cu):aU × Cu:=
 if (deQ l u).1=0 then (⟨deN l u,(deL l u).1++[(bI l (deQ l u).2 [-1,0,3,9223372036854775807]).1],(deD l u).1⟩,(bI l (deQ l u).2 [-1,0,3,9223372036854775807]).2)
 else (⟨deN l u,(deL l u).1,(deD l u).1⟩,(deQ l u).2)
theorem aLj (l:List Int)(u:Cu):hJ (dR l u).1<=5:=by
 have h:=aFm l (deT l u).1 ([],(deT l u).2) (deM l u).toNat;have h2:=aCE (bX l u).1.toNat;have h3:(deN l u).size<=1:=aFl _;have e: ∀f:aU,hJ f=f.name.size+f.src.length:=fun _=>rfl;have e2:deM l u=aLi.getD (bX l u).1.toNat 0:=rfl;have e3:(deL l u).1=(bY l (deT l u).1 (deM l u).toNat ([],(deT l u).2)).1:=rfl;simp only[List.length_nil] at h;unfold dR;split
 ·rw[e];dsimp only;simp only[aJP,aHl,List.length_nil];rw[e3];omega
 rw[e];dsimp only;rw[e3];omega
def inN (l:List Int)(u:Cu):ByteArray × Cu:=cO l u nmL
def inC (l:List Int)(u:Cu):Int × Cu:=aA l (inN l u).2 2
def inI (l:List Int)(u:Cu):ByteArray × Cu:=cO l (inC l u).2 nmL
def wG (l:List Int)(u:Cu):Int × Cu:=aA l (inI l u).2 2
def fB (l:List Int)(u:Cu):Int × Cu:=aA l (wG l u).2 14
def aAT (n:ByteArray)(x:Int):Int:=if n=⟨#[118]⟩ then 0 else x
def dA (l:List Int)(u:Cu):aO × Cu:=
 if (fB l u).1=0 then (⟨(inN l u).1,(bI l (fB l u).2 [-1,3]).1,(inI l u).1,aAT (inI l u).1 (wG l u).1⟩,(bI l (fB l u).2 [-1,3]).2)
 else (⟨(inN l u).1,aAT (inN l u).1 (inC l u).1,(inI l u).1,aAT (inI l u).1 (wG l u).1⟩,(fB l u).2)
theorem aLk (l:List Int)(u:Cu):kZ (dA l u).1<=2:=by
 have h1:(inN l u).1.size<=1:=oL l u (by decide) (by decide);have h2:(inI l u).1.size<=1:=oL l _ (by decide) (by decide);have e: ∀x:aO,kZ x=x.name.size+x.into.size:=fun _=>rfl;unfold dA;split
 ·rw[e];dsimp only;omega
 rw[e];dsimp only;omega
structure CS where
 out:List ByteArray
 fr:Nat
def jQ (c:Int)(s:ByteArray):Nat->CS
 | 0=>⟨[],0⟩
 | i+1=>if nX s i=c then ⟨(jQ c s i).out++[s.extract (jQ c s i).fr i],i+1⟩ else jQ c s i
def bB (c:Int)(s:ByteArray):List ByteArray:=(jQ c s s.size).out++[s.extract (jQ c s s.size).fr s.size]
theorem vF {c:Int}{s:ByteArray}{i:Nat}(h:nX s i=c):jQ c s (i+1)=⟨(jQ c s i).out++[s.extract (jQ c s i).fr i],i+1⟩:=by rw[jQ,if_pos h]
theorem vG {c:Int}{s:ByteArray}{i:Nat}(h: ¬nX s i=c):jQ c s (i+1)=jQ c s i:=by rw[jQ,if_neg h]
theorem aFo (c:Int)(s:ByteArray): ∀i,(jQ c s i).fr<=i/\(jQ c s i).out.length<=i
 | 0=>⟨aKU _,aKU _⟩
 | i+1=>by
   have h:=aFo c s i;rw[jQ];split
   ·simp only[aJP,aHl,List.length_nil];omega
   omega
theorem aRD (c:Int)(s:ByteArray):(bB c s).length<=s.size+1:=by
 have h:=(aFo c s s.size).2;rw[bB,aJP];simp only[aHl,List.length_nil];omega
def vnm (v:Int):ByteArray:=if dV v 0 3=true then (⟨#[88,89,90,85]⟩:ByteArray).extract (Int.toNat v) (Int.toNat (v+1)) else ⟨#[]⟩
theorem aI7 {v:Int}(h:dV v 0 3=true):vnm v=(⟨#[88,89,90,85]⟩:ByteArray).extract (Int.toNat v) (Int.toNat (v+1)):=by rw[vnm,if_pos h]
theorem aLl {v:Int}(h:dV v 0 3=false):vnm v=⟨#[]⟩:=by rw[vnm,if_neg (by rw[h];decide)]
theorem aKW (v:Int):(vnm v).size<=1:=by
 cases h:dV v 0 3 with
 | false=>rw[aLl h];exact aAU _
 | true=>
   rw[aI7 h];have:=dB h;rw[ByteArray.size_extract];omega
def pK (l:List Int):Nat->ByteArray
 | 0=>⟨#[]⟩
 | i+1=>pK l i++vnm (l.getD i 0)
theorem tU (l:List Int): ∀k,(pK l k).size<=k
 | 0=>aKU _
 | k+1=>by
   have h1:=tU l k;have h2:=aKW (l.getD k 0);rw[pK,ByteArray.size_append];omega
def mL (q:aI):Nat->ByteArray
 | 0=>⟨#[]⟩
 | i+1=>(if 0<i then mL q i++(⟨#[32]⟩:ByteArray) else mL q i)++(q.atoms.getD i cS).name++(⟨#[40]⟩:ByteArray)++pK (q.atoms.getD i cS).vars (q.atoms.getD i cS).vars.length++(⟨#[41]⟩:ByteArray)
theorem aFp {q:aI}{i:Nat}{a:bH}(h:q.atoms[i]? =some a)(h2:(0:Int)<(i:Int)):mL q (i+1)=mL q i++(⟨#[32]⟩:ByteArray)++a.name++(⟨#[40]⟩:ByteArray)++pK a.vars a.vars.length++(⟨#[41]⟩:ByteArray):=by rw[mL,aT h,if_pos (by omega)]
theorem aFq {q:aI}{i:Nat}{a:bH}(h:q.atoms[i]? =some a)(h2: ¬0<(i:Int)):mL q (i+1)=mL q i++a.name++(⟨#[40]⟩:ByteArray)++pK a.vars a.vars.length++(⟨#[41]⟩:ByteArray):=by rw[mL,aT h,if_neg (by omega)]
def aAI (q:aI):ByteArray:=if aZ q=true then mL q q.atoms.length else ⟨#[]⟩
theorem aTQ {q:aI}{i:Nat}(hi:i<=q.atoms.length)(hv:i=0\/aZ q=true)(h: ¬(i:Int)<(q.atoms.length:Int)):mL q i=aAI q:=by
 have e:i=q.atoms.length:=by omega
 rw[aAI];split
 ·rw[e]
 rcases hv with hv | hv
 ·rw[hv];rfl
 contradiction
theorem aRE {q:aI}{i:Nat}(hv:i=0\/aZ q=true)(h:aZ q=false):mL q i=aAI q:=by
 rw[aAI,if_neg (by rw[h];decide)];rcases hv with hv | hv
 ·rw[hv];rfl
 rw[h] at hv;cases hv
theorem sL {s:ByteArray}(h:fF s=true):s.size=1:=by
 simp only[fF,aAS,aLF] at h;omega
theorem aH6 {q:aI}(h:aZ q=true): ∀i,i<=q.atoms.length->(mL q i).size<=7*i
 | 0,_=>aKU _
 | i+1,hi=>by
   have h1:=aH6 h i (by omega);obtain⟨a,ha⟩:=cP (l:=q.atoms) (k:=i) (by omega);obtain⟨p1,p2,_⟩:=gQ ((bM h).2.2 a (aAx ha));have p3:=sL p1;have p4:=tU a.vars a.vars.length;have k1:(⟨#[32]⟩:ByteArray).size=1:=rfl;have k2:(⟨#[40]⟩:ByteArray).size=1:=rfl;have k3:(⟨#[41]⟩:ByteArray).size=1:=rfl;by_cases h0:(0:Int)<(i:Int)
   ·rw[aFp ha h0];simp only[ByteArray.size_append];omega
   rw[aFq ha h0];simp only[ByteArray.size_append];omega
def aOf (a b:Int):Int:=if a<b then b else a
structure AS where
 vars:List Int
 vc:Int
def pqV (w:ByteArray)(k:Nat)(s:AS):Nat->AS
 | 0=>s
 | v+1=>if ((vnm (v:Int)).toList==(w.extract k (k+1)).toList)=true then ⟨(pqV w k s v).vars++[(v:Int)],aOf (pqV w k s v).vc ((v:Int)+1)⟩ else pqV w k s v
def wC (w:ByteArray)(s:AS):Nat->AS
 | 0=>s
 | j+1=>pqV w (j+2) (wC w s j) 4
theorem kO {w:ByteArray}{k v:Nat}{s:AS}(h:((vnm (v:Int)).toList==(w.extract k (k+1)).toList)=true):pqV w k s (v+1)=⟨(pqV w k s v).vars++[(v:Int)],aOf (pqV w k s v).vc ((v:Int)+1)⟩:=by rw[pqV,if_pos h]
theorem wD {w:ByteArray}{k v:Nat}{s:AS}(h:((vnm (v:Int)).toList==(w.extract k (k+1)).toList)=false):pqV w k s (v+1)=pqV w k s v:=by rw[pqV,if_neg (by rw[h];decide)]
theorem aKX {a b m:Int}(h0:0<=a)(ha:a<=m)(hb:b<=m):0<=aOf a b/\aOf a b<=m:=by unfold aOf;split<;>omega
theorem aI8 {w:ByteArray}{k n:Nat}{s:AS}(h:s.vars.length<=n/\0<=s.vc/\s.vc<=4): ∀v,v<=4->(pqV w k s v).vars.length<=n+v/\0<=(pqV w k s v).vc/\(pqV w k s v).vc<=4
 | 0,_=>h
 | v+1,hv=>by
   obtain⟨q1,q2,q3⟩:=aI8 (w:=w) (k:=k) h v (by omega);rw[pqV];split
   ·refine⟨by simp only[aJP,aHl,List.length_nil];omega,aKX q2 q3 (by omega)⟩
   exact⟨by omega,q2,q3⟩
theorem aI9 {w:ByteArray}{n:Nat}{s:AS}(h:s.vars.length<=n/\0<=s.vc/\s.vc<=4): ∀j,(wC w s j).vars.length<=n+4*j/\0<=(wC w s j).vc/\(wC w s j).vc<=4
 | 0=>h
 | j+1=>by
   have q:=aI8 (w:=w) (k:=j+2) (aI9 (w:=w) h j) 4 (aKU _);rw[wC];exact⟨by omega,q.2⟩
structure BS where
 atoms:List bH
 vc:Int
def lT (w:ByteArray):Bool:=decide (4<=w.size/\w.size<=6)
def fD (ws:List ByteArray):Nat->BS
 | 0=>⟨[],0⟩
 | i+1=>⟨(fD ws i).atoms++[⟨(ws.getD i ⟨#[]⟩).extract 0 1,(wC (ws.getD i ⟨#[]⟩) ⟨[],(fD ws i).vc⟩ ((ws.getD i ⟨#[]⟩).size - 3)).vars⟩],(wC (ws.getD i ⟨#[]⟩) ⟨[],(fD ws i).vc⟩ ((ws.getD i ⟨#[]⟩).size - 3)).vc⟩
theorem aNA (ws:List ByteArray): ∀i,0<=(fD ws i).vc/\(fD ws i).vc<=4/\(fD ws i).atoms.length=i
 | 0=>⟨Int.le_refl _,by show (0:Int)<=4;omega,rfl⟩
 | i+1=>by
   obtain⟨q1,q2,q3⟩:=aNA ws i;have h:=aI9 (w:=ws.getD i ⟨#[]⟩) (n:=0) (s:=⟨[],(fD ws i).vc⟩) ⟨aKU _,q1,q2⟩ ((ws.getD i ⟨#[]⟩).size - 3);rw[fD];exact⟨h.2.1,h.2.2,by simp only[aJP,aHl,List.length_nil];omega⟩
def pqN (s:ByteArray):Nat:=min (bB 32 s).length 5
def pqQ (s:ByteArray):aI:=⟨(fD (bB 32 s) (pqN s)).vc,(fD (bB 32 s) (pqN s)).atoms⟩
def jA (s:ByteArray):aI × Bool:=if (((bB 32 s).take (pqN s)).all lT&&(aZ (pqQ s)&&((aAI (pqQ s)).toList==s.toList)))=true then (pqQ s,true) else (aA9,false)
theorem aFr {s:ByteArray}(h:(((bB 32 s).take (pqN s)).all lT&&(aZ (pqQ s)&&((aAI (pqQ s)).toList==s.toList)))=false):jA s=(aA9,false):=by rw[jA,if_neg (by rw[h];decide)]
theorem aNB {s:ByteArray}(h:(((bB 32 s).take (pqN s)).all lT&&(aZ (pqQ s)&&((aAI (pqQ s)).toList==s.toList)))=true):jA s=(pqQ s,true):=by rw[jA,if_pos h]
theorem aKY {s w:ByteArray}{i:Nat}(hi:i<pqN s)(hw:(bB 32 s)[i]? =some w)(h:lT w=false):jA s=(aA9,false):=by
 refine aFr ?_;have:((bB 32 s).take (pqN s)).all lT=false:=fP (k:=i) (x:=w) (by rw[List.getElem?_take_of_lt hi];exact hw) h;rw[this];rfl
def yP (vars row r:List Int)(a:bH)(k j:Nat):Bool:= !decide (vars.getD j 0=a.vars.getD k 0) || decide (row.getD j 0=r.getD k 0)
def aFs (vars row r:List Int)(a:bH)(k:Nat):Bool:=(List.range row.length).all (yP vars row r a k)
def aIa (a:bH)(vars row r:List Int):Bool:=(List.range a.vars.length).all (aFs vars row r a)
theorem yQ (f:Nat->Bool)(P:Bool)(j:Nat):(P&&(List.range (j+1)).all f)=((P&&(List.range j).all f)&&f j):=by rw[List.range_succ,List.all_append];simp[Bool.and_assoc]
theorem aH7 (f:Nat->Bool)(j:Nat):(List.range (j+1)).all f=((List.range j).all f&&f j):=by rw[List.range_succ,List.all_append];simp
theorem aRF {f:Nat->Bool}{n i:Nat}(hi:i<n)(h:f i=false):(List.range n).all f=false:=by
 rw[List.all_eq_false];exact⟨i,aJg.2 hi,by simp[h]⟩
theorem aTR {vars row r:List Int}{a:bH}{k j:Nat}{x y:Int}(hx:vars[j]? =some x)(hy:a.vars[k]? =some y)(h: ¬x=y):yP vars row r a k j=true:=by rw[yP,aT hx,aT hy,decide_eq_false h];rfl
theorem aTS {vars row r:List Int}{a:bH}{k j:Nat}{x y p q:Int}(hx:vars[j]? =some x)(hy:a.vars[k]? =some y)(h:x=y)(hp:row[j]? =some p)(hq:r[k]? =some q):yP vars row r a k j=decide (p=q):=by rw[yP,aT hx,aT hy,aT hp,aT hq,decide_eq_true h];rfl
theorem aRG {p:List Int->Bool}{l:List (List Int)}{i:Nat}{r:List Int}(h:l[i]? =some r)(ha:(l.take i).any p=false)(hp:p r=false):(l.take (i+1)).any p=false:=by rw[bS h,List.any_append,ha];simp[hp]
theorem aRH {p:List Int->Bool}{l:List (List Int)}{i:Nat}(hi:l.length<=i)(ha:(l.take i).any p=false):l.any p=false:=by rwa [aCy hi] at ha
theorem aTT {p:List Int->Bool}{l:List (List Int)}{i:Nat}{r:List Int}(h:l[i]? =some r)(hp:p r=true):l.any p=true:=List.any_eq_true.2 ⟨r,aAx h,hp⟩
theorem aTU {t:aP}{a:bH}{vars row r:List Int}{i:Nat}(h:t.rows[i]? =some r)(hp:aIa a vars row r=true):sX t a vars row=true:=aTT (p:=aIa a vars row) h hp
theorem aVL {t:aP}{a:bH}{vars row:List Int}{i:Nat}(hi:t.rows.length<=i)(ha:(t.rows.take i).any (aIa a vars row)=false):sX t a vars row=false:=aRH (p:=aIa a vars row) hi ha
def aLm (ts:List aP)(ats:List bH)(vars row:List Int)(i:Nat):Bool:=sX (ts.getD i mI) (ats.getD i cS) vars row
def lN (ts:List aP)(ats:List bH)(vars row:List Int):Bool:=(List.range ts.length).all (aLm ts ats vars row)
def yR (fit:List Int->Bool)(n g:Nat)(row:List Int)(v:Nat):List (List Int):=(List.range v).flatMap fun x:Nat=>kT fit n g (row++[(x:Int)])
theorem qK (fit:List Int->Bool)(n g:Nat)(row:List Int)(v:Nat):yR fit n g row (v+1)=yR fit n g row v++kT fit n g (row++[(v:Int)]):=by
 rw[yR,List.range_succ,List.flatMap_append];simp[yR]
theorem aVM {fit:List Int->Bool}{n f:Nat}{row:List Int}(hf:0<f)(h:fit row=false):kT fit n f row= []:=by
 obtain⟨g,rfl⟩: ∃g,f=g+1:=⟨f - 1,by omega⟩;rw[kT,if_neg (by rw[h];decide)]
theorem aTV {fit:List Int->Bool}{n f:Nat}{row:List Int}(hf:0<f)(h:fit row=true)(hl:row.length=n):kT fit n f row= [row]:=by
 obtain⟨g,rfl⟩: ∃g,f=g+1:=⟨f - 1,by omega⟩;rw[kT,if_pos h,if_pos hl]
theorem aRI {fit:List Int->Bool}{n f:Nat}{row:List Int}(hf:0<f)(h:fit row=true)(hl: ¬row.length=n):kT fit n f row=yR fit n (f - 1) row 10:=by
 obtain⟨g,rfl⟩: ∃g,f=g+1:=⟨f - 1,by omega⟩;rw[kT,if_pos h,if_neg hl];rfl
theorem aAy {f:Nat->List (List Int)}{m:Nat}(h: ∀x,(f x).length<=m): ∀v,((List.range v).flatMap f).length<=v*m
 | 0=>aAU _
 | v+1=>by
   have q:=aAy h v;have q2:=h v;rw[List.range_succ,List.flatMap_append,aJP];simp only[List.flatMap_cons,List.flatMap_nil,aOt];rw[Nat.add_mul,Nat.one_mul];omega
theorem aKZ (fit:List Int->Bool)(n:Nat): ∀(f:Nat) (row:List Int),(kT fit n f row).length<=10^f
 | 0,_=>aAU _
 | f+1,row=>by
   have hp:0<10^f:=Nat.pow_pos (by decide);rw[kT];split
   ·split
    ·rw[Nat.pow_succ];simp only[aHl,List.length_nil];omega
    have:=aAy (f:=fun x:Nat=>kT fit n f (row++[(x:Int)])) (fun x=>aKZ fit n f _) 10;rw[Nat.pow_succ];omega
   exact aAU _
theorem aFt {fit:List Int->Bool}{n g:Nat}(hg:g<=4)(row:List Int):(kT fit n g row).length<=10000:=Nat.le_trans (aKZ fit n g row) (Nat.le_trans (Nat.pow_le_pow_right (by decide) hg) (by decide))
theorem aLn {fit:List Int->Bool}{n g v:Nat}(hg:g<=4)(hv:v<=10)(row:List Int):(yR fit n g row v).length<=100000:=by
 have:=aAy (f:=fun x:Nat=>kT fit n g (row++[(x:Int)])) (m:=10000) (fun x=>aFt hg _) v;have e:yR fit n g row v=(List.range v).flatMap fun x:Nat=>kT fit n g (row++[(x:Int)]):=rfl;rw[e];omega
def pY (d:aL)(q:aI)(m:Int):Bool:=dU d q&&dV m 1 (dC q)
def mD (d:aL)(q:aI)(m:Int)(i:Nat):List aP:=(dG (bR m) i).map fun x=>(aE d (q.atoms.getD x.toNat cS).name).1
def atL (q:aI)(m:Int)(i:Nat):List bH:=(dG (bR m) i).map fun x=>q.atoms.getD x.toNat cS
theorem nN {d:aL}{q:aI}{m:Int}{i:Nat}{a:bH}(h:q.atoms[i]? =some a)(hb:bR m i=true):mD d q m (i+1)=mD d q m i++[(aE d a.name).1]:=by
 rw[mD,lB hb,aGO,aGN,Int.toNat_natCast,aT h];rfl
theorem pZ {d:aL}{q:aI}{m:Int}{i:Nat}(hb:bR m i=false):mD d q m (i+1)=mD d q m i:=by rw[mD,nJ hb];rfl
theorem qA {q:aI}{m:Int}{i:Nat}{a:bH}(h:q.atoms[i]? =some a)(hb:bR m i=true):atL q m (i+1)=atL q m i++[a]:=by
 rw[atL,lB hb,aGO,aGN,Int.toNat_natCast,aT h];rfl
theorem vH {q:aI}{m:Int}{i:Nat}(hb:bR m i=false):atL q m (i+1)=atL q m i:=by rw[atL,nJ hb];rfl
theorem aK0 (d:aL)(q:aI)(m:Int)(i:Nat):(mD d q m i).length<=i/\(mD d q m i).length=(atL q m i).length:=by
 have:=tP (bR m) i;rw[mD,atL,aAJ,aAJ];exact⟨this,rfl⟩
theorem aRJ {α β:Type}(F:α->β->Bool)(f:Int->α)(g:Int->β)(x0:α)(y0:β): ∀L:List Int,(List.range (L.map f).length).all (fun i=>F ((L.map f).getD i x0) ((L.map g).getD i y0))=L.all fun x=>F (f x) (g x):=by
 intro L;apply Bool.eq_iff_iff.2;rw[aDP,aDP];constructor
 ·intro h x hx;obtain⟨i,hi,rfl⟩:=List.mem_iff_getElem.1 hx;have:=h i (aJg.2 (by rw[aAJ];exact hi))
  rwa [aEE,aOz,aBJ hi,aEE,aOz,aBJ hi] at this
 intro h i hi;have hi:=aJg.1 hi;rw[aAJ] at hi;have:=h _ (aQU hi)
 rwa [aEE,aOz,aBJ hi,aEE,aOz,aBJ hi]
theorem aVN {d:aL}{q:aI}{m:Int}(hm:0<=m/\m<=1*2^q.atoms.length - 1)(h4:q.atoms.length<=4):lN (mD d q m q.atoms.length) (atL q m q.atoms.length) (dS q m)=aO8 d q m:=by
 funext row;rw[aO8,aBs hm h4];exact aRJ (fun t a=>sX t a (dS q m) row) (fun x=>(aE d (q.atoms.getD x.toNat cS).name).1) (fun x=>q.atoms.getD x.toNat cS) mI cS _
theorem aRK {d:aL}{q:aI}{m:Int}(h:dU d q=true){n:Nat}(hn:n<=q.atoms.length): ∀(i:Nat) (t:aP) (a:bH),(mD d q m n)[i]? =some t->(atL q m n)[i]? =some a-> ∀r∈t.rows,a.vars.length<=r.length:=by
 intro i t a ht ha r hr;rw[mD,aOz] at ht;rw[atL,aOz] at ha;cases e:(dG (bR m) n)[i]? with
 | none=>rw[e] at ht;cases ht
 | some x=>
   rw[e] at ht ha;simp only[Option.map_some,Option.some.injEq] at ht ha;have hx:=gF.1 (aAx e);obtain⟨b,hb⟩:=cP (l:=q.atoms) (k:=x.toNat) (by omega);rw[aT hb] at ht ha;subst ha;subst ht;obtain⟨p1,p2⟩:=(kI h).2 b (aAx hb);have:=kM (jO p1).1 hr;omega
abbrev aFu (t:aP)(a:bH)(vars:List Int)(row:List Int):Prop:=Cn 173 [.agg [.str t.name,.int .i64 t.arity,.sl 34 1 (t.rows.map aD)],.agg [.str a.name,.sl 3 1 (a.vars.map intD)],.one (.sl 3 1 (vars.map intD)),.one (.sl 3 1 (row.map intD))] (vB (sX t a vars row)) []
theorem aRL (t:aP)(a:bH)(vars row:List Int)(hr: ∀r∈t.rows,a.vars.length<=r.length)(hv:row.length<=vars.length):aFu t a vars row:=by
 refine cq Tryz.func173 (.loop Nat (Q1 Nat) (rg 9 53) [] (fun i=>[(9,vI (i:Int))]) (fun i=>[]) (fun i=>i<=t.rows.length/\(t.rows.take i).any (aIa a vars row)=false) (fun i=>t.rows.length - i) (fun i=> .len t.rows.length<| .br (.loop (Nat × Bool) (Q2 Nat Bool) ([10,11,12]++rg 20 41) [] (fun yy1=>[(11,vI (yy1.1:Int)),(10,vB yy1.2)]) (fun yy1=>[]) (fun yy1=>yy1.1<=a.vars.length/\yy1.2=(List.range yy1.1).all (aFs vars row (t.rows.getD i []) a)) (fun yy1=>a.vars.length - yy1.1) (fun yy1=> .len a.vars.length<| .br (.loop (Nat × Bool) (Q2 Nat Bool) ([10,12]++rg 27 34) [] (fun yy2=>[(12,vI (yy2.1:Int)),(10,vB yy2.2)]) (fun yy2=>[]) (fun yy2=>yy2.1<=row.length/\yy2.2=((List.range yy1.1).all (aFs vars row (t.rows.getD i []) a)&&(List.range yy2.1).all (yP vars row (t.rows.getD i []) a yy1.1))) (fun yy2=>row.length - yy2.1) (fun yy2=> .len row.length<| .br (.br (.elem _ intD vars (fun e37=> .elem _ intD a.vars (fun e42=> .lit<| .lit<| .lit<| .br (.back []) (.elem _ intD row (fun e48=> .elem _ aD t.rows (fun e53=> .elem _ intD e53 (fun e56=> .back []))))))) (.back [])) (.back []))) (.br (.fin []) (.back [])))) (.fin []))) (p:=Lx (t.rows.map aD)<| Lx (a.vars.map intD)<| Lx (vars.map intD)<| Lx (row.map intD)<| (∃(i:Nat),0=(i:Int)/\i<=t.rows.length/\(t.rows.take i).any (aIa a vars row)=false)/\ ∀(i:Nat),(i<=t.rows.length/\(t.rows.take i).any (aIa a vars row)=false)->Lm aD t.rows/\Br ((i:Int)<(t.rows.length:Int)) ((∃(k:Nat) (p:Bool),0=(k:Int)/\(true)=p/\k<=a.vars.length/\p=(List.range k).all (aFs vars row (t.rows.getD i []) a))/\ ∀(k:Nat) (p:Bool),(k<=a.vars.length/\p=(List.range k).all (aFs vars row (t.rows.getD i []) a))->Lm intD a.vars/\Br ((k:Int)<(a.vars.length:Int)) ((∃(j:Nat) (q:Bool),0=(j:Int)/\(p)=q/\j<=row.length/\q=((List.range k).all (aFs vars row (t.rows.getD i []) a)&&(List.range j).all (yP vars row (t.rows.getD i []) a k)))/\ ∀(j:Nat) (q:Bool),(j<=row.length/\q=((List.range k).all (aFs vars row (t.rows.getD i []) a)&&(List.range j).all (yP vars row (t.rows.getD i []) a k)))->Lm intD row/\Br ((j:Int)<(row.length:Int)) (Bb (q) (0<=(j:Int)/\Em intD vars j fun e37=>0<=(k:Int)/\Em intD a.vars k fun e42=>Nb (e37=e42) (bW ((j:Int)+1)/\ ∃(j' :Nat) (q' :Bool),((j:Int)+1)=(j' :Int)/\(true)=q' /\(j' <=row.length/\q' =((List.range k).all (aFs vars row (t.rows.getD i []) a)&&(List.range j').all (yP vars row (t.rows.getD i []) a k)))/\row.length - j' <row.length - j) (0<=(j:Int)/\Em intD row j fun e48=>0<=(i:Int)/\Em aD t.rows i fun e53=>0<=(k:Int)/\Em intD e53 k fun e56=>bW ((j:Int)+1)/\ ∃(j' :Nat) (q' :Bool),((j:Int)+1)=(j' :Int)/\(decide (e48=e56))=q' /\(j' <=row.length/\q' =((List.range k).all (aFs vars row (t.rows.getD i []) a)&&(List.range j').all (yP vars row (t.rows.getD i []) a k)))/\row.length - j' <row.length - j)) (bW ((j:Int)+1)/\ ∃(j' :Nat) (q' :Bool),((j:Int)+1)=(j' :Int)/\(false)=q' /\(j' <=row.length/\q' =((List.range k).all (aFs vars row (t.rows.getD i []) a)&&(List.range j').all (yP vars row (t.rows.getD i []) a k)))/\row.length - j' <row.length - j)) (bW ((k:Int)+1)/\ ∃(k' :Nat) (p' :Bool),((k:Int)+1)=(k' :Int)/\(q)=p' /\(k' <=a.vars.length/\p' =(List.range k').all (aFs vars row (t.rows.getD i []) a))/\a.vars.length - k' <a.vars.length - k)) (Bb (p) ((true)=(sX t a vars row)/\True) (bW ((i:Int)+1)/\ ∃(i' :Nat),((i:Int)+1)=(i' :Int)/\(i' <=t.rows.length/\(t.rows.take i').any (aIa a vars row)=false)/\t.rows.length - i' <t.rows.length - i))) ((false)=(sX t a vars row)/\True)) (by kernel_rfl) ?_;refine lx fun n0=>lx fun n1=>lx fun n2=>lx fun n3=>?_;refine⟨⟨0,rfl,aAU _,rfl⟩,fun i ⟨hi,ha⟩=>?_⟩;refine⟨aAJ _,dd (fun c0=>?_) fun c0=>?_⟩
 ·obtain⟨r0,hr1⟩:=cP (l:=t.rows) (k:=i) (by omega);have hr0:t.rows[i]? =some (t.rows.getD i []):=by rw[aT hr1];exact hr1
  refine⟨⟨0,true,rfl,rfl,aAU _,rfl⟩,fun k p ⟨hk,hp⟩=>?_⟩;refine⟨aAJ _,dd (fun c1=>?_) fun c1=>?_⟩
  ·refine⟨⟨0,p,rfl,rfl,aAU _,by rw[hp];simp⟩,fun j q ⟨hj,hq⟩=>?_⟩;refine⟨aAJ _,dd (fun c2=>?_) fun c2=>?_⟩
   ·refine db (fun g34=>?_) fun g34=>?_
    ·refine⟨by omega,rfl,by omega,fun e37 h37=>?_⟩;refine⟨by omega,rfl,by omega,fun e42 h42=>?_⟩;refine dn (fun g45=>?_) fun g45=>?_
     ·refine⟨⟨by omega,by omega⟩,?_⟩;exact⟨j+1,_,rfl,rfl,⟨by omega,by rw[yQ,<-hq,g34,aTR h37 h42 g45];rfl⟩,by omega⟩
     ·refine⟨by omega,rfl,by omega,fun e48 h48=>?_⟩;refine⟨by omega,rfl,by omega,fun e53 h53=>?_⟩;have er:e53=t.rows.getD i []:=bF hr0 h53;have hlr:=hr e53 (aAx h53);refine⟨by omega,rfl,by omega,fun e56 h56=>?_⟩;refine⟨⟨by omega,by omega⟩,?_⟩;exact⟨j+1,_,rfl,rfl,⟨by omega,by rw[yQ,<-hq,g34,aTS h37 h42 g45 h48 (er▸h56)];rfl⟩,by omega⟩
    ·refine⟨⟨by omega,by omega⟩,?_⟩;exact⟨j+1,_,rfl,rfl,⟨by omega,by rw[yQ,<-hq,g34];rfl⟩,by omega⟩
   ·refine⟨⟨by omega,by omega⟩,?_⟩;exact⟨k+1,_,rfl,rfl,⟨by omega,by rw[hq,aH7,show j=row.length by omega];rfl⟩,by omega⟩
  ·have hR:aIa a vars row (t.rows.getD i [])=p:=by rw[hp,show k=a.vars.length by omega];rfl
   refine db (fun c3=>?_) fun c3=>?_
   ·have hE:=aTU hr0 (hR.trans c3);apply et1
    ·rw[hE]
   ·refine⟨⟨by omega,by omega⟩,?_⟩;exact⟨i+1,rfl,⟨by omega,aRG hr0 ha (hR.trans c3)⟩,by omega⟩
 ·have hE:=aVL (by omega) ha;apply et1
  ·rw[hE]
abbrev aIb (ts:List aP)(ats:List bH)(vars:List Int)(f:Nat)(row:List Int):List AV × List (Nat × Rs) × AV × List (Nat × Rs):=([.p none (.sl 88 3 (ts.map aG)),.p none (.sl 146 2 (ats.map aN)),.p none (.sl 3 1 (vars.map intD)),.own 0],[(0,.arr 3 1 true (row.map intD))],.p none (.sl 34 1 ((kT (lN ts ats vars) vars.length f row).map aD)),[])
abbrev aLo (ts:List aP)(ats:List bH)(vars:List Int)(f:Nat)(row:List Int):Prop:=Cm 119 (aIb ts ats vars f row).1 (aIb ts ats vars f row).2.1 (aIb ts ats vars f row).2.2.1 (aIb ts ats vars f row).2.2.2
theorem aW7 (ts:List aP)(ats:List bH)(vars:List Int)(f:Nat)(row:List Int)(hl:ts.length=ats.length)(hts:ts.length<=100)(hW: ∀(i:Nat) (t:aP) (a:bH),ts[i]? =some t->ats[i]? =some a-> ∀r∈t.rows,a.vars.length<=r.length)(hn:vars.length<=4)(hv:row.length<=vars.length)(hf:vars.length+1<=f+row.length/\f<=5)(ih: ∀g,g+1=f-> ∀row:List Int,row.length<=vars.length->vars.length+1<=g+row.length->aLo ts ats vars g row):aLo ts ats vars f row:=by
 refine cqx Tryz.func119 (.stl 8<| .loop Nat (Q1 Nat) ([9]++rg 12 18) [0] (fun k=>[(9,vI (k:Int))]) (fun k=>[(0,some (.arr 3 1 true (row.map intD)))]) (fun k=>k<=ts.length/\(List.range k).all (aLm ts ats vars row)=true) (fun k=>ts.length - k) (fun k=> .len ts.length<| .br (.elem _ aG ts (fun e20=> .elem _ aN ats (fun e24=> .call (vB (sX e20 e24 vars row)) []<| .br (.stl 8<| .fin []) (.back [(0,0)])))) (.len row.length<| .len vars.length<| .br (.app Int intD ([]:List Int) row<| .bld (List Int) aD (([]:List Int)++row)<| .stl 8<| .fin []) (.shal 9 4000<| .loop Nat (Q1 Nat) ([10,11]++rg 40 17) [0,4000,4900,5100,5300,5400,5600] (fun v=>[(11,vI (v:Int)),(10,.own 4000)]) (fun v=>[(0,some (.arr 3 1 true (row.map intD))),(4000,some (.arr 34 1 false ((yR (lN ts ats vars) vars.length (f - 1) row v).map aD)))]) (fun v=>v<=10) (fun v=>10 - v) (fun v=> .br (.app Int intD ([]:List Int) row<| .app Int intD (([]:List Int)++row) ([(v:Int)]:List Int)<| .callxs [.p none (.sl 88 3 (ts.map aG)),.p none (.sl 146 2 (ats.map aN)),.p none (.sl 3 1 (vars.map intD)),.own 0] [(0,.arr 3 1 true (((([]:List Int)++row)++[(v:Int)]).map intD))] [(0,5400)] (.p none (.sl 34 1 ((kT (lN ts ats vars) vars.length (f - 1) ((([]:List Int)++row)++[(v:Int)])).map aD))) []<| .appr (List Int) aD (yR (lN ts ats vars) vars.length (f - 1) row v) (kT (lN ts ats vars) vars.length (f - 1) ((([]:List Int)++row)++[(v:Int)]))<| .back [(0,0),(4000,5600)]) (.stl 8<| .fin [])))))) (p:=(∃(k:Nat),0=(k:Int)/\row.map intD=row.map intD/\k<=ts.length/\(List.range k).all (aLm ts ats vars row)=true)/\ ∀(k:Nat),(k<=ts.length/\(List.range k).all (aLm ts ats vars row)=true)->Lm aG ts/\Br ((k:Int)<(ts.length:Int)) (0<=(k:Int)/\Em aG ts k fun e20=>0<=(k:Int)/\Em aN ats k fun e24=>aFu e20 e24 vars row/\Nr (sX e20 e24 vars row) ([]=(kT (lN ts ats vars) vars.length f row).map aD/\True) (bW ((k:Int)+1)/\ ∃(k' :Nat),((k:Int)+1)=(k' :Int)/\row.map intD=row.map intD/\(k' <=ts.length/\(List.range k').all (aLm ts ats vars row)=true)/\ts.length - k' <ts.length - k)) (Lm intD row/\(Lm intD vars/\Br ((row.length:Int)=(vars.length:Int)) (Ap intD ([]:List Int) row 8 ((([]:List Int)++row).map intD=(([]:List Int)++row).map intD/\[([]:List Int)++row].map aD=(kT (lN ts ats vars) vars.length f row).map aD/\True)) ((∃(v:Nat),0=(v:Int)/\row.map intD=row.map intD/\[]=(yR (lN ts ats vars) vars.length (f - 1) row v).map aD/\v<=10)/\ ∀(v:Nat),v<=10->Br ((v:Int)<=9) (Ap intD ([]:List Int) row 8 (Ap intD (([]:List Int)++row) ([(v:Int)]:List Int) 8 (pN Tryz.prog 119 [.p none (.sl 88 3 (ts.map aG)),.p none (.sl 146 2 (ats.map aN)),.p none (.sl 3 1 (vars.map intD)),.own 0] [(0,.arr 3 1 true (((([]:List Int)++row)++[(v:Int)]).map intD))] (.p none (.sl 34 1 ((kT (lN ts ats vars) vars.length (f - 1) ((([]:List Int)++row)++[(v:Int)])).map aD))) []/\ts.map aG=ts.map aG/\ats.map aN=ats.map aN/\vars.map intD=vars.map intD/\((([]:List Int)++row)++[(v:Int)]).map intD=((([]:List Int)++row)++[(v:Int)]).map intD/\(yR (lN ts ats vars) vars.length (f - 1) row v).map aD=(yR (lN ts ats vars) vars.length (f - 1) row v).map aD/\(kT (lN ts ats vars) vars.length (f - 1) ((([]:List Int)++row)++[(v:Int)])).map aD=(kT (lN ts ats vars) vars.length (f - 1) ((([]:List Int)++row)++[(v:Int)])).map aD/\((yR (lN ts ats vars) vars.length (f - 1) row v).length+(kT (lN ts ats vars) vars.length (f - 1) ((([]:List Int)++row)++[(v:Int)])).length)*24<=140737488355328/\bW ((v:Int)+1)/\ ∃(v' :Nat),((v:Int)+1)=(v' :Int)/\row.map intD=row.map intD/\((yR (lN ts ats vars) vars.length (f - 1) row v)++(kT (lN ts ats vars) vars.length (f - 1) ((([]:List Int)++row)++[(v:Int)]))).map aD=(yR (lN ts ats vars) vars.length (f - 1) row v').map aD/\v' <=10/\10 - v' <10 - v))) ((yR (lN ts ats vars) vars.length (f - 1) row v).map aD=(kT (lN ts ats vars) vars.length f row).map aD/\True))))) (by kernel_rfl) ?_;have hf0:0<f:=by omega
 have hg:f - 1+1=f:=by omega
 refine⟨⟨0,rfl,rfl,aAU _,rfl⟩,fun k ⟨hk,ha⟩=>?_⟩;refine⟨aAJ _,dd (fun c0=>?_) fun c0=>?_⟩
 ·refine⟨by omega,rfl,by omega,fun e20 h20=>?_⟩;refine⟨by omega,rfl,by omega,fun e24 h24=>?_⟩;have hw:=hW k e20 e24 h20 h24;refine⟨aRL e20 e24 vars row hw (by omega),dm (fun c1=>?_) fun c1=>?_⟩
  ·have hE:lN ts ats vars row=false:=aRF (i:=k) (by omega) (by rw[aLm,aT h20,aT h24,c1]);have hR:kT (lN ts ats vars) vars.length f row= []:=aVM hf0 hE;apply et1
   ·(rw[hR]<;>rfl)
  ·refine⟨⟨by omega,by omega⟩,?_⟩;exact⟨k+1,rfl,rfl,⟨by omega,by rw[aH7,ha,aLm,aT h20,aT h24,c1];rfl⟩,by omega⟩
 ·have hE:lN ts ats vars row=true:=by rw[lN,show ts.length=k by omega];exact ha
  refine⟨aAJ _,aAJ _,dd (fun c2=>?_) fun c2=>?_⟩
  ·have hR:kT (lN ts ats vars) vars.length f row= [row]:=aTV hf0 hE (by omega);refine ap ?_ (fun _=>rfl) (by first|omega|(simp;omega));refine⟨rfl,?_,trivial⟩
   ·(rw[hR]<;>rfl)
  ·refine⟨⟨0,(by first|rfl|(rw[qK];rfl)),(by first|rfl|(rw[qK];rfl)),(by first|rfl|(rw[qK];rfl)),aAU _⟩,fun v hv10=>?_⟩;have hz1:=aLn (fit:=lN ts ats vars) (n:=vars.length) (g:=f - 1) (v:=v) (by omega) (by omega) row;have hz2:=aFt (fit:=lN ts ats vars) (n:=vars.length) (g:=f - 1) (by omega) (row++[(v:Int)]);refine dd (fun c3=>?_) fun c3=>?_
   ·refine ap ?_ (fun _=>rfl) (by first|omega|(simp;omega));refine ap ?_ (fun _=>rfl) (by first|omega|(simp;omega));refine⟨ih (f - 1) hg ((([]:List Int)++row)++[(v:Int)]) (by simp;omega) (by simp;omega),rfl,rfl,rfl,rfl,rfl,rfl,by first|omega|(simp;omega),⟨by omega,by omega⟩,?_⟩;exact⟨v+1,(by first|rfl|(rw[qK];rfl)),(by first|rfl|(rw[qK];rfl)),(by first|rfl|(rw[qK];rfl)),by omega,by omega⟩
   ·have hR:kT (lN ts ats vars) vars.length f row=(yR (lN ts ats vars) vars.length (f - 1) row v):=by rw[aRI hf0 hE (by omega),show v=10 by omega]
    apply et1
    ·(rw[hR]<;>rfl)
theorem aK1 {ts:List aP}{ats:List bH}{vars:List Int}(hl:ts.length=ats.length)(hts:ts.length<=100)(hW: ∀(i:Nat) (t:aP) (a:bH),ts[i]? =some t->ats[i]? =some a-> ∀r∈t.rows,a.vars.length<=r.length)(hn:vars.length<=4): ∀(f:Nat) (row:List Int),row.length<=vars.length->vars.length+1<=f+row.length/\f<=5->aLo ts ats vars f row
 | 0,row,h1,h2=>absurd h2.1 (by omega)
 | f+1,row,h1,h2=>aW7 ts ats vars (f+1) row hl hts hW hn h1 h2 fun g hg row' k1 k2=>by
   obtain rfl:g=f:=by omega
   exact aK1 hl hts hW hn g row' k1 ⟨k2,by omega⟩
def evV (d:aL)(q:aI)(m:Int):List Int:=if pY d q m=true then dS q m else []
def evR (d:aL)(q:aI)(m:Int):List (List Int):=if pY d q m=true then aLc d q m else []
theorem aTp {d:aL}{q:aI}{m:Int}(h:pY d q m=false):evV d q m= []/\evR d q m= []:=by rw[evV,evR,if_neg (by rw[h];decide),if_neg (by rw[h];decide)];exact⟨rfl,rfl⟩
theorem aRN {d:aL}{q:aI}{m:Int}(h:pY d q m=true):evV d q m=dS q m/\evR d q m=aLc d q m:=by rw[evV,evR,if_pos h,if_pos h];exact⟨rfl,rfl⟩
theorem aRO {d:aL}{q:aI}{m:Int}(h:pY d q m=true):dU d q=true/\aZ q=true/\(1<=m/\m<=1*2^q.atoms.length - 1)/\(1<=q.atoms.length/\q.atoms.length<=4)/\gG q m=true:=by
 simp only[pY,aAS] at h;have h2:=(kI h.1).1;have h1:=dB h.2;rw[lJ h2] at h1;exact⟨h.1,h2,h1,(bM h2).2.1,by rw[gG,h2,gN (by omega) h1.2];rfl⟩
theorem aDz (d:aL)(q:aI)(m:Int):aAw d q m=if pY d q m=true then ((aLc d q m).length:Int) else -1:=rfl
abbrev aCz (d:aL)(q:aI)(m:Int):AV × List (Nat × Rs):=(.tup [.agg [.p none (.sl 3 1 ((evV d q m).map intD)),.p none (.sl 34 1 ((evR d q m).map aD))],vB (pY d q m)],[])
abbrev aH8 (d:aL)(q:aI)(m:Int):Prop:=Cn 64 [.agg [.sl 88 3 (d.tables.map aG)],.agg [.int .i64 q.variableCount,.sl 146 2 (q.atoms.map aN)],.one (.int .i64 m)] (aCz d q m).1 (aCz d q m).2
theorem aTW (d:aL)(q:aI)(m:Int)(hc:bO d<=1048576):aH8 d q m:=by
 refine cq Tryz.func64 (.call (vB (dU d q)) []<| .br (.fin []) (.call (vI (dC q)) []<| .call (vB (dV m (1:Int) (dC q))) []<| .lit<| .lit<| .br (.fin []) (.shal 4 2600<| .shal 5 2700<| .loop Nat (Q1 Nat) ([8,9,10,11,12]++rg 26 37) [1100,2600,2700,5300,5400,6100,6200] (fun i=>[(10,vI (i:Int)),(8,.own 2600),(9,.own 2700)]) (fun i=>[(2600,some (.arr 88 3 false ((mD d q m i).map aG))),(2700,some (.arr 146 2 false ((atL q m i).map aN)))]) (fun i=>i<=q.atoms.length) (fun i=>q.atoms.length - i) (fun i=> .len q.atoms.length<| .br (.br (.elem _ aN q.atoms (fun e45=> .call (.tup [.agg [.p none (.str ((aE d e45.name).1.name)),vI ((aE d e45.name).1.arity),.p none (.sl 34 1 ((aE d e45.name).1.rows.map aD))],vB ((aE d e45.name).2)]) []<| .appr aP aG (mD d q m i) ([((aE d e45.name).1)]:List aP)<| .elem _ aN q.atoms (fun e59=> .appr bH aN (atL q m i) ([e59]:List bH)<| .back [(2600,5400),(2700,6200)]))) (.back [(2600,2600),(2700,2700)])) (cH (pI q m)<| .stl 13<| .stl 67<| .stl 68<| .callxs [.p none (.sl 88 3 ((mD d q m i).map aG)),.p none (.sl 146 2 ((atL q m i).map aN)),.p none (.sl 3 1 ((cX q m).map intD)),.own 0] [(0,.arr 3 1 true (([]:List Int).map intD))] [(0,7000)] (.p none (.sl 34 1 ((kT (lN (mD d q m i) (atL q m i) (cX q m)) (cX q m).length 5 ([]:List Int)).map aD))) []<| .fin []))))) (p:=Lx (d.tables.map aG)<| Lx (q.atoms.map aN)<| aAq d q/\Nr (dU d q) ([]=(evV d q m).map intD/\[]=(evR d q m).map aD/\(false)=(pY d q m)/\True) (lE q/\(dZ m (1:Int) (dC q)/\Nr (dV m (1:Int) (dC q)) ([]=(evV d q m).map intD/\[]=(evR d q m).map aD/\(false)=(pY d q m)/\True) ((∃(i:Nat),0=(i:Int)/\[]=(mD d q m i).map aG/\[]=(atL q m i).map aN/\i<=q.atoms.length)/\ ∀(i:Nat),i<=q.atoms.length->Lm aN q.atoms/\Br ((i:Int)<(q.atoms.length:Int)) ((0<=(i:Int)/\(i:Int)<=64)/\Br ((cJ .and .i64 (m/2^i) (1:Int))=1) (0<=(i:Int)/\Em aN q.atoms i fun e45=>vX Tryz.prog 94 [.agg [.sl 88 3 (d.tables.map aG)],.one (.str e45.name)] (.tup [.agg [.p none (.str ((aE d e45.name).1.name)),vI ((aE d e45.name).1.arity),.p none (.sl 34 1 ((aE d e45.name).1.rows.map aD))],vB ((aE d e45.name).2)]) []/\(mD d q m i).map aG=(mD d q m i).map aG/\[[.str ((aE d e45.name).1.name),.int .i64 ((aE d e45.name).1.arity),.sl 34 1 ((aE d e45.name).1.rows.map aD)]]=([((aE d e45.name).1)]:List aP).map aG/\((mD d q m i).length+([((aE d e45.name).1)]:List aP).length)*48<=140737488355328/\0<=(i:Int)/\Em aN q.atoms i fun e59=>(atL q m i).map aN=(atL q m i).map aN/\[[.str e59.name,.sl 3 1 (e59.vars.map intD)]]=([e59]:List bH).map aN/\((atL q m i).length+([e59]:List bH).length)*40<=140737488355328/\bW ((i:Int)+1)/\ ∃(i' :Nat),((i:Int)+1)=(i' :Int)/\((mD d q m i)++[((aE d e45.name).1)]).map aG=(mD d q m i').map aG/\((atL q m i)++[e59]).map aN=(atL q m i').map aN/\i' <=q.atoms.length/\q.atoms.length - i' <q.atoms.length - i) (bW ((i:Int)+1)/\ ∃(i' :Nat),((i:Int)+1)=(i' :Int)/\(mD d q m i).map aG=(mD d q m i').map aG/\(atL q m i).map aN=(atL q m i').map aN/\i' <=q.atoms.length/\q.atoms.length - i' <q.atoms.length - i)) (sI q m/\pN Tryz.prog 119 [.p none (.sl 88 3 ((mD d q m i).map aG)),.p none (.sl 146 2 ((atL q m i).map aN)),.p none (.sl 3 1 ((cX q m).map intD)),.own 0] [(0,.arr 3 1 true (([]:List Int).map intD))] (.p none (.sl 34 1 ((kT (lN (mD d q m i) (atL q m i) (cX q m)) (cX q m).length 5 ([]:List Int)).map aD))) []/\(mD d q m i).map aG=(mD d q m i).map aG/\(atL q m i).map aN=(atL q m i).map aN/\(cX q m).map intD=(cX q m).map intD/\[]=([]:List Int).map intD/\(cX q m).map intD=(evV d q m).map intD/\(kT (lN (mD d q m i) (atL q m i) (cX q m)) (cX q m).length 5 ([]:List Int)).map aD=(evR d q m).map aD/\(true)=(pY d q m)/\True))))) (by kernel_rfl) ?_;refine lx fun n0=>lx fun n1=>?_;refine⟨aKK _ _ (by omega),dm (fun g18=>?_) fun g18=>?_⟩
 ·have hE:=aTp (d:=d) (q:=q) (m:=m) (by first|(rw[pY,g18];rfl)|(rw[pY,g18,c0];rfl));apply et3<;>(first|(rw[hE.1]<;>rfl)|(rw[hE.2]<;>rfl)|(rw[hok];done)|(rw[hE.1,hvM];done)|(rw[hE.2,hS];done)|(rw[pY,g18];rfl)|(rw[pY,g18,c0];rfl))
 ·refine⟨qI _,gX _ _ _,dm (fun c0=>?_) fun c0=>?_⟩
  ·have hE:=aTp (d:=d) (q:=q) (m:=m) (by first|(rw[pY,g18];rfl)|(rw[pY,g18,c0];rfl));apply et3<;>(first|(rw[hE.1]<;>rfl)|(rw[hE.2]<;>rfl)|(rw[hok];done)|(rw[hE.1,hvM];done)|(rw[hE.2,hS];done)|(rw[pY,g18];rfl)|(rw[pY,g18,c0];rfl))
  ·have hok:pY d q m=true:=by rw[pY,g18,c0];rfl
   obtain⟨hq,hQ,hm,h4,hM⟩:=aRO hok;refine⟨⟨0,(by first|rfl|(rw[nN h45 (eI c2)];done)|(rw[qA h59 (eI c2)];done)|(rw[pZ (eK c2)];done)|(rw[vH (eK c2)];done)),(by first|rfl|(rw[nN h45 (eI c2)];done)|(rw[qA h59 (eI c2)];done)|(rw[pZ (eK c2)];done)|(rw[vH (eK c2)];done)),(by first|rfl|(rw[nN h45 (eI c2)];done)|(rw[qA h59 (eI c2)];done)|(rw[pZ (eK c2)];done)|(rw[vH (eK c2)];done)),aAU _⟩,fun i hi=>?_⟩;have hz:=aK0 d q m i;refine⟨aAJ _,dd (fun c1=>?_) fun c1=>?_⟩
   ·refine⟨⟨by omega,by omega⟩,dd (fun c2=>?_) fun c2=>?_⟩
    ·refine⟨by omega,rfl,by omega,fun e45 h45=>?_⟩;refine⟨iV (pG _ e45.name (by omega)) rfl,rfl,rfl,by first|omega|(simp;omega),by omega,rfl,by omega,fun e59 h59=>?_⟩;refine⟨rfl,rfl,by first|omega|(simp;omega),⟨by omega,by omega⟩,?_⟩;exact⟨i+1,(by first|rfl|(rw[nN h45 (eI c2)];done)|(rw[qA h59 (eI c2)];done)|(rw[pZ (eK c2)];done)|(rw[vH (eK c2)];done)),(by first|rfl|(rw[nN h45 (eI c2)];done)|(rw[qA h59 (eI c2)];done)|(rw[pZ (eK c2)];done)|(rw[vH (eK c2)];done)),(by first|rfl|(rw[nN h45 (eI c2)];done)|(rw[qA h59 (eI c2)];done)|(rw[pZ (eK c2)];done)|(rw[vH (eK c2)];done)),by omega,by omega⟩
    ·refine⟨⟨by omega,by omega⟩,?_⟩;exact⟨i+1,(by first|rfl|(rw[nN h45 (eI c2)];done)|(rw[qA h59 (eI c2)];done)|(rw[pZ (eK c2)];done)|(rw[vH (eK c2)];done)),(by first|rfl|(rw[nN h45 (eI c2)];done)|(rw[qA h59 (eI c2)];done)|(rw[pZ (eK c2)];done)|(rw[vH (eK c2)];done)),(by first|rfl|(rw[nN h45 (eI c2)];done)|(rw[qA h59 (eI c2)];done)|(rw[pZ (eK c2)];done)|(rw[vH (eK c2)];done)),by omega,by omega⟩
   ·have ei:i=q.atoms.length:=by omega
    have hl9:(mD d q m i).length=(atL q m i).length:=(aK0 d q m i).2;have hts9:(mD d q m i).length<=100:=by omega
    have hW9:=aRK (m:=m) hq (n:=i) (by omega);have hvM:=tQ hM;have hn9:(cX q m).length<=4:=by rw[hvM];exact aCp q m hQ
    have hE:=aRN hok;have hS:kT (lN (mD d q m i) (atL q m i) (cX q m)) (cX q m).length 5 []=aLc d q m:=by rw[hvM,ei,aVN ⟨by omega,hm.2⟩ h4.2];rfl
    refine⟨aCt _ m,aK1 hl9 hts9 hW9 hn9 5 ([]:List Int) (aAU _) ⟨by simp;omega,aKU _⟩,rfl,rfl,rfl,rfl,?_,?_,?_,trivial⟩<;>(first|(rw[hE.1]<;>rfl)|(rw[hE.2]<;>rfl)|(rw[hok];done)|(rw[hE.1,hvM];done)|(rw[hE.2,hS];done)|(rw[pY,g18];rfl)|(rw[pY,g18,c0];rfl))
abbrev aFv (d:aL)(q:aI)(m:Int):Prop:=Cn 23 [.agg [.sl 88 3 (d.tables.map aG)],.agg [.int .i64 q.variableCount,.sl 146 2 (q.atoms.map aN)],.one (.int .i64 m)] (vI (aAw d q m)) []
theorem aRP (d:aL)(q:aI)(m:Int)(hc:bO d<=1048576):aFv d q m:=by
 refine cq Tryz.func23 (cH (aCz d q m)<| .br (.fin []) (.len ((evR d q m).length)<| .fin [])) (p:=Lx (d.tables.map aG)<| Lx (q.atoms.map aN)<| aH8 d q m/\Nr (pY d q m) ((-1:Int)=(aAw d q m)/\True) (Lm aD (evR d q m)/\(((evR d q m).length:Nat):Int)=(aAw d q m)/\True)) (by kernel_rfl) ?_;refine lx fun n0=>lx fun n1=>?_;refine⟨aTW d q m (by omega),dm (fun c0=>?_) fun c0=>?_⟩
 ·apply et1
  ·first|(rw[aDz,if_neg (by rw[c0];decide)];done)|(rw[aDz,if_pos c0,hE];done)
 ·have hE:=(aRN c0).2;refine⟨aAJ _,?_,trivial⟩
  ·first|(rw[aDz,if_neg (by rw[c0];decide)];done)|(rw[aDz,if_pos c0,hE];done)
theorem aFw {s:aV}{x y:bH}{v:Int}(h:oI y v<0):jI s x v y=false:=by
 have h1:=aIZ y v;rw[decide_eq_false (show ¬0<=oI y v by omega)] at h1;rw[jI,<-h1];rfl
theorem tV {s:aV}{x y:bH}{v:Int}(h: ¬oI y v<0)(hc:yM s x v y=true):jI s x v y=true:=by
 have h1:=aIZ y v;rw[decide_eq_true (show 0<=oI y v by omega)] at h1;rw[jI,<-h1,hc];rfl
theorem aEA {s:aV}{x y:bH}{v:Int}(hc:yM s x v y=false):jI s x v y=false:=by rw[jI,hc,Bool.and_false]
theorem vJ {s:aV}{x y:bH}{v:Int}(h1:(y.name.toList==x.name.toList)=true)(h2:oI y v=oI x v):yM s x v y=true:=by rw[yM,h1,decide_eq_true h2];rfl
theorem tW {s:aV}{x y:bH}{v:Int}(h:(⟨y.name,oI y v,x.name,oI x v⟩:aO)∈s.inclusions):yM s x v y=true:=by rw[yM,decide_eq_true h,Bool.or_true]
theorem aCF {s:aV}{x y:bH}{v:Int}(h1:(y.name.toList==x.name.toList)=false\/ ¬oI y v=oI x v)(h: ¬(⟨y.name,oI y v,x.name,oI x v⟩:aO)∈s.inclusions):yM s x v y=false:=by
 rw[yM,decide_eq_false h,Bool.or_false];rcases h1 with q | q
 ·rw[q];rfl
 rw[decide_eq_false q,Bool.and_false]
theorem pP {s:aV}{q:aI}{m:Int}{i:Nat}{x:bH}{v j:Int}(h1:bR m i=false)(h2:(oJ q m i).length=1)(hv:(oJ q m i).getD 0 0=v)(hx:q.atoms.getD i cS=x)(hj:j∈bK m)(h:jI s x v (q.atoms.getD j.toNat cS)=true):dO s q m i=true:=by
 rw[dO,h1,decide_eq_true h2,hv,hx];simp only[Bool.not_false,Bool.true_and];exact List.any_eq_true.2 ⟨j,hj,h⟩
theorem wE {s:aV}{q:aI}{m:Int}{i:Nat}{x:bH}{v:Int}(hv:(oJ q m i).getD 0 0=v)(hx:q.atoms.getD i cS=x)(h:(bK m).all (fun j=> !jI s x v (q.atoms.getD j.toNat cS))=true):dO s q m i=false:=by
 rw[dO,hv,hx]
 have:((bK m).any fun k=>jI s x v (q.atoms.getD k.toNat cS))=false:=by
  rw[List.any_eq_false];intro k hk;have:=aDP.1 h k hk;simpa using this
 rw[this];simp
theorem aEB {s:aV}{q:aI}{m v:Int}{x:bH}{k:Nat}(h:bR m k=false\/jI s x v (q.atoms.getD (k:Int).toNat cS)=false)(ha:(dG (bR m) k).all (fun j=> !jI s x v (q.atoms.getD j.toNat cS))=true):(dG (bR m) (k+1)).all (fun j=> !jI s x v (q.atoms.getD j.toNat cS))=true:=by
 cases hb:bR m k with
 | false=>rw[nJ hb];exact ha
 | true=>
   rcases h with q | q
   ·rw[hb] at q;cases q
   rw[lB hb,List.all_append,ha];simp only[List.all_cons,List.all_nil,q];rfl
theorem aLp {s:aV}{q:aI}{m:Int}{i:Nat}(h:bR m i=true):dO s q m i=false:=by rw[dO,h];rfl
theorem aLq {s:aV}{q:aI}{m:Int}{i:Nat}(h: ¬(oJ q m i).length=1):dO s q m i=false:=by rw[dO,decide_eq_false h];simp
theorem aRQ (a b:aO):((a.name.toList==b.name.toList)&&((a.column==b.column)&&((a.into.toList==b.into.toList)&&((a.intoColumn==b.intoColumn)&&true))))=decide (a=b):=by
 obtain⟨a1,a2,a3,a4⟩:=a;obtain⟨b1,b2,b3,b4⟩:=b;apply Bool.eq_iff_iff.2;simp only[jD,aAS,aLF,beq_iff_eq,aO.mk.injEq,and_true]
theorem aIc (z:aO)(n:ByteArray)(c:Int)(t:ByteArray)(d:Int):((z.name.toList==n.toList)&&((z.column==c)&&((z.into.toList==t.toList)&&((z.intoColumn==d)&&true))))=decide (z=⟨n,c,t,d⟩):=aRQ z ⟨n,c,t,d⟩
theorem aRR {l:List aO}{x:aO}(h:l.all (fun z=> !decide (z=x))=true): ¬x∈l:=fun hm=>by
 have:=aDP.1 h x hm;simp at this
abbrev sM (v y:aO):Bool:=decide (v=y)
theorem aLr {l:List aO}{v:aO}:decide (0<=cZ (sM v) l)=decide (v∈l):=by
 apply Bool.eq_iff_iff.2;rw[aLF,aLF];constructor
 ·intro h;obtain⟨k,x,_,hx,hf⟩:=lI.2 h;have h1:=List.find?_some hf;rw[of_decide_eq_true h1];exact aAx hx
 intro h;rcases Int.lt_or_le (cZ (sM v) l) 0 with q | q
 ·have:=lI.1 q;rw[List.find?_eq_none] at this;exact absurd (decide_eq_true rfl) (this v h)
 exact q
abbrev aNC (l:List aO)(v:aO):Prop:=Cn 181 [.one (.sl 81 4 (l.map aJ)),.agg [.str v.name,.int .i64 v.column,.str v.into,.int .i64 v.intoColumn]] (vI (cZ (sM v) l)) []
theorem aVo (l:List aO)(v:aO):aNC l v:=by
 refine cq Tryz.func181 (.len l.length<| .loop Nat (Q1 Nat) ([5]++rg 8 9++[18]) [] (fun k=>[(8,vI (k:Int))]) (fun k=>[]) (fun k=>k<=l.length/\(l.take k).all (fun y=> !sM v y)=true) (fun k=>l.length - k) (fun k=> .br (.elem _ aJ l (fun e14=> .br (.fin []) (.back []))) (.fin []))) (p:=Lx (l.map aJ)<| Lm aJ l/\((∃(k:Nat),0=(k:Int)/\k<=l.length/\(l.take k).all (fun y=> !sM v y)=true)/\ ∀(k:Nat),(k<=l.length/\(l.take k).all (fun y=> !sM v y)=true)->Br ((k:Int)<(l.length:Int)) (0<=(k:Int)/\Em aJ l k fun e14=>Bb ((v.name.toList==e14.name.toList)&&((v.column==e14.column)&&((v.into.toList==e14.into.toList)&&((v.intoColumn==e14.intoColumn)&&true)))) ((k:Int)=(cZ (sM v) l)/\True) (bW ((k:Int)+1)/\ ∃(k' :Nat),((k:Int)+1)=(k' :Int)/\(k' <=l.length/\(l.take k').all (fun y=> !sM v y)=true)/\l.length - k' <l.length - k)) ((-1:Int)=(cZ (sM v) l)/\True))) (by kernel_rfl) ?_;refine lx fun n0=>?_;refine⟨aAJ _,⟨0,rfl,aAU _,rfl⟩,fun k ⟨hk,ha⟩=>?_⟩;refine dd (fun c0=>?_) fun c0=>?_
 ·refine⟨by omega,rfl,by omega,fun e14 h14=>?_⟩;refine db (fun c1=>?_) fun c1=>?_
  ·have hE:=aBk (p:=sM v) h14 ha (by rw[aRQ] at c1;exact c1);apply et1
   ·rw[hE]
  ·refine⟨⟨by omega,by omega⟩,?_⟩;exact⟨k+1,rfl,⟨by omega,cI h14 ha (by rw[aRQ] at c1;rw[sM,c1];rfl)⟩,by omega⟩
 ·have hE:=zR (p:=sM v) (cK (by omega) ha);apply et1
  ·rw[hE]
abbrev aId (l:List aO)(v:aO):Prop:=Cn 132 [.one (.sl 81 4 (l.map aJ)),.agg [.str v.name,.int .i64 v.column,.str v.into,.int .i64 v.intoColumn]] (vB (decide (v∈l))) []
theorem aTq (l:List aO)(v:aO):aId l v:=by
 refine cq Tryz.func132 (.call (vI (cZ (sM v) l)) []<| .fin []) (p:=Lx (l.map aJ)<| aNC l v/\(decide (0<=(cZ (sM v) l)))=(decide (v∈l))/\True) (by kernel_rfl) ?_;refine lx fun n0=>?_;refine⟨aVo l v,?_,trivial⟩
 ·exact aLr
abbrev aDA (s:aV)(q:aI)(m:Int)(i:Int):Prop:=Cn 75 [.agg [.sl 88 3 (s.database.tables.map aG),.int .i64 s.catalogue.version,.sl 91 4 (s.catalogue.tables.map aB),.sl 77 3 (s.dependencies.map aF),.sl 81 4 (s.inclusions.map aJ)],.agg [.int .i64 q.variableCount,.sl 146 2 (q.atoms.map aN)],.one (.int .i64 m),.one (.int .i64 i)] (vB (dO s q m i.toNat)) []
theorem aND (s:aV)(q:aI)(m i:Int)(hq3:aZ q=true)(hm:0<=m/\m<=1*2^q.atoms.length - 1)(hi:0<=i/\i.toNat<q.atoms.length):aDA s q m i:=by
 refine cq Tryz.func75 (.elem _ aN q.atoms (fun e20=>cH (sH q m)<| cH (sJ e20.vars (dS q m))<| .br (.fin []) (.len ((fJ e20.vars (dS q m)).length)<| .lit<| .lit<| .br (.fin []) (.len ((fJ e20.vars (dS q m)).length)<| .elem _ intD (fJ e20.vars (dS q m)) (fun e40=> .call (vI (cZ (jU e40) e20.vars)) []<| cH (oG m)<| .len ((bK m).length)<| .loop Nat (Q1 Nat) ([14,15,16]++rg 48 38) [1500] (fun k=>[(48,vI (k:Int))]) (fun k=>[]) (fun k=>k<=(bK m).length/\((bK m).take k).all (fun j=> !jI s e20 e40 (q.atoms.getD j.toNat cS))=true) (fun k=>(bK m).length - k) (fun k=> .br (.len ((bK m).length)<| .elem _ intD (bK m) (fun e51=> .elem _ aN q.atoms (fun e55=> .call (vI (cZ (jU e40) e55.vars)) []<| .br (.back []) (.br (.lit<| .lit<| .lit<| .br (.fin []) (.call (vB (decide ((⟨e55.name,cZ (jU e40) e55.vars,e20.name,cZ (jU e40) e20.vars⟩:aO)∈s.inclusions))) []<| .lit<| .br (.fin []) (.back []))) (.call (vB (decide ((⟨e55.name,cZ (jU e40) e55.vars,e20.name,cZ (jU e40) e20.vars⟩:aO)∈s.inclusions))) []<| .lit<| .br (.fin []) (.back [])))))) (.fin []))))))) (p:=Lx (s.database.tables.map aG)<| Lx (s.catalogue.tables.map aB)<| Lx (s.dependencies.map aF)<| Lx (s.inclusions.map aJ)<| Lx (q.atoms.map aN)<| 0<=i/\Em aN q.atoms ((i).toNat) fun e20=>yJ q m/\(yK e20.vars (dS q m)/\((0<=i/\i<=64)/\Br ((cJ .and .i64 (m/2^(Int.toNat i)) (1:Int))=1) ((false)=(dO s q m i.toNat)/\True) (Lm intD (fJ e20.vars (dS q m))/\Nb ((((fJ e20.vars (dS q m)).length:Nat):Int)=1) ((false)=(dO s q m i.toNat)/\True) (0<=(0:Int)/\Lm intD (fJ e20.vars (dS q m))/\0<(((fJ e20.vars (dS q m)).length:Nat):Int)/\Em intD (fJ e20.vars (dS q m)) 0 fun e40=>aMr e20.vars e40/\(rJ m/\(Lm intD (bK m)/\((∃(k:Nat),0=(k:Int)/\k<=(bK m).length/\((bK m).take k).all (fun j=> !jI s e20 e40 (q.atoms.getD j.toNat cS))=true)/\ ∀(k:Nat),(k<=(bK m).length/\((bK m).take k).all (fun j=> !jI s e20 e40 (q.atoms.getD j.toNat cS))=true)->Br ((k:Int)<(((bK m).length:Nat):Int)) (0<=(k:Int)/\Lm intD (bK m)/\(k:Int)<(((bK m).length:Nat):Int)/\Em intD (bK m) k fun e51=>0<=e51/\Em aN q.atoms ((e51).toNat) fun e55=>aMr e55.vars e40/\Br ((cZ (jU e40) e55.vars)<0) (bW ((k:Int)+1)/\ ∃(k' :Nat),((k:Int)+1)=(k' :Int)/\(k' <=(bK m).length/\((bK m).take k').all (fun j=> !jI s e20 e40 (q.atoms.getD j.toNat cS))=true)/\(bK m).length - k' <(bK m).length - k) (Bb (e55.name.toList==e20.name.toList) (Br ((cZ (jU e40) e55.vars)=(cZ (jU e40) e20.vars)) ((true)=(dO s q m i.toNat)/\True) (aId s.inclusions (⟨e55.name,cZ (jU e40) e55.vars,e20.name,cZ (jU e40) e20.vars⟩:aO)/\Bb (decide ((⟨e55.name,cZ (jU e40) e55.vars,e20.name,cZ (jU e40) e20.vars⟩:aO)∈s.inclusions)) ((true)=(dO s q m i.toNat)/\True) (bW ((k:Int)+1)/\ ∃(k' :Nat),((k:Int)+1)=(k' :Int)/\(k' <=(bK m).length/\((bK m).take k').all (fun j=> !jI s e20 e40 (q.atoms.getD j.toNat cS))=true)/\(bK m).length - k' <(bK m).length - k))) (aId s.inclusions (⟨e55.name,cZ (jU e40) e55.vars,e20.name,cZ (jU e40) e20.vars⟩:aO)/\Bb (decide ((⟨e55.name,cZ (jU e40) e55.vars,e20.name,cZ (jU e40) e20.vars⟩:aO)∈s.inclusions)) ((true)=(dO s q m i.toNat)/\True) (bW ((k:Int)+1)/\ ∃(k' :Nat),((k:Int)+1)=(k' :Int)/\(k' <=(bK m).length/\((bK m).take k').all (fun j=> !jI s e20 e40 (q.atoms.getD j.toNat cS))=true)/\(bK m).length - k' <(bK m).length - k)))) ((false)=(dO s q m i.toNat)/\True))))))))) (by kernel_rfl) ?_;refine lx fun n0=>lx fun n1=>lx fun n2=>lx fun n3=>lx fun n4=>?_;have hq5:=(bM hq3).2.1;have hf4:=fY hq5;have hML:=aBs hm hq5.2;have hml:=aCv m;refine⟨by omega,rfl,by omega,fun e20 h20=>?_⟩;have wv20:=(gQ ((bM hq3).2.2 _ (aAx h20))).2.1;have hX:q.atoms.getD i.toNat cS=e20:=aT h20;have hSh:oJ q m i.toNat=fJ e20.vars (dS q m):=by rw[oJ,hX]
 refine⟨aH0 q m (by first|assumption|exact(iZ (q:=q) (m:=m) (by assumption)).1),aH2 e20.vars _ (by first|omega|(have:=aCu;simp only[*];omega)),⟨by omega,by omega⟩,dd (fun g33=>?_) fun g33=>?_⟩
 ·have hbad:dO s q m i.toNat=false:=by first|(exact aLp (eI g33))|(exact aLq (by rw[hSh];omega))
  apply et1
  ·first|(rw[hbad];done)|(exact(pP hb0 hl1 hV hX hem (by rw[hY];exact hT)).symm)|(exact(wE hV hX (cK (by omega) ha)).symm)
 ·refine⟨aAJ _,dn (fun c0=>?_) fun c0=>?_⟩
  ·have hbad:dO s q m i.toNat=false:=by first|(exact aLp (eI g33))|(exact aLq (by rw[hSh];omega))
   apply et1
   ·first|(rw[hbad];done)|(exact(pP hb0 hl1 hV hX hem (by rw[hY];exact hT)).symm)|(exact(wE hV hX (cK (by omega) ha)).symm)
  ·refine⟨by omega,aAJ _,by omega,rfl,by omega,fun e40 h40=>?_⟩;have hV:(oJ q m i.toNat).getD 0 0=e40:=by rw[hSh,aT h40]
   have hb0:=eK g33;have hl1:(oJ q m i.toNat).length=1:=by rw[hSh];omega
   refine⟨ixI _ _,aBv m,aAJ _,⟨0,rfl,aAU _,rfl⟩,fun k ⟨hk,ha⟩=>?_⟩;refine dd (fun c1=>?_) fun c1=>?_
   ·refine⟨by omega,aAJ _,by omega,rfl,by omega,fun e51 h51=>?_⟩;have hem:=aAx h51;have hem2:=hem;rw[hML] at hem2;obtain⟨hx0,hx4,hxl⟩:=gF.1 hem2;refine⟨by omega,rfl,by omega,fun e55 h55=>?_⟩;have hY:q.atoms.getD e51.toNat cS=e55:=aT h55;refine⟨ixI _ _,dd (fun c2=>?_) fun c2=>?_⟩
    ·refine⟨⟨by omega,by omega⟩,?_⟩;exact⟨k+1,rfl,⟨by omega,cI h51 ha (by rw[hY];first|(rw[aFw c2];rfl)|(rw[hF];rfl))⟩,by omega⟩
    ·refine db (fun g68=>?_) fun g68=>?_
     ·refine dd (fun g73=>?_) fun g73=>?_
      ·have hT:jI s e20 e40 e55=true:=tV c2 (by first|(exact vJ g68 g73)|(exact tW (of_decide_eq_true c3)));apply et1
       ·first|(rw[hbad];done)|(exact(pP hb0 hl1 hV hX hem (by rw[hY];exact hT)).symm)|(exact(wE hV hX (cK (by omega) ha)).symm)
      ·refine⟨aTq s.inclusions (⟨e55.name,cZ (jU e40) e55.vars,e20.name,cZ (jU e40) e20.vars⟩:aO),db (fun c3=>?_) fun c3=>?_⟩
       ·have hT:jI s e20 e40 e55=true:=tV c2 (by first|(exact vJ g68 g73)|(exact tW (of_decide_eq_true c3)));apply et1
        ·first|(rw[hbad];done)|(exact(pP hb0 hl1 hV hX hem (by rw[hY];exact hT)).symm)|(exact(wE hV hX (cK (by omega) ha)).symm)
       ·have hF:jI s e20 e40 e55=false:=aEA (aCF (by first|(exact .inl g68)|(exact .inr g73)) (of_decide_eq_false c3));refine⟨⟨by omega,by omega⟩,?_⟩;exact⟨k+1,rfl,⟨by omega,cI h51 ha (by rw[hY];first|(rw[aFw c2];rfl)|(rw[hF];rfl))⟩,by omega⟩
     ·refine⟨aTq s.inclusions (⟨e55.name,cZ (jU e40) e55.vars,e20.name,cZ (jU e40) e20.vars⟩:aO),db (fun c3=>?_) fun c3=>?_⟩
      ·have hT:jI s e20 e40 e55=true:=tV c2 (by first|(exact vJ g68 g73)|(exact tW (of_decide_eq_true c3)));apply et1
       ·first|(rw[hbad];done)|(exact(pP hb0 hl1 hV hX hem (by rw[hY];exact hT)).symm)|(exact(wE hV hX (cK (by omega) ha)).symm)
      ·have hF:jI s e20 e40 e55=false:=aEA (aCF (by first|(exact .inl g68)|(exact .inr g73)) (of_decide_eq_false c3));refine⟨⟨by omega,by omega⟩,?_⟩;exact⟨k+1,rfl,⟨by omega,cI h51 ha (by rw[hY];first|(rw[aFw c2];rfl)|(rw[hF];rfl))⟩,by omega⟩
   ·apply et1
    ·first|(rw[hbad];done)|(exact(pP hb0 hl1 hV hX hem (by rw[hY];exact hT)).symm)|(exact(wE hV hX (cK (by omega) ha)).symm)
abbrev rM (s:aV)(q:aI)(m:Int):Prop:=Cn 58 [.agg [.sl 88 3 (s.database.tables.map aG),.int .i64 s.catalogue.version,.sl 91 4 (s.catalogue.tables.map aB),.sl 77 3 (s.dependencies.map aF),.sl 81 4 (s.inclusions.map aJ)],.agg [.int .i64 q.variableCount,.sl 146 2 (q.atoms.map aN)],.one (.int .i64 m)] (vB (kS s q m)) []
theorem aCG (s:aV)(q:aI)(m:Int)(hc:eC s<=1048576):rM s q m:=by
 refine cq Tryz.func58 (.call (vB (eG s)) []<| .br (.call (vB (dU s.database q)) []<| .lit<| .br (.call (vI (dC q)) []<| .call (vB (dV m (1:Int) (dC q))) []<| .fin []) (.fin [])) (.fin [])) (p:=Lx (s.database.tables.map aG)<| Lx (s.catalogue.tables.map aB)<| Lx (s.dependencies.map aF)<| Lx (s.inclusions.map aJ)<| Lx (q.atoms.map aN)<| aD5 s/\Bb (eG s) (aFe s.database q/\Bb (dU s.database q) (sG q/\eW m (1:Int) (dC q)/\(dV m (1:Int) (dC q))=(kS s q m)/\True) ((false)=(kS s q m)/\True)) ((false)=(kS s q m)/\True)) (by kernel_rfl) ?_;refine lx fun n0=>lx fun n1=>lx fun n2=>lx fun n3=>lx fun n4=>?_;have hS:eC s=bO s.database+dN s.catalogue+cD s.dependencies+cW s.inclusions:=rfl;have hI:=gO s.inclusions;refine⟨aO0 _ (by omega),db (fun g9=>?_) fun g9=>?_⟩
 ·refine⟨aQk s.database _ (by omega),db (fun g15=>?_) fun g15=>?_⟩
  ·refine⟨aCs _,jJ _ _ _,?_,trivial⟩
   ·(rw[kS,g9,g15];rfl)
  ·apply et1
   ·(rw[kS,g9,g15];rfl)
 ·apply et1
  ·(rw[kS,g9];rfl)
abbrev rN (s:aV)(q:aI)(m:Int):Prop:=Cn 62 [.agg [.sl 88 3 (s.database.tables.map aG),.int .i64 s.catalogue.version,.sl 91 4 (s.catalogue.tables.map aB),.sl 77 3 (s.dependencies.map aF),.sl 81 4 (s.inclusions.map aJ)],.agg [.int .i64 q.variableCount,.sl 146 2 (q.atoms.map aN)],.one (.int .i64 m)] (vB (kS s q m)) []
theorem aCH (s:aV)(q:aI)(m:Int)(hc:eC s<=1048576):rN s q m:=by
 refine cq Tryz.func62 (.call (vB (eG s)) []<| .br (.call (vB (dU s.database q)) []<| .lit<| .br (.call (vI (dC q)) []<| .call (vB (dV m (1:Int) (dC q))) []<| .fin []) (.fin [])) (.fin [])) (p:=Lx (s.database.tables.map aG)<| Lx (s.catalogue.tables.map aB)<| Lx (s.dependencies.map aF)<| Lx (s.inclusions.map aJ)<| Lx (q.atoms.map aN)<| aD6 s/\Bb (eG s) (aAq s.database q/\Bb (dU s.database q) (lE q/\dZ m (1:Int) (dC q)/\(dV m (1:Int) (dC q))=(kS s q m)/\True) ((false)=(kS s q m)/\True)) ((false)=(kS s q m)/\True)) (by kernel_rfl) ?_;refine lx fun n0=>lx fun n1=>lx fun n2=>lx fun n3=>lx fun n4=>?_;have hS:eC s=bO s.database+dN s.catalogue+cD s.dependencies+cW s.inclusions:=rfl;have hI:=gO s.inclusions;refine⟨aO1 _ (by omega),db (fun g9=>?_) fun g9=>?_⟩
 ·refine⟨aKK s.database _ (by omega),db (fun g15=>?_) fun g15=>?_⟩
  ·refine⟨qI _,gX _ _ _,?_,trivial⟩
   ·(rw[kS,g9,g15];rfl)
  ·apply et1
   ·(rw[kS,g9,g15];rfl)
 ·apply et1
  ·(rw[kS,g9];rfl)
abbrev vK (s:aV)(q:aI)(i:Int):AV × List (Nat × Rs):=(.agg [.p none (.str ((eH s q i.toNat).name)),vI ((eH s q i.toNat).arity),vI ((eH s q i.toNat).rowCount),.p none (.sl 138 3 ((eH s q i.toNat).groups.map aH))],[])
abbrev aCI (s:aV)(q:aI)(i:Int):Prop:=Cn 61 [.agg [.sl 88 3 (s.database.tables.map aG),.int .i64 s.catalogue.version,.sl 91 4 (s.catalogue.tables.map aB),.sl 77 3 (s.dependencies.map aF),.sl 81 4 (s.inclusions.map aJ)],.agg [.int .i64 q.variableCount,.sl 146 2 (q.atoms.map aN)],.one (.int .i64 i)] (vK s q i).1 (vK s q i).2
theorem aLs (s:aV)(q:aI)(i:Int)(hc:eC s<=1048576)(hi:0<=i/\i.toNat<q.atoms.length):aCI s q i:=by
 refine cq Tryz.func61 (.elem _ aN q.atoms (fun e15=> .call (.tup [.agg [.p none (.str ((cT s.catalogue e15.name).1.name)),vI ((cT s.catalogue e15.name).1.arity),vI ((cT s.catalogue e15.name).1.rowCount),.p none (.sl 138 3 ((cT s.catalogue e15.name).1.groups.map aH))],vB ((cT s.catalogue e15.name).2)]) []<| .fin [])) (p:=Lx (s.database.tables.map aG)<| Lx (s.catalogue.tables.map aB)<| Lx (s.dependencies.map aF)<| Lx (s.inclusions.map aJ)<| Lx (q.atoms.map aN)<| 0<=i/\Em aN q.atoms ((i).toNat) fun e15=>vX Tryz.prog 115 [.agg [.int .i64 s.catalogue.version,.sl 91 4 (s.catalogue.tables.map aB)],.one (.str e15.name)] (.tup [.agg [.p none (.str ((cT s.catalogue e15.name).1.name)),vI ((cT s.catalogue e15.name).1.arity),vI ((cT s.catalogue e15.name).1.rowCount),.p none (.sl 138 3 ((cT s.catalogue e15.name).1.groups.map aH))],vB ((cT s.catalogue e15.name).2)]) []/\((cT s.catalogue e15.name).1.name)=((eH s q i.toNat).name)/\((cT s.catalogue e15.name).1.arity)=((eH s q i.toNat).arity)/\((cT s.catalogue e15.name).1.rowCount)=((eH s q i.toNat).rowCount)/\(cT s.catalogue e15.name).1.groups.map aH=(eH s q i.toNat).groups.map aH/\True) (by kernel_rfl) ?_;refine lx fun n0=>lx fun n1=>lx fun n2=>lx fun n3=>lx fun n4=>?_;have hS:eC s=bO s.database+dN s.catalogue+cD s.dependencies+cW s.inclusions:=rfl;have hI:=gO s.inclusions;refine⟨by omega,rfl,by omega,fun e15 h15=>?_⟩;refine⟨iV (aO2 s.catalogue e15.name (by omega)) rfl,?_,?_,?_,?_,trivial⟩<;>((rw[eH,aT h15]<;>rfl))
abbrev vL (s:aV)(q:aI)(i:Int):AV × List (Nat × Rs):=(.agg [.p none (.str ((eH s q i.toNat).name)),vI ((eH s q i.toNat).arity),vI ((eH s q i.toNat).rowCount),.p none (.sl 138 3 ((eH s q i.toNat).groups.map aH))],[])
abbrev aCJ (s:aV)(q:aI)(i:Int):Prop:=Cn 63 [.agg [.sl 88 3 (s.database.tables.map aG),.int .i64 s.catalogue.version,.sl 91 4 (s.catalogue.tables.map aB),.sl 77 3 (s.dependencies.map aF),.sl 81 4 (s.inclusions.map aJ)],.agg [.int .i64 q.variableCount,.sl 146 2 (q.atoms.map aN)],.one (.int .i64 i)] (vL s q i).1 (vL s q i).2
theorem aLt (s:aV)(q:aI)(i:Int)(hc:eC s<=1048576)(hi:0<=i/\i.toNat<q.atoms.length):aCJ s q i:=by
 refine cq Tryz.func63 (.elem _ aN q.atoms (fun e15=> .call (.tup [.agg [.p none (.str ((cT s.catalogue e15.name).1.name)),vI ((cT s.catalogue e15.name).1.arity),vI ((cT s.catalogue e15.name).1.rowCount),.p none (.sl 138 3 ((cT s.catalogue e15.name).1.groups.map aH))],vB ((cT s.catalogue e15.name).2)]) []<| .fin [])) (p:=Lx (s.database.tables.map aG)<| Lx (s.catalogue.tables.map aB)<| Lx (s.dependencies.map aF)<| Lx (s.inclusions.map aJ)<| Lx (q.atoms.map aN)<| 0<=i/\Em aN q.atoms ((i).toNat) fun e15=>vX Tryz.prog 117 [.agg [.int .i64 s.catalogue.version,.sl 91 4 (s.catalogue.tables.map aB)],.one (.str e15.name)] (.tup [.agg [.p none (.str ((cT s.catalogue e15.name).1.name)),vI ((cT s.catalogue e15.name).1.arity),vI ((cT s.catalogue e15.name).1.rowCount),.p none (.sl 138 3 ((cT s.catalogue e15.name).1.groups.map aH))],vB ((cT s.catalogue e15.name).2)]) []/\((cT s.catalogue e15.name).1.name)=((eH s q i.toNat).name)/\((cT s.catalogue e15.name).1.arity)=((eH s q i.toNat).arity)/\((cT s.catalogue e15.name).1.rowCount)=((eH s q i.toNat).rowCount)/\(cT s.catalogue e15.name).1.groups.map aH=(eH s q i.toNat).groups.map aH/\True) (by kernel_rfl) ?_;refine lx fun n0=>lx fun n1=>lx fun n2=>lx fun n3=>lx fun n4=>?_;have hS:eC s=bO s.database+dN s.catalogue+cD s.dependencies+cW s.inclusions:=rfl;have hI:=gO s.inclusions;refine⟨by omega,rfl,by omega,fun e15 h15=>?_⟩;refine⟨iV (aO3 s.catalogue e15.name (by omega)) rfl,?_,?_,?_,?_,trivial⟩<;>((rw[eH,aT h15]<;>rfl))
def exI (s:aV)(q:aI)(m i:Int):Bool:=kS s q m&&(dV i 0 ((q.atoms.length:Int) - 1)&&dO s q m i.toNat)
theorem aAz {a b:List Int}{k:Nat}{x y:Int}(hx:a[k]? =some x)(hy:b[k]? =some y)(h: ¬x=y): ¬a=b:=by
 intro e;rw[e,hy] at hx;injection hx with hx;exact h hx.symm
theorem aBA {a b:List Int}{k:Nat}(hl:(a.length:Int)=(b.length:Int))(hk:a.length<=k)(h:a.take k=b.take k):a=b:=by
 rwa [aCy hk,aCy (by omega)] at h
abbrev aFx (s:aV)(q:aI)(m:Int)(i:Int):Prop:=Cn 30 [.agg [.sl 88 3 (s.database.tables.map aG),.int .i64 s.catalogue.version,.sl 91 4 (s.catalogue.tables.map aB),.sl 77 3 (s.dependencies.map aF),.sl 81 4 (s.inclusions.map aJ)],.agg [.int .i64 q.variableCount,.sl 146 2 (q.atoms.map aN)],.one (.int .i64 m),.one (.int .i64 i)] (vB (exI s q m i)) []
theorem aRS (s:aV)(q:aI)(m i:Int)(hc:eC s<=1048576):aFx s q m i:=by
 refine cq Tryz.func30 (.call (vB (kS s q m)) []<| .br (.len q.atoms.length<| .call (vB (dV i (0:Int) ((q.atoms.length:Int) - 1))) []<| .lit<| .br (.call (vB (dO s q m i.toNat)) []<| .fin []) (.fin [])) (.fin [])) (p:=Lx (s.database.tables.map aG)<| Lx (s.catalogue.tables.map aB)<| Lx (s.dependencies.map aF)<| Lx (s.inclusions.map aJ)<| Lx (q.atoms.map aN)<| rM s q m/\Bb (kS s q m) (Lm aN q.atoms/\bW ((q.atoms.length:Int) - 1)/\eW i (0:Int) ((q.atoms.length:Int) - 1)/\Bb (dV i (0:Int) ((q.atoms.length:Int) - 1)) (aDA s q m i/\(dO s q m i.toNat)=(exI s q m i)/\True) ((false)=(exI s q m i)/\True)) ((false)=(exI s q m i)/\True)) (by kernel_rfl) ?_;refine lx fun n0=>lx fun n1=>lx fun n2=>lx fun n3=>lx fun n4=>?_;refine⟨aCG s q m (by omega),db (fun g13=>?_) fun g13=>?_⟩
 ·obtain⟨_,_,hq3,hm1,hm2,hm3,hm4,hm5⟩:=iC g13;have hm:0<=m/\m<=1*2^q.atoms.length - 1:=⟨by omega,hm2⟩;refine⟨aAJ _,⟨by omega,by omega⟩,jJ _ _ _,db (fun g21=>?_) fun g21=>?_⟩
  ·have hi2:=dB g21;have hi:0<=i/\i.toNat<q.atoms.length:=⟨by omega,by omega⟩;refine⟨aND s q m i (by assumption) (by first|assumption|exact⟨by omega,by omega⟩) (by first|assumption|exact⟨by omega,by omega⟩),?_,trivial⟩
   ·first|(rw[exI,g13];rfl)|(rw[exI,g13,g21];rfl)
  ·apply et1
   ·first|(rw[exI,g13];rfl)|(rw[exI,g13,g21];rfl)
 ·apply et1
  ·first|(rw[exI,g13];rfl)|(rw[exI,g13,g21];rfl)
abbrev yS (a:List Int)(b:List Int):Prop:=Cn 24 [.one (.sl 3 1 (a.map intD)),.one (.sl 3 1 (b.map intD))] (vB (decide (a=b))) []
theorem aH9 (a b:List Int):yS a b:=by
 refine cq Tryz.func24 (.len a.length<| .len b.length<| .br (.fin []) (.loop Nat (Q1 Nat) ([5]++rg 11 15) [] (fun k=>[(5,vI (k:Int))]) (fun k=>[]) (fun k=>k<=a.length/\a.take k=b.take k) (fun k=>a.length - k) (fun k=> .len a.length<| .br (.elem _ intD a (fun e19=> .elem _ intD b (fun e23=> .br (.fin []) (.back [])))) (.fin [])))) (p:=Lx (a.map intD)<| Lx (b.map intD)<| Lm intD a/\(Lm intD b/\Nb ((a.length:Int)=(b.length:Int)) ((false)=(decide (a=b))/\True) ((∃(k:Nat),0=(k:Int)/\k<=a.length/\a.take k=b.take k)/\ ∀(k:Nat),(k<=a.length/\a.take k=b.take k)->Lm intD a/\Br ((k:Int)<(a.length:Int)) (0<=(k:Int)/\Em intD a k fun e19=>0<=(k:Int)/\Em intD b k fun e23=>Nb (e19=e23) ((false)=(decide (a=b))/\True) (bW ((k:Int)+1)/\ ∃(k' :Nat),((k:Int)+1)=(k' :Int)/\(k' <=a.length/\a.take k' =b.take k')/\a.length - k' <a.length - k)) ((true)=(decide (a=b))/\True)))) (by kernel_rfl) ?_;refine lx fun n0=>lx fun n1=>?_;refine⟨aAJ _,aAJ _,dn (fun c0=>?_) fun c0=>?_⟩
 ·apply et1
  ·first|(exact(decide_eq_false (fun e=>by rw[e] at c0;exact c0 rfl)).symm)|(exact(decide_eq_false (aAz h19 h23 (by omega))).symm)|(exact(decide_eq_true (aBA (by omega) (by omega) ht)).symm)
 ·refine⟨⟨0,rfl,aAU _,rfl⟩,fun k ⟨hk,ht⟩=>?_⟩;refine⟨aAJ _,dd (fun c1=>?_) fun c1=>?_⟩
  ·refine⟨by omega,rfl,by omega,fun e19 h19=>?_⟩;refine⟨by omega,rfl,by omega,fun e23 h23=>?_⟩;refine dn (fun c2=>?_) fun c2=>?_
   ·apply et1
    ·first|(exact(decide_eq_false (fun e=>by rw[e] at c0;exact c0 rfl)).symm)|(exact(decide_eq_false (aAz h19 h23 (by omega))).symm)|(exact(decide_eq_true (aBA (by omega) (by omega) ht)).symm)
   ·refine⟨⟨by omega,by omega⟩,?_⟩;exact⟨k+1,rfl,⟨by omega,by rw[bS h19,bS h23,ht,show e19=e23 by omega]⟩,by omega⟩
  ·apply et1
   ·first|(exact(decide_eq_false (fun e=>by rw[e] at c0;exact c0 rfl)).symm)|(exact(decide_eq_false (aAz h19 h23 (by omega))).symm)|(exact(decide_eq_true (aBA (by omega) (by omega) ht)).symm)
abbrev aLv (a:bH)(v:Int):Prop:=Cn 180 [.agg [.str a.name,.sl 3 1 (a.vars.map intD)],.one (.int .i64 v)] (vI (cZ (jU v) a.vars)) []
theorem aVp (a:bH)(v:Int):aLv a v:=by
 refine cq Tryz.func180 (.loop Nat (Q1 Nat) (rg 5 15) [] (fun k=>[(5,vI (k:Int))]) (fun k=>[]) (fun k=>k<=a.vars.length/\(a.vars.take k).all (fun y=> !jU v y)=true) (fun k=>a.vars.length - k) (fun k=> .len a.vars.length<| .br (.elem _ intD a.vars (fun e16=> .br (.fin []) (.back []))) (.fin []))) (p:=Lx (a.vars.map intD)<| (∃(k:Nat),0=(k:Int)/\k<=a.vars.length/\(a.vars.take k).all (fun y=> !jU v y)=true)/\ ∀(k:Nat),(k<=a.vars.length/\(a.vars.take k).all (fun y=> !jU v y)=true)->Lm intD a.vars/\Br ((k:Int)<(a.vars.length:Int)) (0<=(k:Int)/\Em intD a.vars k fun e16=>Br (e16=v) ((k:Int)=(cZ (jU v) a.vars)/\True) (bW ((k:Int)+1)/\ ∃(k' :Nat),((k:Int)+1)=(k' :Int)/\(k' <=a.vars.length/\(a.vars.take k').all (fun y=> !jU v y)=true)/\a.vars.length - k' <a.vars.length - k)) ((-1:Int)=(cZ (jU v) a.vars)/\True)) (by kernel_rfl) ?_;refine lx fun n0=>?_;refine⟨⟨0,rfl,aAU _,rfl⟩,fun k ⟨hk,ha⟩=>?_⟩;refine⟨aAJ _,dd (fun c0=>?_) fun c0=>?_⟩
 ·refine⟨by omega,rfl,by omega,fun e16 h16=>?_⟩;refine dd (fun c1=>?_) fun c1=>?_
  ·have hE:=aBk (p:=jU v) h16 ha (by simpa [jU] using c1.symm);apply et1
   ·rw[hE]
  ·refine⟨⟨by omega,by omega⟩,?_⟩;exact⟨k+1,rfl,⟨by omega,cI h16 ha (by simpa [jU] using fun q=>c1 (Eq.symm q))⟩,by omega⟩
 ·have hE:=zR (p:=jU v) (cK (by omega) ha);apply et1
  ·rw[hE]
abbrev aHa (s:aV)(q:aI)(m:Int)(i:Int):Prop:=Cn 129 [.agg [.sl 88 3 (s.database.tables.map aG),.int .i64 s.catalogue.version,.sl 91 4 (s.catalogue.tables.map aB),.sl 77 3 (s.dependencies.map aF),.sl 81 4 (s.inclusions.map aJ)],.agg [.int .i64 q.variableCount,.sl 146 2 (q.atoms.map aN)],.one (.int .i64 m),.one (.int .i64 i)] (vB (dO s q m i.toNat)) []
theorem aTX (s:aV)(q:aI)(m i:Int)(hc:eC s<=1048576)(hq:kS s q m=true)(hi:0<=i/\i.toNat<q.atoms.length):aHa s q m i:=by
 refine cq Tryz.func129 (.call (vB (kS s q m)) []<| .no<| .len q.atoms.length<| .call (vB (dV i (0:Int) ((q.atoms.length:Int) - 1))) []<| .lit<| .lit<| .no<| .lit<| .lit<| .lit<| .lit<| .lit<| .br (.fin []) (cH (aAt q m ((1:Int)*2^(Int.toNat i)))<| .len ((eD q m ((1:Int)*2^(Int.toNat i))).length)<| .br (.fin []) (.loop Nat (Q1 Nat) ([10,11,12]++rg 42 82) [1100] (fun k=>[(10,vI (k:Int))]) (fun k=>[]) (fun k=>k<=q.atoms.length/\(dG (bR m) k).all (fun j=> !jI s (q.atoms.getD i.toNat cS) ((oJ q m i.toNat).getD 0 0) (q.atoms.getD j.toNat cS))=true) (fun k=>q.atoms.length - k) (fun k=> .len q.atoms.length<| .br (.br (.back []) (.elem _ aN q.atoms (fun e58=> .len ((eD q m ((1:Int)*2^(Int.toNat i))).length)<| .elem _ intD (eD q m ((1:Int)*2^(Int.toNat i))) (fun e63=> .call (vB (decide (e63∈e58.vars))) []<| .lit<| .lit<| .br (.back []) (.elem _ aN q.atoms (fun e70=> .elem _ aN q.atoms (fun e76=> .len ((eD q m ((1:Int)*2^(Int.toNat i))).length)<| .elem _ intD (eD q m ((1:Int)*2^(Int.toNat i))) (fun e80=> .call (vI (cZ (jU e80) e76.vars)) []<| .elem _ aN q.atoms (fun e85=> .elem _ aN q.atoms (fun e91=> .len ((eD q m ((1:Int)*2^(Int.toNat i))).length)<| .elem _ intD (eD q m ((1:Int)*2^(Int.toNat i))) (fun e95=> .call (vI (cZ (jU e95) e91.vars)) []<| .br (.lit<| .lit<| .lit<| .lit<| .lit<| .br (.fin []) (.loop Nat (Q1 Nat) ([12]++rg 110 14) [] (fun j=>[(12,vI (j:Int))]) (fun j=>[]) (fun j=>j<=s.inclusions.length/\(s.inclusions.take j).all (fun z=> !decide (z=(⟨e70.name,cZ (jU e80) e76.vars,e85.name,cZ (jU e95) e91.vars⟩:aO)))=true) (fun j=>s.inclusions.length - j) (fun j=> .len s.inclusions.length<| .br (.elem _ aJ s.inclusions (fun e120=> .br (.fin []) (.back []))) (.back [])))) (.loop Nat (Q1 Nat) ([12]++rg 110 14) [] (fun j=>[(12,vI (j:Int))]) (fun j=>[]) (fun j=>j<=s.inclusions.length/\(s.inclusions.take j).all (fun z=> !decide (z=(⟨e70.name,cZ (jU e80) e76.vars,e85.name,cZ (jU e95) e91.vars⟩:aO)))=true) (fun j=>s.inclusions.length - j) (fun j=> .len s.inclusions.length<| .br (.elem _ aJ s.inclusions (fun e120=> .br (.fin []) (.back []))) (.back [])))))))))))))) (.fin []))))) (p:=Lx (s.database.tables.map aG)<| Lx (s.catalogue.tables.map aB)<| Lx (s.dependencies.map aF)<| Lx (s.inclusions.map aJ)<| Lx (q.atoms.map aN)<| rN s q m/\((!(kS s q m))=false/\(Lm aN q.atoms/\(bW ((q.atoms.length:Int) - 1)/\(dZ i (0:Int) ((q.atoms.length:Int) - 1)/\((!(dV i (0:Int) ((q.atoms.length:Int) - 1)))=false/\((0<=i/\i<=64)/\Br ((cJ .and .i64 (m/2^(Int.toNat i)) (1:Int))=1) ((false)=(dO s q m i.toNat)/\True) ((0<=i/\i<=64)/\(bW ((1:Int)*2^(Int.toNat i))/\(aFf q m ((1:Int)*2^(Int.toNat i))/\(Lm intD (eD q m ((1:Int)*2^(Int.toNat i)))/\Nb ((((eD q m ((1:Int)*2^(Int.toNat i))).length:Nat):Int)=1) ((false)=(dO s q m i.toNat)/\True) ((∃(k:Nat),0=(k:Int)/\k<=q.atoms.length/\(dG (bR m) k).all (fun j=> !jI s (q.atoms.getD i.toNat cS) ((oJ q m i.toNat).getD 0 0) (q.atoms.getD j.toNat cS))=true)/\ ∀(k:Nat),(k<=q.atoms.length/\(dG (bR m) k).all (fun j=> !jI s (q.atoms.getD i.toNat cS) ((oJ q m i.toNat).getD 0 0) (q.atoms.getD j.toNat cS))=true)->Lm aN q.atoms/\Br ((k:Int)<(q.atoms.length:Int)) ((0<=(k:Int)/\(k:Int)<=64)/\Br ((cJ .and .i64 (m/2^k) (1:Int))=0) (bW ((k:Int)+1)/\ ∃(k' :Nat),((k:Int)+1)=(k' :Int)/\(k' <=q.atoms.length/\(dG (bR m) k').all (fun j=> !jI s (q.atoms.getD i.toNat cS) ((oJ q m i.toNat).getD 0 0) (q.atoms.getD j.toNat cS))=true)/\q.atoms.length - k' <q.atoms.length - k) (0<=(k:Int)/\Em aN q.atoms k fun e58=>0<=(0:Int)/\Lm intD (eD q m ((1:Int)*2^(Int.toNat i)))/\0<(((eD q m ((1:Int)*2^(Int.toNat i))).length:Nat):Int)/\Em intD (eD q m ((1:Int)*2^(Int.toNat i))) 0 fun e63=>aJy e58.vars e63/\Nr (decide (e63∈e58.vars)) (bW ((k:Int)+1)/\ ∃(k' :Nat),((k:Int)+1)=(k' :Int)/\(k' <=q.atoms.length/\(dG (bR m) k').all (fun j=> !jI s (q.atoms.getD i.toNat cS) ((oJ q m i.toNat).getD 0 0) (q.atoms.getD j.toNat cS))=true)/\q.atoms.length - k' <q.atoms.length - k) (0<=(k:Int)/\Em aN q.atoms k fun e70=>0<=(k:Int)/\Em aN q.atoms k fun e76=>0<=(0:Int)/\Lm intD (eD q m ((1:Int)*2^(Int.toNat i)))/\0<(((eD q m ((1:Int)*2^(Int.toNat i))).length:Nat):Int)/\Em intD (eD q m ((1:Int)*2^(Int.toNat i))) 0 fun e80=>aLv e76 e80/\(0<=i/\Em aN q.atoms ((i).toNat) fun e85=>0<=i/\Em aN q.atoms ((i).toNat) fun e91=>0<=(0:Int)/\Lm intD (eD q m ((1:Int)*2^(Int.toNat i)))/\0<(((eD q m ((1:Int)*2^(Int.toNat i))).length:Nat):Int)/\Em intD (eD q m ((1:Int)*2^(Int.toNat i))) 0 fun e95=>aLv e91 e95/\Bb (e70.name.toList==e85.name.toList) (Br ((cZ (jU e80) e76.vars)=(cZ (jU e95) e91.vars)) ((true)=(dO s q m i.toNat)/\True) ((∃(j:Nat),0=(j:Int)/\j<=s.inclusions.length/\(s.inclusions.take j).all (fun z=> !decide (z=(⟨e70.name,cZ (jU e80) e76.vars,e85.name,cZ (jU e95) e91.vars⟩:aO)))=true)/\ ∀(j:Nat),(j<=s.inclusions.length/\(s.inclusions.take j).all (fun z=> !decide (z=(⟨e70.name,cZ (jU e80) e76.vars,e85.name,cZ (jU e95) e91.vars⟩:aO)))=true)->Lm aJ s.inclusions/\Br ((j:Int)<(s.inclusions.length:Int)) (0<=(j:Int)/\Em aJ s.inclusions j fun e120=>Bb ((e120.name.toList==e70.name.toList)&&((e120.column==(cZ (jU e80) e76.vars))&&((e120.into.toList==e85.name.toList)&&((e120.intoColumn==(cZ (jU e95) e91.vars))&&true)))) ((true)=(dO s q m i.toNat)/\True) (bW ((j:Int)+1)/\ ∃(j' :Nat),((j:Int)+1)=(j' :Int)/\(j' <=s.inclusions.length/\(s.inclusions.take j').all (fun z=> !decide (z=(⟨e70.name,cZ (jU e80) e76.vars,e85.name,cZ (jU e95) e91.vars⟩:aO)))=true)/\s.inclusions.length - j' <s.inclusions.length - j)) (bW ((k:Int)+1)/\ ∃(k' :Nat),((k:Int)+1)=(k' :Int)/\(k' <=q.atoms.length/\(dG (bR m) k').all (fun j=> !jI s (q.atoms.getD i.toNat cS) ((oJ q m i.toNat).getD 0 0) (q.atoms.getD j.toNat cS))=true)/\q.atoms.length - k' <q.atoms.length - k))) ((∃(j:Nat),0=(j:Int)/\j<=s.inclusions.length/\(s.inclusions.take j).all (fun z=> !decide (z=(⟨e70.name,cZ (jU e80) e76.vars,e85.name,cZ (jU e95) e91.vars⟩:aO)))=true)/\ ∀(j:Nat),(j<=s.inclusions.length/\(s.inclusions.take j).all (fun z=> !decide (z=(⟨e70.name,cZ (jU e80) e76.vars,e85.name,cZ (jU e95) e91.vars⟩:aO)))=true)->Lm aJ s.inclusions/\Br ((j:Int)<(s.inclusions.length:Int)) (0<=(j:Int)/\Em aJ s.inclusions j fun e120=>Bb ((e120.name.toList==e70.name.toList)&&((e120.column==(cZ (jU e80) e76.vars))&&((e120.into.toList==e85.name.toList)&&((e120.intoColumn==(cZ (jU e95) e91.vars))&&true)))) ((true)=(dO s q m i.toNat)/\True) (bW ((j:Int)+1)/\ ∃(j' :Nat),((j:Int)+1)=(j' :Int)/\(j' <=s.inclusions.length/\(s.inclusions.take j').all (fun z=> !decide (z=(⟨e70.name,cZ (jU e80) e76.vars,e85.name,cZ (jU e95) e91.vars⟩:aO)))=true)/\s.inclusions.length - j' <s.inclusions.length - j)) (bW ((k:Int)+1)/\ ∃(k' :Nat),((k:Int)+1)=(k' :Int)/\(k' <=q.atoms.length/\(dG (bR m) k').all (fun j=> !jI s (q.atoms.getD i.toNat cS) ((oJ q m i.toNat).getD 0 0) (q.atoms.getD j.toNat cS))=true)/\q.atoms.length - k' <q.atoms.length - k)))))) ((false)=(dO s q m i.toNat)/\True))))))))))))) (by kernel_rfl) ?_;refine lx fun n0=>lx fun n1=>lx fun n2=>lx fun n3=>lx fun n4=>?_;have hS:eC s=bO s.database+dN s.catalogue+cD s.dependencies+cW s.inclusions:=rfl;have hI:=gO s.inclusions;obtain⟨hq1,hq2,hq3,hm1,hm2,hm3,hm4,hm5⟩:=iC hq;have hML:=aBx hq;obtain⟨a0,ha0⟩:=cP (l:=q.atoms) (k:=i.toNat) hi.2;have hX:(q.atoms.getD i.toNat cS)=a0:=aT ha0;have hsl:=aSy hm4 ha0;obtain⟨w1,w2,w3⟩:=sW (x:=i) (gN (by omega) (by omega));refine⟨aCH s q m (by omega),by rw[hq];rfl,aAJ _,by first|exact w1|exact⟨by omega,by omega⟩,gX _ _ _,by rw[gN (show 0<=i by omega) (show i<=(q.atoms.length:Int) - 1 by omega)];rfl,⟨by omega,by omega⟩,dd (fun c0=>?_) fun c0=>?_⟩
 ·have hbad:dO s q m i.toNat=false:=aLp (eI c0);apply et1
  ·first|(rw[hbad];done)|(exact(pP hb0 hl1 hV hX hem (by rw[hY];exact hT)).symm)|(exact(wE hV hX ha).symm)
 ·refine⟨⟨by omega,by omega⟩,by first|exact w1|exact⟨by omega,by omega⟩,aQm _ m ((1:Int)*2^(Int.toNat i)),aAJ _,dn (fun c1=>?_) fun c1=>?_⟩
  ·have hbad:dO s q m i.toNat=false:=aLq (by omega);apply et1
   ·first|(rw[hbad];done)|(exact(pP hb0 hl1 hV hX hem (by rw[hY];exact hT)).symm)|(exact(wE hV hX ha).symm)
  ·have hsh:=aSz hm4 ha0 (by omega);obtain⟨v0,hv0⟩:=cP (l:=(eD q m ((1:Int)*2^i.toNat))) (k:=0) (by omega);have hV:((oJ q m i.toNat).getD 0 0)=v0:=by rw[<-hsh,aT hv0]
   have hb0:=eK c0;have hl1:(oJ q m i.toNat).length=1:=by rw[<-hsh];omega
   refine⟨⟨0,rfl,aAU _,rfl⟩,fun k ⟨hk,ha⟩=>?_⟩;refine⟨aAJ _,dd (fun c2=>?_) fun c2=>?_⟩
   ·obtain⟨ak,hak⟩:=cP (l:=q.atoms) (k:=k) (by omega);have hY:q.atoms.getD (k:Int).toNat cS=ak:=by rw[Int.toNat_natCast];exact aT hak
    refine⟨⟨by omega,by omega⟩,dd (fun g54=>?_) fun g54=>?_⟩
    ·refine⟨by first|exact w1|exact⟨by omega,by omega⟩,?_⟩;exact⟨k+1,rfl,⟨by omega,by first|(exact aEB (by first|(exact .inl (eK (by omega)))|(exact .inr (by rw[hX,hV,hY,jI,c3];rfl))|(exact .inr (by rw[hX,hV,hY];exact hF))) ha)⟩,by omega⟩
    ·refine⟨by omega,rfl,by omega,fun e58 h58=>?_⟩
     try (obtain rfl:=(bF ha0 h58).symm)
     try (obtain rfl:=(bF hak h58).symm)
     refine⟨by omega,aAJ _,by omega,rfl,by omega,fun e63 h63=>?_⟩;obtain rfl:=(bF hv0 h63).symm;refine⟨hsI _ _,dm (fun c3=>?_) fun c3=>?_⟩
     ·refine⟨by first|exact w1|exact⟨by omega,by omega⟩,?_⟩;exact⟨k+1,rfl,⟨by omega,by first|(exact aEB (by first|(exact .inl (eK (by omega)))|(exact .inr (by rw[hX,hV,hY,jI,c3];rfl))|(exact .inr (by rw[hX,hV,hY];exact hF))) ha)⟩,by omega⟩
     ·have hbk:bR m k=true:=by have z:=aBo (m:=m) (v:=k) ⟨by omega,by omega⟩ (by omega);rw[decide_eq_false g54] at z;simpa using z
      have hpos: ¬oI ak v0<0:=by have z:=aIZ ak v0;rw[c3] at z;have:=of_decide_eq_true z;omega
      have hem:(k:Int)∈bK m:=by rw[hML];exact gF.2 ⟨by omega,by omega,by simpa using hbk⟩
      refine⟨by omega,rfl,by omega,fun e70 h70=>?_⟩
      try (obtain rfl:=(bF ha0 h70).symm)
      try (obtain rfl:=(bF hak h70).symm)
      refine⟨by omega,rfl,by omega,fun e76 h76=>?_⟩
      try (obtain rfl:=(bF ha0 h76).symm)
      try (obtain rfl:=(bF hak h76).symm)
      refine⟨by omega,aAJ _,by omega,rfl,by omega,fun e80 h80=>?_⟩;obtain rfl:=(bF hv0 h80).symm;refine⟨aVp _ _,by omega,rfl,by omega,fun e85 h85=>?_⟩
      try (obtain rfl:=(bF ha0 h85).symm)
      try (obtain rfl:=(bF hak h85).symm)
      refine⟨by omega,rfl,by omega,fun e91 h91=>?_⟩
      try (obtain rfl:=(bF ha0 h91).symm)
      try (obtain rfl:=(bF hak h91).symm)
      refine⟨by omega,aAJ _,by omega,rfl,by omega,fun e95 h95=>?_⟩;obtain rfl:=(bF hv0 h95).symm;refine⟨aVp _ _,db (fun g103=>?_) fun g103=>?_⟩
      ·refine dd (fun c4=>?_) fun c4=>?_
       ·have hT:jI s a0 v0 ak=true:=tV hpos (vJ g103 c4);apply et1
        ·first|(rw[hbad];done)|(exact(pP hb0 hl1 hV hX hem (by rw[hY];exact hT)).symm)|(exact(wE hV hX ha).symm)
       ·refine⟨⟨0,rfl,aAU _,rfl⟩,fun j ⟨hj,hb⟩=>?_⟩;refine⟨aAJ _,dd (fun c5=>?_) fun c5=>?_⟩
        ·refine⟨by omega,rfl,by omega,fun e120 h120=>?_⟩;refine db (fun c6=>?_) fun c6=>?_
         ·rw[aIc] at c6;have hT:jI s a0 v0 ak=true:=tV hpos (tW (Eq.subst (motive:=fun y=>y∈s.inclusions) (of_decide_eq_true c6) (aAx h120)));apply et1
          ·first|(rw[hbad];done)|(exact(pP hb0 hl1 hV hX hem (by rw[hY];exact hT)).symm)|(exact(wE hV hX ha).symm)
         ·rw[aIc] at c6;refine⟨by first|exact w1|exact⟨by omega,by omega⟩,?_⟩;exact⟨j+1,rfl,⟨by omega,cI h120 hb (by rw[c6];rfl)⟩,by omega⟩
        ·have hF:jI s a0 v0 ak=false:=aEA (aCF (by first|(exact .inl g103)|(exact .inr c4)) (aRR (cK (by omega) hb)));refine⟨by first|exact w1|exact⟨by omega,by omega⟩,?_⟩;exact⟨k+1,rfl,⟨by omega,by first|(exact aEB (by first|(exact .inl (eK (by omega)))|(exact .inr (by rw[hX,hV,hY,jI,c3];rfl))|(exact .inr (by rw[hX,hV,hY];exact hF))) ha)⟩,by omega⟩
      ·refine⟨⟨0,rfl,aAU _,rfl⟩,fun j ⟨hj,hb⟩=>?_⟩;refine⟨aAJ _,dd (fun c5=>?_) fun c5=>?_⟩
       ·refine⟨by omega,rfl,by omega,fun e120 h120=>?_⟩;refine db (fun c6=>?_) fun c6=>?_
        ·rw[aIc] at c6;have hT:jI s a0 v0 ak=true:=tV hpos (tW (Eq.subst (motive:=fun y=>y∈s.inclusions) (of_decide_eq_true c6) (aAx h120)));apply et1
         ·first|(rw[hbad];done)|(exact(pP hb0 hl1 hV hX hem (by rw[hY];exact hT)).symm)|(exact(wE hV hX ha).symm)
        ·rw[aIc] at c6;refine⟨by first|exact w1|exact⟨by omega,by omega⟩,?_⟩;exact⟨j+1,rfl,⟨by omega,cI h120 hb (by rw[c6];rfl)⟩,by omega⟩
       ·have hF:jI s a0 v0 ak=false:=aEA (aCF (by first|(exact .inl g103)|(exact .inr c4)) (aRR (cK (by omega) hb)));refine⟨by first|exact w1|exact⟨by omega,by omega⟩,?_⟩;exact⟨k+1,rfl,⟨by omega,by first|(exact aEB (by first|(exact .inl (eK (by omega)))|(exact .inr (by rw[hX,hV,hY,jI,c3];rfl))|(exact .inr (by rw[hX,hV,hY];exact hF))) ha)⟩,by omega⟩
   ·have hkl:q.atoms.length=k:=by omega
    rw[<-hkl,<-hML,hX,hV] at ha;apply et1
    ·first|(rw[hbad];done)|(exact(pP hb0 hl1 hV hX hem (by rw[hY];exact hT)).symm)|(exact(wE hV hX ha).symm)
theorem aTY {x:Option (List Int)}(h:x.isSome=false):x=none:=by cases x with | none=>rfl | some r=>cases h
theorem aNE {x:Option (List Int)}(h:x.isSome=true):x=some (x.getD []):=by cases x with | none=>cases h | some r=>rfl
theorem aK2 {x:Option (List Int)}(h:0<((x.getD []).length:Int)):x=some (x.getD []):=by cases x with | none=>simp at h | some r=>rfl
theorem aEC {s:aV}{q:aI}{f:Nat}{o:List Int}{u l:Nat->Bool}(hg:f - 1+1=f)(h: ¬fL l=0):eP s q f o u l=(dG l 4).findSome? (jH s q (eP s q (f - 1)) o u l):=by
 obtain⟨g,rfl⟩: ∃g,f=g+1:=⟨f - 1,hg.symm⟩;exact aBy h g
theorem aHb {u:Nat->Bool}{n:Nat}(hn:1<=n/\n<=4)(h: ∀i,n<=i->i<4->u i=false):0<=m4 u/\m4 u<=1*2^n - 1:=by
 have h4:n=1\/n=2\/n=3\/n=4:=by omega
 unfold m4;rcases h4 with rfl | rfl | rfl | rfl
 ·rw[h 1 (by omega) (by omega),h 2 (by omega) (by omega),h 3 (by omega) (by omega)];cases u 0<;>decide
 ·rw[h 2 (by omega) (by omega),h 3 (by omega) (by omega)];cases u 0<;>cases u 1<;>decide
 ·rw[h 3 (by omega) (by omega)];cases u 0<;>cases u 1<;>cases u 2<;>decide
 cases u 0<;>cases u 1<;>cases u 2<;>cases u 3<;>decide
theorem aK3 {m:Int}{v:Nat}(h:0<=m/\m<=15)(hv:v<4):cJ .andNot .i64 m ((1:Int)*2^v)=m4 (jV (bR m) v):=by
 have e:=zT h;rw[show cJ .andNot .i64 m ((1:Int)*2^v)=cJ .andNot .i64 (m4 (bR m)) ((1:Int)*2^v) by rw[<-e],aQ9 hv]
theorem vM {s:aV}{q:aI}{m x:Int}(h:0<=x):eP s q 4 [x] (isP x.toNat) (jV (bR m) x.toNat)=aAv s q m x.toNat:=by rw[aAv,Int.toNat_of_nonneg h]
abbrev aAB (s:aV)(q:aI)(f:Nat)(o:List Int)(u:Nat->Bool)(l:Nat->Bool)(a:Int)(c:Int):List AV × List (Nat × Rs) × AV × List (Nat × Rs):=([.agg [.p none (.sl 88 3 (s.database.tables.map aG)),vI s.catalogue.version,.p none (.sl 91 4 (s.catalogue.tables.map aB)),.p none (.sl 77 3 (s.dependencies.map aF)),.p none (.sl 81 4 (s.inclusions.map aJ))],.agg [vI q.variableCount,.p none (.sl 146 2 (q.atoms.map aN))],.own 0,vI a,vI c],[(0,.arr 3 1 true (o.map intD))],.tup [.own 5,vB ((eP s q f o u l).isSome)],[(5,.arr 3 1 true (((eP s q f o u l).getD []).map intD))])
abbrev aDB (s:aV)(q:aI)(f:Nat)(o:List Int)(u:Nat->Bool)(l:Nat->Bool)(a:Int)(c:Int):Prop:=Cm 60 (aAB s q f o u l a c).1 (aAB s q f o u l a c).2.1 (aAB s q f o u l a c).2.2.1 (aAB s q f o u l a c).2.2.2
theorem aNF (s:aV)(q:aI)(f:Nat)(o:List Int)(u l:Nat->Bool)(a c:Int)(hq3:aZ q=true)(ha:a=m4 u)(hc2:c=m4 l)(hf:fL l<=f/\f<=4)(hu: ∀i,q.atoms.length<=i->i<4->u i=false)(hl: ∀i,q.atoms.length<=i->i<4->l i=false)(hol:o.length+f<=100)(ih: ∀g,g+1=f-> ∀(o:List Int) (u l:Nat->Bool) (a c:Int),a=m4 u->c=m4 l->fL l<=g->(∀i,q.atoms.length<=i->i<4->u i=false)->(∀i,q.atoms.length<=i->i<4->l i=false)->o.length+g<=100->aDB s q g o u l a c):aDB s q f o u l a c:=by
 refine cqx Tryz.func60 (.br (.fin [(5,0)]) (cH (oG c)<| .len ((bK c).length)<| .loop Nat (Q1 Nat) ([13,14,15]++rg 22 30++[53]) [3600,3800,3900,4805] (fun k=>[(22,vI (k:Int))]) (fun k=>[]) (fun k=>k<=(bK c).length/\((bK c).take k).findSome? (jH s q (eP s q (f - 1)) o u l)=none) (fun k=>(bK c).length - k) (fun k=> .br (.len ((bK c).length)<| .elem _ intD (bK c) (fun e25=> .call (vB (dO s q a e25.toNat)) []<| .br (.back []) (cH (aHO o)<| .app Int intD o ([e25]:List Int)<| .callx [.agg [.p none (.sl 88 3 (s.database.tables.map aG)),vI s.catalogue.version,.p none (.sl 91 4 (s.catalogue.tables.map aB)),.p none (.sl 77 3 (s.dependencies.map aF)),.p none (.sl 81 4 (s.inclusions.map aJ))],.agg [vI q.variableCount,.p none (.sl 146 2 (q.atoms.map aN))],.own 0,vI (cJ .or .i64 a ((1:Int)*2^(Int.toNat e25))),vI (cJ .andNot .i64 c ((1:Int)*2^(Int.toNat e25)))] [(0,.arr 3 1 true ((o++[e25]).map intD))] [(0,3900)] (.tup [.own 5,vB ((eP s q (f - 1) (o++[e25]) (rS u e25.toNat) (jV l e25.toNat)).isSome)]) [(5,.arr 3 1 true (((eP s q (f - 1) (o++[e25]) (rS u e25.toNat) (jV l e25.toNat)).getD []).map intD))]<| .br (.fin [(5,4805)]) (.back [])))) (.fin [])))) (p:=Br (c=0) ((true)=((eP s q f o u l).isSome)/\o.map intD=((eP s q f o u l).getD []).map intD/\True) (rJ c/\(Lm intD (bK c)/\((∃(k:Nat),0=(k:Int)/\k<=(bK c).length/\((bK c).take k).findSome? (jH s q (eP s q (f - 1)) o u l)=none)/\ ∀(k:Nat),(k<=(bK c).length/\((bK c).take k).findSome? (jH s q (eP s q (f - 1)) o u l)=none)->Br ((k:Int)<(((bK c).length:Nat):Int)) (0<=(k:Int)/\Lm intD (bK c)/\(k:Int)<(((bK c).length:Nat):Int)/\Em intD (bK c) k fun e25=>aDA s q a e25/\Nr (dO s q a e25.toNat) (bW ((k:Int)+1)/\ ∃(k' :Nat),((k:Int)+1)=(k' :Int)/\(k' <=(bK c).length/\((bK c).take k').findSome? (jH s q (eP s q (f - 1)) o u l)=none)/\(bK c).length - k' <(bK c).length - k) (aJc o/\Ap intD o ([e25]:List Int) 8 ((0<=e25/\e25<=64)/\bW ((1:Int)*2^(Int.toNat e25))/\(0<=e25/\e25<=64)/\bW ((1:Int)*2^(Int.toNat e25))/\pN Tryz.prog 60 [.agg [.p none (.sl 88 3 (s.database.tables.map aG)),vI s.catalogue.version,.p none (.sl 91 4 (s.catalogue.tables.map aB)),.p none (.sl 77 3 (s.dependencies.map aF)),.p none (.sl 81 4 (s.inclusions.map aJ))],.agg [vI q.variableCount,.p none (.sl 146 2 (q.atoms.map aN))],.own 0,vI (cJ .or .i64 a ((1:Int)*2^(Int.toNat e25))),vI (cJ .andNot .i64 c ((1:Int)*2^(Int.toNat e25)))] [(0,.arr 3 1 true ((o++[e25]).map intD))] (.tup [.own 5,vB ((eP s q (f - 1) (o++[e25]) (rS u e25.toNat) (jV l e25.toNat)).isSome)]) [(5,.arr 3 1 true (((eP s q (f - 1) (o++[e25]) (rS u e25.toNat) (jV l e25.toNat)).getD []).map intD))]/\s.database.tables.map aG=s.database.tables.map aG/\s.catalogue.version=s.catalogue.version/\s.catalogue.tables.map aB=s.catalogue.tables.map aB/\s.dependencies.map aF=s.dependencies.map aF/\s.inclusions.map aJ=s.inclusions.map aJ/\q.variableCount=q.variableCount/\q.atoms.map aN=q.atoms.map aN/\(cJ .or .i64 a ((1:Int)*2^(Int.toNat e25)))=(cJ .or .i64 a ((1:Int)*2^(Int.toNat e25)))/\(cJ .andNot .i64 c ((1:Int)*2^(Int.toNat e25)))=(cJ .andNot .i64 c ((1:Int)*2^(Int.toNat e25)))/\(o++[e25]).map intD=(o++[e25]).map intD/\Bb ((eP s q (f - 1) (o++[e25]) (rS u e25.toNat) (jV l e25.toNat)).isSome) ((true)=((eP s q f o u l).isSome)/\((eP s q (f - 1) (o++[e25]) (rS u e25.toNat) (jV l e25.toNat)).getD []).map intD=((eP s q f o u l).getD []).map intD/\True) (bW ((k:Int)+1)/\ ∃(k' :Nat),((k:Int)+1)=(k' :Int)/\(k' <=(bK c).length/\((bK c).take k').findSome? (jH s q (eP s q (f - 1)) o u l)=none)/\(bK c).length - k' <(bK c).length - k)))) ((false)=((eP s q f o u l).isSome)/\[]=((eP s q f o u l).getD []).map intD/\True))))) (by kernel_rfl) ?_;have hq5:=(bM hq3).2.1;have hm:0<=a/\a<=1*2^q.atoms.length - 1:=by rw[ha];exact aHb hq5 hu
 refine dd (fun c0=>?_) fun c0=>?_
 ·have hz:fL l=0:=(aDw l).1 (by rw[<-hc2];exact c0);apply et2<;>(first|(rw[jP hz];done)|(rw[jP hz];rfl)|(rw[hR,c3];done)|(rw[hR];done)|(rw[hN];rfl))
 ·have hz: ¬fL l=0:=fun z=>c0 (by rw[hc2];exact(aDw l).2 z);have hg:f - 1+1=f:=by omega
  have hML:bK c=dG l 4:=by rw[hc2,zY]
  have hml:=aCv c;refine⟨aBv c,aAJ _,⟨0,rfl,aAU _,rfl⟩,fun k ⟨hk,hn⟩=>?_⟩;refine dd (fun c1=>?_) fun c1=>?_
  ·refine⟨by omega,aAJ _,by omega,rfl,by omega,fun e25 h25=>?_⟩;have hem:=aAx h25;rw[hML] at hem;obtain⟨hx0,hx4,hxl⟩:=gF.1 hem;have hxn:e25.toNat<q.atoms.length:=by (rcases Nat.lt_or_ge e25.toNat q.atoms.length with z | z;exact z;rw[hl _ z hx4] at hxl;cases hxl)
   have hcc:=yL hx4 hxl;obtain⟨w1,w2,w3⟩:=sW (x:=e25) (gN (by omega) (by omega));have hcl: ∀i,q.atoms.length<=i->i<4->jV l e25.toNat i=false:=fun i h1 h2=>by rw[jV,hl i h1 h2];rfl
   have hus: ∀i,q.atoms.length<=i->i<4->rS u e25.toNat i=false:=fun i h1 h2=>by rw[rS,hu i h1 h2,decide_eq_false (by omega)];rfl
   refine⟨aND s q a e25 (by assumption) (by first|assumption|exact⟨by omega,by omega⟩) (by first|assumption|exact⟨by omega,by omega⟩),dm (fun c2=>?_) fun c2=>?_⟩
   ·have hS:jH s q (eP s q (f - 1)) o u l e25=none:=by rw[jH,<-ha,c2];rfl
    refine⟨by first|exact w1|exact⟨by omega,by omega⟩,?_⟩;exact⟨k+1,rfl,⟨by omega,aH3 h25 hn hS⟩,by omega⟩
   ·have hE:jH s q (eP s q (f - 1)) o u l e25=eP s q (f - 1) (o++[e25]) (rS u e25.toNat) (jV l e25.toNat):=by rw[jH,<-ha,c2];rfl
    refine⟨cpI _ (by omega),?_⟩;refine ap ?_ (fun _=>rfl) (by first|omega|(simp;omega));refine⟨⟨by omega,by omega⟩,by first|exact w1|exact⟨by omega,by omega⟩,⟨by omega,by omega⟩,by first|exact w1|exact⟨by omega,by omega⟩,ih (f - 1) hg (o++[e25]) (rS u e25.toNat) (jV l e25.toNat) (cJ .or .i64 a ((1:Int)*2^(Int.toNat e25))) (cJ .andNot .i64 c ((1:Int)*2^(Int.toNat e25))) (by rw[ha,wB hx4]) (by rw[hc2,aQ9 hx4]) (by omega) hus hcl (by simp;omega),rfl,rfl,rfl,rfl,rfl,rfl,rfl,rfl,rfl,rfl,db (fun c3=>?_) fun c3=>?_⟩
    ·have hR:eP s q f o u l=eP s q (f - 1) (o++[e25]) (rS u e25.toNat) (jV l e25.toNat):=by rw[aEC hg hz,<-hML,aO5 h25 hn (by rw[hE];exact aNE c3),<-aNE c3]
     apply et2<;>(first|(rw[jP hz];done)|(rw[jP hz];rfl)|(rw[hR,c3];done)|(rw[hR];done)|(rw[hN];rfl))
    ·have hS:jH s q (eP s q (f - 1)) o u l e25=none:=by rw[hE];exact aTY c3
     refine⟨by first|exact w1|exact⟨by omega,by omega⟩,?_⟩;exact⟨k+1,rfl,⟨by omega,aH3 h25 hn hS⟩,by omega⟩
  ·have hN:eP s q f o u l=none:=by rw[aEC hg hz,<-hML];rw[aCy (by omega)] at hn;exact hn
   apply et2<;>(first|(rw[jP hz];done)|(rw[jP hz];rfl)|(rw[hR,c3];done)|(rw[hR];done)|(rw[hN];rfl))
theorem soI {s:aV}{q:aI}(hq3:aZ q=true): ∀(f:Nat) (o:List Int) (u l:Nat->Bool) (a c:Int),a=m4 u->c=m4 l->fL l<=f/\f<=4->(∀i,q.atoms.length<=i->i<4->u i=false)->(∀i,q.atoms.length<=i->i<4->l i=false)->o.length+f<=100->aDB s q f o u l a c
 | 0,o,u,l,a,c,h1,h2,h3,h4,h5,h6=>aNF s q 0 o u l a c hq3 h1 h2 h3 h4 h5 h6 fun g hg=>absurd hg (by omega)
 | f+1,o,u,l,a,c,h1,h2,h3,h4,h5,h6=>aNF s q (f+1) o u l a c hq3 h1 h2 h3 h4 h5 h6 fun g hg o u l a c k1 k2 k3 k4 k5 k6=>by
   obtain rfl:g=f:=by omega
   exact soI hq3 g o u l a c k1 k2 ⟨k3,by omega⟩ k4 k5 k6
theorem aNG {n v:Nat}(hv:v<n): ∀i,n<=i->i<4->isP v i=false:=fun i h1 h2=>by rw[isP,decide_eq_false (by omega)]
theorem aNH {n v:Nat}{m:Int}(hm:0<=m/\m<=1*2^n - 1): ∀i,n<=i->i<4->jV (bR m) v i=false:=fun i h1 h2=>by rw[jV,aBr hm h1 h2];rfl
abbrev vN (s:aV)(q:aI)(m:Int)(st:Int):AV × List (Nat × Rs):=(.own 0,[(0,.arr 3 1 true ((bV s q m st).map intD))])
abbrev aCK (s:aV)(q:aI)(m:Int)(st:Int):Prop:=Cn 28 [.agg [.sl 88 3 (s.database.tables.map aG),.int .i64 s.catalogue.version,.sl 91 4 (s.catalogue.tables.map aB),.sl 77 3 (s.dependencies.map aF),.sl 81 4 (s.inclusions.map aJ)],.agg [.int .i64 q.variableCount,.sl 146 2 (q.atoms.map aN)],.one (.int .i64 m),.one (.int .i64 st)] (vN s q m st).1 (vN s q m st).2
theorem aLw (s:aV)(q:aI)(m st:Int)(hc:eC s<=1048576):aCK s q m st:=by
 refine cq Tryz.func28 (.call (vB (kS s q m)) []<| .br (.fin []) (cH (oG m)<| .call (vB (decide (st∈(bK m)))) []<| .lit<| .lit<| .br (.fin []) (.callx [.agg [.p none (.sl 88 3 (s.database.tables.map aG)),vI s.catalogue.version,.p none (.sl 91 4 (s.catalogue.tables.map aB)),.p none (.sl 77 3 (s.dependencies.map aF)),.p none (.sl 81 4 (s.inclusions.map aJ))],.agg [vI q.variableCount,.p none (.sl 146 2 (q.atoms.map aN))],.own 0,vI ((1:Int)*2^(Int.toNat st)),vI (cJ .andNot .i64 m ((1:Int)*2^(Int.toNat st)))] [(0,.arr 3 1 true (([st]:List Int).map intD))] [(0,2700)] (.tup [.own 5,vB ((eP s q 4 ([st]:List Int) (isP st.toNat) (jV (bR m) st.toNat)).isSome)]) [(5,.arr 3 1 true (((eP s q 4 ([st]:List Int) (isP st.toNat) (jV (bR m) st.toNat)).getD []).map intD))]<| .fin [(0,3405)]))) (p:=Lx (s.database.tables.map aG)<| Lx (s.catalogue.tables.map aB)<| Lx (s.dependencies.map aF)<| Lx (s.inclusions.map aJ)<| Lx (q.atoms.map aN)<| rM s q m/\Nr (kS s q m) ([]=(bV s q m st).map intD/\True) (rJ m/\aFW (bK m) st/\Nr (decide (st∈(bK m))) ([]=(bV s q m st).map intD/\True) ((0<=st/\st<=64)/\bW ((1:Int)*2^(Int.toNat st))/\(0<=st/\st<=64)/\bW ((1:Int)*2^(Int.toNat st))/\pN Tryz.prog 60 [.agg [.p none (.sl 88 3 (s.database.tables.map aG)),vI s.catalogue.version,.p none (.sl 91 4 (s.catalogue.tables.map aB)),.p none (.sl 77 3 (s.dependencies.map aF)),.p none (.sl 81 4 (s.inclusions.map aJ))],.agg [vI q.variableCount,.p none (.sl 146 2 (q.atoms.map aN))],.own 0,vI ((1:Int)*2^(Int.toNat st)),vI (cJ .andNot .i64 m ((1:Int)*2^(Int.toNat st)))] [(0,.arr 3 1 true (([st]:List Int).map intD))] (.tup [.own 5,vB ((eP s q 4 ([st]:List Int) (isP st.toNat) (jV (bR m) st.toNat)).isSome)]) [(5,.arr 3 1 true (((eP s q 4 ([st]:List Int) (isP st.toNat) (jV (bR m) st.toNat)).getD []).map intD))]/\s.database.tables.map aG=s.database.tables.map aG/\s.catalogue.version=s.catalogue.version/\s.catalogue.tables.map aB=s.catalogue.tables.map aB/\s.dependencies.map aF=s.dependencies.map aF/\s.inclusions.map aJ=s.inclusions.map aJ/\q.variableCount=q.variableCount/\q.atoms.map aN=q.atoms.map aN/\((1:Int)*2^(Int.toNat st))=((1:Int)*2^(Int.toNat st))/\(cJ .andNot .i64 m ((1:Int)*2^(Int.toNat st)))=(cJ .andNot .i64 m ((1:Int)*2^(Int.toNat st)))/\[[.int .i64 st]]=([st]:List Int).map intD/\((eP s q 4 ([st]:List Int) (isP st.toNat) (jV (bR m) st.toNat)).getD []).map intD=(bV s q m st).map intD/\True))) (by kernel_rfl) ?_;refine lx fun n0=>lx fun n1=>lx fun n2=>lx fun n3=>lx fun n4=>?_;refine⟨aCG s q m (by omega),dm (fun g16=>?_) fun g16=>?_⟩
 ·have hbad:mY s q m st=false:=by first|(rw[mY,g16];rfl)|(rw[mY,g16,c0];rfl)
  apply et1
  ·first|(rw[nK hbad]<;>rfl)|(rw[lK hok,vM hx.1])
 ·refine⟨aBv m,ctI _ _,dm (fun c0=>?_) fun c0=>?_⟩
  ·have hbad:mY s q m st=false:=by first|(rw[mY,g16];rfl)|(rw[mY,g16,c0];rfl)
   apply et1
   ·first|(rw[nK hbad]<;>rfl)|(rw[lK hok,vM hx.1])
  ·have hok:mY s q m st=true:=by rw[mY,g16,c0];rfl
   have hq:kS s q m=true:=g16;obtain⟨hq1,hq2,hq3,hm1,hm2,hm3,hm4,hm5⟩:=iC hq;have hx:=aKM hq (of_decide_eq_true c0);obtain⟨w1,w2,w3⟩:=sW (x:=st) (gN (by omega) (by omega));refine⟨⟨by omega,by omega⟩,by first|exact w1|exact⟨by omega,by omega⟩,⟨by omega,by omega⟩,by first|exact w1|exact⟨by omega,by omega⟩,soI hq3 4 ([st]:List Int) (isP st.toNat) (jV (bR m) st.toNat) ((1:Int)*2^(Int.toNat st)) (cJ .andNot .i64 m ((1:Int)*2^(Int.toNat st))) (aI0 (by omega)) (aK3 ⟨by omega,by omega⟩ (by omega)) ⟨zX _,by omega⟩ (aNG (by omega)) (aNH ⟨by omega,by omega⟩) (by simp),rfl,rfl,rfl,rfl,rfl,rfl,rfl,rfl,rfl,rfl,?_,trivial⟩
   ·first|(rw[nK hbad]<;>rfl)|(rw[lK hok,vM hx.1])
abbrev eM (m:Int)(u:Nat->Bool):Nat->Bool:=fun i=>bR m i&& !u i
theorem aK4 (m:Int)(u:Nat->Bool)(v:Nat):eM m (rS u v)=jV (eM m u) v:=by
 funext i;simp only[eM,rS,jV,Bool.not_or,Bool.and_assoc]
theorem aOg {m:Int}{u:Nat->Bool}(h:0<=m/\m<=15)(he:m4 u=m):fL (eM m u)=0:=by
 have e: ∀i,i<4->eM m u i=false:=fun i hi=>by
  have h1:m4 u=m4 (bR m):=by rw[he,<-zT h]
  rw[eM,aQb h1 hi];cases bR m i<;>rfl
 rw[fL,e 0 (by omega),e 1 (by omega),e 2 (by omega),e 3 (by omega)];rfl
theorem aOh {m:Int}{u:Nat->Bool}(h:0<=m/\m<=15)(hs: ∀i,i<4->u i=true->bR m i=true)(he: ¬m4 u=m): ¬fL (eM m u)=0:=fun hz=>he (by
 rw[zT h];refine tN fun i hi=>?_;have h1:=oH hz hi;have h2:=hs i hi;rw[eM] at h1;cases e:u i with
 | true=>exact(h2 e).symm
 | false=>rw[e] at h1;simpa using h1.symm)
end Go.Proofs.YtafmaholhcgakaaGreat
