/-
  Contracts and plain laws, joined: part 11.
-/
import Derived.Test.YtlidmoeecphbmaaGreatez9
import Derived.Test.YtlidmoeecphbmaaGreatez7
import Derived.IntWalk
namespace Go.Proofs.YtlidmoeecphbmaaGreat
open Go.ChangeShapes Go.WideShapes Go.ChangeAt Go.RowKit
set_option linter.unusedVariables false
set_option linter.unusedSimpArgs false
set_option maxRecDepth 100000
set_option maxHeartbeats 4000000
theorem aK1:lR []= []:=aKD (aRq [])
theorem aRv (a:Int):lR [a]= [a]:=List.perm_singleton.1 (aBk [a])
def iS (x:aM)(cols:List Int):List Int:=if cG x=true then lR (dX (dR x) cols).2 else []
theorem aNd {x:aM}{cols:List Int}(h:cG x=true):iS x cols=lR (dX (dR x) cols).2:=by rw[iS,if_pos h]
theorem aQe {x:aM}{cols:List Int}(h:cG x=false):iS x cols= []:=by rw[iS,if_neg (by rw[h];decide)]
theorem aRw {x:aM}{cols:List Int}{k:Nat}{g:aR}(h:cG x=true)(hg:x.groups[k]? =some g)(hc:g.columns=cols):g.counts=(dX (dR x) cols).2:=by
 rw[aGx h,aZH] at hg;cases e:(bU x.arity)[k]? with
 | none=>rw[e] at hg;simp at hg
 | some c=>
   rw[e] at hg;simp only[Option.map_some,Option.some.injEq] at hg;subst hg;rw[show c=cols from hc];rfl
theorem aUj {n:Int}(hn:1<=n/\n<=3){cols:List Int}(h:dT (n - 1) cols=true)(hne:cols≠[]):cols∈bU n:=by
 have hl:=aCt h (by omega);have hlow:=aGn h;have hn3:n=1\/n=2\/n=3:=by omega
 match cols,hl with
 | [],_=>exact absurd rfl hne
 | [a],_=>
   have h0:=hlow 0 (by simp);simp at h0;have ha:a=0\/a=1\/a=2:=by omega
   rcases hn3 with rfl|rfl|rfl<;>rcases ha with rfl|rfl|rfl<;>first|decide|(exfalso;omega)
 | [a,b],_=>
   have h0:=hlow 0 (by simp);have h1:=hlow 1 (by simp);have h2:=aIt.1 h 1 (by simp);simp[iQ] at h0 h1 h2;have ha:(a=0/\b=1)\/(a=0/\b=2)\/(a=1/\b=2):=by omega
   rcases hn3 with rfl|rfl|rfl<;>rcases ha with ⟨rfl,rfl⟩ | ⟨rfl,rfl⟩ | ⟨rfl,rfl⟩<;>first|decide|(exfalso;omega)
 | [a,b,c],_=>
   have h0:=hlow 0 (by simp);have h1:=hlow 1 (by simp);have h2:=hlow 2 (by simp);have h3:=aIt.1 h 1 (by simp);have h4:=aIt.1 h 2 (by simp);simp[iQ] at h0 h1 h2 h3 h4;obtain⟨rfl,rfl,rfl⟩:a=0/\b=1/\c=2:=by omega
   rcases hn3 with rfl|rfl|rfl<;>first|decide|(exfalso;omega)
 | _::_::_::_::_,hl=>simp at hl
theorem aUk {x:aM}{cols:List Int}(h:cG x=true)(hall:x.groups.all (fun g=> !decide (g.columns=cols))=true)(hne: ¬(cols.length:Int)=0):(dX (dR x) cols).2= []:=by
 obtain⟨h1,h2⟩:=uB h;cases hc:dT ((dR x).arity - 1) cols with
 | false=>rw[aCs (by simp[hc])]
 | true=>
   exfalso;have hm:=aUj (n:=x.arity) (aAm h) hc (fun e=>hne (by rw[e];rfl));rw[aGx h] at hall;have:=aIt.1 hall _ (List.mem_map_of_mem hm);simp[tZ] at this
theorem aQf {x:aM}(h:cG x=true):(x.rowCount=0->(dX (dR x) []).2= [])/\(¬x.rowCount=0->(dX (dR x) []).2= [x.rowCount]):=by
 obtain⟨h1,h2⟩:=uB h;have hc:=aRf h;have hrows:(dR x).rows=lB x:=rfl;rw[rT (t:=dR x) (cols:=[]) (by rw[h1];rfl)];have e:kN (dR x) []=List.replicate (lB x).length []:=by simp[kN,fL,aNB,hrows,List.map_const']
 have ev:aPI (dR x) []=cK (List.replicate (lB x).length []):=by rw[aPI,e,sV]
 show (x.rowCount=0->aNM (dR x) []= [])/\(¬x.rowCount=0->aNM (dR x) []= [x.rowCount]);rw[aNM,ev,e];constructor
 ·intro h0;rw[show (lB x).length=0 by omega];rfl
 intro h0;have hpos:(lB x).length≠0:=by omega
 have hf:cK (List.replicate (lB x).length ([]:List Int))= [[]]:=by
  obtain⟨p1,p2,_⟩:=sU (List.replicate (lB x).length ([]:List Int)) [] List.Pairwise.nil;refine aFf p1 (List.pairwise_singleton _ _) fun y=>?_;have:=p2 y;rw[cK,this];simp[List.mem_replicate,hpos]
 rw[hf,hc];simp[iR]
abbrev aBJ (x:aM)(cols:List Int):Prop:=Cn 253 [.agg [.str x.name,.int .i64 x.arity,.int .i64 x.rowCount,.sl 220 3 (x.groups.map aD)],.one (.sl 3 1 (cols.map intD))] (.p none (.sl 3 1 ((lR (dX (dR x) cols).2).map intD))) []
theorem aNe (x:aM)(cols:List Int)(hc:bH x<=1048576)(hok:cG x=true):aBJ x cols:=by
 refine cq Tryz.func253 (.stl 4<| .len cols.length<| .br (.br (.stl 4<| .fin []) (.stl 4<| .fin [])) (.loop Nat (Q1 Nat) ([5]++rg 16 16) [] (fun k=>[(5,vI (k:Int))]) (fun k=>[]) (fun k=>k<=x.groups.length/\(x.groups.take k).all (fun g=> !decide (g.columns=cols))=true) (fun k=>x.groups.length - k) (fun k=> .len x.groups.length<| .br (.elem _ aD x.groups (fun e26=> .call (vI (cD e26.columns cols)) []<| .br (.elem _ aD x.groups (fun e35=> .call (.p none (.sl 3 1 ((lR e35.counts).map intD))) []<| .stl 4<| .fin [])) (.back []))) (.stl 4<| .fin [])))) (p:=Lx (x.groups.map aD)<| Lx (cols.map intD)<| Lm intD cols/\Br ((cols.length:Int)=0) (Br (x.rowCount=0) ([]=(lR (dX (dR x) cols).2).map intD/\True) ([[.int .i64 x.rowCount]]=(lR (dX (dR x) cols).2).map intD/\True)) ((∃(k:Nat),0=(k:Int)/\k<=x.groups.length/\(x.groups.take k).all (fun g=> !decide (g.columns=cols))=true)/\ ∀(k:Nat),(k<=x.groups.length/\(x.groups.take k).all (fun g=> !decide (g.columns=cols))=true)->Lm aD x.groups/\Br ((k:Int)<(x.groups.length:Int)) (0<=(k:Int)/\Em aD x.groups k fun e26=>fS e26.columns cols/\Br ((cD e26.columns cols)=0) (0<=(k:Int)/\Em aD x.groups k fun e35=>aE7 e35.counts/\(lR e35.counts).map intD=(lR (dX (dR x) cols).2).map intD/\True) (bJ ((k:Int)+1)/\ ∃(k' :Nat),((k:Int)+1)=(k' :Int)/\(k' <=x.groups.length/\(x.groups.take k').all (fun g=> !decide (g.columns=cols))=true)/\x.groups.length - k' <x.groups.length - k)) ([]=(lR (dX (dR x) cols).2).map intD/\True))) (by kernel_rfl) ?_;refine lx fun n0=>lx fun n1=>?_;have q2:bH x=x.name.size+dN x.groups:=rfl;have q5:=gI x.groups;refine⟨aAq _,dd (fun c0=>?_) fun c0=>?_⟩
 ·have hcz:cols= []:=aKD (by omega);refine dd (fun c1=>?_) fun c1=>?_
  ·have hE:(dX (dR x) cols).2= []:=by rw[hcz];exact(aQf hok).1 c1
   apply et1
   ·(rw[hE,aK1]<;>rfl)
  ·have hE:(dX (dR x) cols).2= [x.rowCount]:=by rw[hcz];exact(aQf hok).2 c1
   apply et1
   ·(rw[hE,aRv]<;>rfl)
 ·refine⟨⟨0,rfl,aBn _,rfl⟩,fun k ⟨hk,ha⟩=>?_⟩;refine⟨aAq _,dd (fun c2=>?_) fun c2=>?_⟩
  ·refine⟨by omega,rfl,by omega,fun e26 h26=>?_⟩
   try (obtain rfl:=(aX h26 h26).symm)
   have q1:=gY h26;have q3:bW e26=cE e26.columns+cR e26.values+cE e26.counts:=rfl;have q6:cE e26.columns=e26.columns.length:=rfl;have q7:cE e26.counts=e26.counts.length:=rfl;have q8:=fH e26.values;refine⟨jH _ _,dd (fun c3=>?_) fun c3=>?_⟩
   ·have hE:=aRw hok h26 (eU.1 c3);refine⟨by omega,rfl,by omega,fun e35 h35=>?_⟩
    try (obtain rfl:=(aX h26 h35).symm)
    refine⟨aRs _ (by omega),?_,trivial⟩
    ·(rw[hE];done)
   ·refine⟨⟨by omega,by omega⟩,?_⟩;exact⟨k+1,rfl,⟨by omega,cL h26 ha (by simpa using fun q=>c3 (eU.2 q))⟩,by omega⟩
  ·have hE:=aUk hok (cZ (by omega) ha) c0;apply et1
   ·(rw[hE,aK1]<;>rfl)
abbrev aHX (x:aM)(cols:List Int):Prop:=Cn 239 [.agg [.str x.name,.int .i64 x.arity,.int .i64 x.rowCount,.sl 220 3 (x.groups.map aD)],.one (.sl 3 1 (cols.map intD))] (.p none (.sl 3 1 ((iS x cols).map intD))) []
theorem aUl (x:aM)(cols:List Int)(hc:bH x<=1048576)(hl:cols.length<=1048576):aHX x cols:=by
 refine cq Tryz.func239 (.stl 4<| .call (vB (cG x)) []<| .br (.stl 4<| .fin []) (.call (.p none (.sl 3 1 ((lR (dX (dR x) cols).2).map intD))) []<| .stl 4<| .fin [])) (p:=Lx (x.groups.map aD)<| Lx (cols.map intD)<| vX x/\Nr (cG x) ([]=(iS x cols).map intD/\True) (aBJ x cols/\(lR (dX (dR x) cols).2).map intD=(iS x cols).map intD/\True)) (by kernel_rfl) ?_;refine lx fun n0=>lx fun n1=>?_;refine⟨aHW _ (by omega),dm (fun c0=>?_) fun c0=>?_⟩
 ·have hE:iS x cols= []:=aQe (by simpa using c0);apply et1
  ·(rw[hE]<;>rfl)
 ·have hE:=aNd (cols:=cols) (by simpa using c0:cG x=true);refine⟨aNe _ _ (by omega) (by assumption),?_,trivial⟩
  ·(rw[hE]<;>rfl)
abbrev aBm (x:aM)(cols:List Int):AV × List (Nat × Rs):=(.own 0,[(0,.arr 3 1 true ((iS x cols).map intD))])
abbrev aHY (x:aM)(cols:List Int):Prop:=Cn 241 [.agg [.str x.name,.int .i64 x.arity,.int .i64 x.rowCount,.sl 220 3 (x.groups.map aD)],.one (.sl 3 1 (cols.map intD))] (aBm x cols).1 (aBm x cols).2
theorem aUm (x:aM)(cols:List Int)(hc:bH x<=1048576)(hl:cols.length<=1048576):aHY x cols:=by
 refine cq Tryz.func241 (bI (qO x)<| .br (.fin []) (bI (aBl (dR x) cols)<| .fin [(0,1600)])) (p:=Lx (x.groups.map aD)<| Lx (cols.map intD)<| vO x/\Nr (cG x) ([]=(iS x cols).map intD/\True) (aHV (dR x) cols/\(lR (dX (dR x) cols).2).map intD=(iS x cols).map intD/\True)) (by kernel_rfl) ?_;refine lx fun n0=>lx fun n1=>?_;refine⟨aGw x (by omega),dm (fun c0=>?_) fun c0=>?_⟩
 ·have hE:iS x cols= []:=aQe (by simpa using c0);apply et1
  ·(rw[hE]<;>rfl)
 ·have hE:=aNd (cols:=cols) (by simpa using c0:cG x=true);refine⟨aUi (dR x) _ (by omega),?_,trivial⟩
  ·(rw[hE]<;>rfl)
abbrev aEa (x:aM)(cols:List Int):Prop:=Cn 199 [.agg [.str x.name,.int .i64 x.arity,.int .i64 x.rowCount,.sl 220 3 (x.groups.map aD)],.one (.sl 3 1 (cols.map intD))] (vI ((iS x cols).getD 0 0)) []
theorem aRx (x:aM)(cols:List Int)(hc:bH x<=1048576)(hl:cols.length<=1048576):aEa x cols:=by
 refine cq Tryz.func199 (.call (.p none (.sl 3 1 ((iS x cols).map intD))) []<| .len ((iS x cols).length)<| .br (.fin []) (.elem _ intD (iS x cols) (fun e13=> .fin []))) (p:=Lx (x.groups.map aD)<| Lx (cols.map intD)<| aHX x cols/\Lm intD (iS x cols)/\Br ((((iS x cols).length:Nat):Int)=0) (0=((iS x cols).getD 0 0)/\True) (0<=(0:Int)/\Em intD (iS x cols) 0 fun e13=>e13=((iS x cols).getD 0 0)/\True)) (by kernel_rfl) ?_;refine lx fun n0=>lx fun n1=>?_;refine⟨aUl _ _ (by omega) (by omega),aAq _,dd (fun c0=>?_) fun c0=>?_⟩
 ·have hz:iS x cols= []:=aKD (by omega);apply et1
  ·(rw[hz]<;>rfl)
 ·refine⟨by omega,rfl,by omega,fun e13 h13=>?_⟩;apply et1
  ·(rw[bM h13])
abbrev aEb (x:aM)(cols:List Int):Prop:=Cn 210 [.agg [.str x.name,.int .i64 x.arity,.int .i64 x.rowCount,.sl 220 3 (x.groups.map aD)],.one (.sl 3 1 (cols.map intD))] (vI ((iS x cols).getD 0 0)) []
theorem aRy (x:aM)(cols:List Int)(hc:bH x<=1048576)(hl:cols.length<=1048576):aEb x cols:=by
 refine cq Tryz.func210 (bI (aBm x cols)<| .len ((iS x cols).length)<| .br (.fin []) (.len ((iS x cols).length)<| .elem _ intD (iS x cols) (fun e14=> .fin []))) (p:=Lx (x.groups.map aD)<| Lx (cols.map intD)<| aHY x cols/\Lm intD (iS x cols)/\Br ((((iS x cols).length:Nat):Int)=0) (0=((iS x cols).getD 0 0)/\True) (0<=(0:Int)/\Lm intD (iS x cols)/\0<(((iS x cols).length:Nat):Int)/\Em intD (iS x cols) 0 fun e14=>e14=((iS x cols).getD 0 0)/\True)) (by kernel_rfl) ?_;refine lx fun n0=>lx fun n1=>?_;refine⟨aUm _ _ (by omega) (by omega),aAq _,dd (fun c0=>?_) fun c0=>?_⟩
 ·have hz:iS x cols= []:=aKD (by omega);apply et1
  ·(rw[hz]<;>rfl)
 ·refine⟨by omega,aAq _,by omega,rfl,by omega,fun e14 h14=>?_⟩;apply et1
  ·(rw[bM h14])
def aPU (m x:Int):Int:=if eB x 0 3=true then cH .or .i64 m ((1:Int)*2^x.toNat) else m
def iH (l:List Int):Int:=l.foldl aPU 0
theorem rW (l:List Int)(x:Int):iH (l++[x])=aPU (iH l) x:=by simp[iH]
theorem aNf {m x:Int}(h:eB x 0 3=true):aPU m x=cH .or .i64 m ((1:Int)*2^x.toNat):=by rw[aPU,if_pos h]
theorem aQg {m x:Int}(h:eB x 0 3=false):aPU m x=m:=by rw[aPU,if_neg (by rw[h];decide)]
theorem aDy {x:Int}(h:eB x 0 3=true):bJ ((1:Int)*2^x.toNat)/\0<=x/\x<=64:=by
 have h2:=eC h;have h1:x=0\/x=1\/x=2\/x=3:=by omega
 refine⟨?_,by omega,by omega⟩;unfold bJ;rcases h1 with rfl | rfl | rfl | rfl<;>exact⟨by decide,by decide⟩
def vsS (m:Int)(l:List Int):Nat->Int
 | 0=>0
 | k+1=>if (decide (cH .and .i64 (m/2^k) 1=1)&&eB (l.getD k 0) 0 3)=true then cH .or .i64 (vsS m l k) ((1:Int)*2^(l.getD k 0).toNat) else vsS m l k
theorem aXE {m:Int}{l:List Int}{k:Nat}{x:Int}(hx:l[k]? =some x)(h1:cH .and .i64 (m/2^k) 1=1)(h2:eB x 0 3=true):vsS m l (k+1)=cH .or .i64 (vsS m l k) ((1:Int)*2^x.toNat):=by
 rw[vsS,bM hx,if_pos (by simp[h1,h2])]
theorem aUn {m:Int}{l:List Int}{k:Nat}{x:Int}(hx:l[k]? =some x)(h:(decide (cH .and .i64 (m/2^k) 1=1)&&eB x 0 3)=false):vsS m l (k+1)=vsS m l k:=by
 rw[vsS,bM hx,if_neg (by rw[h];decide)]
theorem aHZ (m:Int)(l:List Int): ∀k,iH ((lI m k).map (sT l))=vsS m l k
 | 0=>rfl
 | k+1=>by
   by_cases h:cH .and .i64 (m/2^k) 1=1
   ·rw[aDo h,aLt,aLL,List.map_nil,rW,aHZ m l k];have e:sT l (k:Int)=l.getD k 0:=by simp[sT]
    rw[e,vsS,aPU];simp[h]
   rw[aGt h,aHZ m l k,vsS,if_neg (by simp[h])]
theorem aH0 {m:Int}{l:List Int}{k:Nat}(h:m/2^k=0):vsS m l (k+1)=vsS m l k:=by
 rw[vsS,if_neg (by rw[h];simp[show ¬cH .and .i64 0 1=1 by decide])]
theorem aK2 {m:Int}{l:List Int}{n:Int}(hn:1<=n/\n<=3)(hl:(l.length:Int)=n)(h0:0<=m)(h1:m<2^n.toNat - 1):vsS m l (min l.length 3)=vsS m l 3:=by
 have h:n=1\/n=2\/n=3:=by omega
 rcases h with rfl | rfl | rfl
 ·have hm:m=0:=by simp at h1;omega
  subst hm;rw[show min l.length 3=1 by omega,aH0 (k:=2) (by decide),aH0 (k:=1) (by decide)]
 ·have hm:m<4:=by simp at h1;omega
  rw[show min l.length 3=2 by omega,aH0 (k:=2) (by omega)]
 rw[show min l.length 3=3 by omega]
theorem aNg {m:Int}{l:List Int}{n:Int}(hn:1<=n/\n<=3)(hl:(l.length:Int)=n)(h0:0<=m)(h1:m<2^n.toNat - 1):iH (fL l (eX m)).1=vsS m l 3:=by
 have hs:aNB l.length (eX m)=true:=by
  rw[hl];have h:n=1\/n=2\/n=3:=by omega
  rcases h with rfl | rfl | rfl
  ·have hm:m=0:=by simp at h1;omega
   subst hm;decide
  ·have hm:m=0\/m=1\/m=2:=by simp at h1;omega
   rcases hm with rfl | rfl | rfl<;>decide
  have hm:m=0\/m=1\/m=2\/m=3\/m=4\/m=5\/m=6:=by simp at h1;omega
  rcases hm with rfl | rfl | rfl | rfl | rfl | rfl | rfl<;>decide
 rw[fL,if_pos hs];exact aHZ m l 3
def jZ:Nat->Nat->Int->Int
 | 0,b,_=>b
 | f+1,b,n=>if (2:Int)^b<n then jZ f (b+1) n else b
def sH (n:Int):Int:=if eB n 1 4096=true then jZ 12 0 n else -1
theorem aH1 {b:Nat}{n:Int}(h2:n<=4096)(hb:b<=12)(h:(2:Int)^b<n):b<12/\jZ (12 - (b+1)) (b+1) n=jZ (12 - b) b n:=by
 have hlt:b<12:=by
  rcases Nat.lt_or_ge b 12 with h' | h'
  ·exact h'
  obtain rfl:b=12:=by omega
  exact absurd h (by have:(2:Int)^12=4096:=by decide
                     omega)
 refine⟨hlt,?_⟩;obtain⟨f,hf⟩: ∃f,12 - b=f+1:=⟨11 - b,by omega⟩;rw[hf,show 12 - (b+1)=f by omega,jZ,if_pos h]
theorem aH2 {b:Nat}{n:Int}(h:n<=2^b): ∀f,jZ f b n=b
 | 0=>rfl
 | f+1=>by rw[jZ,if_neg (by omega)]
def tcC (x:aM)(a:dC)(m:Nat):aI:=⟨vsS (m:Int) a.vars 3,iH a.vars,sH ((iS x (eX (m:Int))).getD 0 0)⟩
def sI (x:aM)(a:dC):Bool:=cG x&&(!decide (x.rowCount=0)&&decide ((a.vars.length:Int)=x.arity))
def mM (x:aM)(a:dC):List aI:=if sI x a=true then (List.range ((2:Int)^x.arity.toNat - 1).toNat).map (tcC x a) else []
theorem aH3 {x:aM}{a:dC}(h:sI x a=true):mM x a=(List.range ((2:Int)^x.arity.toNat - 1).toNat).map (tcC x a):=by rw[mM,if_pos h]
theorem vY {x:aM}{a:dC}(h:sI x a=false):mM x a= []:=by rw[mM,if_neg (by rw[h];decide)]
theorem aBo {x:aM}{a:dC}(h:sI x a=true):cG x=true/\(a.vars.length:Int)=x.arity:=by
 simp only[sI,aBH,aWB] at h;exact⟨h.1,h.2.2⟩
theorem aH4 (x:aM)(a:dC):(mM x a).length<=7:=by
 cases h:sI x a with
 | false=>rw[vY h];exact aBn _
 | true=>
   have:=qV (aAm (aBo h).1);rw[aH3 h,aAq,List.length_range];omega
abbrev zK (l:List Int):Prop:=Cn 208 [.one (.sl 3 1 (l.map intD))] (vI (iH l)) []
theorem aK3 (l:List Int):zK l:=by
 refine cq Tryz.func208 (.len l.length<| .loop (Nat × Int) (Q2 Nat Int) ([3,5]++rg 8 11) [] (fun yy0=>[(8,vI (yy0.1:Int)),(3,vI yy0.2)]) (fun yy0=>[]) (fun yy0=>yy0.1<=l.length/\yy0.2=iH (l.take yy0.1)) (fun yy0=>l.length - yy0.1) (fun yy0=> .br (.elem _ intD l (fun e10=> .call (vB (eB e10 (0:Int) (3:Int))) []<| .br (.back []) (.back []))) (.fin []))) (p:=Lx (l.map intD)<| Lm intD l/\((∃(k:Nat) (o:Int),0=(k:Int)/\0=o/\k<=l.length/\o=iH (l.take k))/\ ∀(k:Nat) (o:Int),(k<=l.length/\o=iH (l.take k))->Br ((k:Int)<(l.length:Int)) (0<=(k:Int)/\Em intD l k fun e10=>eK e10 (0:Int) (3:Int)/\Bb (eB e10 (0:Int) (3:Int)) ((0<=e10/\e10<=64)/\bJ ((1:Int)*2^(Int.toNat e10))/\bJ ((k:Int)+1)/\ ∃(k' :Nat) (o' :Int),((k:Int)+1)=(k' :Int)/\(cH .or .i64 o ((1:Int)*2^(Int.toNat e10)))=o' /\(k' <=l.length/\o' =iH (l.take k'))/\l.length - k' <l.length - k) (bJ ((k:Int)+1)/\ ∃(k' :Nat) (o' :Int),((k:Int)+1)=(k' :Int)/\o=o' /\(k' <=l.length/\o' =iH (l.take k'))/\l.length - k' <l.length - k)) (o=(iH l)/\True))) (by kernel_rfl) ?_;refine lx fun n0=>?_;refine⟨aAq _,⟨0,0,rfl,rfl,aBn _,rfl⟩,fun k o ⟨hk,hv⟩=>?_⟩;refine dd (fun c0=>?_) fun c0=>?_
 ·refine⟨by omega,rfl,by omega,fun e10 h10=>?_⟩
  try (obtain rfl:=(aX h10 h10).symm)
  refine⟨iD _ _ _,db (fun c1=>?_) fun c1=>?_⟩
  ·obtain⟨w1,w2,w3⟩:=aDy c1;refine⟨⟨by omega,by omega⟩,by exact w1,by exact⟨by omega,by omega⟩,?_⟩;exact⟨k+1,_,rfl,rfl,⟨by omega,by (rw[bR h10,rW,aNf c1,hv];done)⟩,by omega⟩
  ·refine⟨by exact⟨by omega,by omega⟩,?_⟩;exact⟨k+1,_,rfl,rfl,⟨by omega,by (rw[bR h10,rW,aQg c1,hv];done)⟩,by omega⟩
 ·apply et1
  ·rw[hv,aIs (by omega)]
abbrev aEc (l:List Int):Prop:=Cn 197 [.one (.sl 3 1 (l.map intD))] (vI (iH l)) []
theorem aRz (l:List Int):aEc l:=by
 refine cq Tryz.func197 (.loop (Nat × Int) (Q2 Nat Int) (rg 3 20) [] (fun yy0=>[(4,vI (yy0.1:Int)),(3,vI yy0.2)]) (fun yy0=>[]) (fun yy0=>yy0.1<=l.length/\yy0.2=iH (l.take yy0.1)) (fun yy0=>l.length - yy0.1) (fun yy0=> .len l.length<| .br (.elem _ intD l (fun e13=> .call (vB (eB e13 (0:Int) (3:Int))) []<| .br (.elem _ intD l (fun e19=> .back [])) (.back []))) (.fin []))) (p:=Lx (l.map intD)<| (∃(k:Nat) (o:Int),0=(k:Int)/\0=o/\k<=l.length/\o=iH (l.take k))/\ ∀(k:Nat) (o:Int),(k<=l.length/\o=iH (l.take k))->Lm intD l/\Br ((k:Int)<(l.length:Int)) (0<=(k:Int)/\Em intD l k fun e13=>eV e13 (0:Int) (3:Int)/\Bb (eB e13 (0:Int) (3:Int)) (0<=(k:Int)/\Em intD l k fun e19=>(0<=e19/\e19<=64)/\bJ ((1:Int)*2^(Int.toNat e19))/\bJ ((k:Int)+1)/\ ∃(k' :Nat) (o' :Int),((k:Int)+1)=(k' :Int)/\(cH .or .i64 o ((1:Int)*2^(Int.toNat e19)))=o' /\(k' <=l.length/\o' =iH (l.take k'))/\l.length - k' <l.length - k) (bJ ((k:Int)+1)/\ ∃(k' :Nat) (o' :Int),((k:Int)+1)=(k' :Int)/\o=o' /\(k' <=l.length/\o' =iH (l.take k'))/\l.length - k' <l.length - k)) (o=(iH l)/\True)) (by kernel_rfl) ?_;refine lx fun n0=>?_;refine⟨⟨0,0,rfl,rfl,aBn _,rfl⟩,fun k o ⟨hk,hv⟩=>?_⟩;refine⟨aAq _,dd (fun c0=>?_) fun c0=>?_⟩
 ·refine⟨by omega,rfl,by omega,fun e13 h13=>?_⟩
  try (obtain rfl:=(aX h13 h13).symm)
  refine⟨iV _ _ _,db (fun c1=>?_) fun c1=>?_⟩
  ·obtain⟨w1,w2,w3⟩:=aDy c1;refine⟨by omega,rfl,by omega,fun e19 h19=>?_⟩
   try (obtain rfl:=(aX h13 h19).symm)
   refine⟨⟨by omega,by omega⟩,by exact w1,by exact⟨by omega,by omega⟩,?_⟩;exact⟨k+1,_,rfl,rfl,⟨by omega,by (rw[bR h13,rW,aNf c1,hv];done)⟩,by omega⟩
  ·refine⟨by exact⟨by omega,by omega⟩,?_⟩;exact⟨k+1,_,rfl,rfl,⟨by omega,by (rw[bR h13,rW,aQg c1,hv];done)⟩,by omega⟩
 ·apply et1
  ·rw[hv,aIs (by omega)]
abbrev aEd (n:Int):Prop:=Cn 209 [.one (.int .i64 n)] (vI (sH n)) []
theorem aSA (n:Int):aEd n:=by
 refine cq Tryz.func209 (.call (vB (eB n (1:Int) (4096:Int))) []<| .br (.fin []) (.loop Nat (Q1 Nat) [3,7,8,9,10,11,12] [] (fun b=>[(3,vI (b:Int))]) (fun b=>[]) (fun b=>b<=12/\jZ (12 - b) b n=jZ 12 0 n) (fun b=>12 - b) (fun b=> .br (.back []) (.fin [])))) (p:=eK n (1:Int) (4096:Int)/\Nr (eB n (1:Int) (4096:Int)) ((-1:Int)=(sH n)/\True) ((∃(b:Nat),0=(b:Int)/\b<=12/\jZ (12 - b) b n=jZ 12 0 n)/\ ∀(b:Nat),(b<=12/\jZ (12 - b) b n=jZ 12 0 n)->(0<=(b:Int)/\(b:Int)<=64)/\bJ ((1:Int)*2^b)/\Br (((1:Int)*2^b)<n) (bJ ((b:Int)+1)/\ ∃(b' :Nat),((b:Int)+1)=(b' :Int)/\(b' <=12/\jZ (12 - b') b' n=jZ 12 0 n)/\12 - b' <12 - b) ((b:Int)=(sH n)/\True))) (by kernel_rfl) ?_;refine⟨iD _ _ _,dm (fun c0=>?_) fun c0=>?_⟩
 ·have hn:eB n 1 4096=false:=by simpa using c0
  apply et1
  ·(rw[sH,if_neg (by rw[hn];decide)];done)
 ·have hn:eB n 1 4096=true:=by simpa using c0
  obtain⟨w1,w2⟩:=eC hn;refine⟨⟨0,rfl,by omega,rfl⟩,fun b ⟨hb,hr⟩=>?_⟩;refine⟨⟨by omega,by omega⟩,by (have hp:=aPw b hb;exact⟨by omega,by omega⟩),dd (fun c1=>?_) fun c1=>?_⟩
  ·obtain⟨w3,w4⟩:=aH1 w2 hb (by omega);refine⟨by exact⟨by omega,by omega⟩,?_⟩;exact⟨b+1,rfl,⟨by omega,by rw[w4];exact hr⟩,by omega⟩
  ·have w5:=aH2 (b:=b) (n:=n) (by omega) (12 - b);apply et1
   ·(rw[sH,if_pos hn,<-hr,w5])
abbrev aEe (n:Int):Prop:=Cn 198 [.one (.int .i64 n)] (vI (sH n)) []
theorem aSB (n:Int):aEe n:=by
 refine cq Tryz.func198 (.call (vB (eB n (1:Int) (4096:Int))) []<| .br (.fin []) (.loop Nat (Q1 Nat) [3,7,8,9,10,11,12] [] (fun b=>[(3,vI (b:Int))]) (fun b=>[]) (fun b=>b<=12/\jZ (12 - b) b n=jZ 12 0 n) (fun b=>12 - b) (fun b=> .br (.back []) (.fin [])))) (p:=eV n (1:Int) (4096:Int)/\Nr (eB n (1:Int) (4096:Int)) ((-1:Int)=(sH n)/\True) ((∃(b:Nat),0=(b:Int)/\b<=12/\jZ (12 - b) b n=jZ 12 0 n)/\ ∀(b:Nat),(b<=12/\jZ (12 - b) b n=jZ 12 0 n)->(0<=(b:Int)/\(b:Int)<=64)/\bJ ((1:Int)*2^b)/\Br (((1:Int)*2^b)<n) (bJ ((b:Int)+1)/\ ∃(b' :Nat),((b:Int)+1)=(b' :Int)/\(b' <=12/\jZ (12 - b') b' n=jZ 12 0 n)/\12 - b' <12 - b) ((b:Int)=(sH n)/\True))) (by kernel_rfl) ?_;refine⟨iV _ _ _,dm (fun c0=>?_) fun c0=>?_⟩
 ·have hn:eB n 1 4096=false:=by simpa using c0
  apply et1
  ·(rw[sH,if_neg (by rw[hn];decide)];done)
 ·have hn:eB n 1 4096=true:=by simpa using c0
  obtain⟨w1,w2⟩:=eC hn;refine⟨⟨0,rfl,by omega,rfl⟩,fun b ⟨hb,hr⟩=>?_⟩;refine⟨⟨by omega,by omega⟩,by (have hp:=aPw b hb;exact⟨by omega,by omega⟩),dd (fun c1=>?_) fun c1=>?_⟩
  ·obtain⟨w3,w4⟩:=aH1 w2 hb (by omega);refine⟨by exact⟨by omega,by omega⟩,?_⟩;exact⟨b+1,rfl,⟨by omega,by rw[w4];exact hr⟩,by omega⟩
  ·have w5:=aH2 (b:=b) (n:=n) (by omega) (12 - b);apply et1
   ·(rw[sH,if_pos hn,<-hr,w5])
theorem aYx (l:List dC)(a:List Int):(0:Int)=m4 (hZ l 0 a 0):=by simp[m4,b4,hZ,aFY]
theorem aUo (n:Nat)(l:List dC)(a:List Int):List.replicate n false=(List.range n).map (hZ l 0 a 0):=by
 apply List.ext_getElem?;intro i;rw[aZH,List.getElem?_replicate];by_cases hi:i<n
 ·rw[if_pos hi,List.getElem?_range hi];simp[hZ,aFY]
 rw[if_neg hi,show (List.range n)[i]? =none from List.getElem?_eq_none (by simp;omega)];rfl
theorem aUp {l:List Bool}{v:Bool}:decide (0<=kW (fun y=>v==y) l)=decide (v∈l):=by
 apply Bool.eq_iff_iff.2;rw[aWB,aWB];constructor
 ·intro h;obtain⟨k,x,_,hx,hf⟩:=qX.2 h;have h1:=List.find?_some hf;have:v=x:=by simpa using h1
  rw[this];exact aCX hx
 intro h;rcases Int.lt_or_le (kW (fun y=>v==y) l) 0 with q | q
 ·have:=qX.1 q;rw[List.find?_eq_none] at this;exact absurd (this v h) (by simp)
 exact q
abbrev aXi (l:List Bool)(v:Bool):Prop:=Cn 236 [.one (.sl 4 1 (l.map jS)),.one (.bool v)] (vI (kW (fun y=>v==y) l)) []
theorem ixB (l:List Bool)(v:Bool):aXi l v:=by
 refine cq Tryz.func236 (.len l.length<| .loop Nat (Q1 Nat) ([5]++rg 8 9++[18]) [] (fun k=>[(8,vI (k:Int))]) (fun k=>[]) (fun k=>k<=l.length/\(l.take k).all (fun y=> !(v==y))=true) (fun k=>l.length - k) (fun k=> .br (.elem _ jS l (fun e14=> .br (.fin []) (.back []))) (.fin []))) (p:=Lx (l.map jS)<| Lm jS l/\((∃(k:Nat),0=(k:Int)/\k<=l.length/\(l.take k).all (fun y=> !(v==y))=true)/\ ∀(k:Nat),(k<=l.length/\(l.take k).all (fun y=> !(v==y))=true)->Br ((k:Int)<(l.length:Int)) (0<=(k:Int)/\Em jS l k fun e14=>Bb (v==e14) ((k:Int)=(kW (fun y=>v==y) l)/\True) (bJ ((k:Int)+1)/\ ∃(k' :Nat),((k:Int)+1)=(k' :Int)/\(k' <=l.length/\(l.take k').all (fun y=> !(v==y))=true)/\l.length - k' <l.length - k)) ((-1:Int)=(kW (fun y=>v==y) l)/\True))) (by kernel_rfl) ?_;refine lx fun n0=>?_;refine⟨aAq _,⟨0,rfl,aBn _,rfl⟩,fun k ⟨hk,ha⟩=>?_⟩;refine dd (fun c0=>?_) fun c0=>?_
 ·refine⟨by omega,rfl,by omega,fun e14 h14=>?_⟩;refine db (fun c1=>?_) fun c1=>?_
  ·apply et1
   ·(rw[aLp h14 ha c1];done)
  ·refine⟨⟨by omega,by omega⟩,?_⟩;exact⟨k+1,rfl,⟨by omega,cL h14 ha (by rw[c1];rfl)⟩,by omega⟩
 ·apply et1
  ·(rw[aFg (cZ (by omega) ha)];done)
abbrev aXj (l:List Bool)(v:Bool):Prop:=Cn 193 [.one (.sl 4 1 (l.map jS)),.one (.bool v)] (vB (decide (v∈l))) []
theorem ctB (l:List Bool)(v:Bool):aXj l v:=by
 refine cq Tryz.func193 (.call (vI (kW (fun y=>v==y) l)) []<| .fin []) (p:=Lx (l.map jS)<| aXi l v/\(decide (0<=(kW (fun y=>v==y) l)))=(decide (v∈l))/\True) (by kernel_rfl) ?_;refine lx fun n0=>?_;refine⟨ixB _ _,?_,trivial⟩
 ·exact aUp
abbrev vZ (q:QueryD):Prop:=Cn 134 [.agg [.int .i64 q.variableCount,.sl 125 2 (q.atoms.map bF)]] (vB (cO q)) []
theorem aH5 (q:QueryD):vZ q:=by
 refine cq Tryz.func134 (.call (vB (eB q.variableCount (1:Int) (4:Int))) []<| .br (.fin []) (.len q.atoms.length<| .call (vB (eB (q.atoms.length:Int) (1:Int) (4:Int))) []<| .lit<| .lit<| .br (.fin []) (.mk ((q.variableCount).toNat) [.bool false] ((List.replicate ((q.variableCount).toNat) false).map jS)<| .len q.atoms.length<| .loop (Nat × (List Bool)) (Q2 Nat (List Bool)) ([5,6,7]++rg 25 42) [500,2100] (fun yy0=>[(25,vI (yy0.1:Int))]) (fun yy0=>[(2100,some (.arr 4 1 true (yy0.2.map jS)))]) (fun yy0=>yy0.1<=q.atoms.length/\yy0.2=(List.range q.variableCount.toNat).map (hZ q.atoms yy0.1 [] 0)/\(q.atoms.take yy0.1).all (eN q.variableCount)=true) (fun yy0=>q.atoms.length - yy0.1) (fun yy0=> .br (.elem _ bF q.atoms (fun e27=> .call (vB (gJ e27.name)) []<| .br (.fin []) (.len e27.vars.length<| .call (vB (eB (e27.vars.length:Int) (1:Int) (3:Int))) []<| .lit<| .lit<| .br (.fin []) (.len e27.vars.length<| .loop (Nat × (List Bool)) (Q2 Nat (List Bool)) ([6,7]++rg 43 23) [2100] (fun yy1=>[(43,vI (yy1.1:Int))]) (fun yy1=>[(2100,some (.arr 4 1 true (yy1.2.map jS)))]) (fun yy1=>yy1.1<=e27.vars.length/\yy1.2=(List.range q.variableCount.toNat).map (hZ q.atoms yy0.1 e27.vars yy1.1)/\(List.range yy1.1).all (lQ q.variableCount e27.vars)=true) (fun yy1=>e27.vars.length - yy1.1) (fun yy1=> .br (.elem _ intD e27.vars (fun e46=> .call (vB (eB e46 (0:Int) (q.variableCount - 1))) []<| .br (.fin []) (.sub Int intD e27.vars<| .call (vB (decide (e46∈(e27.vars.take yy1.1)))) []<| .lit<| .br (.fin []) (.len yy1.2.length<| .set Bool jS yy1.2 (fun s14_3=>true) (fun s14_3=> .back [(2100,2100)]))))) (.back [(2100,2100)])))))) (.call (vB (decide (false∈yy0.2))) []<| .fin []))))) (p:=Lx (q.atoms.map bF)<| eK q.variableCount (1:Int) (4:Int)/\Nr (eB q.variableCount (1:Int) (4:Int)) ((false)=(cO q)/\True) (Lm bF q.atoms/\(eK (q.atoms.length:Int) (1:Int) (4:Int)/\Nr (eB (q.atoms.length:Int) (1:Int) (4:Int)) ((false)=(cO q)/\True) (q.variableCount=(((q.variableCount).toNat:Nat):Int)/\q.variableCount=(((q.variableCount).toNat:Nat):Int)/\1*((q.variableCount).toNat)<=281474976710656/\((q.variableCount).toNat)<=9223372036854775807/\List.replicate ((q.variableCount).toNat) [.bool false]=(List.replicate ((q.variableCount).toNat) false).map jS/\(Lm bF q.atoms/\((∃(k:Nat) (sn:List Bool),0=(k:Int)/\(List.replicate ((q.variableCount).toNat) false).map jS=sn.map jS/\k<=q.atoms.length/\sn=(List.range q.variableCount.toNat).map (hZ q.atoms k [] 0)/\(q.atoms.take k).all (eN q.variableCount)=true)/\ ∀(k:Nat) (sn:List Bool),(k<=q.atoms.length/\sn=(List.range q.variableCount.toNat).map (hZ q.atoms k [] 0)/\(q.atoms.take k).all (eN q.variableCount)=true)->Br ((k:Int)<(q.atoms.length:Int)) (0<=(k:Int)/\Em bF q.atoms k fun e27=>yQ e27.name/\Nr (gJ e27.name) ((false)=(cO q)/\True) (Lm intD e27.vars/\(eK (e27.vars.length:Int) (1:Int) (3:Int)/\Nr (eB (e27.vars.length:Int) (1:Int) (3:Int)) ((false)=(cO q)/\True) (Lm intD e27.vars/\((∃(i:Nat) (sm:List Bool),0=(i:Int)/\sn.map jS=sm.map jS/\i<=e27.vars.length/\sm=(List.range q.variableCount.toNat).map (hZ q.atoms k e27.vars i)/\(List.range i).all (lQ q.variableCount e27.vars)=true)/\ ∀(i:Nat) (sm:List Bool),(i<=e27.vars.length/\sm=(List.range q.variableCount.toNat).map (hZ q.atoms k e27.vars i)/\(List.range i).all (lQ q.variableCount e27.vars)=true)->Br ((i:Int)<(e27.vars.length:Int)) (0<=(i:Int)/\Em intD e27.vars i fun e46=>bJ (q.variableCount - 1)/\(eK e46 (0:Int) (q.variableCount - 1)/\Nr (eB e46 (0:Int) (q.variableCount - 1)) ((false)=(cO q)/\True) (e27.vars.map intD=e27.vars.map intD/\0<=(i:Int)/\(i:Int)<=(e27.vars.length:Int)/\(aN2 (e27.vars.take i) e46/\Bb (decide (e46∈(e27.vars.take i))) ((false)=(cO q)/\True) (0<=e46/\Lm jS sm/\e46<(sm.length:Int)/\(sm.map jS=sm.map jS/\(e46).toNat<sm.length/\ ∀s14_3,sm[(e46).toNat]? =some s14_3->gN (jS s14_3)=true/\0+1<=(jS s14_3).length/\(jS s14_3).take 0++[.bool true]++(jS s14_3).drop (0+1)=jS true/\bJ ((i:Int)+1)/\ ∃(i' :Nat) (sm' :List Bool),((i:Int)+1)=(i' :Int)/\(sm.set ((e46).toNat) true).map jS=sm'.map jS/\(i' <=e27.vars.length/\sm' =(List.range q.variableCount.toNat).map (hZ q.atoms k e27.vars i')/\(List.range i').all (lQ q.variableCount e27.vars)=true)/\e27.vars.length - i' <e27.vars.length - i)))))) (bJ ((k:Int)+1)/\ ∃(k' :Nat) (sn' :List Bool),((k:Int)+1)=(k' :Int)/\sm.map jS=sn'.map jS/\(k' <=q.atoms.length/\sn' =(List.range q.variableCount.toNat).map (hZ q.atoms k' [] 0)/\(q.atoms.take k').all (eN q.variableCount)=true)/\q.atoms.length - k' <q.atoms.length - k)))))) (aXj sn false/\(!(decide (false∈sn)))=(cO q)/\True))))))) (by kernel_rfl) ?_;refine lx fun n0=>?_;refine⟨iD _ _ _,dm (fun g12=>?_) fun g12=>?_⟩
 ·have hbad:(eB q.variableCount 1 4&&eB (q.atoms.length:Nat) 1 4)=false:=by (rw[g12];rfl)
  apply et1
  ·(exact(aLq hbad).symm)
 ·refine⟨aAq _,iD _ _ _,dm (fun c0=>?_) fun c0=>?_⟩
  ·have hbad:(eB q.variableCount 1 4&&eB (q.atoms.length:Nat) 1 4)=false:=by (rw[g12,c0];rfl)
   apply et1
   ·(exact(aLq hbad).symm)
  ·have hpar:(eB q.variableCount 1 4&&eB (q.atoms.length:Nat) 1 4)=true:=by rw[g12,c0];rfl
   have hn:=eC g12;refine⟨by omega,by omega,by omega,by omega,by (rw[aTC];rfl),aAq _,⟨0,List.replicate ((q.variableCount).toNat) false,rfl,rfl,aBn _,aUo _ _ _,rfl⟩,fun k sn ⟨hk,hs,ha⟩=>?_⟩;refine dd (fun c1=>?_) fun c1=>?_
   ·refine⟨by omega,rfl,by omega,fun e27 h27=>?_⟩;refine⟨aKF _,dm (fun g33=>?_) fun g33=>?_⟩
    ·have hA:eN q.variableCount e27=false:=by (rw[eN,g33];rfl)
     apply et1
     ·(exact(pX h27 hA).symm)
    ·refine⟨aAq _,iD _ _ _,dm (fun c2=>?_) fun c2=>?_⟩
     ·have hA:eN q.variableCount e27=false:=by (rw[eN,g33,c2];rfl)
      apply et1
      ·(exact(pX h27 hA).symm)
     ·have w9:=eC c2;refine⟨aAq _,⟨0,sn,rfl,rfl,aBn _,by rw[hs,aHS],rfl⟩,fun i sm ⟨hi,hm,hv⟩=>?_⟩;have hml:sm.length=q.variableCount.toNat:=by rw[hm];simp
      refine dd (fun c3=>?_) fun c3=>?_
      ·refine⟨by omega,rfl,by omega,fun e46 h46=>?_⟩;have hx:=aCX h46;refine⟨by exact⟨by omega,by omega⟩,iD _ _ _,dm (fun g54=>?_) fun g54=>?_⟩
       ·have hp:lQ q.variableCount e27.vars i=false:=by (rw[lQ,bM h46,g54];rfl)
        have hA:eN q.variableCount e27=false:=by rw[eN,zH,gZ (by omega) hp];simp
        apply et1
        ·(exact(pX h27 hA).symm)
       ·refine⟨rfl,by omega,by omega,ctI _ _,db (fun c4=>?_) fun c4=>?_⟩
        ·have hp:lQ q.variableCount e27.vars i=false:=by (rw[lQ,bM h46,g54,c4];rfl)
         have hA:eN q.variableCount e27=false:=by rw[eN,zH,gZ (by omega) hp];simp
         apply et1
         ·(exact(pX h27 hA).symm)
        ·have hp:lQ q.variableCount e27.vars i=true:=by rw[lQ,bM h46,g54,c4];rfl
         have hb:=eC g54;refine⟨by omega,aAq _,by omega,rfl,by omega,fun s14_3 hs14_3=>⟨rfl,aEE rfl,rfl,?_⟩⟩;refine⟨by exact⟨by omega,by omega⟩,?_⟩;exact⟨i+1,_,rfl,rfl,⟨by omega,by rw[hm,aUc,aHT h46 (by omega)],jP hv hp⟩,by omega⟩
      ·have hA:eN q.variableCount e27=true:=by rw[eN,g33,c2,zH,show e27.vars.length=i by omega,hv];rfl
       refine⟨by exact⟨by omega,by omega⟩,?_⟩;exact⟨k+1,_,rfl,rfl,⟨by omega,by rw[hm,aHU h27 (by omega) []],cL h27 ha hA⟩,by omega⟩
   ·have hall:=cZ (by omega) ha;refine⟨ctB _ _,?_,trivial⟩
    ·(rw[aQd hpar hall,hs,aKY (by omega),aUd])
abbrev wA (q:QueryD):Prop:=Cn 125 [.agg [.int .i64 q.variableCount,.sl 125 2 (q.atoms.map bF)]] (vB (cO q)) []
theorem aH6 (q:QueryD):wA q:=by
 refine cq Tryz.func125 (.call (vB (eB q.variableCount (1:Int) (4:Int))) []<| .br (.fin []) (.len q.atoms.length<| .call (vB (eB (q.atoms.length:Int) (1:Int) (4:Int))) []<| .lit<| .lit<| .br (.fin []) (.loop (Nat × Int) (Q2 Nat Int) ([3,4,5,6]++rg 18 60) [500] (fun yy0=>[(4,vI (yy0.1:Int)),(3,vI yy0.2)]) (fun yy0=>[]) (fun yy0=>yy0.1<=q.atoms.length/\yy0.2=m4 (hZ q.atoms yy0.1 [] 0)/\(q.atoms.take yy0.1).all (eN q.variableCount)=true) (fun yy0=>q.atoms.length - yy0.1) (fun yy0=> .len q.atoms.length<| .br (.elem _ bF q.atoms (fun e28=> .call (vB (gJ e28.name)) []<| .br (.fin []) (.len e28.vars.length<| .call (vB (eB (e28.vars.length:Int) (1:Int) (3:Int))) []<| .lit<| .lit<| .br (.fin []) (.loop (Nat × Int) (Q2 Nat Int) ([3,6]++rg 41 37) [] (fun yy1=>[(6,vI (yy1.1:Int)),(3,vI yy1.2)]) (fun yy1=>[]) (fun yy1=>yy1.1<=e28.vars.length/\yy1.2=m4 (hZ q.atoms yy0.1 e28.vars yy1.1)/\(List.range yy1.1).all (lQ q.variableCount e28.vars)=true) (fun yy1=>e28.vars.length - yy1.1) (fun yy1=> .len e28.vars.length<| .br (.elem _ intD e28.vars (fun e51=> .call (vB (eB e51 (0:Int) (q.variableCount - 1))) []<| .br (.fin []) (.sub Int intD e28.vars<| .elem _ intD e28.vars (fun e66=> .call (vB (decide (e66∈(e28.vars.take yy1.1)))) []<| .lit<| .br (.fin []) (.elem _ intD e28.vars (fun e74=> .back [])))))) (.back [])))))) (.fin []))))) (p:=Lx (q.atoms.map bF)<| eV q.variableCount (1:Int) (4:Int)/\Nr (eB q.variableCount (1:Int) (4:Int)) ((false)=(cO q)/\True) (Lm bF q.atoms/\(eV (q.atoms.length:Int) (1:Int) (4:Int)/\Nr (eB (q.atoms.length:Int) (1:Int) (4:Int)) ((false)=(cO q)/\True) ((∃(k:Nat) (o:Int),0=(k:Int)/\0=o/\k<=q.atoms.length/\o=m4 (hZ q.atoms k [] 0)/\(q.atoms.take k).all (eN q.variableCount)=true)/\ ∀(k:Nat) (o:Int),(k<=q.atoms.length/\o=m4 (hZ q.atoms k [] 0)/\(q.atoms.take k).all (eN q.variableCount)=true)->Lm bF q.atoms/\Br ((k:Int)<(q.atoms.length:Int)) (0<=(k:Int)/\Em bF q.atoms k fun e28=>yR e28.name/\Nr (gJ e28.name) ((false)=(cO q)/\True) (Lm intD e28.vars/\(eV (e28.vars.length:Int) (1:Int) (3:Int)/\Nr (eB (e28.vars.length:Int) (1:Int) (3:Int)) ((false)=(cO q)/\True) ((∃(i:Nat) (p:Int),0=(i:Int)/\o=p/\i<=e28.vars.length/\p=m4 (hZ q.atoms k e28.vars i)/\(List.range i).all (lQ q.variableCount e28.vars)=true)/\ ∀(i:Nat) (p:Int),(i<=e28.vars.length/\p=m4 (hZ q.atoms k e28.vars i)/\(List.range i).all (lQ q.variableCount e28.vars)=true)->Lm intD e28.vars/\Br ((i:Int)<(e28.vars.length:Int)) (0<=(i:Int)/\Em intD e28.vars i fun e51=>bJ (q.variableCount - 1)/\eV e51 (0:Int) (q.variableCount - 1)/\Nr (eB e51 (0:Int) (q.variableCount - 1)) ((false)=(cO q)/\True) (e28.vars.map intD=e28.vars.map intD/\0<=(i:Int)/\(i:Int)<=(e28.vars.length:Int)/\0<=(i:Int)/\Em intD e28.vars i fun e66=>aU7 (e28.vars.take i) e66/\Bb (decide (e66∈(e28.vars.take i))) ((false)=(cO q)/\True) (0<=(i:Int)/\Em intD e28.vars i fun e74=>(0<=e74/\e74<=64)/\bJ ((1:Int)*2^(Int.toNat e74))/\bJ ((i:Int)+1)/\ ∃(i' :Nat) (p' :Int),((i:Int)+1)=(i' :Int)/\(cH .or .i64 p ((1:Int)*2^(Int.toNat e74)))=p' /\(i' <=e28.vars.length/\p' =m4 (hZ q.atoms k e28.vars i')/\(List.range i').all (lQ q.variableCount e28.vars)=true)/\e28.vars.length - i' <e28.vars.length - i))) (bJ ((k:Int)+1)/\ ∃(k' :Nat) (o' :Int),((k:Int)+1)=(k' :Int)/\p=o' /\(k' <=q.atoms.length/\o' =m4 (hZ q.atoms k' [] 0)/\(q.atoms.take k').all (eN q.variableCount)=true)/\q.atoms.length - k' <q.atoms.length - k))))) ((0<=q.variableCount/\q.variableCount<=64)/\bJ ((1:Int)*2^(Int.toNat q.variableCount))/\bJ (((1:Int)*2^(Int.toNat q.variableCount)) - 1)/\(decide (o=(((1:Int)*2^(Int.toNat q.variableCount)) - 1)))=(cO q)/\True))))) (by kernel_rfl) ?_;refine lx fun n0=>?_;refine⟨iV _ _ _,dm (fun g11=>?_) fun g11=>?_⟩
 ·have hbad:(eB q.variableCount 1 4&&eB (q.atoms.length:Nat) 1 4)=false:=by (rw[g11];rfl)
  apply et1
  ·(exact(aLq hbad).symm)
 ·refine⟨aAq _,iV _ _ _,dm (fun c0=>?_) fun c0=>?_⟩
  ·have hbad:(eB q.variableCount 1 4&&eB (q.atoms.length:Nat) 1 4)=false:=by (rw[g11,c0];rfl)
   apply et1
   ·(exact(aLq hbad).symm)
  ·have hpar:(eB q.variableCount 1 4&&eB (q.atoms.length:Nat) 1 4)=true:=by rw[g11,c0];rfl
   have hn:=eC g11;refine⟨⟨0,(0:Int),rfl,rfl,aBn _,aYx _ _,rfl⟩,fun k o ⟨hk,hs,ha⟩=>?_⟩;refine⟨aAq _,dd (fun c1=>?_) fun c1=>?_⟩
   ·refine⟨by omega,rfl,by omega,fun e28 h28=>?_⟩;refine⟨aKG _,dm (fun g34=>?_) fun g34=>?_⟩
    ·have hA:eN q.variableCount e28=false:=by (rw[eN,g34];rfl)
     apply et1
     ·(exact(pX h28 hA).symm)
    ·refine⟨aAq _,iV _ _ _,dm (fun c2=>?_) fun c2=>?_⟩
     ·have hA:eN q.variableCount e28=false:=by (rw[eN,g34,c2];rfl)
      apply et1
      ·(exact(pX h28 hA).symm)
     ·have w9:=eC c2;refine⟨⟨0,o,rfl,rfl,aBn _,by rw[hs,aHS],rfl⟩,fun i p ⟨hi,hm,hv⟩=>?_⟩;refine⟨aAq _,dd (fun c3=>?_) fun c3=>?_⟩
      ·refine⟨by omega,rfl,by omega,fun e51 h51=>?_⟩;have hx:=aCX h51;refine⟨by exact⟨by omega,by omega⟩,iV _ _ _,dm (fun g58=>?_) fun g58=>?_⟩
       ·have hp:lQ q.variableCount e28.vars i=false:=by (rw[lQ,bM h51,g58];rfl)
        have hA:eN q.variableCount e28=false:=by rw[eN,zH,gZ (by omega) hp];simp
        apply et1
        ·(exact(pX h28 hA).symm)
       ·refine⟨rfl,by omega,by omega,by omega,rfl,by omega,fun e66 h66=>?_⟩;obtain rfl:=(aX h51 h66).symm;refine⟨hsI _ _,db (fun c4=>?_) fun c4=>?_⟩
        ·have hp:lQ q.variableCount e28.vars i=false:=by (rw[lQ,bM h51,g58,c4];rfl)
         have hA:eN q.variableCount e28=false:=by rw[eN,zH,gZ (by omega) hp];simp
         apply et1
         ·(exact(pX h28 hA).symm)
        ·have hp:lQ q.variableCount e28.vars i=true:=by rw[lQ,bM h51,g58,c4];rfl
         have hb:=eC g58;obtain⟨w1,w2,w3⟩:=aDy (x:=e51) (qA (by omega) (by omega));refine⟨by omega,rfl,by omega,fun e74 h74=>?_⟩;obtain rfl:=(aX h51 h74).symm;refine⟨⟨by omega,by omega⟩,by exact w1,by exact⟨by omega,by omega⟩,?_⟩;exact⟨i+1,_,rfl,rfl,⟨by omega,by rw[hm,aUa (by omega),aHT h51 (by omega)],jP hv hp⟩,by omega⟩
      ·have hA:eN q.variableCount e28=true:=by rw[eN,g34,c2,zH,show e28.vars.length=i by omega,hv];rfl
       refine⟨by exact⟨by omega,by omega⟩,?_⟩;exact⟨k+1,_,rfl,rfl,⟨by omega,by rw[hm,aHU h28 (by omega) []],cL h28 ha hA⟩,by omega⟩
   ·have hall:=cZ (by omega) ha;obtain⟨w1,w2,w3⟩:=aDy (x:=q.variableCount - 1) (qA (by omega) (by omega));have w4:=mL (n:=q.variableCount.toNat) ⟨by omega,by omega⟩;refine⟨⟨by omega,by omega⟩,by exact⟨by omega,by omega⟩,by exact⟨by omega,by omega⟩,?_,trivial⟩
    ·(rw[aQd hpar hall,hs,aKY (by omega)];exact aXB hn fun v hv=>aUe hall hn.1 hv)
end Go.Proofs.YtlidmoeecphbmaaGreat
