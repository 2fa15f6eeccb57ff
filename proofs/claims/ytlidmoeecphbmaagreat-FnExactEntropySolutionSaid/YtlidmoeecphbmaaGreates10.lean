/-
  Contracts and plain laws, joined: part 11.
-/
import Derived.Test.YtlidmoeecphbmaaGreates9
import Derived.Test.YtlidmoeecphbmaaGreates7
import Derived.IntWalk
namespace Go.Proofs.YtlidmoeecphbmaaGreat
open Go.ChangeShapes Go.WideShapes Go.ChangeAt Go.RowKit
set_option linter.unusedVariables false
set_option linter.unusedSimpArgs false
set_option maxRecDepth 100000
set_option maxHeartbeats 4000000
theorem aLv:nJ []= []:=aKV (aTW [])
theorem aT1 (a:Int):nJ [a]= [a]:=List.perm_singleton.1 (aCy [a])
def jO (x:aD)(cols:List Int):List Int:=if cS x=true then nJ (eK (eD x) cols).2 else []
theorem aPJ {x:aD}{cols:List Int}(h:cS x=true):jO x cols=nJ (eK (eD x) cols).2:=by rw[jO,if_pos h]
theorem aSI {x:aD}{cols:List Int}(h:cS x=false):jO x cols= []:=by rw[jO,if_neg (by rw[h];decide)]
theorem aT2 {x:aD}{cols:List Int}{k:Nat}{g:aI}(h:cS x=true)(hg:x.groups[k]? =some g)(hc:g.columns=cols):g.counts=(eK (eD x) cols).2:=by
 rw[aIX h,aZH] at hg;cases e:(bY x.arity)[k]? with
 | none=>rw[e] at hg;simp at hg
 | some c=>
   rw[e] at hg;simp only[Option.map_some,Option.some.injEq] at hg;subst hg;rw[show c=cols from hc];rfl
theorem aWO {n:Int}(hn:1<=n/\n<=3){cols:List Int}(h:eG (n - 1) cols=true)(hne:cols≠[]):cols∈bY n:=by
 have hl:=aEI h (by omega);have hlow:=aIN h;have hn3:n=1\/n=2\/n=3:=by omega
 match cols,hl with
 | [],_=>exact absurd rfl hne
 | [a],_=>
   have h0:=hlow 0 (by simp);simp at h0;have ha:a=0\/a=1\/a=2:=by omega
   rcases hn3 with rfl|rfl|rfl<;>rcases ha with rfl|rfl|rfl<;>first|decide|(exfalso;omega)
 | [a,b],_=>
   have h0:=hlow 0 (by simp);have h1:=hlow 1 (by simp);have h2:=aI4.1 h 1 (by simp);simp[jM] at h0 h1 h2;have ha:(a=0/\b=1)\/(a=0/\b=2)\/(a=1/\b=2):=by omega
   rcases hn3 with rfl|rfl|rfl<;>rcases ha with ⟨rfl,rfl⟩ | ⟨rfl,rfl⟩ | ⟨rfl,rfl⟩<;>first|decide|(exfalso;omega)
 | [a,b,c],_=>
   have h0:=hlow 0 (by simp);have h1:=hlow 1 (by simp);have h2:=hlow 2 (by simp);have h3:=aI4.1 h 1 (by simp);have h4:=aI4.1 h 2 (by simp);simp[jM] at h0 h1 h2 h3 h4;obtain⟨rfl,rfl,rfl⟩:a=0/\b=1/\c=2:=by omega
   rcases hn3 with rfl|rfl|rfl<;>first|decide|(exfalso;omega)
 | _::_::_::_::_,hl=>simp at hl
theorem aWP {x:aD}{cols:List Int}(h:cS x=true)(hall:x.groups.all (fun g=> !decide (g.columns=cols))=true)(hne: ¬(cols.length:Int)=0):(eK (eD x) cols).2= []:=by
 obtain⟨h1,h2⟩:=wU h;cases hc:eG ((eD x).arity - 1) cols with
 | false=>rw[aEH (by simp[hc])]
 | true=>
   exfalso;have hm:=aWO (n:=x.arity) (aBx h) hc (fun e=>hne (by rw[e];rfl));rw[aIX h] at hall;have:=aI4.1 hall _ (List.mem_map_of_mem hm);simp[wS] at this
theorem aSJ {x:aD}(h:cS x=true):(x.rowCount=0->(eK (eD x) []).2= [])/\(¬x.rowCount=0->(eK (eD x) []).2= [x.rowCount]):=by
 obtain⟨h1,h2⟩:=wU h;have hc:=aTL h;have hrows:(eD x).rows=mN x:=rfl;rw[tX (t:=eD x) (cols:=[]) (by rw[h1];rfl)];have e:lY (eD x) []=List.replicate (mN x).length []:=by simp[lY,gB,aO7,hrows,List.map_const']
 have ev:aQa (eD x) []=cN (List.replicate (mN x).length []):=by rw[aQa,e,vH]
 show (x.rowCount=0->aOi (eD x) []= [])/\(¬x.rowCount=0->aOi (eD x) []= [x.rowCount]);rw[aOi,ev,e];constructor
 ·intro h0;rw[show (mN x).length=0 by omega];rfl
 intro h0;have hpos:(mN x).length≠0:=by omega
 have hf:cN (List.replicate (mN x).length ([]:List Int))= [[]]:=by
  obtain⟨p1,p2,_⟩:=vG (List.replicate (mN x).length ([]:List Int)) [] List.Pairwise.nil;refine aHC p1 (List.pairwise_singleton _ _) fun y=>?_;have:=p2 y;rw[cN,this];simp[List.mem_replicate,hpos]
 rw[hf,hc];simp[jN]
abbrev aCU (x:aD)(cols:List Int):Prop:=Cn 253 [.agg [.str x.name,.int .i64 x.arity,.int .i64 x.rowCount,.sl 220 3 (x.groups.map aC)],.one (.sl 3 1 (cols.map intD))] (.p none (.sl 3 1 ((nJ (eK (eD x) cols).2).map intD))) []
theorem aPK (x:aD)(cols:List Int)(hc:bD x<=1048576)(hok:cS x=true):aCU x cols:=by
 refine cq Tryz.func253 (.stl 4<| .len cols.length<| .br (.br (.stl 4<| .fin []) (.stl 4<| .fin [])) (.loop Nat (Q1 Nat) ([5]++rg 16 16) [] (fun k=>[(5,vI (k:Int))]) (fun k=>[]) (fun k=>k<=x.groups.length/\(x.groups.take k).all (fun g=> !decide (g.columns=cols))=true) (fun k=>x.groups.length - k) (fun k=> .len x.groups.length<| .br (.elem _ aC x.groups (fun e26=> .call (vI (cI e26.columns cols)) []<| .br (.elem _ aC x.groups (fun e35=> .call (.p none (.sl 3 1 ((nJ e35.counts).map intD))) []<| .stl 4<| .fin [])) (.back []))) (.stl 4<| .fin [])))) (p:=Lx (x.groups.map aC)<| Lx (cols.map intD)<| Lm intD cols/\Br ((cols.length:Int)=0) (Br (x.rowCount=0) ([]=(nJ (eK (eD x) cols).2).map intD/\True) ([[.int .i64 x.rowCount]]=(nJ (eK (eD x) cols).2).map intD/\True)) ((∃(k:Nat),0=(k:Int)/\k<=x.groups.length/\(x.groups.take k).all (fun g=> !decide (g.columns=cols))=true)/\ ∀(k:Nat),(k<=x.groups.length/\(x.groups.take k).all (fun g=> !decide (g.columns=cols))=true)->Lm aC x.groups/\Br ((k:Int)<(x.groups.length:Int)) (0<=(k:Int)/\Em aC x.groups k fun e26=>gI e26.columns cols/\Br ((cI e26.columns cols)=0) (0<=(k:Int)/\Em aC x.groups k fun e35=>aFt e35.counts/\(nJ e35.counts).map intD=(nJ (eK (eD x) cols).2).map intD/\True) (bK ((k:Int)+1)/\ ∃(k' :Nat),((k:Int)+1)=(k' :Int)/\(k' <=x.groups.length/\(x.groups.take k').all (fun g=> !decide (g.columns=cols))=true)/\x.groups.length - k' <x.groups.length - k)) ([]=(nJ (eK (eD x) cols).2).map intD/\True))) (by kernel_rfl) ?_;refine lx fun n0=>lx fun n1=>?_;have q2:bD x=x.name.size+dB x.groups:=rfl;have q5:=gY x.groups;refine⟨aAH _,dd (fun c0=>?_) fun c0=>?_⟩
 ·have hcz:cols= []:=aKV (by omega);refine dd (fun c1=>?_) fun c1=>?_
  ·have hE:(eK (eD x) cols).2= []:=by rw[hcz];exact(aSJ hok).1 c1
   apply et1
   ·(rw[hE,aLv]<;>rfl)
  ·have hE:(eK (eD x) cols).2= [x.rowCount]:=by rw[hcz];exact(aSJ hok).2 c1
   apply et1
   ·(rw[hE,aT1]<;>rfl)
 ·refine⟨⟨0,rfl,aDB _,rfl⟩,fun k ⟨hk,ha⟩=>?_⟩;refine⟨aAH _,dd (fun c2=>?_) fun c2=>?_⟩
  ·refine⟨by omega,rfl,by omega,fun e26 h26=>?_⟩
   try (obtain rfl:=(aY h26 h26).symm)
   have q1:=iP h26;have q3:bP e26=cD e26.columns+cM e26.values+cD e26.counts:=rfl;have q6:cD e26.columns=e26.columns.length:=rfl;have q7:cD e26.counts=e26.counts.length:=rfl;have q8:=fX e26.values;refine⟨kG _ _,dd (fun c3=>?_) fun c3=>?_⟩
   ·have hE:=aT2 hok h26 (fG.1 c3);refine⟨by omega,rfl,by omega,fun e35 h35=>?_⟩
    try (obtain rfl:=(aY h26 h35).symm)
    refine⟨aTY _ (by omega),?_,trivial⟩
    ·(rw[hE];done)
   ·refine⟨⟨by omega,by omega⟩,?_⟩;exact⟨k+1,rfl,⟨by omega,cO h26 ha (by simpa using fun q=>c3 (fG.2 q))⟩,by omega⟩
  ·have hE:=aWP hok (dJ (by omega) ha) c0;apply et1
   ·(rw[hE,aLv]<;>rfl)
abbrev aIm (x:aD)(cols:List Int):Prop:=Cn 239 [.agg [.str x.name,.int .i64 x.arity,.int .i64 x.rowCount,.sl 220 3 (x.groups.map aC)],.one (.sl 3 1 (cols.map intD))] (.p none (.sl 3 1 ((jO x cols).map intD))) []
theorem aWQ (x:aD)(cols:List Int)(hc:bD x<=1048576)(hl:cols.length<=1048576):aIm x cols:=by
 refine cq Tryz.func239 (.stl 4<| .call (vB (cS x)) []<| .br (.stl 4<| .fin []) (.call (.p none (.sl 3 1 ((nJ (eK (eD x) cols).2).map intD))) []<| .stl 4<| .fin [])) (p:=Lx (x.groups.map aC)<| Lx (cols.map intD)<| yO x/\Nr (cS x) ([]=(jO x cols).map intD/\True) (aCU x cols/\(nJ (eK (eD x) cols).2).map intD=(jO x cols).map intD/\True)) (by kernel_rfl) ?_;refine lx fun n0=>lx fun n1=>?_;refine⟨aIl _ (by omega),dm (fun c0=>?_) fun c0=>?_⟩
 ·have hE:jO x cols= []:=aSI (by simpa using c0);apply et1
  ·(rw[hE]<;>rfl)
 ·have hE:=aPJ (cols:=cols) (by simpa using c0:cS x=true);refine⟨aPK _ _ (by omega) (by assumption),?_,trivial⟩
  ·(rw[hE]<;>rfl)
abbrev aDA (x:aD)(cols:List Int):AV × List (Nat × Rs):=(.own 0,[(0,.arr 3 1 true ((jO x cols).map intD))])
abbrev aIn (x:aD)(cols:List Int):Prop:=Cn 241 [.agg [.str x.name,.int .i64 x.arity,.int .i64 x.rowCount,.sl 220 3 (x.groups.map aC)],.one (.sl 3 1 (cols.map intD))] (aDA x cols).1 (aDA x cols).2
theorem aWR (x:aD)(cols:List Int)(hc:bD x<=1048576)(hl:cols.length<=1048576):aIn x cols:=by
 refine cq Tryz.func241 (bJ (sT x)<| .br (.fin []) (bJ (aCz (eD x) cols)<| .fin [(0,1600)])) (p:=Lx (x.groups.map aC)<| Lx (cols.map intD)<| yG x/\Nr (cS x) ([]=(jO x cols).map intD/\True) (aIk (eD x) cols/\(nJ (eK (eD x) cols).2).map intD=(jO x cols).map intD/\True)) (by kernel_rfl) ?_;refine lx fun n0=>lx fun n1=>?_;refine⟨aIW x (by omega),dm (fun c0=>?_) fun c0=>?_⟩
 ·have hE:jO x cols= []:=aSI (by simpa using c0);apply et1
  ·(rw[hE]<;>rfl)
 ·have hE:=aPJ (cols:=cols) (by simpa using c0:cS x=true);refine⟨aWN (eD x) _ (by omega),?_,trivial⟩
  ·(rw[hE]<;>rfl)
abbrev aFw (x:aD)(cols:List Int):Prop:=Cn 199 [.agg [.str x.name,.int .i64 x.arity,.int .i64 x.rowCount,.sl 220 3 (x.groups.map aC)],.one (.sl 3 1 (cols.map intD))] (vI ((jO x cols).getD 0 0)) []
theorem aT3 (x:aD)(cols:List Int)(hc:bD x<=1048576)(hl:cols.length<=1048576):aFw x cols:=by
 refine cq Tryz.func199 (.call (.p none (.sl 3 1 ((jO x cols).map intD))) []<| .len ((jO x cols).length)<| .br (.fin []) (.elem _ intD (jO x cols) (fun e13=> .fin []))) (p:=Lx (x.groups.map aC)<| Lx (cols.map intD)<| aIm x cols/\Lm intD (jO x cols)/\Br ((((jO x cols).length:Nat):Int)=0) (0=((jO x cols).getD 0 0)/\True) (0<=(0:Int)/\Em intD (jO x cols) 0 fun e13=>e13=((jO x cols).getD 0 0)/\True)) (by kernel_rfl) ?_;refine lx fun n0=>lx fun n1=>?_;refine⟨aWQ _ _ (by omega) (by omega),aAH _,dd (fun c0=>?_) fun c0=>?_⟩
 ·have hz:jO x cols= []:=aKV (by omega);apply et1
  ·(rw[hz]<;>rfl)
 ·refine⟨by omega,rfl,by omega,fun e13 h13=>?_⟩;apply et1
  ·(rw[bO h13])
abbrev aFx (x:aD)(cols:List Int):Prop:=Cn 210 [.agg [.str x.name,.int .i64 x.arity,.int .i64 x.rowCount,.sl 220 3 (x.groups.map aC)],.one (.sl 3 1 (cols.map intD))] (vI ((jO x cols).getD 0 0)) []
theorem aT4 (x:aD)(cols:List Int)(hc:bD x<=1048576)(hl:cols.length<=1048576):aFx x cols:=by
 refine cq Tryz.func210 (bJ (aDA x cols)<| .len ((jO x cols).length)<| .br (.fin []) (.len ((jO x cols).length)<| .elem _ intD (jO x cols) (fun e14=> .fin []))) (p:=Lx (x.groups.map aC)<| Lx (cols.map intD)<| aIn x cols/\Lm intD (jO x cols)/\Br ((((jO x cols).length:Nat):Int)=0) (0=((jO x cols).getD 0 0)/\True) (0<=(0:Int)/\Lm intD (jO x cols)/\0<(((jO x cols).length:Nat):Int)/\Em intD (jO x cols) 0 fun e14=>e14=((jO x cols).getD 0 0)/\True)) (by kernel_rfl) ?_;refine lx fun n0=>lx fun n1=>?_;refine⟨aWR _ _ (by omega) (by omega),aAH _,dd (fun c0=>?_) fun c0=>?_⟩
 ·have hz:jO x cols= []:=aKV (by omega);apply et1
  ·(rw[hz]<;>rfl)
 ·refine⟨by omega,aAH _,by omega,rfl,by omega,fun e14 h14=>?_⟩;apply et1
  ·(rw[bO h14])
def aQm (m x:Int):Int:=if eQ x 0 3=true then cL .or .i64 m ((1:Int)*2^x.toNat) else m
def jC (l:List Int):Int:=l.foldl aQm 0
theorem uB (l:List Int)(x:Int):jC (l++[x])=aQm (jC l) x:=by simp[jC]
theorem aPL {m x:Int}(h:eQ x 0 3=true):aQm m x=cL .or .i64 m ((1:Int)*2^x.toNat):=by rw[aQm,if_pos h]
theorem aSK {m x:Int}(h:eQ x 0 3=false):aQm m x=m:=by rw[aQm,if_neg (by rw[h];decide)]
theorem aFT {x:Int}(h:eQ x 0 3=true):bK ((1:Int)*2^x.toNat)/\0<=x/\x<=64:=by
 have h2:=eN h;have h1:x=0\/x=1\/x=2\/x=3:=by omega
 refine⟨?_,by omega,by omega⟩;unfold bK;rcases h1 with rfl | rfl | rfl | rfl<;>exact⟨by decide,by decide⟩
def vsS (m:Int)(l:List Int):Nat->Int
 | 0=>0
 | k+1=>if (decide (cL .and .i64 (m/2^k) 1=1)&&eQ (l.getD k 0) 0 3)=true then cL .or .i64 (vsS m l k) ((1:Int)*2^(l.getD k 0).toNat) else vsS m l k
theorem aYa {m:Int}{l:List Int}{k:Nat}{x:Int}(hx:l[k]? =some x)(h1:cL .and .i64 (m/2^k) 1=1)(h2:eQ x 0 3=true):vsS m l (k+1)=cL .or .i64 (vsS m l k) ((1:Int)*2^x.toNat):=by
 rw[vsS,bO hx,if_pos (by simp[h1,h2])]
theorem aWS {m:Int}{l:List Int}{k:Nat}{x:Int}(hx:l[k]? =some x)(h:(decide (cL .and .i64 (m/2^k) 1=1)&&eQ x 0 3)=false):vsS m l (k+1)=vsS m l k:=by
 rw[vsS,bO hx,if_neg (by rw[h];decide)]
theorem aIo (m:Int)(l:List Int): ∀k,jC ((mT m k).map (vF l))=vsS m l k
 | 0=>rfl
 | k+1=>by
   by_cases h:cL .and .i64 (m/2^k) 1=1
   ·rw[aFJ h,aMQ,aLz,List.map_nil,uB,aIo m l k];have e:vF l (k:Int)=l.getD k 0:=by simp[vF]
    rw[e,vsS,aQm];simp[h]
   rw[aIT h,aIo m l k,vsS,if_neg (by simp[h])]
theorem aIp {m:Int}{l:List Int}{k:Nat}(h:m/2^k=0):vsS m l (k+1)=vsS m l k:=by
 rw[vsS,if_neg (by rw[h];simp[show ¬cL .and .i64 0 1=1 by decide])]
theorem aLw {m:Int}{l:List Int}{n:Int}(hn:1<=n/\n<=3)(hl:(l.length:Int)=n)(h0:0<=m)(h1:m<2^n.toNat - 1):vsS m l (min l.length 3)=vsS m l 3:=by
 have h:n=1\/n=2\/n=3:=by omega
 rcases h with rfl | rfl | rfl
 ·have hm:m=0:=by simp at h1;omega
  subst hm;rw[show min l.length 3=1 by omega,aIp (k:=2) (by decide),aIp (k:=1) (by decide)]
 ·have hm:m<4:=by simp at h1;omega
  rw[show min l.length 3=2 by omega,aIp (k:=2) (by omega)]
 rw[show min l.length 3=3 by omega]
theorem aPM {m:Int}{l:List Int}{n:Int}(hn:1<=n/\n<=3)(hl:(l.length:Int)=n)(h0:0<=m)(h1:m<2^n.toNat - 1):jC (gB l (fK m)).1=vsS m l 3:=by
 have hs:aO7 l.length (fK m)=true:=by
  rw[hl];have h:n=1\/n=2\/n=3:=by omega
  rcases h with rfl | rfl | rfl
  ·have hm:m=0:=by simp at h1;omega
   subst hm;decide
  ·have hm:m=0\/m=1\/m=2:=by simp at h1;omega
   rcases hm with rfl | rfl | rfl<;>decide
  have hm:m=0\/m=1\/m=2\/m=3\/m=4\/m=5\/m=6:=by simp at h1;omega
  rcases hm with rfl | rfl | rfl | rfl | rfl | rfl | rfl<;>decide
 rw[gB,if_pos hs];exact aIo m l 3
def lB:Nat->Nat->Int->Int
 | 0,b,_=>b
 | f+1,b,n=>if (2:Int)^b<n then lB f (b+1) n else b
def uR (n:Int):Int:=if eQ n 1 4096=true then lB 12 0 n else -1
theorem aIq {b:Nat}{n:Int}(h2:n<=4096)(hb:b<=12)(h:(2:Int)^b<n):b<12/\lB (12 - (b+1)) (b+1) n=lB (12 - b) b n:=by
 have hlt:b<12:=by
  rcases Nat.lt_or_ge b 12 with h' | h'
  ·exact h'
  obtain rfl:b=12:=by omega
  exact absurd h (by have:(2:Int)^12=4096:=by decide
                     omega)
 refine⟨hlt,?_⟩;obtain⟨f,hf⟩: ∃f,12 - b=f+1:=⟨11 - b,by omega⟩;rw[hf,show 12 - (b+1)=f by omega,lB,if_pos h]
theorem aIr {b:Nat}{n:Int}(h:n<=2^b): ∀f,lB f b n=b
 | 0=>rfl
 | f+1=>by rw[lB,if_neg (by omega)]
def tcC (x:aD)(a:bX)(m:Nat):aL:=⟨vsS (m:Int) a.vars 3,jC a.vars,uR ((jO x (fK (m:Int))).getD 0 0)⟩
def uS (x:aD)(a:bX):Bool:=cS x&&(!decide (x.rowCount=0)&&decide ((a.vars.length:Int)=x.arity))
def oF (x:aD)(a:bX):List aL:=if uS x a=true then (List.range ((2:Int)^x.arity.toNat - 1).toNat).map (tcC x a) else []
theorem aIs {x:aD}{a:bX}(h:uS x a=true):oF x a=(List.range ((2:Int)^x.arity.toNat - 1).toNat).map (tcC x a):=by rw[oF,if_pos h]
theorem yP {x:aD}{a:bX}(h:uS x a=false):oF x a= []:=by rw[oF,if_neg (by rw[h];decide)]
theorem aDC {x:aD}{a:bX}(h:uS x a=true):cS x=true/\(a.vars.length:Int)=x.arity:=by
 simp only[uS,aCA,aUa] at h;exact⟨h.1,h.2.2⟩
theorem aIt (x:aD)(a:bX):(oF x a).length<=7:=by
 cases h:uS x a with
 | false=>rw[yP h];exact aDB _
 | true=>
   have:=tA (aBx (aDC h).1);rw[aIs h,aAH,List.length_range];omega
abbrev aAx (l:List Int):Prop:=Cn 208 [.one (.sl 3 1 (l.map intD))] (vI (jC l)) []
theorem aLx (l:List Int):aAx l:=by
 refine cq Tryz.func208 (.len l.length<| .loop (Nat × Int) (Q2 Nat Int) ([3,5]++rg 8 11) [] (fun yy0=>[(8,vI (yy0.1:Int)),(3,vI yy0.2)]) (fun yy0=>[]) (fun yy0=>yy0.1<=l.length/\yy0.2=jC (l.take yy0.1)) (fun yy0=>l.length - yy0.1) (fun yy0=> .br (.elem _ intD l (fun e10=> .call (vB (eQ e10 (0:Int) (3:Int))) []<| .br (.back []) (.back []))) (.fin []))) (p:=Lx (l.map intD)<| Lm intD l/\((∃(k:Nat) (o:Int),0=(k:Int)/\0=o/\k<=l.length/\o=jC (l.take k))/\ ∀(k:Nat) (o:Int),(k<=l.length/\o=jC (l.take k))->Br ((k:Int)<(l.length:Int)) (0<=(k:Int)/\Em intD l k fun e10=>fH e10 (0:Int) (3:Int)/\Bb (eQ e10 (0:Int) (3:Int)) ((0<=e10/\e10<=64)/\bK ((1:Int)*2^(Int.toNat e10))/\bK ((k:Int)+1)/\ ∃(k' :Nat) (o' :Int),((k:Int)+1)=(k' :Int)/\(cL .or .i64 o ((1:Int)*2^(Int.toNat e10)))=o' /\(k' <=l.length/\o' =jC (l.take k'))/\l.length - k' <l.length - k) (bK ((k:Int)+1)/\ ∃(k' :Nat) (o' :Int),((k:Int)+1)=(k' :Int)/\o=o' /\(k' <=l.length/\o' =jC (l.take k'))/\l.length - k' <l.length - k)) (o=(jC l)/\True))) (by kernel_rfl) ?_;refine lx fun n0=>?_;refine⟨aAH _,⟨0,0,rfl,rfl,aDB _,rfl⟩,fun k o ⟨hk,hv⟩=>?_⟩;refine dd (fun c0=>?_) fun c0=>?_
 ·refine⟨by omega,rfl,by omega,fun e10 h10=>?_⟩
  try (obtain rfl:=(aY h10 h10).symm)
  refine⟨jT _ _ _,db (fun c1=>?_) fun c1=>?_⟩
  ·obtain⟨w1,w2,w3⟩:=aFT c1;refine⟨⟨by omega,by omega⟩,by exact w1,by exact⟨by omega,by omega⟩,?_⟩;exact⟨k+1,_,rfl,rfl,⟨by omega,by (rw[bT h10,uB,aPL c1,hv];done)⟩,by omega⟩
  ·refine⟨by exact⟨by omega,by omega⟩,?_⟩;exact⟨k+1,_,rfl,rfl,⟨by omega,by (rw[bT h10,uB,aSK c1,hv];done)⟩,by omega⟩
 ·apply et1
  ·rw[hv,aGT (by omega)]
abbrev aFy (l:List Int):Prop:=Cn 197 [.one (.sl 3 1 (l.map intD))] (vI (jC l)) []
theorem aT5 (l:List Int):aFy l:=by
 refine cq Tryz.func197 (.loop (Nat × Int) (Q2 Nat Int) (rg 3 20) [] (fun yy0=>[(4,vI (yy0.1:Int)),(3,vI yy0.2)]) (fun yy0=>[]) (fun yy0=>yy0.1<=l.length/\yy0.2=jC (l.take yy0.1)) (fun yy0=>l.length - yy0.1) (fun yy0=> .len l.length<| .br (.elem _ intD l (fun e13=> .call (vB (eQ e13 (0:Int) (3:Int))) []<| .br (.elem _ intD l (fun e19=> .back [])) (.back []))) (.fin []))) (p:=Lx (l.map intD)<| (∃(k:Nat) (o:Int),0=(k:Int)/\0=o/\k<=l.length/\o=jC (l.take k))/\ ∀(k:Nat) (o:Int),(k<=l.length/\o=jC (l.take k))->Lm intD l/\Br ((k:Int)<(l.length:Int)) (0<=(k:Int)/\Em intD l k fun e13=>fI e13 (0:Int) (3:Int)/\Bb (eQ e13 (0:Int) (3:Int)) (0<=(k:Int)/\Em intD l k fun e19=>(0<=e19/\e19<=64)/\bK ((1:Int)*2^(Int.toNat e19))/\bK ((k:Int)+1)/\ ∃(k' :Nat) (o' :Int),((k:Int)+1)=(k' :Int)/\(cL .or .i64 o ((1:Int)*2^(Int.toNat e19)))=o' /\(k' <=l.length/\o' =jC (l.take k'))/\l.length - k' <l.length - k) (bK ((k:Int)+1)/\ ∃(k' :Nat) (o' :Int),((k:Int)+1)=(k' :Int)/\o=o' /\(k' <=l.length/\o' =jC (l.take k'))/\l.length - k' <l.length - k)) (o=(jC l)/\True)) (by kernel_rfl) ?_;refine lx fun n0=>?_;refine⟨⟨0,0,rfl,rfl,aDB _,rfl⟩,fun k o ⟨hk,hv⟩=>?_⟩;refine⟨aAH _,dd (fun c0=>?_) fun c0=>?_⟩
 ·refine⟨by omega,rfl,by omega,fun e13 h13=>?_⟩
  try (obtain rfl:=(aY h13 h13).symm)
  refine⟨jU _ _ _,db (fun c1=>?_) fun c1=>?_⟩
  ·obtain⟨w1,w2,w3⟩:=aFT c1;refine⟨by omega,rfl,by omega,fun e19 h19=>?_⟩
   try (obtain rfl:=(aY h13 h19).symm)
   refine⟨⟨by omega,by omega⟩,by exact w1,by exact⟨by omega,by omega⟩,?_⟩;exact⟨k+1,_,rfl,rfl,⟨by omega,by (rw[bT h13,uB,aPL c1,hv];done)⟩,by omega⟩
  ·refine⟨by exact⟨by omega,by omega⟩,?_⟩;exact⟨k+1,_,rfl,rfl,⟨by omega,by (rw[bT h13,uB,aSK c1,hv];done)⟩,by omega⟩
 ·apply et1
  ·rw[hv,aGT (by omega)]
abbrev aFz (n:Int):Prop:=Cn 209 [.one (.int .i64 n)] (vI (uR n)) []
theorem aT6 (n:Int):aFz n:=by
 refine cq Tryz.func209 (.call (vB (eQ n (1:Int) (4096:Int))) []<| .br (.fin []) (.loop Nat (Q1 Nat) [3,7,8,9,10,11,12] [] (fun b=>[(3,vI (b:Int))]) (fun b=>[]) (fun b=>b<=12/\lB (12 - b) b n=lB 12 0 n) (fun b=>12 - b) (fun b=> .br (.back []) (.fin [])))) (p:=fH n (1:Int) (4096:Int)/\Nr (eQ n (1:Int) (4096:Int)) ((-1:Int)=(uR n)/\True) ((∃(b:Nat),0=(b:Int)/\b<=12/\lB (12 - b) b n=lB 12 0 n)/\ ∀(b:Nat),(b<=12/\lB (12 - b) b n=lB 12 0 n)->(0<=(b:Int)/\(b:Int)<=64)/\bK ((1:Int)*2^b)/\Br (((1:Int)*2^b)<n) (bK ((b:Int)+1)/\ ∃(b' :Nat),((b:Int)+1)=(b' :Int)/\(b' <=12/\lB (12 - b') b' n=lB 12 0 n)/\12 - b' <12 - b) ((b:Int)=(uR n)/\True))) (by kernel_rfl) ?_;refine⟨jT _ _ _,dm (fun c0=>?_) fun c0=>?_⟩
 ·have hn:eQ n 1 4096=false:=by simpa using c0
  apply et1
  ·(rw[uR,if_neg (by rw[hn];decide)];done)
 ·have hn:eQ n 1 4096=true:=by simpa using c0
  obtain⟨w1,w2⟩:=eN hn;refine⟨⟨0,rfl,by omega,rfl⟩,fun b ⟨hb,hr⟩=>?_⟩;refine⟨⟨by omega,by omega⟩,by (have hp:=aR0 b hb;exact⟨by omega,by omega⟩),dd (fun c1=>?_) fun c1=>?_⟩
  ·obtain⟨w3,w4⟩:=aIq w2 hb (by omega);refine⟨by exact⟨by omega,by omega⟩,?_⟩;exact⟨b+1,rfl,⟨by omega,by rw[w4];exact hr⟩,by omega⟩
  ·have w5:=aIr (b:=b) (n:=n) (by omega) (12 - b);apply et1
   ·(rw[uR,if_pos hn,<-hr,w5])
abbrev aGA (n:Int):Prop:=Cn 198 [.one (.int .i64 n)] (vI (uR n)) []
theorem aT7 (n:Int):aGA n:=by
 refine cq Tryz.func198 (.call (vB (eQ n (1:Int) (4096:Int))) []<| .br (.fin []) (.loop Nat (Q1 Nat) [3,7,8,9,10,11,12] [] (fun b=>[(3,vI (b:Int))]) (fun b=>[]) (fun b=>b<=12/\lB (12 - b) b n=lB 12 0 n) (fun b=>12 - b) (fun b=> .br (.back []) (.fin [])))) (p:=fI n (1:Int) (4096:Int)/\Nr (eQ n (1:Int) (4096:Int)) ((-1:Int)=(uR n)/\True) ((∃(b:Nat),0=(b:Int)/\b<=12/\lB (12 - b) b n=lB 12 0 n)/\ ∀(b:Nat),(b<=12/\lB (12 - b) b n=lB 12 0 n)->(0<=(b:Int)/\(b:Int)<=64)/\bK ((1:Int)*2^b)/\Br (((1:Int)*2^b)<n) (bK ((b:Int)+1)/\ ∃(b' :Nat),((b:Int)+1)=(b' :Int)/\(b' <=12/\lB (12 - b') b' n=lB 12 0 n)/\12 - b' <12 - b) ((b:Int)=(uR n)/\True))) (by kernel_rfl) ?_;refine⟨jU _ _ _,dm (fun c0=>?_) fun c0=>?_⟩
 ·have hn:eQ n 1 4096=false:=by simpa using c0
  apply et1
  ·(rw[uR,if_neg (by rw[hn];decide)];done)
 ·have hn:eQ n 1 4096=true:=by simpa using c0
  obtain⟨w1,w2⟩:=eN hn;refine⟨⟨0,rfl,by omega,rfl⟩,fun b ⟨hb,hr⟩=>?_⟩;refine⟨⟨by omega,by omega⟩,by (have hp:=aR0 b hb;exact⟨by omega,by omega⟩),dd (fun c1=>?_) fun c1=>?_⟩
  ·obtain⟨w3,w4⟩:=aIq w2 hb (by omega);refine⟨by exact⟨by omega,by omega⟩,?_⟩;exact⟨b+1,rfl,⟨by omega,by rw[w4];exact hr⟩,by omega⟩
  ·have w5:=aIr (b:=b) (n:=n) (by omega) (12 - b);apply et1
   ·(rw[uR,if_pos hn,<-hr,w5])
theorem bAX (l:List bX)(a:List Int):(0:Int)=m4 (iV l 0 a 0):=by simp[m4,b4,iV,aGl]
theorem aWT (n:Nat)(l:List bX)(a:List Int):List.replicate n false=(List.range n).map (iV l 0 a 0):=by
 apply List.ext_getElem?;intro i;rw[aZH,List.getElem?_replicate];by_cases hi:i<n
 ·rw[if_pos hi,List.getElem?_range hi];simp[iV,aGl]
 rw[if_neg hi,show (List.range n)[i]? =none from List.getElem?_eq_none (by simp;omega)];rfl
theorem aWU {l:List Bool}{v:Bool}:decide (0<=mK (fun y=>v==y) l)=decide (v∈l):=by
 apply Bool.eq_iff_iff.2;rw[aUa,aUa];constructor
 ·intro h;obtain⟨k,x,_,hx,hf⟩:=tB.2 h;have h1:=List.find?_some hf;have:v=x:=by simpa using h1
  rw[this];exact aDd hx
 intro h;rcases Int.lt_or_le (mK (fun y=>v==y) l) 0 with q | q
 ·have:=tB.1 q;rw[List.find?_eq_none] at this;exact absurd (this v h) (by simp)
 exact q
abbrev aZL (l:List Bool)(v:Bool):Prop:=Cn 236 [.one (.sl 4 1 (l.map kU)),.one (.bool v)] (vI (mK (fun y=>v==y) l)) []
theorem ixB (l:List Bool)(v:Bool):aZL l v:=by
 refine cq Tryz.func236 (.len l.length<| .loop Nat (Q1 Nat) ([5]++rg 8 9++[18]) [] (fun k=>[(8,vI (k:Int))]) (fun k=>[]) (fun k=>k<=l.length/\(l.take k).all (fun y=> !(v==y))=true) (fun k=>l.length - k) (fun k=> .br (.elem _ kU l (fun e14=> .br (.fin []) (.back []))) (.fin []))) (p:=Lx (l.map kU)<| Lm kU l/\((∃(k:Nat),0=(k:Int)/\k<=l.length/\(l.take k).all (fun y=> !(v==y))=true)/\ ∀(k:Nat),(k<=l.length/\(l.take k).all (fun y=> !(v==y))=true)->Br ((k:Int)<(l.length:Int)) (0<=(k:Int)/\Em kU l k fun e14=>Bb (v==e14) ((k:Int)=(mK (fun y=>v==y) l)/\True) (bK ((k:Int)+1)/\ ∃(k' :Nat),((k:Int)+1)=(k' :Int)/\(k' <=l.length/\(l.take k').all (fun y=> !(v==y))=true)/\l.length - k' <l.length - k)) ((-1:Int)=(mK (fun y=>v==y) l)/\True))) (by kernel_rfl) ?_;refine lx fun n0=>?_;refine⟨aAH _,⟨0,rfl,aDB _,rfl⟩,fun k ⟨hk,ha⟩=>?_⟩;refine dd (fun c0=>?_) fun c0=>?_
 ·refine⟨by omega,rfl,by omega,fun e14 h14=>?_⟩;refine db (fun c1=>?_) fun c1=>?_
  ·apply et1
   ·(rw[aNR h14 ha c1];done)
  ·refine⟨⟨by omega,by omega⟩,?_⟩;exact⟨k+1,rfl,⟨by omega,cO h14 ha (by rw[c1];rfl)⟩,by omega⟩
 ·apply et1
  ·(rw[aHD (dJ (by omega) ha)];done)
abbrev aZM (l:List Bool)(v:Bool):Prop:=Cn 193 [.one (.sl 4 1 (l.map kU)),.one (.bool v)] (vB (decide (v∈l))) []
theorem ctB (l:List Bool)(v:Bool):aZM l v:=by
 refine cq Tryz.func193 (.call (vI (mK (fun y=>v==y) l)) []<| .fin []) (p:=Lx (l.map kU)<| aZL l v/\(decide (0<=(mK (fun y=>v==y) l)))=(decide (v∈l))/\True) (by kernel_rfl) ?_;refine lx fun n0=>?_;refine⟨ixB _ _,?_,trivial⟩
 ·exact aWU
abbrev yQ (q:QueryD):Prop:=Cn 134 [.agg [.int .i64 q.variableCount,.sl 125 2 (q.atoms.map bB)]] (vB (cT q)) []
theorem aIu (q:QueryD):yQ q:=by
 refine cq Tryz.func134 (.call (vB (eQ q.variableCount (1:Int) (4:Int))) []<| .br (.fin []) (.len q.atoms.length<| .call (vB (eQ (q.atoms.length:Int) (1:Int) (4:Int))) []<| .lit<| .lit<| .br (.fin []) (.mk ((q.variableCount).toNat) [.bool false] ((List.replicate ((q.variableCount).toNat) false).map kU)<| .len q.atoms.length<| .loop (Nat × (List Bool)) (Q2 Nat (List Bool)) ([5,6,7]++rg 25 42) [500,2100] (fun yy0=>[(25,vI (yy0.1:Int))]) (fun yy0=>[(2100,some (.arr 4 1 true (yy0.2.map kU)))]) (fun yy0=>yy0.1<=q.atoms.length/\yy0.2=(List.range q.variableCount.toNat).map (iV q.atoms yy0.1 [] 0)/\(q.atoms.take yy0.1).all (eZ q.variableCount)=true) (fun yy0=>q.atoms.length - yy0.1) (fun yy0=> .br (.elem _ bB q.atoms (fun e27=> .call (vB (gZ e27.name)) []<| .br (.fin []) (.len e27.vars.length<| .call (vB (eQ (e27.vars.length:Int) (1:Int) (3:Int))) []<| .lit<| .lit<| .br (.fin []) (.len e27.vars.length<| .loop (Nat × (List Bool)) (Q2 Nat (List Bool)) ([6,7]++rg 43 23) [2100] (fun yy1=>[(43,vI (yy1.1:Int))]) (fun yy1=>[(2100,some (.arr 4 1 true (yy1.2.map kU)))]) (fun yy1=>yy1.1<=e27.vars.length/\yy1.2=(List.range q.variableCount.toNat).map (iV q.atoms yy0.1 e27.vars yy1.1)/\(List.range yy1.1).all (nI q.variableCount e27.vars)=true) (fun yy1=>e27.vars.length - yy1.1) (fun yy1=> .br (.elem _ intD e27.vars (fun e46=> .call (vB (eQ e46 (0:Int) (q.variableCount - 1))) []<| .br (.fin []) (.sub Int intD e27.vars<| .call (vB (decide (e46∈(e27.vars.take yy1.1)))) []<| .lit<| .br (.fin []) (.len yy1.2.length<| .set Bool kU yy1.2 (fun s14_3=>true) (fun s14_3=> .back [(2100,2100)]))))) (.back [(2100,2100)])))))) (.call (vB (decide (false∈yy0.2))) []<| .fin []))))) (p:=Lx (q.atoms.map bB)<| fH q.variableCount (1:Int) (4:Int)/\Nr (eQ q.variableCount (1:Int) (4:Int)) ((false)=(cT q)/\True) (Lm bB q.atoms/\(fH (q.atoms.length:Int) (1:Int) (4:Int)/\Nr (eQ (q.atoms.length:Int) (1:Int) (4:Int)) ((false)=(cT q)/\True) (q.variableCount=(((q.variableCount).toNat:Nat):Int)/\q.variableCount=(((q.variableCount).toNat:Nat):Int)/\1*((q.variableCount).toNat)<=281474976710656/\((q.variableCount).toNat)<=9223372036854775807/\List.replicate ((q.variableCount).toNat) [.bool false]=(List.replicate ((q.variableCount).toNat) false).map kU/\(Lm bB q.atoms/\((∃(k:Nat) (sn:List Bool),0=(k:Int)/\(List.replicate ((q.variableCount).toNat) false).map kU=sn.map kU/\k<=q.atoms.length/\sn=(List.range q.variableCount.toNat).map (iV q.atoms k [] 0)/\(q.atoms.take k).all (eZ q.variableCount)=true)/\ ∀(k:Nat) (sn:List Bool),(k<=q.atoms.length/\sn=(List.range q.variableCount.toNat).map (iV q.atoms k [] 0)/\(q.atoms.take k).all (eZ q.variableCount)=true)->Br ((k:Int)<(q.atoms.length:Int)) (0<=(k:Int)/\Em bB q.atoms k fun e27=>aAd e27.name/\Nr (gZ e27.name) ((false)=(cT q)/\True) (Lm intD e27.vars/\(fH (e27.vars.length:Int) (1:Int) (3:Int)/\Nr (eQ (e27.vars.length:Int) (1:Int) (3:Int)) ((false)=(cT q)/\True) (Lm intD e27.vars/\((∃(i:Nat) (sm:List Bool),0=(i:Int)/\sn.map kU=sm.map kU/\i<=e27.vars.length/\sm=(List.range q.variableCount.toNat).map (iV q.atoms k e27.vars i)/\(List.range i).all (nI q.variableCount e27.vars)=true)/\ ∀(i:Nat) (sm:List Bool),(i<=e27.vars.length/\sm=(List.range q.variableCount.toNat).map (iV q.atoms k e27.vars i)/\(List.range i).all (nI q.variableCount e27.vars)=true)->Br ((i:Int)<(e27.vars.length:Int)) (0<=(i:Int)/\Em intD e27.vars i fun e46=>bK (q.variableCount - 1)/\(fH e46 (0:Int) (q.variableCount - 1)/\Nr (eQ e46 (0:Int) (q.variableCount - 1)) ((false)=(cT q)/\True) (e27.vars.map intD=e27.vars.map intD/\0<=(i:Int)/\(i:Int)<=(e27.vars.length:Int)/\(aOx (e27.vars.take i) e46/\Bb (decide (e46∈(e27.vars.take i))) ((false)=(cT q)/\True) (0<=e46/\Lm kU sm/\e46<(sm.length:Int)/\(sm.map kU=sm.map kU/\(e46).toNat<sm.length/\ ∀s14_3,sm[(e46).toNat]? =some s14_3->fT (kU s14_3)=true/\0+1<=(kU s14_3).length/\(kU s14_3).take 0++[.bool true]++(kU s14_3).drop (0+1)=kU true/\bK ((i:Int)+1)/\ ∃(i' :Nat) (sm' :List Bool),((i:Int)+1)=(i' :Int)/\(sm.set ((e46).toNat) true).map kU=sm'.map kU/\(i' <=e27.vars.length/\sm' =(List.range q.variableCount.toNat).map (iV q.atoms k e27.vars i')/\(List.range i').all (nI q.variableCount e27.vars)=true)/\e27.vars.length - i' <e27.vars.length - i)))))) (bK ((k:Int)+1)/\ ∃(k' :Nat) (sn' :List Bool),((k:Int)+1)=(k' :Int)/\sm.map kU=sn'.map kU/\(k' <=q.atoms.length/\sn' =(List.range q.variableCount.toNat).map (iV q.atoms k' [] 0)/\(q.atoms.take k').all (eZ q.variableCount)=true)/\q.atoms.length - k' <q.atoms.length - k)))))) (aZM sn false/\(!(decide (false∈sn)))=(cT q)/\True))))))) (by kernel_rfl) ?_;refine lx fun n0=>?_;refine⟨jT _ _ _,dm (fun g12=>?_) fun g12=>?_⟩
 ·have hbad:(eQ q.variableCount 1 4&&eQ (q.atoms.length:Nat) 1 4)=false:=by (rw[g12];rfl)
  apply et1
  ·(exact(aNS hbad).symm)
 ·refine⟨aAH _,jT _ _ _,dm (fun c0=>?_) fun c0=>?_⟩
  ·have hbad:(eQ q.variableCount 1 4&&eQ (q.atoms.length:Nat) 1 4)=false:=by (rw[g12,c0];rfl)
   apply et1
   ·(exact(aNS hbad).symm)
  ·have hpar:(eQ q.variableCount 1 4&&eQ (q.atoms.length:Nat) 1 4)=true:=by rw[g12,c0];rfl
   have hn:=eN g12;refine⟨by omega,by omega,by omega,by omega,by (rw[aUZ];rfl),aAH _,⟨0,List.replicate ((q.variableCount).toNat) false,rfl,rfl,aDB _,aWT _ _ _,rfl⟩,fun k sn ⟨hk,hs,ha⟩=>?_⟩;refine dd (fun c1=>?_) fun c1=>?_
   ·refine⟨by omega,rfl,by omega,fun e27 h27=>?_⟩;refine⟨aL8 _,dm (fun g33=>?_) fun g33=>?_⟩
    ·have hA:eZ q.variableCount e27=false:=by (rw[eZ,g33];rfl)
     apply et1
     ·(exact(rZ h27 hA).symm)
    ·refine⟨aAH _,jT _ _ _,dm (fun c2=>?_) fun c2=>?_⟩
     ·have hA:eZ q.variableCount e27=false:=by (rw[eZ,g33,c2];rfl)
      apply et1
      ·(exact(rZ h27 hA).symm)
     ·have w9:=eN c2;refine⟨aAH _,⟨0,sn,rfl,rfl,aDB _,by rw[hs,aIh],rfl⟩,fun i sm ⟨hi,hm,hv⟩=>?_⟩;have hml:sm.length=q.variableCount.toNat:=by rw[hm];simp
      refine dd (fun c3=>?_) fun c3=>?_
      ·refine⟨by omega,rfl,by omega,fun e46 h46=>?_⟩;have hx:=aDd h46;refine⟨by exact⟨by omega,by omega⟩,jT _ _ _,dm (fun g54=>?_) fun g54=>?_⟩
       ·have hp:nI q.variableCount e27.vars i=false:=by (rw[nI,bO h46,g54];rfl)
        have hA:eZ q.variableCount e27=false:=by rw[eZ,aAu,iQ (by omega) hp];simp
        apply et1
        ·(exact(rZ h27 hA).symm)
       ·refine⟨rfl,by omega,by omega,ctI _ _,db (fun c4=>?_) fun c4=>?_⟩
        ·have hp:nI q.variableCount e27.vars i=false:=by (rw[nI,bO h46,g54,c4];rfl)
         have hA:eZ q.variableCount e27=false:=by rw[eZ,aAu,iQ (by omega) hp];simp
         apply et1
         ·(exact(rZ h27 hA).symm)
        ·have hp:nI q.variableCount e27.vars i=true:=by rw[nI,bO h46,g54,c4];rfl
         have hb:=eN g54;refine⟨by omega,aAH _,by omega,rfl,by omega,fun s14_3 hs14_3=>⟨rfl,aEP rfl,rfl,?_⟩⟩;refine⟨by exact⟨by omega,by omega⟩,?_⟩;exact⟨i+1,_,rfl,rfl,⟨by omega,by rw[hm,aWH,aIi h46 (by omega)],kR hv hp⟩,by omega⟩
      ·have hA:eZ q.variableCount e27=true:=by rw[eZ,g33,c2,aAu,show e27.vars.length=i by omega,hv];rfl
       refine⟨by exact⟨by omega,by omega⟩,?_⟩;exact⟨k+1,_,rfl,rfl,⟨by omega,by rw[hm,aIj h27 (by omega) []],cO h27 ha hA⟩,by omega⟩
   ·have hall:=dJ (by omega) ha;refine⟨ctB _ _,?_,trivial⟩
    ·(rw[aSH hpar hall,hs,aLs (by omega),aWI])
abbrev yR (q:QueryD):Prop:=Cn 125 [.agg [.int .i64 q.variableCount,.sl 125 2 (q.atoms.map bB)]] (vB (cT q)) []
theorem aIv (q:QueryD):yR q:=by
 refine cq Tryz.func125 (.call (vB (eQ q.variableCount (1:Int) (4:Int))) []<| .br (.fin []) (.len q.atoms.length<| .call (vB (eQ (q.atoms.length:Int) (1:Int) (4:Int))) []<| .lit<| .lit<| .br (.fin []) (.loop (Nat × Int) (Q2 Nat Int) ([3,4,5,6]++rg 18 60) [500] (fun yy0=>[(4,vI (yy0.1:Int)),(3,vI yy0.2)]) (fun yy0=>[]) (fun yy0=>yy0.1<=q.atoms.length/\yy0.2=m4 (iV q.atoms yy0.1 [] 0)/\(q.atoms.take yy0.1).all (eZ q.variableCount)=true) (fun yy0=>q.atoms.length - yy0.1) (fun yy0=> .len q.atoms.length<| .br (.elem _ bB q.atoms (fun e28=> .call (vB (gZ e28.name)) []<| .br (.fin []) (.len e28.vars.length<| .call (vB (eQ (e28.vars.length:Int) (1:Int) (3:Int))) []<| .lit<| .lit<| .br (.fin []) (.loop (Nat × Int) (Q2 Nat Int) ([3,6]++rg 41 37) [] (fun yy1=>[(6,vI (yy1.1:Int)),(3,vI yy1.2)]) (fun yy1=>[]) (fun yy1=>yy1.1<=e28.vars.length/\yy1.2=m4 (iV q.atoms yy0.1 e28.vars yy1.1)/\(List.range yy1.1).all (nI q.variableCount e28.vars)=true) (fun yy1=>e28.vars.length - yy1.1) (fun yy1=> .len e28.vars.length<| .br (.elem _ intD e28.vars (fun e51=> .call (vB (eQ e51 (0:Int) (q.variableCount - 1))) []<| .br (.fin []) (.sub Int intD e28.vars<| .elem _ intD e28.vars (fun e66=> .call (vB (decide (e66∈(e28.vars.take yy1.1)))) []<| .lit<| .br (.fin []) (.elem _ intD e28.vars (fun e74=> .back [])))))) (.back [])))))) (.fin []))))) (p:=Lx (q.atoms.map bB)<| fI q.variableCount (1:Int) (4:Int)/\Nr (eQ q.variableCount (1:Int) (4:Int)) ((false)=(cT q)/\True) (Lm bB q.atoms/\(fI (q.atoms.length:Int) (1:Int) (4:Int)/\Nr (eQ (q.atoms.length:Int) (1:Int) (4:Int)) ((false)=(cT q)/\True) ((∃(k:Nat) (o:Int),0=(k:Int)/\0=o/\k<=q.atoms.length/\o=m4 (iV q.atoms k [] 0)/\(q.atoms.take k).all (eZ q.variableCount)=true)/\ ∀(k:Nat) (o:Int),(k<=q.atoms.length/\o=m4 (iV q.atoms k [] 0)/\(q.atoms.take k).all (eZ q.variableCount)=true)->Lm bB q.atoms/\Br ((k:Int)<(q.atoms.length:Int)) (0<=(k:Int)/\Em bB q.atoms k fun e28=>aAe e28.name/\Nr (gZ e28.name) ((false)=(cT q)/\True) (Lm intD e28.vars/\(fI (e28.vars.length:Int) (1:Int) (3:Int)/\Nr (eQ (e28.vars.length:Int) (1:Int) (3:Int)) ((false)=(cT q)/\True) ((∃(i:Nat) (p:Int),0=(i:Int)/\o=p/\i<=e28.vars.length/\p=m4 (iV q.atoms k e28.vars i)/\(List.range i).all (nI q.variableCount e28.vars)=true)/\ ∀(i:Nat) (p:Int),(i<=e28.vars.length/\p=m4 (iV q.atoms k e28.vars i)/\(List.range i).all (nI q.variableCount e28.vars)=true)->Lm intD e28.vars/\Br ((i:Int)<(e28.vars.length:Int)) (0<=(i:Int)/\Em intD e28.vars i fun e51=>bK (q.variableCount - 1)/\fI e51 (0:Int) (q.variableCount - 1)/\Nr (eQ e51 (0:Int) (q.variableCount - 1)) ((false)=(cT q)/\True) (e28.vars.map intD=e28.vars.map intD/\0<=(i:Int)/\(i:Int)<=(e28.vars.length:Int)/\0<=(i:Int)/\Em intD e28.vars i fun e66=>aWC (e28.vars.take i) e66/\Bb (decide (e66∈(e28.vars.take i))) ((false)=(cT q)/\True) (0<=(i:Int)/\Em intD e28.vars i fun e74=>(0<=e74/\e74<=64)/\bK ((1:Int)*2^(Int.toNat e74))/\bK ((i:Int)+1)/\ ∃(i' :Nat) (p' :Int),((i:Int)+1)=(i' :Int)/\(cL .or .i64 p ((1:Int)*2^(Int.toNat e74)))=p' /\(i' <=e28.vars.length/\p' =m4 (iV q.atoms k e28.vars i')/\(List.range i').all (nI q.variableCount e28.vars)=true)/\e28.vars.length - i' <e28.vars.length - i))) (bK ((k:Int)+1)/\ ∃(k' :Nat) (o' :Int),((k:Int)+1)=(k' :Int)/\p=o' /\(k' <=q.atoms.length/\o' =m4 (iV q.atoms k' [] 0)/\(q.atoms.take k').all (eZ q.variableCount)=true)/\q.atoms.length - k' <q.atoms.length - k))))) ((0<=q.variableCount/\q.variableCount<=64)/\bK ((1:Int)*2^(Int.toNat q.variableCount))/\bK (((1:Int)*2^(Int.toNat q.variableCount)) - 1)/\(decide (o=(((1:Int)*2^(Int.toNat q.variableCount)) - 1)))=(cT q)/\True))))) (by kernel_rfl) ?_;refine lx fun n0=>?_;refine⟨jU _ _ _,dm (fun g11=>?_) fun g11=>?_⟩
 ·have hbad:(eQ q.variableCount 1 4&&eQ (q.atoms.length:Nat) 1 4)=false:=by (rw[g11];rfl)
  apply et1
  ·(exact(aNS hbad).symm)
 ·refine⟨aAH _,jU _ _ _,dm (fun c0=>?_) fun c0=>?_⟩
  ·have hbad:(eQ q.variableCount 1 4&&eQ (q.atoms.length:Nat) 1 4)=false:=by (rw[g11,c0];rfl)
   apply et1
   ·(exact(aNS hbad).symm)
  ·have hpar:(eQ q.variableCount 1 4&&eQ (q.atoms.length:Nat) 1 4)=true:=by rw[g11,c0];rfl
   have hn:=eN g11;refine⟨⟨0,(0:Int),rfl,rfl,aDB _,bAX _ _,rfl⟩,fun k o ⟨hk,hs,ha⟩=>?_⟩;refine⟨aAH _,dd (fun c1=>?_) fun c1=>?_⟩
   ·refine⟨by omega,rfl,by omega,fun e28 h28=>?_⟩;refine⟨aL9 _,dm (fun g34=>?_) fun g34=>?_⟩
    ·have hA:eZ q.variableCount e28=false:=by (rw[eZ,g34];rfl)
     apply et1
     ·(exact(rZ h28 hA).symm)
    ·refine⟨aAH _,jU _ _ _,dm (fun c2=>?_) fun c2=>?_⟩
     ·have hA:eZ q.variableCount e28=false:=by (rw[eZ,g34,c2];rfl)
      apply et1
      ·(exact(rZ h28 hA).symm)
     ·have w9:=eN c2;refine⟨⟨0,o,rfl,rfl,aDB _,by rw[hs,aIh],rfl⟩,fun i p ⟨hi,hm,hv⟩=>?_⟩;refine⟨aAH _,dd (fun c3=>?_) fun c3=>?_⟩
      ·refine⟨by omega,rfl,by omega,fun e51 h51=>?_⟩;have hx:=aDd h51;refine⟨by exact⟨by omega,by omega⟩,jU _ _ _,dm (fun g58=>?_) fun g58=>?_⟩
       ·have hp:nI q.variableCount e28.vars i=false:=by (rw[nI,bO h51,g58];rfl)
        have hA:eZ q.variableCount e28=false:=by rw[eZ,aAu,iQ (by omega) hp];simp
        apply et1
        ·(exact(rZ h28 hA).symm)
       ·refine⟨rfl,by omega,by omega,by omega,rfl,by omega,fun e66 h66=>?_⟩;obtain rfl:=(aY h51 h66).symm;refine⟨hsI _ _,db (fun c4=>?_) fun c4=>?_⟩
        ·have hp:nI q.variableCount e28.vars i=false:=by (rw[nI,bO h51,g58,c4];rfl)
         have hA:eZ q.variableCount e28=false:=by rw[eZ,aAu,iQ (by omega) hp];simp
         apply et1
         ·(exact(rZ h28 hA).symm)
        ·have hp:nI q.variableCount e28.vars i=true:=by rw[nI,bO h51,g58,c4];rfl
         have hb:=eN g58;obtain⟨w1,w2,w3⟩:=aFT (x:=e51) (sE (by omega) (by omega));refine⟨by omega,rfl,by omega,fun e74 h74=>?_⟩;obtain rfl:=(aY h51 h74).symm;refine⟨⟨by omega,by omega⟩,by exact w1,by exact⟨by omega,by omega⟩,?_⟩;exact⟨i+1,_,rfl,rfl,⟨by omega,by rw[hm,aWF (by omega),aIi h51 (by omega)],kR hv hp⟩,by omega⟩
      ·have hA:eZ q.variableCount e28=true:=by rw[eZ,g34,c2,aAu,show e28.vars.length=i by omega,hv];rfl
       refine⟨by exact⟨by omega,by omega⟩,?_⟩;exact⟨k+1,_,rfl,rfl,⟨by omega,by rw[hm,aIj h28 (by omega) []],cO h28 ha hA⟩,by omega⟩
   ·have hall:=dJ (by omega) ha;obtain⟨w1,w2,w3⟩:=aFT (x:=q.variableCount - 1) (sE (by omega) (by omega));have w4:=oE (n:=q.variableCount.toNat) ⟨by omega,by omega⟩;refine⟨⟨by omega,by omega⟩,by exact⟨by omega,by omega⟩,by exact⟨by omega,by omega⟩,?_,trivial⟩
    ·(rw[aSH hpar hall,hs,aLs (by omega)];exact aY7 hn fun v hv=>aWJ hall hn.1 hv)
end Go.Proofs.YtlidmoeecphbmaaGreat
