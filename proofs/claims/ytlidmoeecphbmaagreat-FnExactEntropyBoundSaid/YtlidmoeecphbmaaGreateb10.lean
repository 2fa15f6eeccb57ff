/-
  Contracts and plain laws, joined: part 11.
-/
import Derived.Test.YtlidmoeecphbmaaGreateb9
import Derived.Test.YtlidmoeecphbmaaGreateb7
import Derived.IntWalk
namespace Go.Proofs.YtlidmoeecphbmaaGreat
open Go.ChangeShapes Go.WideShapes Go.ChangeAt Go.RowKit
set_option linter.unusedVariables false
set_option linter.unusedSimpArgs false
set_option maxRecDepth 100000
set_option maxHeartbeats 4000000
theorem aJz:lM []= []:=aIi (aRK [])
theorem aRP (a:Int):lM [a]= [a]:=List.perm_singleton.1 (aB1 [a])
def iO (x:aM)(cols:List Int):List Int:=if cJ x=true then lM (dV (dP x) cols).2 else []
theorem aNF {x:aM}{cols:List Int}(h:cJ x=true):iO x cols=lM (dV (dP x) cols).2:=by rw[iO,if_pos h]
theorem aPy {x:aM}{cols:List Int}(h:cJ x=false):iO x cols= []:=by rw[iO,if_neg (by rw[h];decide)]
theorem aRQ {x:aM}{cols:List Int}{k:Nat}{g:aQ}(h:cJ x=true)(hg:x.groups[k]? =some g)(hc:g.columns=cols):g.counts=(dV (dP x) cols).2:=by
 rw[aGc h,aXY] at hg;cases e:(bT x.arity)[k]? with
 | none=>rw[e] at hg;simp at hg
 | some c=>
   rw[e] at hg;simp only[Option.map_some,Option.some.injEq] at hg;subst hg;rw[show c=cols from hc];rfl
theorem aUD {n:Int}(hn:1<=n/\n<=3){cols:List Int}(h:dR (n - 1) cols=true)(hne:cols≠[]):cols∈bT n:=by
 have hl:=aC8 h (by omega);have hlow:=aG2 h;have hn3:n=1\/n=2\/n=3:=by omega
 match cols,hl with
 | [],_=>exact absurd rfl hne
 | [a],_=>
   have h0:=hlow 0 (by simp);simp at h0;have ha:a=0\/a=1\/a=2:=by omega
   rcases hn3 with rfl|rfl|rfl<;>rcases ha with rfl|rfl|rfl<;>first|decide|(exfalso;omega)
 | [a,b],_=>
   have h0:=hlow 0 (by simp);have h1:=hlow 1 (by simp);have h2:=aIZ.1 h 1 (by simp);simp[iM] at h0 h1 h2;have ha:(a=0/\b=1)\/(a=0/\b=2)\/(a=1/\b=2):=by omega
   rcases hn3 with rfl|rfl|rfl<;>rcases ha with ⟨rfl,rfl⟩ | ⟨rfl,rfl⟩ | ⟨rfl,rfl⟩<;>first|decide|(exfalso;omega)
 | [a,b,c],_=>
   have h0:=hlow 0 (by simp);have h1:=hlow 1 (by simp);have h2:=hlow 2 (by simp);have h3:=aIZ.1 h 1 (by simp);have h4:=aIZ.1 h 2 (by simp);simp[iM] at h0 h1 h2 h3 h4;obtain⟨rfl,rfl,rfl⟩:a=0/\b=1/\c=2:=by omega
   rcases hn3 with rfl|rfl|rfl<;>first|decide|(exfalso;omega)
 | _::_::_::_::_,hl=>simp at hl
theorem aUE {x:aM}{cols:List Int}(h:cJ x=true)(hall:x.groups.all (fun g=> !decide (g.columns=cols))=true)(hne: ¬(cols.length:Int)=0):(dV (dP x) cols).2= []:=by
 obtain⟨h1,h2⟩:=tR h;cases hc:dR ((dP x).arity - 1) cols with
 | false=>rw[aC7 (by simp[hc])]
 | true=>
   exfalso;have hm:=aUD (n:=x.arity) (aA5 h) hc (fun e=>hne (by rw[e];rfl));rw[aGc h] at hall;have:=aIZ.1 hall _ (List.mem_map_of_mem hm);simp[tP] at this
theorem aPz {x:aM}(h:cJ x=true):(x.rowCount=0->(dV (dP x) []).2= [])/\(¬x.rowCount=0->(dV (dP x) []).2= [x.rowCount]):=by
 obtain⟨h1,h2⟩:=tR h;have hc:=aQz h;have hrows:(dP x).rows=kY x:=rfl;rw[rI (t:=dP x) (cols:=[]) (by rw[h1];rfl)];have e:kK (dP x) []=List.replicate (kY x).length []:=by simp[kK,fH,aM3,hrows,List.map_const']
 have ev:aO4 (dP x) []=cF (List.replicate (kY x).length []):=by rw[aO4,e,sL]
 show (x.rowCount=0->aMe (dP x) []= [])/\(¬x.rowCount=0->aMe (dP x) []= [x.rowCount]);rw[aMe,ev,e];constructor
 ·intro h0;rw[show (kY x).length=0 by omega];rfl
 intro h0;have hpos:(kY x).length≠0:=by omega
 have hf:cF (List.replicate (kY x).length ([]:List Int))= [[]]:=by
  obtain⟨p1,p2,_⟩:=sK (List.replicate (kY x).length ([]:List Int)) [] List.Pairwise.nil;refine aFT p1 (List.pairwise_singleton _ _) fun y=>?_;have:=p2 y;rw[cF,this];simp[List.mem_replicate,hpos]
 rw[hf,hc];simp[iN]
abbrev aAq (x:aM)(cols:List Int):Prop:=Cn 253 [.agg [.str x.name,.int .i64 x.arity,.int .i64 x.rowCount,.sl 220 3 (x.groups.map aD)],.one (.sl 3 1 (cols.map intD))] (.p none (.sl 3 1 ((lM (dV (dP x) cols).2).map intD))) []
theorem aNG (x:aM)(cols:List Int)(hc:bF x<=1048576)(hok:cJ x=true):aAq x cols:=by
 refine cq Tryz.func253 (.stl 4<| .len cols.length<| .br (.br (.stl 4<| .fin []) (.stl 4<| .fin [])) (.loop Nat (Q1 Nat) ([5]++rg 16 16) [] (fun k=>[(5,vI (k:Int))]) (fun k=>[]) (fun k=>k<=x.groups.length/\(x.groups.take k).all (fun g=> !decide (g.columns=cols))=true) (fun k=>x.groups.length - k) (fun k=> .len x.groups.length<| .br (.elem _ aD x.groups (fun e26=> .call (vI (cB e26.columns cols)) []<| .br (.elem _ aD x.groups (fun e35=> .call (.p none (.sl 3 1 ((lM e35.counts).map intD))) []<| .stl 4<| .fin [])) (.back []))) (.stl 4<| .fin [])))) (p:=Lx (x.groups.map aD)<| Lx (cols.map intD)<| Lm intD cols/\Br ((cols.length:Int)=0) (Br (x.rowCount=0) ([]=(lM (dV (dP x) cols).2).map intD/\True) ([[.int .i64 x.rowCount]]=(lM (dV (dP x) cols).2).map intD/\True)) ((∃(k:Nat),0=(k:Int)/\k<=x.groups.length/\(x.groups.take k).all (fun g=> !decide (g.columns=cols))=true)/\ ∀(k:Nat),(k<=x.groups.length/\(x.groups.take k).all (fun g=> !decide (g.columns=cols))=true)->Lm aD x.groups/\Br ((k:Int)<(x.groups.length:Int)) (0<=(k:Int)/\Em aD x.groups k fun e26=>fN e26.columns cols/\Br ((cB e26.columns cols)=0) (0<=(k:Int)/\Em aD x.groups k fun e35=>aEK e35.counts/\(lM e35.counts).map intD=(lM (dV (dP x) cols).2).map intD/\True) (bK ((k:Int)+1)/\ ∃(k' :Nat),((k:Int)+1)=(k' :Int)/\(k' <=x.groups.length/\(x.groups.take k').all (fun g=> !decide (g.columns=cols))=true)/\x.groups.length - k' <x.groups.length - k)) ([]=(lM (dV (dP x) cols).2).map intD/\True))) (by kernel_rfl) ?_;refine lx fun n0=>lx fun n1=>?_;have q2:bF x=x.name.size+dK x.groups:=rfl;have q5:=gC x.groups;refine⟨aA8 _,dd (fun c0=>?_) fun c0=>?_⟩
 ·have hcz:cols= []:=aIi (by omega);refine dd (fun c1=>?_) fun c1=>?_
  ·have hE:(dV (dP x) cols).2= []:=by rw[hcz];exact(aPz hok).1 c1
   apply et1
   ·(rw[hE,aJz]<;>rfl)
  ·have hE:(dV (dP x) cols).2= [x.rowCount]:=by rw[hcz];exact(aPz hok).2 c1
   apply et1
   ·(rw[hE,aRP]<;>rfl)
 ·refine⟨⟨0,rfl,aCC _,rfl⟩,fun k ⟨hk,ha⟩=>?_⟩;refine⟨aA8 _,dd (fun c2=>?_) fun c2=>?_⟩
  ·refine⟨by omega,rfl,by omega,fun e26 h26=>?_⟩
   try (obtain rfl:=(aW h26 h26).symm)
   have q1:=gY h26;have q3:bV e26=cC e26.columns+cO e26.values+cC e26.counts:=rfl;have q6:cC e26.columns=e26.columns.length:=rfl;have q7:cC e26.counts=e26.counts.length:=rfl;have q8:=fD e26.values;refine⟨jA _ _,dd (fun c3=>?_) fun c3=>?_⟩
   ·have hE:=aRQ hok h26 (eP.1 c3);refine⟨by omega,rfl,by omega,fun e35 h35=>?_⟩
    try (obtain rfl:=(aW h26 h35).symm)
    refine⟨aRM _ (by omega),?_,trivial⟩
    ·(rw[hE];done)
   ·refine⟨⟨by omega,by omega⟩,?_⟩;exact⟨k+1,rfl,⟨by omega,cG h26 ha (by simpa using fun q=>c3 (eP.2 q))⟩,by omega⟩
  ·have hE:=aUE hok (cY (by omega) ha) c0;apply et1
   ·(rw[hE,aJz]<;>rfl)
abbrev aHB (x:aM)(cols:List Int):Prop:=Cn 239 [.agg [.str x.name,.int .i64 x.arity,.int .i64 x.rowCount,.sl 220 3 (x.groups.map aD)],.one (.sl 3 1 (cols.map intD))] (.p none (.sl 3 1 ((iO x cols).map intD))) []
theorem aUF (x:aM)(cols:List Int)(hc:bF x<=1048576)(hl:cols.length<=1048576):aHB x cols:=by
 refine cq Tryz.func239 (.stl 4<| .call (vB (cJ x)) []<| .br (.stl 4<| .fin []) (.call (.p none (.sl 3 1 ((lM (dV (dP x) cols).2).map intD))) []<| .stl 4<| .fin [])) (p:=Lx (x.groups.map aD)<| Lx (cols.map intD)<| vK x/\Nr (cJ x) ([]=(iO x cols).map intD/\True) (aAq x cols/\(lM (dV (dP x) cols).2).map intD=(iO x cols).map intD/\True)) (by kernel_rfl) ?_;refine lx fun n0=>lx fun n1=>?_;refine⟨aHA _ (by omega),dm (fun c0=>?_) fun c0=>?_⟩
 ·have hE:iO x cols= []:=aPy (by simpa using c0);apply et1
  ·(rw[hE]<;>rfl)
 ·have hE:=aNF (cols:=cols) (by simpa using c0:cJ x=true);refine⟨aNG _ _ (by omega) (by assumption),?_,trivial⟩
  ·(rw[hE]<;>rfl)
abbrev aB3 (x:aM)(cols:List Int):AV × List (Nat × Rs):=(.own 0,[(0,.arr 3 1 true ((iO x cols).map intD))])
abbrev aHC (x:aM)(cols:List Int):Prop:=Cn 241 [.agg [.str x.name,.int .i64 x.arity,.int .i64 x.rowCount,.sl 220 3 (x.groups.map aD)],.one (.sl 3 1 (cols.map intD))] (aB3 x cols).1 (aB3 x cols).2
theorem aUG (x:aM)(cols:List Int)(hc:bF x<=1048576)(hl:cols.length<=1048576):aHC x cols:=by
 refine cq Tryz.func241 (bH (qG x)<| .br (.fin []) (bH (aB2 (dP x) cols)<| .fin [(0,1600)])) (p:=Lx (x.groups.map aD)<| Lx (cols.map intD)<| vA x/\Nr (cJ x) ([]=(iO x cols).map intD/\True) (aGz (dP x) cols/\(lM (dV (dP x) cols).2).map intD=(iO x cols).map intD/\True)) (by kernel_rfl) ?_;refine lx fun n0=>lx fun n1=>?_;refine⟨aGb x (by omega),dm (fun c0=>?_) fun c0=>?_⟩
 ·have hE:iO x cols= []:=aPy (by simpa using c0);apply et1
  ·(rw[hE]<;>rfl)
 ·have hE:=aNF (cols:=cols) (by simpa using c0:cJ x=true);refine⟨aUC (dP x) _ (by omega),?_,trivial⟩
  ·(rw[hE]<;>rfl)
abbrev aEN (x:aM)(cols:List Int):Prop:=Cn 199 [.agg [.str x.name,.int .i64 x.arity,.int .i64 x.rowCount,.sl 220 3 (x.groups.map aD)],.one (.sl 3 1 (cols.map intD))] (vI ((iO x cols).getD 0 0)) []
theorem aRR (x:aM)(cols:List Int)(hc:bF x<=1048576)(hl:cols.length<=1048576):aEN x cols:=by
 refine cq Tryz.func199 (.call (.p none (.sl 3 1 ((iO x cols).map intD))) []<| .len ((iO x cols).length)<| .br (.fin []) (.elem _ intD (iO x cols) (fun e13=> .fin []))) (p:=Lx (x.groups.map aD)<| Lx (cols.map intD)<| aHB x cols/\Lm intD (iO x cols)/\Br ((((iO x cols).length:Nat):Int)=0) (0=((iO x cols).getD 0 0)/\True) (0<=(0:Int)/\Em intD (iO x cols) 0 fun e13=>e13=((iO x cols).getD 0 0)/\True)) (by kernel_rfl) ?_;refine lx fun n0=>lx fun n1=>?_;refine⟨aUF _ _ (by omega) (by omega),aA8 _,dd (fun c0=>?_) fun c0=>?_⟩
 ·have hz:iO x cols= []:=aIi (by omega);apply et1
  ·(rw[hz]<;>rfl)
 ·refine⟨by omega,rfl,by omega,fun e13 h13=>?_⟩;apply et1
  ·(rw[bM h13])
abbrev aEO (x:aM)(cols:List Int):Prop:=Cn 210 [.agg [.str x.name,.int .i64 x.arity,.int .i64 x.rowCount,.sl 220 3 (x.groups.map aD)],.one (.sl 3 1 (cols.map intD))] (vI ((iO x cols).getD 0 0)) []
theorem aRS (x:aM)(cols:List Int)(hc:bF x<=1048576)(hl:cols.length<=1048576):aEO x cols:=by
 refine cq Tryz.func210 (bH (aB3 x cols)<| .len ((iO x cols).length)<| .br (.fin []) (.len ((iO x cols).length)<| .elem _ intD (iO x cols) (fun e14=> .fin []))) (p:=Lx (x.groups.map aD)<| Lx (cols.map intD)<| aHC x cols/\Lm intD (iO x cols)/\Br ((((iO x cols).length:Nat):Int)=0) (0=((iO x cols).getD 0 0)/\True) (0<=(0:Int)/\Lm intD (iO x cols)/\0<(((iO x cols).length:Nat):Int)/\Em intD (iO x cols) 0 fun e14=>e14=((iO x cols).getD 0 0)/\True)) (by kernel_rfl) ?_;refine lx fun n0=>lx fun n1=>?_;refine⟨aUG _ _ (by omega) (by omega),aA8 _,dd (fun c0=>?_) fun c0=>?_⟩
 ·have hz:iO x cols= []:=aIi (by omega);apply et1
  ·(rw[hz]<;>rfl)
 ·refine⟨by omega,aA8 _,by omega,rfl,by omega,fun e14 h14=>?_⟩;apply et1
  ·(rw[bM h14])
def aOg (m x:Int):Int:=if eC x 0 3=true then cD .or .i64 m ((1:Int)*2^x.toNat) else m
def iE (l:List Int):Int:=l.foldl aOg 0
theorem rM (l:List Int)(x:Int):iE (l++[x])=aOg (iE l) x:=by simp[iE]
theorem aNH {m x:Int}(h:eC x 0 3=true):aOg m x=cD .or .i64 m ((1:Int)*2^x.toNat):=by rw[aOg,if_pos h]
theorem aQA {m x:Int}(h:eC x 0 3=false):aOg m x=m:=by rw[aOg,if_neg (by rw[h];decide)]
theorem aDb {x:Int}(h:eC x 0 3=true):bK ((1:Int)*2^x.toNat)/\0<=x/\x<=64:=by
 have h2:=eA h;have h1:x=0\/x=1\/x=2\/x=3:=by omega
 refine⟨?_,by omega,by omega⟩;unfold bK;rcases h1 with rfl | rfl | rfl | rfl<;>exact⟨by decide,by decide⟩
def vsS (m:Int)(l:List Int):Nat->Int
 | 0=>0
 | k+1=>if (decide (cD .and .i64 (m/2^k) 1=1)&&eC (l.getD k 0) 0 3)=true then cD .or .i64 (vsS m l k) ((1:Int)*2^(l.getD k 0).toNat) else vsS m l k
theorem aWU {m:Int}{l:List Int}{k:Nat}{x:Int}(hx:l[k]? =some x)(h1:cD .and .i64 (m/2^k) 1=1)(h2:eC x 0 3=true):vsS m l (k+1)=cD .or .i64 (vsS m l k) ((1:Int)*2^x.toNat):=by
 rw[vsS,bM hx,if_pos (by simp[h1,h2])]
theorem aUH {m:Int}{l:List Int}{k:Nat}{x:Int}(hx:l[k]? =some x)(h:(decide (cD .and .i64 (m/2^k) 1=1)&&eC x 0 3)=false):vsS m l (k+1)=vsS m l k:=by
 rw[vsS,bM hx,if_neg (by rw[h];decide)]
theorem aHD (m:Int)(l:List Int): ∀k,iE ((lE m k).map (sJ l))=vsS m l k
 | 0=>rfl
 | k+1=>by
   by_cases h:cD .and .i64 (m/2^k) 1=1
   ·rw[aD1 h,aKc,aKT,List.map_nil,rM,aHD m l k];have e:sJ l (k:Int)=l.getD k 0:=by simp[sJ]
    rw[e,vsS,aOg];simp[h]
   rw[aG8 h,aHD m l k,vsS,if_neg (by simp[h])]
theorem aHE {m:Int}{l:List Int}{k:Nat}(h:m/2^k=0):vsS m l (k+1)=vsS m l k:=by
 rw[vsS,if_neg (by rw[h];simp[show ¬cD .and .i64 0 1=1 by decide])]
theorem aKA {m:Int}{l:List Int}{n:Int}(hn:1<=n/\n<=3)(hl:(l.length:Int)=n)(h0:0<=m)(h1:m<2^n.toNat - 1):vsS m l (min l.length 3)=vsS m l 3:=by
 have h:n=1\/n=2\/n=3:=by omega
 rcases h with rfl | rfl | rfl
 ·have hm:m=0:=by simp at h1;omega
  subst hm;rw[show min l.length 3=1 by omega,aHE (k:=2) (by decide),aHE (k:=1) (by decide)]
 ·have hm:m<4:=by simp at h1;omega
  rw[show min l.length 3=2 by omega,aHE (k:=2) (by omega)]
 rw[show min l.length 3=3 by omega]
theorem aNI {m:Int}{l:List Int}{n:Int}(hn:1<=n/\n<=3)(hl:(l.length:Int)=n)(h0:0<=m)(h1:m<2^n.toNat - 1):iE (fH l (eS m)).1=vsS m l 3:=by
 have hs:aM3 l.length (eS m)=true:=by
  rw[hl];have h:n=1\/n=2\/n=3:=by omega
  rcases h with rfl | rfl | rfl
  ·have hm:m=0:=by simp at h1;omega
   subst hm;decide
  ·have hm:m=0\/m=1\/m=2:=by simp at h1;omega
   rcases hm with rfl | rfl | rfl<;>decide
  have hm:m=0\/m=1\/m=2\/m=3\/m=4\/m=5\/m=6:=by simp at h1;omega
  rcases hm with rfl | rfl | rfl | rfl | rfl | rfl | rfl<;>decide
 rw[fH,if_pos hs];exact aHD m l 3
def jV:Nat->Nat->Int->Int
 | 0,b,_=>b
 | f+1,b,n=>if (2:Int)^b<n then jV f (b+1) n else b
def rW (n:Int):Int:=if eC n 1 4096=true then jV 12 0 n else -1
theorem aHF {b:Nat}{n:Int}(h2:n<=4096)(hb:b<=12)(h:(2:Int)^b<n):b<12/\jV (12 - (b+1)) (b+1) n=jV (12 - b) b n:=by
 have hlt:b<12:=by
  rcases Nat.lt_or_ge b 12 with h' | h'
  ·exact h'
  obtain rfl:b=12:=by omega
  exact absurd h (by have:(2:Int)^12=4096:=by decide
                     omega)
 refine⟨hlt,?_⟩;obtain⟨f,hf⟩: ∃f,12 - b=f+1:=⟨11 - b,by omega⟩;rw[hf,show 12 - (b+1)=f by omega,jV,if_pos h]
theorem aHG {b:Nat}{n:Int}(h:n<=2^b): ∀f,jV f b n=b
 | 0=>rfl
 | f+1=>by rw[jV,if_neg (by omega)]
def tcC (x:aM)(a:dC)(m:Nat):aI:=⟨vsS (m:Int) a.vars 3,iE a.vars,rW ((iO x (eS (m:Int))).getD 0 0)⟩
def rX (x:aM)(a:dC):Bool:=cJ x&&(!decide (x.rowCount=0)&&decide ((a.vars.length:Int)=x.arity))
def mG (x:aM)(a:dC):List aI:=if rX x a=true then (List.range ((2:Int)^x.arity.toNat - 1).toNat).map (tcC x a) else []
theorem aHH {x:aM}{a:dC}(h:rX x a=true):mG x a=(List.range ((2:Int)^x.arity.toNat - 1).toNat).map (tcC x a):=by rw[mG,if_pos h]
theorem vL {x:aM}{a:dC}(h:rX x a=false):mG x a= []:=by rw[mG,if_neg (by rw[h];decide)]
theorem aB5 {x:aM}{a:dC}(h:rX x a=true):cJ x=true/\(a.vars.length:Int)=x.arity:=by
 simp only[rX,aB4,aTb] at h;exact⟨h.1,h.2.2⟩
theorem aHI (x:aM)(a:dC):(mG x a).length<=7:=by
 cases h:rX x a with
 | false=>rw[vL h];exact aCC _
 | true=>
   have:=qM (aA5 (aB5 h).1);rw[aHH h,aA8,List.length_range];omega
abbrev yW (l:List Int):Prop:=Cn 208 [.one (.sl 3 1 (l.map intD))] (vI (iE l)) []
theorem aKB (l:List Int):yW l:=by
 refine cq Tryz.func208 (.len l.length<| .loop (Nat × Int) (Q2 Nat Int) ([3,5]++rg 8 11) [] (fun yy0=>[(8,vI (yy0.1:Int)),(3,vI yy0.2)]) (fun yy0=>[]) (fun yy0=>yy0.1<=l.length/\yy0.2=iE (l.take yy0.1)) (fun yy0=>l.length - yy0.1) (fun yy0=> .br (.elem _ intD l (fun e10=> .call (vB (eC e10 (0:Int) (3:Int))) []<| .br (.back []) (.back []))) (.fin []))) (p:=Lx (l.map intD)<| Lm intD l/\((∃(k:Nat) (o:Int),0=(k:Int)/\0=o/\k<=l.length/\o=iE (l.take k))/\ ∀(k:Nat) (o:Int),(k<=l.length/\o=iE (l.take k))->Br ((k:Int)<(l.length:Int)) (0<=(k:Int)/\Em intD l k fun e10=>eQ e10 (0:Int) (3:Int)/\Bb (eC e10 (0:Int) (3:Int)) ((0<=e10/\e10<=64)/\bK ((1:Int)*2^(Int.toNat e10))/\bK ((k:Int)+1)/\ ∃(k' :Nat) (o' :Int),((k:Int)+1)=(k' :Int)/\(cD .or .i64 o ((1:Int)*2^(Int.toNat e10)))=o' /\(k' <=l.length/\o' =iE (l.take k'))/\l.length - k' <l.length - k) (bK ((k:Int)+1)/\ ∃(k' :Nat) (o' :Int),((k:Int)+1)=(k' :Int)/\o=o' /\(k' <=l.length/\o' =iE (l.take k'))/\l.length - k' <l.length - k)) (o=(iE l)/\True))) (by kernel_rfl) ?_;refine lx fun n0=>?_;refine⟨aA8 _,⟨0,0,rfl,rfl,aCC _,rfl⟩,fun k o ⟨hk,hv⟩=>?_⟩;refine dd (fun c0=>?_) fun c0=>?_
 ·refine⟨by omega,rfl,by omega,fun e10 h10=>?_⟩
  try (obtain rfl:=(aW h10 h10).symm)
  refine⟨iR _ _ _,db (fun c1=>?_) fun c1=>?_⟩
  ·obtain⟨w1,w2,w3⟩:=aDb c1;refine⟨⟨by omega,by omega⟩,by exact w1,by exact⟨by omega,by omega⟩,?_⟩;exact⟨k+1,_,rfl,rfl,⟨by omega,by (rw[bQ h10,rM,aNH c1,hv];done)⟩,by omega⟩
  ·refine⟨by exact⟨by omega,by omega⟩,?_⟩;exact⟨k+1,_,rfl,rfl,⟨by omega,by (rw[bQ h10,rM,aQA c1,hv];done)⟩,by omega⟩
 ·apply et1
  ·rw[hv,aGj (by omega)]
abbrev aEP (l:List Int):Prop:=Cn 197 [.one (.sl 3 1 (l.map intD))] (vI (iE l)) []
theorem aRT (l:List Int):aEP l:=by
 refine cq Tryz.func197 (.loop (Nat × Int) (Q2 Nat Int) (rg 3 20) [] (fun yy0=>[(4,vI (yy0.1:Int)),(3,vI yy0.2)]) (fun yy0=>[]) (fun yy0=>yy0.1<=l.length/\yy0.2=iE (l.take yy0.1)) (fun yy0=>l.length - yy0.1) (fun yy0=> .len l.length<| .br (.elem _ intD l (fun e13=> .call (vB (eC e13 (0:Int) (3:Int))) []<| .br (.elem _ intD l (fun e19=> .back [])) (.back []))) (.fin []))) (p:=Lx (l.map intD)<| (∃(k:Nat) (o:Int),0=(k:Int)/\0=o/\k<=l.length/\o=iE (l.take k))/\ ∀(k:Nat) (o:Int),(k<=l.length/\o=iE (l.take k))->Lm intD l/\Br ((k:Int)<(l.length:Int)) (0<=(k:Int)/\Em intD l k fun e13=>eR e13 (0:Int) (3:Int)/\Bb (eC e13 (0:Int) (3:Int)) (0<=(k:Int)/\Em intD l k fun e19=>(0<=e19/\e19<=64)/\bK ((1:Int)*2^(Int.toNat e19))/\bK ((k:Int)+1)/\ ∃(k' :Nat) (o' :Int),((k:Int)+1)=(k' :Int)/\(cD .or .i64 o ((1:Int)*2^(Int.toNat e19)))=o' /\(k' <=l.length/\o' =iE (l.take k'))/\l.length - k' <l.length - k) (bK ((k:Int)+1)/\ ∃(k' :Nat) (o' :Int),((k:Int)+1)=(k' :Int)/\o=o' /\(k' <=l.length/\o' =iE (l.take k'))/\l.length - k' <l.length - k)) (o=(iE l)/\True)) (by kernel_rfl) ?_;refine lx fun n0=>?_;refine⟨⟨0,0,rfl,rfl,aCC _,rfl⟩,fun k o ⟨hk,hv⟩=>?_⟩;refine⟨aA8 _,dd (fun c0=>?_) fun c0=>?_⟩
 ·refine⟨by omega,rfl,by omega,fun e13 h13=>?_⟩
  try (obtain rfl:=(aW h13 h13).symm)
  refine⟨iS _ _ _,db (fun c1=>?_) fun c1=>?_⟩
  ·obtain⟨w1,w2,w3⟩:=aDb c1;refine⟨by omega,rfl,by omega,fun e19 h19=>?_⟩
   try (obtain rfl:=(aW h13 h19).symm)
   refine⟨⟨by omega,by omega⟩,by exact w1,by exact⟨by omega,by omega⟩,?_⟩;exact⟨k+1,_,rfl,rfl,⟨by omega,by (rw[bQ h13,rM,aNH c1,hv];done)⟩,by omega⟩
  ·refine⟨by exact⟨by omega,by omega⟩,?_⟩;exact⟨k+1,_,rfl,rfl,⟨by omega,by (rw[bQ h13,rM,aQA c1,hv];done)⟩,by omega⟩
 ·apply et1
  ·rw[hv,aGj (by omega)]
abbrev aEQ (n:Int):Prop:=Cn 209 [.one (.int .i64 n)] (vI (rW n)) []
theorem aRU (n:Int):aEQ n:=by
 refine cq Tryz.func209 (.call (vB (eC n (1:Int) (4096:Int))) []<| .br (.fin []) (.loop Nat (Q1 Nat) [3,7,8,9,10,11,12] [] (fun b=>[(3,vI (b:Int))]) (fun b=>[]) (fun b=>b<=12/\jV (12 - b) b n=jV 12 0 n) (fun b=>12 - b) (fun b=> .br (.back []) (.fin [])))) (p:=eQ n (1:Int) (4096:Int)/\Nr (eC n (1:Int) (4096:Int)) ((-1:Int)=(rW n)/\True) ((∃(b:Nat),0=(b:Int)/\b<=12/\jV (12 - b) b n=jV 12 0 n)/\ ∀(b:Nat),(b<=12/\jV (12 - b) b n=jV 12 0 n)->(0<=(b:Int)/\(b:Int)<=64)/\bK ((1:Int)*2^b)/\Br (((1:Int)*2^b)<n) (bK ((b:Int)+1)/\ ∃(b' :Nat),((b:Int)+1)=(b' :Int)/\(b' <=12/\jV (12 - b') b' n=jV 12 0 n)/\12 - b' <12 - b) ((b:Int)=(rW n)/\True))) (by kernel_rfl) ?_;refine⟨iR _ _ _,dm (fun c0=>?_) fun c0=>?_⟩
 ·have hn:eC n 1 4096=false:=by simpa using c0
  apply et1
  ·(rw[rW,if_neg (by rw[hn];decide)];done)
 ·have hn:eC n 1 4096=true:=by simpa using c0
  obtain⟨w1,w2⟩:=eA hn;refine⟨⟨0,rfl,by omega,rfl⟩,fun b ⟨hb,hr⟩=>?_⟩;refine⟨⟨by omega,by omega⟩,by (have hp:=aPQ b hb;exact⟨by omega,by omega⟩),dd (fun c1=>?_) fun c1=>?_⟩
  ·obtain⟨w3,w4⟩:=aHF w2 hb (by omega);refine⟨by exact⟨by omega,by omega⟩,?_⟩;exact⟨b+1,rfl,⟨by omega,by rw[w4];exact hr⟩,by omega⟩
  ·have w5:=aHG (b:=b) (n:=n) (by omega) (12 - b);apply et1
   ·(rw[rW,if_pos hn,<-hr,w5])
abbrev aER (n:Int):Prop:=Cn 198 [.one (.int .i64 n)] (vI (rW n)) []
theorem aRV (n:Int):aER n:=by
 refine cq Tryz.func198 (.call (vB (eC n (1:Int) (4096:Int))) []<| .br (.fin []) (.loop Nat (Q1 Nat) [3,7,8,9,10,11,12] [] (fun b=>[(3,vI (b:Int))]) (fun b=>[]) (fun b=>b<=12/\jV (12 - b) b n=jV 12 0 n) (fun b=>12 - b) (fun b=> .br (.back []) (.fin [])))) (p:=eR n (1:Int) (4096:Int)/\Nr (eC n (1:Int) (4096:Int)) ((-1:Int)=(rW n)/\True) ((∃(b:Nat),0=(b:Int)/\b<=12/\jV (12 - b) b n=jV 12 0 n)/\ ∀(b:Nat),(b<=12/\jV (12 - b) b n=jV 12 0 n)->(0<=(b:Int)/\(b:Int)<=64)/\bK ((1:Int)*2^b)/\Br (((1:Int)*2^b)<n) (bK ((b:Int)+1)/\ ∃(b' :Nat),((b:Int)+1)=(b' :Int)/\(b' <=12/\jV (12 - b') b' n=jV 12 0 n)/\12 - b' <12 - b) ((b:Int)=(rW n)/\True))) (by kernel_rfl) ?_;refine⟨iS _ _ _,dm (fun c0=>?_) fun c0=>?_⟩
 ·have hn:eC n 1 4096=false:=by simpa using c0
  apply et1
  ·(rw[rW,if_neg (by rw[hn];decide)];done)
 ·have hn:eC n 1 4096=true:=by simpa using c0
  obtain⟨w1,w2⟩:=eA hn;refine⟨⟨0,rfl,by omega,rfl⟩,fun b ⟨hb,hr⟩=>?_⟩;refine⟨⟨by omega,by omega⟩,by (have hp:=aPQ b hb;exact⟨by omega,by omega⟩),dd (fun c1=>?_) fun c1=>?_⟩
  ·obtain⟨w3,w4⟩:=aHF w2 hb (by omega);refine⟨by exact⟨by omega,by omega⟩,?_⟩;exact⟨b+1,rfl,⟨by omega,by rw[w4];exact hr⟩,by omega⟩
  ·have w5:=aHG (b:=b) (n:=n) (by omega) (12 - b);apply et1
   ·(rw[rW,if_pos hn,<-hr,w5])
theorem aYI (l:List dC)(a:List Int):(0:Int)=m4 (hZ l 0 a 0):=by simp[m4,b4,hZ,aFC]
theorem aUI (n:Nat)(l:List dC)(a:List Int):List.replicate n false=(List.range n).map (hZ l 0 a 0):=by
 apply List.ext_getElem?;intro i;rw[aXY,List.getElem?_replicate];by_cases hi:i<n
 ·rw[if_pos hi,List.getElem?_range hi];simp[hZ,aFC]
 rw[if_neg hi,show (List.range n)[i]? =none from List.getElem?_eq_none (by simp;omega)];rfl
theorem aUJ {l:List Bool}{v:Bool}:decide (0<=kU (fun y=>v==y) l)=decide (v∈l):=by
 apply Bool.eq_iff_iff.2;rw[aTb,aTb];constructor
 ·intro h;obtain⟨k,x,_,hx,hf⟩:=qN.2 h;have h1:=List.find?_some hf;have:v=x:=by simpa using h1
  rw[this];exact aCf hx
 intro h;rcases Int.lt_or_le (kU (fun y=>v==y) l) 0 with q | q
 ·have:=qN.1 q;rw[List.find?_eq_none] at this;exact absurd (this v h) (by simp)
 exact q
abbrev aWv (l:List Bool)(v:Bool):Prop:=Cn 236 [.one (.sl 4 1 (l.map jM)),.one (.bool v)] (vI (kU (fun y=>v==y) l)) []
theorem ixB (l:List Bool)(v:Bool):aWv l v:=by
 refine cq Tryz.func236 (.len l.length<| .loop Nat (Q1 Nat) ([5]++rg 8 9++[18]) [] (fun k=>[(8,vI (k:Int))]) (fun k=>[]) (fun k=>k<=l.length/\(l.take k).all (fun y=> !(v==y))=true) (fun k=>l.length - k) (fun k=> .br (.elem _ jM l (fun e14=> .br (.fin []) (.back []))) (.fin []))) (p:=Lx (l.map jM)<| Lm jM l/\((∃(k:Nat),0=(k:Int)/\k<=l.length/\(l.take k).all (fun y=> !(v==y))=true)/\ ∀(k:Nat),(k<=l.length/\(l.take k).all (fun y=> !(v==y))=true)->Br ((k:Int)<(l.length:Int)) (0<=(k:Int)/\Em jM l k fun e14=>Bb (v==e14) ((k:Int)=(kU (fun y=>v==y) l)/\True) (bK ((k:Int)+1)/\ ∃(k' :Nat),((k:Int)+1)=(k' :Int)/\(k' <=l.length/\(l.take k').all (fun y=> !(v==y))=true)/\l.length - k' <l.length - k)) ((-1:Int)=(kU (fun y=>v==y) l)/\True))) (by kernel_rfl) ?_;refine lx fun n0=>?_;refine⟨aA8 _,⟨0,rfl,aCC _,rfl⟩,fun k ⟨hk,ha⟩=>?_⟩;refine dd (fun c0=>?_) fun c0=>?_
 ·refine⟨by omega,rfl,by omega,fun e14 h14=>?_⟩;refine db (fun c1=>?_) fun c1=>?_
  ·apply et1
   ·(rw[aLQ h14 ha c1];done)
  ·refine⟨⟨by omega,by omega⟩,?_⟩;exact⟨k+1,rfl,⟨by omega,cG h14 ha (by rw[c1];rfl)⟩,by omega⟩
 ·apply et1
  ·(rw[aFU (cY (by omega) ha)];done)
abbrev aWw (l:List Bool)(v:Bool):Prop:=Cn 193 [.one (.sl 4 1 (l.map jM)),.one (.bool v)] (vB (decide (v∈l))) []
theorem ctB (l:List Bool)(v:Bool):aWw l v:=by
 refine cq Tryz.func193 (.call (vI (kU (fun y=>v==y) l)) []<| .fin []) (p:=Lx (l.map jM)<| aWv l v/\(decide (0<=(kU (fun y=>v==y) l)))=(decide (v∈l))/\True) (by kernel_rfl) ?_;refine lx fun n0=>?_;refine⟨ixB _ _,?_,trivial⟩
 ·exact aUJ
abbrev vM (q:QueryD):Prop:=Cn 134 [.agg [.int .i64 q.variableCount,.sl 125 2 (q.atoms.map bI)]] (vB (cK q)) []
theorem aHJ (q:QueryD):vM q:=by
 refine cq Tryz.func134 (.call (vB (eC q.variableCount (1:Int) (4:Int))) []<| .br (.fin []) (.len q.atoms.length<| .call (vB (eC (q.atoms.length:Int) (1:Int) (4:Int))) []<| .lit<| .lit<| .br (.fin []) (.mk ((q.variableCount).toNat) [.bool false] ((List.replicate ((q.variableCount).toNat) false).map jM)<| .len q.atoms.length<| .loop (Nat × (List Bool)) (Q2 Nat (List Bool)) ([5,6,7]++rg 25 42) [500,2100] (fun yy0=>[(25,vI (yy0.1:Int))]) (fun yy0=>[(2100,some (.arr 4 1 true (yy0.2.map jM)))]) (fun yy0=>yy0.1<=q.atoms.length/\yy0.2=(List.range q.variableCount.toNat).map (hZ q.atoms yy0.1 [] 0)/\(q.atoms.take yy0.1).all (eL q.variableCount)=true) (fun yy0=>q.atoms.length - yy0.1) (fun yy0=> .br (.elem _ bI q.atoms (fun e27=> .call (vB (gD e27.name)) []<| .br (.fin []) (.len e27.vars.length<| .call (vB (eC (e27.vars.length:Int) (1:Int) (3:Int))) []<| .lit<| .lit<| .br (.fin []) (.len e27.vars.length<| .loop (Nat × (List Bool)) (Q2 Nat (List Bool)) ([6,7]++rg 43 23) [2100] (fun yy1=>[(43,vI (yy1.1:Int))]) (fun yy1=>[(2100,some (.arr 4 1 true (yy1.2.map jM)))]) (fun yy1=>yy1.1<=e27.vars.length/\yy1.2=(List.range q.variableCount.toNat).map (hZ q.atoms yy0.1 e27.vars yy1.1)/\(List.range yy1.1).all (lL q.variableCount e27.vars)=true) (fun yy1=>e27.vars.length - yy1.1) (fun yy1=> .br (.elem _ intD e27.vars (fun e46=> .call (vB (eC e46 (0:Int) (q.variableCount - 1))) []<| .br (.fin []) (.sub Int intD e27.vars<| .call (vB (decide (e46∈(e27.vars.take yy1.1)))) []<| .lit<| .br (.fin []) (.len yy1.2.length<| .set Bool jM yy1.2 (fun s14_3=>true) (fun s14_3=> .back [(2100,2100)]))))) (.back [(2100,2100)])))))) (.call (vB (decide (false∈yy0.2))) []<| .fin []))))) (p:=Lx (q.atoms.map bI)<| eQ q.variableCount (1:Int) (4:Int)/\Nr (eC q.variableCount (1:Int) (4:Int)) ((false)=(cK q)/\True) (Lm bI q.atoms/\(eQ (q.atoms.length:Int) (1:Int) (4:Int)/\Nr (eC (q.atoms.length:Int) (1:Int) (4:Int)) ((false)=(cK q)/\True) (q.variableCount=(((q.variableCount).toNat:Nat):Int)/\q.variableCount=(((q.variableCount).toNat:Nat):Int)/\1*((q.variableCount).toNat)<=281474976710656/\((q.variableCount).toNat)<=9223372036854775807/\List.replicate ((q.variableCount).toNat) [.bool false]=(List.replicate ((q.variableCount).toNat) false).map jM/\(Lm bI q.atoms/\((∃(k:Nat) (sn:List Bool),0=(k:Int)/\(List.replicate ((q.variableCount).toNat) false).map jM=sn.map jM/\k<=q.atoms.length/\sn=(List.range q.variableCount.toNat).map (hZ q.atoms k [] 0)/\(q.atoms.take k).all (eL q.variableCount)=true)/\ ∀(k:Nat) (sn:List Bool),(k<=q.atoms.length/\sn=(List.range q.variableCount.toNat).map (hZ q.atoms k [] 0)/\(q.atoms.take k).all (eL q.variableCount)=true)->Br ((k:Int)<(q.atoms.length:Int)) (0<=(k:Int)/\Em bI q.atoms k fun e27=>yC e27.name/\Nr (gD e27.name) ((false)=(cK q)/\True) (Lm intD e27.vars/\(eQ (e27.vars.length:Int) (1:Int) (3:Int)/\Nr (eC (e27.vars.length:Int) (1:Int) (3:Int)) ((false)=(cK q)/\True) (Lm intD e27.vars/\((∃(i:Nat) (sm:List Bool),0=(i:Int)/\sn.map jM=sm.map jM/\i<=e27.vars.length/\sm=(List.range q.variableCount.toNat).map (hZ q.atoms k e27.vars i)/\(List.range i).all (lL q.variableCount e27.vars)=true)/\ ∀(i:Nat) (sm:List Bool),(i<=e27.vars.length/\sm=(List.range q.variableCount.toNat).map (hZ q.atoms k e27.vars i)/\(List.range i).all (lL q.variableCount e27.vars)=true)->Br ((i:Int)<(e27.vars.length:Int)) (0<=(i:Int)/\Em intD e27.vars i fun e46=>bK (q.variableCount - 1)/\(eQ e46 (0:Int) (q.variableCount - 1)/\Nr (eC e46 (0:Int) (q.variableCount - 1)) ((false)=(cK q)/\True) (e27.vars.map intD=e27.vars.map intD/\0<=(i:Int)/\(i:Int)<=(e27.vars.length:Int)/\(aMt (e27.vars.take i) e46/\Bb (decide (e46∈(e27.vars.take i))) ((false)=(cK q)/\True) (0<=e46/\Lm jM sm/\e46<(sm.length:Int)/\(sm.map jM=sm.map jM/\(e46).toNat<sm.length/\ ∀s14_3,sm[(e46).toNat]? =some s14_3->gI (jM s14_3)=true/\0+1<=(jM s14_3).length/\(jM s14_3).take 0++[.bool true]++(jM s14_3).drop (0+1)=jM true/\bK ((i:Int)+1)/\ ∃(i' :Nat) (sm' :List Bool),((i:Int)+1)=(i' :Int)/\(sm.set ((e46).toNat) true).map jM=sm'.map jM/\(i' <=e27.vars.length/\sm' =(List.range q.variableCount.toNat).map (hZ q.atoms k e27.vars i')/\(List.range i').all (lL q.variableCount e27.vars)=true)/\e27.vars.length - i' <e27.vars.length - i)))))) (bK ((k:Int)+1)/\ ∃(k' :Nat) (sn' :List Bool),((k:Int)+1)=(k' :Int)/\sm.map jM=sn'.map jM/\(k' <=q.atoms.length/\sn' =(List.range q.variableCount.toNat).map (hZ q.atoms k' [] 0)/\(q.atoms.take k').all (eL q.variableCount)=true)/\q.atoms.length - k' <q.atoms.length - k)))))) (aWw sn false/\(!(decide (false∈sn)))=(cK q)/\True))))))) (by kernel_rfl) ?_;refine lx fun n0=>?_;refine⟨iR _ _ _,dm (fun g12=>?_) fun g12=>?_⟩
 ·have hbad:(eC q.variableCount 1 4&&eC (q.atoms.length:Nat) 1 4)=false:=by (rw[g12];rfl)
  apply et1
  ·(exact(aLR hbad).symm)
 ·refine⟨aA8 _,iR _ _ _,dm (fun c0=>?_) fun c0=>?_⟩
  ·have hbad:(eC q.variableCount 1 4&&eC (q.atoms.length:Nat) 1 4)=false:=by (rw[g12,c0];rfl)
   apply et1
   ·(exact(aLR hbad).symm)
  ·have hpar:(eC q.variableCount 1 4&&eC (q.atoms.length:Nat) 1 4)=true:=by rw[g12,c0];rfl
   have hn:=eA g12;refine⟨by omega,by omega,by omega,by omega,by (rw[aSQ];rfl),aA8 _,⟨0,List.replicate ((q.variableCount).toNat) false,rfl,rfl,aCC _,aUI _ _ _,rfl⟩,fun k sn ⟨hk,hs,ha⟩=>?_⟩;refine dd (fun c1=>?_) fun c1=>?_
   ·refine⟨by omega,rfl,by omega,fun e27 h27=>?_⟩;refine⟨aJc _,dm (fun g33=>?_) fun g33=>?_⟩
    ·have hA:eL q.variableCount e27=false:=by (rw[eL,g33];rfl)
     apply et1
     ·(exact(pR h27 hA).symm)
    ·refine⟨aA8 _,iR _ _ _,dm (fun c2=>?_) fun c2=>?_⟩
     ·have hA:eL q.variableCount e27=false:=by (rw[eL,g33,c2];rfl)
      apply et1
      ·(exact(pR h27 hA).symm)
     ·have w9:=eA c2;refine⟨aA8 _,⟨0,sn,rfl,rfl,aCC _,by rw[hs,aGw],rfl⟩,fun i sm ⟨hi,hm,hv⟩=>?_⟩;have hml:sm.length=q.variableCount.toNat:=by rw[hm];simp
      refine dd (fun c3=>?_) fun c3=>?_
      ·refine⟨by omega,rfl,by omega,fun e46 h46=>?_⟩;have hx:=aCf h46;refine⟨by exact⟨by omega,by omega⟩,iR _ _ _,dm (fun g54=>?_) fun g54=>?_⟩
       ·have hp:lL q.variableCount e27.vars i=false:=by (rw[lL,bM h46,g54];rfl)
        have hA:eL q.variableCount e27=false:=by rw[eL,yT,gZ (by omega) hp];simp
        apply et1
        ·(exact(pR h27 hA).symm)
       ·refine⟨rfl,by omega,by omega,ctI _ _,db (fun c4=>?_) fun c4=>?_⟩
        ·have hp:lL q.variableCount e27.vars i=false:=by (rw[lL,bM h46,g54,c4];rfl)
         have hA:eL q.variableCount e27=false:=by rw[eL,yT,gZ (by omega) hp];simp
         apply et1
         ·(exact(pR h27 hA).symm)
        ·have hp:lL q.variableCount e27.vars i=true:=by rw[lL,bM h46,g54,c4];rfl
         have hb:=eA g54;refine⟨by omega,aA8 _,by omega,rfl,by omega,fun s14_3 hs14_3=>⟨rfl,aDg rfl,rfl,?_⟩⟩;refine⟨by exact⟨by omega,by omega⟩,?_⟩;exact⟨i+1,_,rfl,rfl,⟨by omega,by rw[hm,aTw,aGx h46 (by omega)],jJ hv hp⟩,by omega⟩
      ·have hA:eL q.variableCount e27=true:=by rw[eL,g33,c2,yT,show e27.vars.length=i by omega,hv];rfl
       refine⟨by exact⟨by omega,by omega⟩,?_⟩;exact⟨k+1,_,rfl,rfl,⟨by omega,by rw[hm,aGy h27 (by omega) []],cG h27 ha hA⟩,by omega⟩
   ·have hall:=cY (by omega) ha;refine⟨ctB _ _,?_,trivial⟩
    ·(rw[aPx hpar hall,hs,aJw (by omega),aTx])
abbrev vN (q:QueryD):Prop:=Cn 125 [.agg [.int .i64 q.variableCount,.sl 125 2 (q.atoms.map bI)]] (vB (cK q)) []
theorem aHK (q:QueryD):vN q:=by
 refine cq Tryz.func125 (.call (vB (eC q.variableCount (1:Int) (4:Int))) []<| .br (.fin []) (.len q.atoms.length<| .call (vB (eC (q.atoms.length:Int) (1:Int) (4:Int))) []<| .lit<| .lit<| .br (.fin []) (.loop (Nat × Int) (Q2 Nat Int) ([3,4,5,6]++rg 18 60) [500] (fun yy0=>[(4,vI (yy0.1:Int)),(3,vI yy0.2)]) (fun yy0=>[]) (fun yy0=>yy0.1<=q.atoms.length/\yy0.2=m4 (hZ q.atoms yy0.1 [] 0)/\(q.atoms.take yy0.1).all (eL q.variableCount)=true) (fun yy0=>q.atoms.length - yy0.1) (fun yy0=> .len q.atoms.length<| .br (.elem _ bI q.atoms (fun e28=> .call (vB (gD e28.name)) []<| .br (.fin []) (.len e28.vars.length<| .call (vB (eC (e28.vars.length:Int) (1:Int) (3:Int))) []<| .lit<| .lit<| .br (.fin []) (.loop (Nat × Int) (Q2 Nat Int) ([3,6]++rg 41 37) [] (fun yy1=>[(6,vI (yy1.1:Int)),(3,vI yy1.2)]) (fun yy1=>[]) (fun yy1=>yy1.1<=e28.vars.length/\yy1.2=m4 (hZ q.atoms yy0.1 e28.vars yy1.1)/\(List.range yy1.1).all (lL q.variableCount e28.vars)=true) (fun yy1=>e28.vars.length - yy1.1) (fun yy1=> .len e28.vars.length<| .br (.elem _ intD e28.vars (fun e51=> .call (vB (eC e51 (0:Int) (q.variableCount - 1))) []<| .br (.fin []) (.sub Int intD e28.vars<| .elem _ intD e28.vars (fun e66=> .call (vB (decide (e66∈(e28.vars.take yy1.1)))) []<| .lit<| .br (.fin []) (.elem _ intD e28.vars (fun e74=> .back [])))))) (.back [])))))) (.fin []))))) (p:=Lx (q.atoms.map bI)<| eR q.variableCount (1:Int) (4:Int)/\Nr (eC q.variableCount (1:Int) (4:Int)) ((false)=(cK q)/\True) (Lm bI q.atoms/\(eR (q.atoms.length:Int) (1:Int) (4:Int)/\Nr (eC (q.atoms.length:Int) (1:Int) (4:Int)) ((false)=(cK q)/\True) ((∃(k:Nat) (o:Int),0=(k:Int)/\0=o/\k<=q.atoms.length/\o=m4 (hZ q.atoms k [] 0)/\(q.atoms.take k).all (eL q.variableCount)=true)/\ ∀(k:Nat) (o:Int),(k<=q.atoms.length/\o=m4 (hZ q.atoms k [] 0)/\(q.atoms.take k).all (eL q.variableCount)=true)->Lm bI q.atoms/\Br ((k:Int)<(q.atoms.length:Int)) (0<=(k:Int)/\Em bI q.atoms k fun e28=>yD e28.name/\Nr (gD e28.name) ((false)=(cK q)/\True) (Lm intD e28.vars/\(eR (e28.vars.length:Int) (1:Int) (3:Int)/\Nr (eC (e28.vars.length:Int) (1:Int) (3:Int)) ((false)=(cK q)/\True) ((∃(i:Nat) (p:Int),0=(i:Int)/\o=p/\i<=e28.vars.length/\p=m4 (hZ q.atoms k e28.vars i)/\(List.range i).all (lL q.variableCount e28.vars)=true)/\ ∀(i:Nat) (p:Int),(i<=e28.vars.length/\p=m4 (hZ q.atoms k e28.vars i)/\(List.range i).all (lL q.variableCount e28.vars)=true)->Lm intD e28.vars/\Br ((i:Int)<(e28.vars.length:Int)) (0<=(i:Int)/\Em intD e28.vars i fun e51=>bK (q.variableCount - 1)/\eR e51 (0:Int) (q.variableCount - 1)/\Nr (eC e51 (0:Int) (q.variableCount - 1)) ((false)=(cK q)/\True) (e28.vars.map intD=e28.vars.map intD/\0<=(i:Int)/\(i:Int)<=(e28.vars.length:Int)/\0<=(i:Int)/\Em intD e28.vars i fun e66=>aTr (e28.vars.take i) e66/\Bb (decide (e66∈(e28.vars.take i))) ((false)=(cK q)/\True) (0<=(i:Int)/\Em intD e28.vars i fun e74=>(0<=e74/\e74<=64)/\bK ((1:Int)*2^(Int.toNat e74))/\bK ((i:Int)+1)/\ ∃(i' :Nat) (p' :Int),((i:Int)+1)=(i' :Int)/\(cD .or .i64 p ((1:Int)*2^(Int.toNat e74)))=p' /\(i' <=e28.vars.length/\p' =m4 (hZ q.atoms k e28.vars i')/\(List.range i').all (lL q.variableCount e28.vars)=true)/\e28.vars.length - i' <e28.vars.length - i))) (bK ((k:Int)+1)/\ ∃(k' :Nat) (o' :Int),((k:Int)+1)=(k' :Int)/\p=o' /\(k' <=q.atoms.length/\o' =m4 (hZ q.atoms k' [] 0)/\(q.atoms.take k').all (eL q.variableCount)=true)/\q.atoms.length - k' <q.atoms.length - k))))) ((0<=q.variableCount/\q.variableCount<=64)/\bK ((1:Int)*2^(Int.toNat q.variableCount))/\bK (((1:Int)*2^(Int.toNat q.variableCount)) - 1)/\(decide (o=(((1:Int)*2^(Int.toNat q.variableCount)) - 1)))=(cK q)/\True))))) (by kernel_rfl) ?_;refine lx fun n0=>?_;refine⟨iS _ _ _,dm (fun g11=>?_) fun g11=>?_⟩
 ·have hbad:(eC q.variableCount 1 4&&eC (q.atoms.length:Nat) 1 4)=false:=by (rw[g11];rfl)
  apply et1
  ·(exact(aLR hbad).symm)
 ·refine⟨aA8 _,iS _ _ _,dm (fun c0=>?_) fun c0=>?_⟩
  ·have hbad:(eC q.variableCount 1 4&&eC (q.atoms.length:Nat) 1 4)=false:=by (rw[g11,c0];rfl)
   apply et1
   ·(exact(aLR hbad).symm)
  ·have hpar:(eC q.variableCount 1 4&&eC (q.atoms.length:Nat) 1 4)=true:=by rw[g11,c0];rfl
   have hn:=eA g11;refine⟨⟨0,(0:Int),rfl,rfl,aCC _,aYI _ _,rfl⟩,fun k o ⟨hk,hs,ha⟩=>?_⟩;refine⟨aA8 _,dd (fun c1=>?_) fun c1=>?_⟩
   ·refine⟨by omega,rfl,by omega,fun e28 h28=>?_⟩;refine⟨aJd _,dm (fun g34=>?_) fun g34=>?_⟩
    ·have hA:eL q.variableCount e28=false:=by (rw[eL,g34];rfl)
     apply et1
     ·(exact(pR h28 hA).symm)
    ·refine⟨aA8 _,iS _ _ _,dm (fun c2=>?_) fun c2=>?_⟩
     ·have hA:eL q.variableCount e28=false:=by (rw[eL,g34,c2];rfl)
      apply et1
      ·(exact(pR h28 hA).symm)
     ·have w9:=eA c2;refine⟨⟨0,o,rfl,rfl,aCC _,by rw[hs,aGw],rfl⟩,fun i p ⟨hi,hm,hv⟩=>?_⟩;refine⟨aA8 _,dd (fun c3=>?_) fun c3=>?_⟩
      ·refine⟨by omega,rfl,by omega,fun e51 h51=>?_⟩;have hx:=aCf h51;refine⟨by exact⟨by omega,by omega⟩,iS _ _ _,dm (fun g58=>?_) fun g58=>?_⟩
       ·have hp:lL q.variableCount e28.vars i=false:=by (rw[lL,bM h51,g58];rfl)
        have hA:eL q.variableCount e28=false:=by rw[eL,yT,gZ (by omega) hp];simp
        apply et1
        ·(exact(pR h28 hA).symm)
       ·refine⟨rfl,by omega,by omega,by omega,rfl,by omega,fun e66 h66=>?_⟩;obtain rfl:=(aW h51 h66).symm;refine⟨hsI _ _,db (fun c4=>?_) fun c4=>?_⟩
        ·have hp:lL q.variableCount e28.vars i=false:=by (rw[lL,bM h51,g58,c4];rfl)
         have hA:eL q.variableCount e28=false:=by rw[eL,yT,gZ (by omega) hp];simp
         apply et1
         ·(exact(pR h28 hA).symm)
        ·have hp:lL q.variableCount e28.vars i=true:=by rw[lL,bM h51,g58,c4];rfl
         have hb:=eA g58;obtain⟨w1,w2,w3⟩:=aDb (x:=e51) (pU (by omega) (by omega));refine⟨by omega,rfl,by omega,fun e74 h74=>?_⟩;obtain rfl:=(aW h51 h74).symm;refine⟨⟨by omega,by omega⟩,by exact w1,by exact⟨by omega,by omega⟩,?_⟩;exact⟨i+1,_,rfl,rfl,⟨by omega,by rw[hm,aTu (by omega),aGx h51 (by omega)],jJ hv hp⟩,by omega⟩
      ·have hA:eL q.variableCount e28=true:=by rw[eL,g34,c2,yT,show e28.vars.length=i by omega,hv];rfl
       refine⟨by exact⟨by omega,by omega⟩,?_⟩;exact⟨k+1,_,rfl,rfl,⟨by omega,by rw[hm,aGy h28 (by omega) []],cG h28 ha hA⟩,by omega⟩
   ·have hall:=cY (by omega) ha;obtain⟨w1,w2,w3⟩:=aDb (x:=q.variableCount - 1) (pU (by omega) (by omega));have w4:=mF (n:=q.variableCount.toNat) ⟨by omega,by omega⟩;refine⟨⟨by omega,by omega⟩,by exact⟨by omega,by omega⟩,by exact⟨by omega,by omega⟩,?_,trivial⟩
    ·(rw[aPx hpar hall,hs,aJw (by omega)];exact aWR hn fun v hv=>aTy hall hn.1 hv)
end Go.Proofs.YtlidmoeecphbmaaGreat
