/-
  Contracts and plain laws, joined: part 12.
-/
import Derived.Test.YtokkjaflmcjlhaaGreatQC10
import Derived.Test.YtokkjaflmcjlhaaGreatQC7
import Derived.IntWalk
namespace Go.Proofs.YtokkjaflmcjlhaaGreat
open Go.ChangeShapes Go.WideShapes Go.ChangeAt Go.RowKit
set_option linter.unusedVariables false
set_option linter.unusedSimpArgs false
set_option maxRecDepth 100000
set_option maxHeartbeats 4000000
theorem yW:kV []= []:=List.eq_nil_of_length_eq_zero (aML [])
theorem yX (a:Int):kV [a]= [a]:=List.perm_singleton.1 (aAV [a])
def fZ (x:aB) (cols:List Int):List Int:=if bP x=true then kV (dW (cL x) cols).2 else []
theorem aJU {x:aB} {cols:List Int} (h:bP x=true):fZ x cols=kV (dW (cL x) cols).2:=by rw [fZ,if_pos h]
theorem aLN {x:aB} {cols:List Int} (h:bP x=false):fZ x cols= []:=by rw [fZ,if_neg (by rw [h];decide)]
theorem aMQ {x:aB} {cols:List Int} {k:Nat} {g:aG} (h:bP x=true) (hg:x.groups[k]? =some g) (hc:g.columns=cols):g.counts=(dW (cL x) cols).2:=by
 rw [aEe h,List.getElem?_map] at hg
 cases e:(bO x.arity)[k]? with
 | none=>rw [e] at hg;simp at hg
 | some c=>
   rw [e] at hg
   simp only [Option.map_some,Option.some.injEq] at hg
   subst hg
   rw [show c=cols from hc];rfl
theorem aO4 {n:Int} (hn:1≤n∧n≤3) {cols:List Int} (h:dD (n - 1) cols=true) (hne:cols≠[]):cols∈bO n:=by
 have hl:=aBL h (by omega)
 have hlow:=aE5 h
 have hn3:n=1∨n=2∨n=3:=by omega
 match cols,hl with
 | [],_=>exact absurd rfl hne
 | [a],_=>
   have h0:=hlow 0 (by simp)
   simp at h0
   have ha:a=0∨a=1∨a=2:=by omega
   rcases hn3 with rfl | rfl | rfl<;>rcases ha with rfl | rfl | rfl<;>first | decide | (exfalso;omega)
 | [a,b],_=>
   have h0:=hlow 0 (by simp)
   have h1:=hlow 1 (by simp)
   have h2:=List.all_eq_true.1 h 1 (by simp)
   simp [gW] at h0 h1 h2
   have ha:(a=0∧b=1)∨(a=0∧b=2)∨(a=1∧b=2):=by omega
   rcases hn3 with rfl | rfl | rfl<;>rcases ha with ⟨rfl,rfl⟩ | ⟨rfl,rfl⟩ | ⟨rfl,rfl⟩<;>first | decide | (exfalso;omega)
 | [a,b,c],_=>
   have h0:=hlow 0 (by simp)
   have h1:=hlow 1 (by simp)
   have h2:=hlow 2 (by simp)
   have h3:=List.all_eq_true.1 h 1 (by simp)
   have h4:=List.all_eq_true.1 h 2 (by simp)
   simp [gW] at h0 h1 h2 h3 h4
   obtain ⟨rfl,rfl,rfl⟩:a=0∧b=1∧c=2:=by omega
   rcases hn3 with rfl | rfl | rfl<;>first | decide | (exfalso;omega)
 | _::_::_::_::_,hl=>simp at hl
theorem aO5 {x:aB} {cols:List Int} (h:bP x=true) (hall:x.groups.all (fun g=> !decide (g.columns=cols))=true) (hne: ¬(cols.length:Int)=0):(dW (cL x) cols).2= []:=by
 obtain ⟨h1,h2⟩:=sV h
 cases hc:dD ((cL x).arity - 1) cols with
 | false=>rw [lH (by simp [hc])]
 | true=>
   exfalso
   have hm:=aO4 (n:=x.arity) (yU h) hc (fun e=>hne (by rw [e];rfl))
   rw [aEe h] at hall
   have:=List.all_eq_true.1 hall _ (List.mem_map_of_mem hm)
   simp [sU] at this
theorem aLO {x:aB} (h:bP x=true):(x.rowCount=0→(dW (cL x) []).2= [])∧(¬x.rowCount=0→(dW (cL x) []).2= [x.rowCount]):=by
 obtain ⟨h1,h2⟩:=sV h
 have hc:=aME h
 have hrows:(cL x).rows=kD x:=rfl
 rw [eP (t:=cL x) (cols:=[]) (by rw [h1];rfl)]
 have e:jP (cL x) []=List.replicate (kD x).length []:=by simp [jP,eO,aIm,hrows,List.map_const']
 have ev:aKK (cL x) []=cJ (List.replicate (kD x).length []):=by rw [aKK,e,rQ]
 show (x.rowCount=0→aIy (cL x) []= [])∧(¬x.rowCount=0→aIy (cL x) []= [x.rowCount])
 rw [aIy,ev,e]
 constructor
 ·intro h0
  rw [show (kD x).length=0 by omega];rfl
 ·intro h0
  have hpos:(kD x).length≠0:=by omega
  have hf:cJ (List.replicate (kD x).length ([]:List Int))= [[]]:=by
   obtain ⟨p1,p2,_⟩:=rP (List.replicate (kD x).length ([]:List Int)) [] List.Pairwise.nil
   refine aD5 p1 (List.pairwise_singleton _ _) fun y=>?_
   have:=p2 y
   rw [cJ,this]
   simp [List.mem_replicate,hpos]
  rw [hf,hc]
  simp [gX]
abbrev zJ (x:aB) (cols:List Int):Prop:=dG Tryz.prog 172 [.agg [.str x.name,.int .i64 x.arity,.int .i64 x.rowCount,.sl 218 3 (x.groups.map aA)],.one (.sl 3 1 (cols.map intD))] (.p none (.sl 3 1 ((kV (dW (cL x) cols).2).map intD))) []
theorem aJV (x:aB) (cols:List Int) (hc:aW x≤1048576) (hok:bP x=true):zJ x cols:=by
 refine aY bK aU Tryz.func172 (by kernel_rfl) (.stl 4<| .len cols.length<| .br (.br (.stl 4<| .fin []) (.stl 4<| .fin [])) (.loop Nat (Q1 Nat) [5,16,17,18,19,20,21,22,23,24,25,26,27,28,29,30,31] [] (fun k=>[(5,vI (k:Int))]) (fun k=>[]) (fun k=>k≤x.groups.length∧(x.groups.take k).all (fun g=> !decide (g.columns=cols))=true) (fun k=>x.groups.length - k) (fun k=> .len x.groups.length<| .br (.elem _ aA x.groups (fun e26=> .call (vI (bV e26.columns cols)) []<| .br (.elem _ aA x.groups (fun e35=> .call (.p none (.sl 3 1 ((kV e35.counts).map intD))) []<| .stl 4<| .fin [])) (.back []))) (.stl 4<| .fin [])))) (p:=(x.groups.map aA).length≤9223372036854775807→(cols.map intD).length≤9223372036854775807→Lm intD cols∧(((decide (((cols.length:Nat):Int)=(0:Int)))=true→((decide (x.rowCount=(0:Int)))=true→[]=(kV (dW (cL x) cols).2).map intD∧True)∧((decide (x.rowCount=(0:Int)))=false→[[.int .i64 x.rowCount]]=(kV (dW (cL x) cols).2).map intD∧True))∧((decide (((cols.length:Nat):Int)=(0:Int)))=false→(∃(k:Nat),(0:Int)=(k:Int)∧k≤x.groups.length∧(x.groups.take k).all (fun g=> !decide (g.columns=cols))=true)∧ ∀(k:Nat),(k≤x.groups.length∧(x.groups.take k).all (fun g=> !decide (g.columns=cols))=true)→Lm aA x.groups∧(((decide ((k:Int)<((x.groups.length:Nat):Int)))=true→0≤(k:Int)∧Em aA x.groups k fun e26=>fM e26.columns cols∧(((decide ((bV e26.columns cols)=(0:Int)))=true→0≤(k:Int)∧Em aA x.groups k fun e35=>aCg e35.counts∧(kV e35.counts).map intD=(kV (dW (cL x) cols).2).map intD∧True)∧((decide ((bV e26.columns cols)=(0:Int)))=false→dB ((k:Int)+(1:Int))∧ ∃(k' :Nat),((k:Int)+(1:Int))=(k' :Int)∧(k' ≤x.groups.length∧(x.groups.take k').all (fun g=> !decide (g.columns=cols))=true)∧x.groups.length - k' <x.groups.length - k)))∧((decide ((k:Int)<((x.groups.length:Nat):Int)))=false→[]=(kV (dW (cL x) cols).2).map intD∧True))))) (by kernel_rfl) ?_
 intro n0 n1
 simp only [List.length_map] at n0 n1
 have q2:aW x=x.name.size+cQ x.groups:=rfl
 have q5:=fU x.groups
 refine ⟨List.length_map _,fun c0=>?_,fun c0=>?_⟩
 ·replace c0:=yq c0
  have hcz:cols= []:=List.eq_nil_of_length_eq_zero (by omega)
  refine ⟨fun c1=>?_,fun c1=>?_⟩
  ·replace c1:=yq c1
   have hE:(dW (cL x) cols).2= []:=by rw [hcz];exact (aLO hok).1 c1
   refine ⟨?_,trivial⟩
   ·first | (rw [hE];done) | (rw [hE,yW]<;>rfl) | (rw [hE,yX]<;>rfl)
  ·replace c1:=nq c1
   have hE:(dW (cL x) cols).2= [x.rowCount]:=by rw [hcz];exact (aLO hok).2 c1
   refine ⟨?_,trivial⟩
   ·first | (rw [hE];done) | (rw [hE,yW]<;>rfl) | (rw [hE,yX]<;>rfl)
 ·replace c0:=nq c0
  refine ⟨⟨0,rfl,Nat.zero_le _,rfl⟩,fun k ⟨hk,ha⟩=>?_⟩
  refine ⟨List.length_map _,fun c2=>?_,fun c2=>?_⟩
  ·replace c2:=yq c2
   refine ⟨by omega,rfl,by omega,fun e26 h26=>?_⟩
   try (obtain rfl:=(bA h26 h26).symm)
   have q1:=gE h26
   have q3:bH e26=bX e26.columns+cM e26.values+bX e26.counts:=rfl
   have q6:bX e26.columns=e26.columns.length:=rfl
   have q7:bX e26.counts=e26.counts.length:=rfl
   have q8:=fL e26.values
   refine ⟨iI _ _,fun c3=>?_,fun c3=>?_⟩
   ·replace c3:=yq c3
    have hE:=aMQ hok h26 (eI.1 c3)
    refine ⟨by omega,rfl,by omega,fun e35 h35=>?_⟩
    try (obtain rfl:=(bA h26 h35).symm)
    refine ⟨aMN _ (by omega),?_,trivial⟩
    ·first | (rw [hE];done) | (rw [hE,yW]<;>rfl) | (rw [hE,yX]<;>rfl)
   ·replace c3:=nq c3
    refine ⟨⟨by omega,by omega⟩,?_⟩
    exact ⟨k+1,rfl,⟨by omega,dQ h26 ha (by simpa using fun q=>c3 (eI.2 q))⟩,by omega⟩
  ·replace c2:=nq c2
   have hE:=aO5 hok (bU (by omega) ha) c0
   refine ⟨?_,trivial⟩
   ·first | (rw [hE];done) | (rw [hE,yW]<;>rfl) | (rw [hE,yX]<;>rfl)
abbrev aFE (x:aB) (cols:List Int):Prop:=dG Tryz.prog 108 [.agg [.str x.name,.int .i64 x.arity,.int .i64 x.rowCount,.sl 218 3 (x.groups.map aA)],.one (.sl 3 1 (cols.map intD))] (.p none (.sl 3 1 ((fZ x cols).map intD))) []
theorem aO6 (x:aB) (cols:List Int) (hc:aW x≤1048576) (hl:cols.length≤1048576):aFE x cols:=by
 refine aY bK aU Tryz.func108 (by kernel_rfl) (.stl 4<| .call (vB (bP x)) []<| .br (.stl 4<| .fin []) (.call (.p none (.sl 3 1 ((kV (dW (cL x) cols).2).map intD))) []<| .stl 4<| .fin [])) (p:=(x.groups.map aA).length≤9223372036854775807→(cols.map intD).length≤9223372036854775807→uG x∧(((!(bP x))=true→[]=(fZ x cols).map intD∧True)∧((!(bP x))=false→zJ x cols∧(kV (dW (cL x) cols).2).map intD=(fZ x cols).map intD∧True))) (by kernel_rfl) ?_
 intro n0 n1
 simp only [List.length_map] at n0 n1
 refine ⟨aFD _ (by omega),fun c0=>?_,fun c0=>?_⟩
 ·replace c0:=nt c0
  have hE:fZ x cols= []:=aLN (by simpa using c0)
  refine ⟨?_,trivial⟩
  ·(rw [hE]<;>rfl)
 ·replace c0:=nf c0
  have hE:=aJU (cols:=cols) (by simpa using c0:bP x=true)
  refine ⟨aJV _ _ (by omega) (by first | assumption | simpa using c0),?_,trivial⟩
  ·(rw [hE]<;>rfl)
abbrev aAX (x:aB) (cols:List Int):AV × List (Nat × Rs):=(.own 0,[(0,.arr 3 1 true ((fZ x cols).map intD))])
abbrev aFF (x:aB) (cols:List Int):Prop:=dG Tryz.prog 110 [.agg [.str x.name,.int .i64 x.arity,.int .i64 x.rowCount,.sl 218 3 (x.groups.map aA)],.one (.sl 3 1 (cols.map intD))] (aAX x cols).1 (aAX x cols).2
theorem aO7 (x:aB) (cols:List Int) (hc:aW x≤1048576) (hl:cols.length≤1048576):aFF x cols:=by
 refine aY bK aU Tryz.func110 (by kernel_rfl) (cI (pH x)<| .br (.fin []) (cI (aAW (cL x) cols)<| .fin [(0,1600)])) (p:=(x.groups.map aA).length≤9223372036854775807→(cols.map intD).length≤9223372036854775807→tX x∧(((!(bP x))=true→[]=(fZ x cols).map intD∧True)∧((!(bP x))=false→aFC (cL x) cols∧(kV (dW (cL x) cols).2).map intD=(fZ x cols).map intD∧True))) (by kernel_rfl) ?_
 intro n0 n1
 simp only [List.length_map] at n0 n1
 refine ⟨aEd x (by omega),fun c0=>?_,fun c0=>?_⟩
 ·replace c0:=nt c0
  have hE:fZ x cols= []:=aLN (by simpa using c0)
  refine ⟨?_,trivial⟩
  ·(rw [hE]<;>rfl)
 ·replace c0:=nf c0
  have hE:=aJU (cols:=cols) (by simpa using c0:bP x=true)
  refine ⟨aO3 (cL x) _ (by omega),?_,trivial⟩
  ·(rw [hE]<;>rfl)
abbrev aCj (x:aB) (cols:List Int):Prop:=dG Tryz.prog 100 [.agg [.str x.name,.int .i64 x.arity,.int .i64 x.rowCount,.sl 218 3 (x.groups.map aA)],.one (.sl 3 1 (cols.map intD))] (vI ((fZ x cols).getD 0 0)) []
theorem aMR (x:aB) (cols:List Int) (hc:aW x≤1048576) (hl:cols.length≤1048576):aCj x cols:=by
 refine aY bK aU Tryz.func100 (by kernel_rfl) (.call (.p none (.sl 3 1 ((fZ x cols).map intD))) []<| .len ((fZ x cols).length)<| .br (.fin []) (.elem _ intD (fZ x cols) (fun e13=> .fin []))) (p:=(x.groups.map aA).length≤9223372036854775807→(cols.map intD).length≤9223372036854775807→aFE x cols∧(Lm intD (fZ x cols)∧(((decide ((((fZ x cols).length:Nat):Int)=(0:Int)))=true→(0:Int)=((fZ x cols).getD 0 0)∧True)∧((decide ((((fZ x cols).length:Nat):Int)=(0:Int)))=false→0≤(0:Int)∧Em intD (fZ x cols) 0 fun e13=>e13=((fZ x cols).getD 0 0)∧True)))) (by kernel_rfl) ?_
 intro n0 n1
 simp only [List.length_map] at n0 n1
 refine ⟨aO6 _ _ (by omega) (by omega),List.length_map _,fun c0=>?_,fun c0=>?_⟩
 ·replace c0:=yq c0
  have hz:fZ x cols= []:=List.eq_nil_of_length_eq_zero (by omega)
  refine ⟨?_,trivial⟩
  ·first | (rw [hz]<;>rfl) | (rw [bD h13])
 ·replace c0:=nq c0
  refine ⟨by omega,rfl,by omega,fun e13 h13=>?_⟩
  refine ⟨?_,trivial⟩
  ·first | (rw [hz]<;>rfl) | (rw [bD h13])
abbrev aCk (x:aB) (cols:List Int):Prop:=dG Tryz.prog 171 [.agg [.str x.name,.int .i64 x.arity,.int .i64 x.rowCount,.sl 218 3 (x.groups.map aA)],.one (.sl 3 1 (cols.map intD))] (vI ((fZ x cols).getD 0 0)) []
theorem aMS (x:aB) (cols:List Int) (hc:aW x≤1048576) (hl:cols.length≤1048576):aCk x cols:=by
 refine aY bK aU Tryz.func171 (by kernel_rfl) (cI (aAX x cols)<| .len ((fZ x cols).length)<| .br (.fin []) (.len ((fZ x cols).length)<| .elem _ intD (fZ x cols) (fun e14=> .fin []))) (p:=(x.groups.map aA).length≤9223372036854775807→(cols.map intD).length≤9223372036854775807→aFF x cols∧(Lm intD (fZ x cols)∧(((decide ((((fZ x cols).length:Nat):Int)=(0:Int)))=true→(0:Int)=((fZ x cols).getD 0 0)∧True)∧((decide ((((fZ x cols).length:Nat):Int)=(0:Int)))=false→0≤(0:Int)∧Lm intD (fZ x cols)∧(0:Int)<(((fZ x cols).length:Nat):Int)∧Em intD (fZ x cols) 0 fun e14=>e14=((fZ x cols).getD 0 0)∧True)))) (by kernel_rfl) ?_
 intro n0 n1
 simp only [List.length_map] at n0 n1
 refine ⟨aO7 _ _ (by omega) (by omega),List.length_map _,fun c0=>?_,fun c0=>?_⟩
 ·replace c0:=yq c0
  have hz:fZ x cols= []:=List.eq_nil_of_length_eq_zero (by omega)
  refine ⟨?_,trivial⟩
  ·first | (rw [hz]<;>rfl) | (rw [bD h14])
 ·replace c0:=nq c0
  refine ⟨by omega,List.length_map _,by omega,rfl,by omega,fun e14 h14=>?_⟩
  refine ⟨?_,trivial⟩
  ·first | (rw [hz]<;>rfl) | (rw [bD h14])
def aKU (m x:Int):Int:=if dP x 0 3=true then hZ .or .i64 m ((1:Int)*2^x.toNat) else m
def fQ (l:List Int):Int:=l.foldl aKU 0
theorem jG (l:List Int) (x:Int):fQ (l++[x])=aKU (fQ l) x:=by simp [fQ]
theorem aBX {m x:Int} (h:dP x 0 3=true):aKU m x=hZ .or .i64 m ((1:Int)*2^x.toNat):=by rw [aKU,if_pos h]
theorem aD8 {m x:Int} (h:dP x 0 3=false):aKU m x=m:=by rw [aKU,if_neg (by rw [h];decide)]
theorem aFG {x:Int} (h:dP x 0 3=true):dB ((1:Int)*2^x.toNat)∧0≤x∧x≤64:=by
 have h2:=eL h
 have h1:x=0∨x=1∨x=2∨x=3:=by omega
 refine ⟨?_,by omega,by omega⟩
 unfold dB
 rcases h1 with rfl | rfl | rfl | rfl<;>exact ⟨by decide,by decide⟩
def zA (m:Int) (l:List Int):Nat→Int
 | 0=>0
 | k+1=>if (decide (hZ .and .i64 (m/2^k) 1=1)&&dP (l.getD k 0) 0 3)=true then hZ .or .i64 (zA m l k) ((1:Int)*2^(l.getD k 0).toNat) else zA m l k
theorem aHq {m:Int} {l:List Int} {k:Nat} {x:Int} (hx:l[k]? =some x) (h1:hZ .and .i64 (m/2^k) 1=1) (h2:dP x 0 3=true):zA m l (k+1)=hZ .or .i64 (zA m l k) ((1:Int)*2^x.toNat):=by
 rw [zA,bD hx,if_pos (by simp [h1,h2])]
theorem aCQ {m:Int} {l:List Int} {k:Nat} {x:Int} (hx:l[k]? =some x) (h:(decide (hZ .and .i64 (m/2^k) 1=1)&&dP x 0 3)=false):zA m l (k+1)=zA m l k:=by
 rw [zA,bD hx,if_neg (by rw [h];decide)]
theorem aFH (m:Int) (l:List Int): ∀k,fQ ((kJ m k).map (rN l))=zA m l k
 | 0=>rfl
 | k+1=>by
   by_cases h:hZ .and .i64 (m/2^k) 1=1
   ·rw [sS h,List.map_append,List.map_cons,List.map_nil,jG,aFH m l k]
    have e:rN l (k:Int)=l.getD k 0:=by simp [rN]
    rw [e,zA,aKU]
    simp [h]
   ·rw [wV h,aFH m l k,zA,if_neg (by simp [h])]
theorem aFI {m:Int} {l:List Int} {k:Nat} (h:m/2^k=0):zA m l (k+1)=zA m l k:=by
 rw [zA,if_neg (by rw [h];simp [show ¬hZ .and .i64 0 1=1 by decide])]
theorem aHG {m:Int} {l:List Int} {n:Int} (hn:1≤n∧n≤3) (hl:(l.length:Int)=n) (h0:0≤m) (h1:m<2^n.toNat - 1):zA m l (min l.length 3)=zA m l 3:=by
 have h:n=1∨n=2∨n=3:=by omega
 rcases h with rfl | rfl | rfl
 ·have hm:m=0:=by simp at h1;omega
  subst hm
  rw [show min l.length 3=1 by omega,aFI (k:=2) (by decide),aFI (k:=1) (by decide)]
 ·have hm:m<4:=by simp at h1;omega
  rw [show min l.length 3=2 by omega,aFI (k:=2) (by omega)]
 ·rw [show min l.length 3=3 by omega]
theorem aJW {m:Int} {l:List Int} {n:Int} (hn:1≤n∧n≤3) (hl:(l.length:Int)=n) (h0:0≤m) (h1:m<2^n.toNat - 1):fQ (eO l (eE m)).1=zA m l 3:=by
 have hs:aIm l.length (eE m)=true:=by
  rw [hl]
  have h:n=1∨n=2∨n=3:=by omega
  rcases h with rfl | rfl | rfl
  ·have hm:m=0:=by simp at h1;omega
   subst hm;decide
  ·have hm:m=0∨m=1∨m=2:=by simp at h1;omega
   rcases hm with rfl | rfl | rfl<;>decide
  ·have hm:m=0∨m=1∨m=2∨m=3∨m=4∨m=5∨m=6:=by simp at h1;omega
   rcases hm with rfl | rfl | rfl | rfl | rfl | rfl | rfl<;>decide
 rw [eO,if_pos hs]
 exact aFH m l 3
def kL:Nat→Nat→Int→Int
 | 0,b,_=>b
 | f+1,b,n=>if (2:Int)^b<n then kL f (b+1) n else b
def nH (n:Int):Int:=if dP n 1 4096=true then kL 12 0 n else -1
theorem aFJ {b:Nat} {n:Int} (h2:n≤4096) (hb:b≤12) (h:(2:Int)^b<n):b<12∧kL (12 - (b+1)) (b+1) n=kL (12 - b) b n:=by
 have hlt:b<12:=by
  rcases Nat.lt_or_ge b 12 with h' | h'
  ·exact h'
  ·obtain rfl:b=12:=by omega
   exact absurd h (by have:(2:Int)^12=4096:=by decide
                      omega)
 refine ⟨hlt,?_⟩
 obtain ⟨f,hf⟩: ∃f,12 - b=f+1:=⟨11 - b,by omega⟩
 rw [hf,show 12 - (b+1)=f by omega,kL,if_pos h]
theorem aFK {b:Nat} {n:Int} (h:n≤(2:Int)^b): ∀f,kL f b n=b
 | 0=>rfl
 | f+1=>by rw [kL,if_neg (by omega)]
def tcC (x:aB) (a:bR) (m:Nat):aF:=⟨zA (m:Int) a.vars 3,fQ a.vars,nH ((fZ x (eE (m:Int))).getD 0 0)⟩
def mA (x:aB) (a:bR):Bool:=bP x&&(!decide (x.rowCount=0)&&decide ((a.vars.length:Int)=x.arity))
def kG (x:aB) (a:bR):List aF:=if mA x a=true then (List.range ((2:Int)^x.arity.toNat - 1).toNat).map (tcC x a) else []
theorem mK {x:aB} {a:bR} (h:mA x a=true):kG x a=(List.range ((2:Int)^x.arity.toNat - 1).toNat).map (tcC x a):=by rw [kG,if_pos h]
theorem pI {x:aB} {a:bR} (h:mA x a=false):kG x a= []:=by rw [kG,if_neg (by rw [h];decide)]
theorem aAY {x:aB} {a:bR} (h:mA x a=true):bP x=true∧(a.vars.length:Int)=x.arity:=by
 simp only [mA,Bool.and_eq_true,decide_eq_true_eq] at h
 exact ⟨h.1,h.2.2⟩
theorem aFL (x:aB) (a:bR):(kG x a).length≤7:=by
 cases h:mA x a with
 | false=>rw [pI h];exact Nat.zero_le _
 | true=>
   have:=pS (yU (aAY h).1)
   rw [mK h,List.length_map,List.length_range]
   omega
abbrev xG (l:List Int):Prop:=dG Tryz.prog 200 [.one (.sl 3 1 (l.map intD))] (vI (fQ l)) []
theorem aHH (l:List Int):xG l:=by
 refine aY bK aU Tryz.func200 (by kernel_rfl) (.len l.length<| .loop (Nat × Int) (Q2 Nat Int) [3,5,8,9,10,11,12,13,14,15,16,17,18] [] (fun yy0=>[(8,vI (yy0.1:Int)),(3,vI yy0.2)]) (fun yy0=>[]) (fun yy0=>yy0.1≤l.length∧yy0.2=fQ (l.take yy0.1)) (fun yy0=>l.length - yy0.1) (fun yy0=> .br (.elem _ intD l (fun e10=> .call (vB (dP e10 (0:Int) (3:Int))) []<| .br (.back []) (.back []))) (.fin []))) (p:=(l.map intD).length≤9223372036854775807→Lm intD l∧((∃(k:Nat) (o:Int),(0:Int)=(k:Int)∧(0:Int)=o∧k≤l.length∧o=fQ (l.take k))∧ ∀(k:Nat) (o:Int),(k≤l.length∧o=fQ (l.take k))→((decide ((k:Int)<((l.length:Nat):Int)))=true→0≤(k:Int)∧Em intD l k fun e10=>eY e10 (0:Int) (3:Int)∧(((dP e10 (0:Int) (3:Int))=true→(0≤e10∧e10≤64)∧dB ((1:Int)*2^(Int.toNat e10))∧dB ((k:Int)+(1:Int))∧ ∃(k' :Nat) (o' :Int),((k:Int)+(1:Int))=(k' :Int)∧(hZ .or .i64 o ((1:Int)*2^(Int.toNat e10)))=o' ∧(k' ≤l.length∧o' =fQ (l.take k'))∧l.length - k' <l.length - k)∧((dP e10 (0:Int) (3:Int))=false→dB ((k:Int)+(1:Int))∧ ∃(k' :Nat) (o' :Int),((k:Int)+(1:Int))=(k' :Int)∧o=o' ∧(k' ≤l.length∧o' =fQ (l.take k'))∧l.length - k' <l.length - k)))∧((decide ((k:Int)<((l.length:Nat):Int)))=false→o=(fQ l)∧True))) (by kernel_rfl) ?_
 intro n0
 simp only [List.length_map] at n0
 refine ⟨List.length_map _,⟨0,0,rfl,rfl,Nat.zero_le _,rfl⟩,fun k o ⟨hk,hv⟩=>?_⟩
 refine ⟨fun c0=>?_,fun c0=>?_⟩
 ·replace c0:=yq c0
  refine ⟨by omega,rfl,by omega,fun e10 h10=>?_⟩
  try (obtain rfl:=(bA h10 h10).symm)
  refine ⟨iJ _ _ _,fun c1=>?_,fun c1=>?_⟩
  ·obtain ⟨w1,w2,w3⟩:=aFG c1
   refine ⟨⟨by omega,by omega⟩,by first | exact w1 | exact ⟨by omega,by omega⟩,by first | exact w1 | exact ⟨by omega,by omega⟩,?_⟩
   exact ⟨k+1,_,rfl,rfl,⟨by omega,by first | (rw [cA h10,jG,aBX c1,hv];done) | (rw [cA h10,jG,aD8 c1,hv];done)⟩,by omega⟩
  ·refine ⟨by first | exact w1 | exact ⟨by omega,by omega⟩,?_⟩
   exact ⟨k+1,_,rfl,rfl,⟨by omega,by first | (rw [cA h10,jG,aBX c1,hv];done) | (rw [cA h10,jG,aD8 c1,hv];done)⟩,by omega⟩
 ·replace c0:=nq c0
  refine ⟨?_,trivial⟩
  ·rw [hv,List.take_of_length_le (by omega)]
abbrev aCl (l:List Int):Prop:=dG Tryz.prog 193 [.one (.sl 3 1 (l.map intD))] (vI (fQ l)) []
theorem aMT (l:List Int):aCl l:=by
 refine aY bK aU Tryz.func193 (by kernel_rfl) (.loop (Nat × Int) (Q2 Nat Int) [3,4,5,6,7,8,9,10,11,12,13,14,15,16,17,18,19,20,21,22] [] (fun yy0=>[(4,vI (yy0.1:Int)),(3,vI yy0.2)]) (fun yy0=>[]) (fun yy0=>yy0.1≤l.length∧yy0.2=fQ (l.take yy0.1)) (fun yy0=>l.length - yy0.1) (fun yy0=> .len l.length<| .br (.elem _ intD l (fun e13=> .call (vB (dP e13 (0:Int) (3:Int))) []<| .br (.elem _ intD l (fun e19=> .back [])) (.back []))) (.fin []))) (p:=(l.map intD).length≤9223372036854775807→(∃(k:Nat) (o:Int),(0:Int)=(k:Int)∧(0:Int)=o∧k≤l.length∧o=fQ (l.take k))∧ ∀(k:Nat) (o:Int),(k≤l.length∧o=fQ (l.take k))→Lm intD l∧(((decide ((k:Int)<((l.length:Nat):Int)))=true→0≤(k:Int)∧Em intD l k fun e13=>eZ e13 (0:Int) (3:Int)∧(((dP e13 (0:Int) (3:Int))=true→0≤(k:Int)∧Em intD l k fun e19=>(0≤e19∧e19≤64)∧dB ((1:Int)*2^(Int.toNat e19))∧dB ((k:Int)+(1:Int))∧ ∃(k' :Nat) (o' :Int),((k:Int)+(1:Int))=(k' :Int)∧(hZ .or .i64 o ((1:Int)*2^(Int.toNat e19)))=o' ∧(k' ≤l.length∧o' =fQ (l.take k'))∧l.length - k' <l.length - k)∧((dP e13 (0:Int) (3:Int))=false→dB ((k:Int)+(1:Int))∧ ∃(k' :Nat) (o' :Int),((k:Int)+(1:Int))=(k' :Int)∧o=o' ∧(k' ≤l.length∧o' =fQ (l.take k'))∧l.length - k' <l.length - k)))∧((decide ((k:Int)<((l.length:Nat):Int)))=false→o=(fQ l)∧True))) (by kernel_rfl) ?_
 intro n0
 simp only [List.length_map] at n0
 refine ⟨⟨0,0,rfl,rfl,Nat.zero_le _,rfl⟩,fun k o ⟨hk,hv⟩=>?_⟩
 refine ⟨List.length_map _,fun c0=>?_,fun c0=>?_⟩
 ·replace c0:=yq c0
  refine ⟨by omega,rfl,by omega,fun e13 h13=>?_⟩
  try (obtain rfl:=(bA h13 h13).symm)
  refine ⟨iK _ _ _,fun c1=>?_,fun c1=>?_⟩
  ·obtain ⟨w1,w2,w3⟩:=aFG c1
   refine ⟨by omega,rfl,by omega,fun e19 h19=>?_⟩
   try (obtain rfl:=(bA h13 h19).symm)
   refine ⟨⟨by omega,by omega⟩,by first | exact w1 | exact ⟨by omega,by omega⟩,by first | exact w1 | exact ⟨by omega,by omega⟩,?_⟩
   exact ⟨k+1,_,rfl,rfl,⟨by omega,by first | (rw [cA h13,jG,aBX c1,hv];done) | (rw [cA h13,jG,aD8 c1,hv];done)⟩,by omega⟩
  ·refine ⟨by first | exact w1 | exact ⟨by omega,by omega⟩,?_⟩
   exact ⟨k+1,_,rfl,rfl,⟨by omega,by first | (rw [cA h13,jG,aBX c1,hv];done) | (rw [cA h13,jG,aD8 c1,hv];done)⟩,by omega⟩
 ·replace c0:=nq c0
  refine ⟨?_,trivial⟩
  ·rw [hv,List.take_of_length_le (by omega)]
abbrev aCm (n:Int):Prop:=dG Tryz.prog 201 [.one (.int .i64 n)] (vI (nH n)) []
theorem aMU (n:Int):aCm n:=by
 refine aY bK aU Tryz.func201 (by kernel_rfl) (.call (vB (dP n (1:Int) (4096:Int))) []<| .br (.fin []) (.loop Nat (Q1 Nat) [3,7,8,9,10,11,12] [] (fun b=>[(3,vI (b:Int))]) (fun b=>[]) (fun b=>b≤12∧kL (12 - b) b n=kL 12 0 n) (fun b=>12 - b) (fun b=> .br (.back []) (.fin [])))) (p:=eY n (1:Int) (4096:Int)∧(((!(dP n (1:Int) (4096:Int)))=true→(-1:Int)=(nH n)∧True)∧((!(dP n (1:Int) (4096:Int)))=false→(∃(b:Nat),(0:Int)=(b:Int)∧b≤12∧kL (12 - b) b n=kL 12 0 n)∧ ∀(b:Nat),(b≤12∧kL (12 - b) b n=kL 12 0 n)→(0≤(b:Int)∧(b:Int)≤64)∧(dB ((1:Int)*2^b)∧(((decide (((1:Int)*2^b)<n))=true→dB ((b:Int)+(1:Int))∧ ∃(b' :Nat),((b:Int)+(1:Int))=(b' :Int)∧(b' ≤12∧kL (12 - b') b' n=kL 12 0 n)∧12 - b' <12 - b)∧((decide (((1:Int)*2^b)<n))=false→(b:Int)=(nH n)∧True)))))) (by kernel_rfl) ?_
 refine ⟨iJ _ _ _,fun c0=>?_,fun c0=>?_⟩
 ·replace c0:=nt c0
  have hn:dP n 1 4096=false:=by simpa using c0
  refine ⟨?_,trivial⟩
  ·first | (rw [nH,if_neg (by rw [hn];decide)];done) | (rw [nH,if_pos hn,←hr,w5])
 ·replace c0:=nf c0
  have hn:dP n 1 4096=true:=by simpa using c0
  obtain ⟨w1,w2⟩:=eL hn
  refine ⟨⟨0,rfl,by omega,rfl⟩,fun b ⟨hb,hr⟩=>?_⟩
  refine ⟨⟨by omega,by omega⟩,by first | exact ⟨by omega,by omega⟩ | (have hp:=aDX b hb;exact ⟨by omega,by omega⟩),fun c1=>?_,fun c1=>?_⟩
  ·replace c1:=yq c1
   obtain ⟨w3,w4⟩:=aFJ w2 hb (by omega)
   refine ⟨by first | exact ⟨by omega,by omega⟩ | (have hp:=aDX b hb;exact ⟨by omega,by omega⟩),?_⟩
   exact ⟨b+1,rfl,⟨by omega,by rw [w4];exact hr⟩,by omega⟩
  ·replace c1:=nq c1
   have w5:=aFK (b:=b) (n:=n) (by omega) (12 - b)
   refine ⟨?_,trivial⟩
   ·first | (rw [nH,if_neg (by rw [hn];decide)];done) | (rw [nH,if_pos hn,←hr,w5])
abbrev aCn (n:Int):Prop:=dG Tryz.prog 194 [.one (.int .i64 n)] (vI (nH n)) []
theorem aMV (n:Int):aCn n:=by
 refine aY bK aU Tryz.func194 (by kernel_rfl) (.call (vB (dP n (1:Int) (4096:Int))) []<| .br (.fin []) (.loop Nat (Q1 Nat) [3,7,8,9,10,11,12] [] (fun b=>[(3,vI (b:Int))]) (fun b=>[]) (fun b=>b≤12∧kL (12 - b) b n=kL 12 0 n) (fun b=>12 - b) (fun b=> .br (.back []) (.fin [])))) (p:=eZ n (1:Int) (4096:Int)∧(((!(dP n (1:Int) (4096:Int)))=true→(-1:Int)=(nH n)∧True)∧((!(dP n (1:Int) (4096:Int)))=false→(∃(b:Nat),(0:Int)=(b:Int)∧b≤12∧kL (12 - b) b n=kL 12 0 n)∧ ∀(b:Nat),(b≤12∧kL (12 - b) b n=kL 12 0 n)→(0≤(b:Int)∧(b:Int)≤64)∧(dB ((1:Int)*2^b)∧(((decide (((1:Int)*2^b)<n))=true→dB ((b:Int)+(1:Int))∧ ∃(b' :Nat),((b:Int)+(1:Int))=(b' :Int)∧(b' ≤12∧kL (12 - b') b' n=kL 12 0 n)∧12 - b' <12 - b)∧((decide (((1:Int)*2^b)<n))=false→(b:Int)=(nH n)∧True)))))) (by kernel_rfl) ?_
 refine ⟨iK _ _ _,fun c0=>?_,fun c0=>?_⟩
 ·replace c0:=nt c0
  have hn:dP n 1 4096=false:=by simpa using c0
  refine ⟨?_,trivial⟩
  ·first | (rw [nH,if_neg (by rw [hn];decide)];done) | (rw [nH,if_pos hn,←hr,w5])
 ·replace c0:=nf c0
  have hn:dP n 1 4096=true:=by simpa using c0
  obtain ⟨w1,w2⟩:=eL hn
  refine ⟨⟨0,rfl,by omega,rfl⟩,fun b ⟨hb,hr⟩=>?_⟩
  refine ⟨⟨by omega,by omega⟩,by first | exact ⟨by omega,by omega⟩ | (have hp:=aDX b hb;exact ⟨by omega,by omega⟩),fun c1=>?_,fun c1=>?_⟩
  ·replace c1:=yq c1
   obtain ⟨w3,w4⟩:=aFJ w2 hb (by omega)
   refine ⟨by first | exact ⟨by omega,by omega⟩ | (have hp:=aDX b hb;exact ⟨by omega,by omega⟩),?_⟩
   exact ⟨b+1,rfl,⟨by omega,by rw [w4];exact hr⟩,by omega⟩
  ·replace c1:=nq c1
   have w5:=aFK (b:=b) (n:=n) (by omega) (12 - b)
   refine ⟨?_,trivial⟩
   ·first | (rw [nH,if_neg (by rw [hn];decide)];done) | (rw [nH,if_pos hn,←hr,w5])
theorem aRL (l:List bR) (a:List Int):(0:Int)=m4 (gJ l 0 a 0):=by simp [m4,b4,gJ,aDQ]
theorem aO8 (n:Nat) (l:List bR) (a:List Int):List.replicate n false=(List.range n).map (gJ l 0 a 0):=by
 apply List.ext_getElem?
 intro i
 rw [List.getElem?_map,List.getElem?_replicate]
 by_cases hi:i<n
 ·rw [if_pos hi,List.getElem?_range hi];simp [gJ,aDQ]
 ·rw [if_neg hi,show (List.range n)[i]? =none from List.getElem?_eq_none (by simp;omega)];rfl
theorem aO9 {l:List Bool} {v:Bool}:decide (0≤jR (fun y=>v==y) l)=decide (v∈l):=by
 apply Bool.eq_iff_iff.2
 rw [decide_eq_true_eq,decide_eq_true_eq]
 constructor
 ·intro h
  obtain ⟨k,x,_,hx,hf⟩:=nG.2 h
  have h1:=List.find?_some hf
  have:v=x:=by simpa using h1
  rw [this];exact List.mem_of_getElem? hx
 ·intro h
  rcases Int.lt_or_le (jR (fun y=>v==y) l) 0 with q | q
  ·have:=nG.1 q
   rw [List.find?_eq_none] at this
   exact absurd (this v h) (by simp)
  ·exact q
abbrev aQJ (l:List Bool) (v:Bool):Prop:=dG Tryz.prog 280 [.one (.sl 4 1 (l.map iU)),.one (.bool v)] (vI (jR (fun y=>v==y) l)) []
theorem ixB (l:List Bool) (v:Bool):aQJ l v:=by
 refine aY bK aU Tryz.func280 (by kernel_rfl) (.len l.length<| .loop Nat (Q1 Nat) [5,8,9,10,11,12,13,14,15,16,18] [] (fun k=>[(8,vI (k:Int))]) (fun k=>[]) (fun k=>k≤l.length∧(l.take k).all (fun y=> !(v==y))=true) (fun k=>l.length - k) (fun k=> .br (.elem _ iU l (fun e14=> .br (.fin []) (.back []))) (.fin []))) (p:=(l.map iU).length≤9223372036854775807→Lm iU l∧((∃(k:Nat),(0:Int)=(k:Int)∧k≤l.length∧(l.take k).all (fun y=> !(v==y))=true)∧ ∀(k:Nat),(k≤l.length∧(l.take k).all (fun y=> !(v==y))=true)→((decide ((k:Int)<((l.length:Nat):Int)))=true→0≤(k:Int)∧Em iU l k fun e14=>((v==e14)=true→(k:Int)=(jR (fun y=>v==y) l)∧True)∧((v==e14)=false→dB ((k:Int)+(1:Int))∧ ∃(k' :Nat),((k:Int)+(1:Int))=(k' :Int)∧(k' ≤l.length∧(l.take k').all (fun y=> !(v==y))=true)∧l.length - k' <l.length - k))∧((decide ((k:Int)<((l.length:Nat):Int)))=false→(-1:Int)=(jR (fun y=>v==y) l)∧True))) (by kernel_rfl) ?_
 intro n0
 simp only [List.length_map] at n0
 refine ⟨List.length_map _,⟨0,rfl,Nat.zero_le _,rfl⟩,fun k ⟨hk,ha⟩=>?_⟩
 refine ⟨fun c0=>?_,fun c0=>?_⟩
 ·replace c0:=yq c0
  refine ⟨by omega,rfl,by omega,fun e14 h14=>?_⟩
  refine ⟨fun c1=>?_,fun c1=>?_⟩
  ·refine ⟨?_,trivial⟩
   ·first | (rw [aD7 h14 ha c1];done) | (rw [aBS (bU (by omega) ha)];done)
  ·refine ⟨⟨by omega,by omega⟩,?_⟩
   exact ⟨k+1,rfl,⟨by omega,dQ h14 ha (by rw [c1];rfl)⟩,by omega⟩
 ·replace c0:=nq c0
  refine ⟨?_,trivial⟩
  ·first | (rw [aD7 h14 ha c1];done) | (rw [aBS (bU (by omega) ha)];done)
abbrev aQK (l:List Bool) (v:Bool):Prop:=dG Tryz.prog 254 [.one (.sl 4 1 (l.map iU)),.one (.bool v)] (vB (decide (v∈l))) []
theorem ctB (l:List Bool) (v:Bool):aQK l v:=by
 refine aY bK aU Tryz.func254 (by kernel_rfl) (.call (vI (jR (fun y=>v==y) l)) []<| .fin []) (p:=(l.map iU).length≤9223372036854775807→aQJ l v∧(decide ((0:Int)≤(jR (fun y=>v==y) l)))=(decide (v∈l))∧True) (by kernel_rfl) ?_
 intro n0
 simp only [List.length_map] at n0
 refine ⟨ixB _ _,?_,trivial⟩
 ·exact aO9
abbrev aAZ (q:QueryD):Prop:=dG Tryz.prog 190 [.agg [.int .i64 q.variableCount,.sl 131 2 (q.atoms.map bC)]] (vB (cY q)) []
theorem aJX (q:QueryD):aAZ q:=by
 refine aY bK aU Tryz.func190 (by kernel_rfl) (.call (vB (dP q.variableCount (1:Int) (4:Int))) []<| .br (.fin []) (.len q.atoms.length<| .call (vB (dP ((q.atoms.length:Nat):Int) (1:Int) (4:Int))) []<| .lit<| .lit<| .br (.fin []) (.mk ((q.variableCount).toNat) [.bool false] ((List.replicate ((q.variableCount).toNat) false).map iU)<| .len q.atoms.length<| .loop (Nat × (List Bool)) (Q2 Nat (List Bool)) [5,6,7,25,26,27,28,29,30,31,32,33,34,35,36,37,38,39,40,41,42,43,44,45,46,47,48,49,50,51,52,53,54,55,56,57,58,59,60,61,62,63,64,65,66] [500,2100] (fun yy0=>[(25,vI (yy0.1:Int))]) (fun yy0=>[(2100,some (.arr 4 1 true (yy0.2.map iU)))]) (fun yy0=>yy0.1≤q.atoms.length∧yy0.2=(List.range q.variableCount.toNat).map (gJ q.atoms yy0.1 [] 0)∧(q.atoms.take yy0.1).all (dZ q.variableCount)=true) (fun yy0=>q.atoms.length - yy0.1) (fun yy0=> .br (.elem _ bC q.atoms (fun e27=> .call (vB (dV e27.name)) []<| .br (.fin []) (.len e27.vars.length<| .call (vB (dP ((e27.vars.length:Nat):Int) (1:Int) (3:Int))) []<| .lit<| .lit<| .br (.fin []) (.len e27.vars.length<| .loop (Nat × (List Bool)) (Q2 Nat (List Bool)) [6,7,43,44,45,46,47,48,49,50,51,52,53,54,55,56,57,58,59,60,61,62,63,64,65] [2100] (fun yy1=>[(43,vI (yy1.1:Int))]) (fun yy1=>[(2100,some (.arr 4 1 true (yy1.2.map iU)))]) (fun yy1=>yy1.1≤e27.vars.length∧yy1.2=(List.range q.variableCount.toNat).map (gJ q.atoms yy0.1 e27.vars yy1.1)∧(List.range yy1.1).all (jD q.variableCount e27.vars)=true) (fun yy1=>e27.vars.length - yy1.1) (fun yy1=> .br (.elem _ intD e27.vars (fun e46=> .call (vB (dP e46 (0:Int) (q.variableCount - (1:Int)))) []<| .br (.fin []) (.sub Int intD e27.vars<| .call (vB (decide (e46∈(e27.vars.take yy1.1)))) []<| .lit<| .br (.fin []) (.len yy1.2.length<| .set Bool iU yy1.2 (fun s14_3=>true) (fun s14_3=> .back [(2100,2100)]))))) (.back [(2100,2100)])))))) (.call (vB (decide (false∈yy0.2))) []<| .fin []))))) (p:=(q.atoms.map bC).length≤9223372036854775807→eY q.variableCount (1:Int) (4:Int)∧(((!(dP q.variableCount (1:Int) (4:Int)))=true→(false)=(cY q)∧True)∧((!(dP q.variableCount (1:Int) (4:Int)))=false→Lm bC q.atoms∧(eY ((q.atoms.length:Nat):Int) (1:Int) (4:Int)∧(((!(dP ((q.atoms.length:Nat):Int) (1:Int) (4:Int)))=true→(false)=(cY q)∧True)∧((!(dP ((q.atoms.length:Nat):Int) (1:Int) (4:Int)))=false→q.variableCount=(((q.variableCount).toNat:Nat):Int)∧q.variableCount=(((q.variableCount).toNat:Nat):Int)∧1*((q.variableCount).toNat)≤281474976710656∧((q.variableCount).toNat)≤9223372036854775807∧List.replicate ((q.variableCount).toNat) [.bool false]=(List.replicate ((q.variableCount).toNat) false).map iU∧(Lm bC q.atoms∧((∃(k:Nat) (sn:List Bool),(0:Int)=(k:Int)∧(List.replicate ((q.variableCount).toNat) false).map iU=sn.map iU∧k≤q.atoms.length∧sn=(List.range q.variableCount.toNat).map (gJ q.atoms k [] 0)∧(q.atoms.take k).all (dZ q.variableCount)=true)∧ ∀(k:Nat) (sn:List Bool),(k≤q.atoms.length∧sn=(List.range q.variableCount.toNat).map (gJ q.atoms k [] 0)∧(q.atoms.take k).all (dZ q.variableCount)=true)→((decide ((k:Int)<((q.atoms.length:Nat):Int)))=true→0≤(k:Int)∧Em bC q.atoms k fun e27=>wN e27.name∧(((!(dV e27.name))=true→(false)=(cY q)∧True)∧((!(dV e27.name))=false→Lm intD e27.vars∧(eY ((e27.vars.length:Nat):Int) (1:Int) (3:Int)∧(((!(dP ((e27.vars.length:Nat):Int) (1:Int) (3:Int)))=true→(false)=(cY q)∧True)∧((!(dP ((e27.vars.length:Nat):Int) (1:Int) (3:Int)))=false→Lm intD e27.vars∧((∃(i:Nat) (sm:List Bool),(0:Int)=(i:Int)∧sn.map iU=sm.map iU∧i≤e27.vars.length∧sm=(List.range q.variableCount.toNat).map (gJ q.atoms k e27.vars i)∧(List.range i).all (jD q.variableCount e27.vars)=true)∧ ∀(i:Nat) (sm:List Bool),(i≤e27.vars.length∧sm=(List.range q.variableCount.toNat).map (gJ q.atoms k e27.vars i)∧(List.range i).all (jD q.variableCount e27.vars)=true)→((decide ((i:Int)<((e27.vars.length:Nat):Int)))=true→0≤(i:Int)∧Em intD e27.vars i fun e46=>dB (q.variableCount - (1:Int))∧(eY e46 (0:Int) (q.variableCount - (1:Int))∧(((!(dP e46 (0:Int) (q.variableCount - (1:Int))))=true→(false)=(cY q)∧True)∧((!(dP e46 (0:Int) (q.variableCount - (1:Int))))=false→e27.vars.map intD=e27.vars.map intD∧0≤(i:Int)∧(i:Int)≤((e27.vars.length:Nat):Int)∧(aLK (e27.vars.take i) e46∧(((decide (e46∈(e27.vars.take i)))=true→(false)=(cY q)∧True)∧((decide (e46∈(e27.vars.take i)))=false→0≤e46∧Lm iU sm∧e46<((sm.length:Nat):Int)∧(sm.map iU=sm.map iU∧(e46).toNat<sm.length∧ ∀s14_3,sm[(e46).toNat]? =some s14_3→eC (iU s14_3)=true∧0+1≤(iU s14_3).length∧(iU s14_3).take 0++[.bool true]++(iU s14_3).drop (0+1)=iU true∧dB ((i:Int)+(1:Int))∧ ∃(i' :Nat) (sm' :List Bool),((i:Int)+(1:Int))=(i' :Int)∧(sm.set ((e46).toNat) true).map iU=sm'.map iU∧(i' ≤e27.vars.length∧sm' =(List.range q.variableCount.toNat).map (gJ q.atoms k e27.vars i')∧(List.range i').all (jD q.variableCount e27.vars)=true)∧e27.vars.length - i' <e27.vars.length - i))))))))∧((decide ((i:Int)<((e27.vars.length:Nat):Int)))=false→dB ((k:Int)+(1:Int))∧ ∃(k' :Nat) (sn' :List Bool),((k:Int)+(1:Int))=(k' :Int)∧sm.map iU=sn'.map iU∧(k' ≤q.atoms.length∧sn' =(List.range q.variableCount.toNat).map (gJ q.atoms k' [] 0)∧(q.atoms.take k').all (dZ q.variableCount)=true)∧q.atoms.length - k' <q.atoms.length - k))))))))∧((decide ((k:Int)<((q.atoms.length:Nat):Int)))=false→aQK sn false∧(!(decide (false∈sn)))=(cY q)∧True))))))))) (by kernel_rfl) ?_
 intro n0
 simp only [List.length_map] at n0
 refine ⟨iJ _ _ _,fun g12=>?_,fun g12=>?_⟩
 ·replace g12:=nt g12
  have hbad:(dP q.variableCount 1 4&&dP (q.atoms.length:Nat) 1 4)=false:=by first | (rw [g12];rfl) | (rw [g12,c0];rfl)
  refine ⟨?_,trivial⟩
  ·first | (exact (mJ hbad).symm) | (exact (iM h27 hA).symm) | (rw [kF hpar hall,hs,gD (by omega),qQ])
 ·replace g12:=nf g12
  refine ⟨List.length_map _,iJ _ _ _,fun c0=>?_,fun c0=>?_⟩
  ·replace c0:=nt c0
   have hbad:(dP q.variableCount 1 4&&dP (q.atoms.length:Nat) 1 4)=false:=by first | (rw [g12];rfl) | (rw [g12,c0];rfl)
   refine ⟨?_,trivial⟩
   ·first | (exact (mJ hbad).symm) | (exact (iM h27 hA).symm) | (rw [kF hpar hall,hs,gD (by omega),qQ])
  ·replace c0:=nf c0
   have hpar:(dP q.variableCount 1 4&&dP (q.atoms.length:Nat) 1 4)=true:=by rw [g12,c0];rfl
   have hn:=eL g12
   refine ⟨by omega,by omega,by omega,by omega,by first | (rw [List.map_replicate];done) | (rw [List.map_replicate];rfl),List.length_map _,⟨0,List.replicate ((q.variableCount).toNat) false,rfl,rfl,Nat.zero_le _,aO8 _ _ _,rfl⟩,fun k sn ⟨hk,hs,ha⟩=>?_⟩
   refine ⟨fun c1=>?_,fun c1=>?_⟩
   ·replace c1:=yq c1
    refine ⟨by omega,rfl,by omega,fun e27 h27=>?_⟩
    refine ⟨aGj _,fun g33=>?_,fun g33=>?_⟩
    ·replace g33:=nt g33
     have hA:dZ q.variableCount e27=false:=by first | (rw [dZ,g33];rfl) | (rw [dZ,g33,c2];rfl)
     refine ⟨?_,trivial⟩
     ·first | (exact (mJ hbad).symm) | (exact (iM h27 hA).symm) | (rw [kF hpar hall,hs,gD (by omega),qQ])
    ·replace g33:=nf g33
     refine ⟨List.length_map _,iJ _ _ _,fun c2=>?_,fun c2=>?_⟩
     ·replace c2:=nt c2
      have hA:dZ q.variableCount e27=false:=by first | (rw [dZ,g33];rfl) | (rw [dZ,g33,c2];rfl)
      refine ⟨?_,trivial⟩
      ·first | (exact (mJ hbad).symm) | (exact (iM h27 hA).symm) | (rw [kF hpar hall,hs,gD (by omega),qQ])
     ·replace c2:=nf c2
      have w9:=eL c2
      refine ⟨List.length_map _,⟨0,sn,rfl,rfl,Nat.zero_le _,by rw [hs,aEy],rfl⟩,fun i sm ⟨hi,hm,hv⟩=>?_⟩
      have hml:sm.length=q.variableCount.toNat:=by rw [hm];simp
      refine ⟨fun c3=>?_,fun c3=>?_⟩
      ·replace c3:=yq c3
       refine ⟨by omega,rfl,by omega,fun e46 h46=>?_⟩
       have hx:=List.mem_of_getElem? h46
       refine ⟨by first | exact w1 | exact ⟨by omega,by omega⟩,iJ _ _ _,fun g54=>?_,fun g54=>?_⟩
       ·replace g54:=nt g54
        have hp:jD q.variableCount e27.vars i=false:=by first | (rw [jD,bD h46,g54];rfl) | (rw [jD,bD h46,g54,c4];rfl)
        have hA:dZ q.variableCount e27=false:=by rw [dZ,xD,fF (by omega) hp];simp
        refine ⟨?_,trivial⟩
        ·first | (exact (mJ hbad).symm) | (exact (iM h27 hA).symm) | (rw [kF hpar hall,hs,gD (by omega),qQ])
       ·replace g54:=nf g54
        refine ⟨rfl,by omega,by omega,ctI _ _,fun c4=>?_,fun c4=>?_⟩
        ·have hp:jD q.variableCount e27.vars i=false:=by first | (rw [jD,bD h46,g54];rfl) | (rw [jD,bD h46,g54,c4];rfl)
         have hA:dZ q.variableCount e27=false:=by rw [dZ,xD,fF (by omega) hp];simp
         refine ⟨?_,trivial⟩
         ·first | (exact (mJ hbad).symm) | (exact (iM h27 hA).symm) | (rw [kF hpar hall,hs,gD (by omega),qQ])
        ·have hp:jD q.variableCount e27.vars i=true:=by rw [jD,bD h46,g54,c4];rfl
         have hb:=eL g54
         refine ⟨by omega,List.length_map _,by omega,rfl,by omega,fun s14_3 hs14_3=>⟨rfl,Nat.le_of_ble_eq_true rfl,rfl,?_⟩⟩
         refine ⟨by first | exact w1 | exact ⟨by omega,by omega⟩,?_⟩
         exact ⟨i+1,_,rfl,rfl,⟨by omega,by rw [hm,aOY,aEz h46 (by omega)],iT hv hp⟩,by omega⟩
      ·replace c3:=nq c3
       have hA:dZ q.variableCount e27=true:=by rw [dZ,g33,c2,xD,show e27.vars.length=i by omega,hv];rfl
       refine ⟨by first | exact w1 | exact ⟨by omega,by omega⟩,?_⟩
       exact ⟨k+1,_,rfl,rfl,⟨by omega,by rw [hm,aFA h27 (by omega) []],dQ h27 ha hA⟩,by omega⟩
   ·replace c1:=nq c1
    have hall:=bU (by omega) ha
    refine ⟨ctB _ _,?_,trivial⟩
    ·first | (exact (mJ hbad).symm) | (exact (iM h27 hA).symm) | (rw [kF hpar hall,hs,gD (by omega),qQ])
abbrev aA0 (q:QueryD):Prop:=dG Tryz.prog 169 [.agg [.int .i64 q.variableCount,.sl 131 2 (q.atoms.map bC)]] (vB (cY q)) []
theorem aJY (q:QueryD):aA0 q:=by
 refine aY bK aU Tryz.func169 (by kernel_rfl) (.call (vB (dP q.variableCount (1:Int) (4:Int))) []<| .br (.fin []) (.len q.atoms.length<| .call (vB (dP ((q.atoms.length:Nat):Int) (1:Int) (4:Int))) []<| .lit<| .lit<| .br (.fin []) (.loop (Nat × Int) (Q2 Nat Int) [3,4,5,6,18,19,20,21,22,23,24,25,26,27,28,29,30,31,32,33,34,35,36,37,38,39,40,41,42,43,44,45,46,47,48,49,50,51,52,53,54,55,56,57,58,59,60,61,62,63,64,65,66,67,68,69,70,71,72,73,74,75,76,77] [500] (fun yy0=>[(4,vI (yy0.1:Int)),(3,vI yy0.2)]) (fun yy0=>[]) (fun yy0=>yy0.1≤q.atoms.length∧yy0.2=m4 (gJ q.atoms yy0.1 [] 0)∧(q.atoms.take yy0.1).all (dZ q.variableCount)=true) (fun yy0=>q.atoms.length - yy0.1) (fun yy0=> .len q.atoms.length<| .br (.elem _ bC q.atoms (fun e28=> .call (vB (dV e28.name)) []<| .br (.fin []) (.len e28.vars.length<| .call (vB (dP ((e28.vars.length:Nat):Int) (1:Int) (3:Int))) []<| .lit<| .lit<| .br (.fin []) (.loop (Nat × Int) (Q2 Nat Int) [3,6,41,42,43,44,45,46,47,48,49,50,51,52,53,54,55,56,57,58,59,60,61,62,63,64,65,66,67,68,69,70,71,72,73,74,75,76,77] [] (fun yy1=>[(6,vI (yy1.1:Int)),(3,vI yy1.2)]) (fun yy1=>[]) (fun yy1=>yy1.1≤e28.vars.length∧yy1.2=m4 (gJ q.atoms yy0.1 e28.vars yy1.1)∧(List.range yy1.1).all (jD q.variableCount e28.vars)=true) (fun yy1=>e28.vars.length - yy1.1) (fun yy1=> .len e28.vars.length<| .br (.elem _ intD e28.vars (fun e51=> .call (vB (dP e51 (0:Int) (q.variableCount - (1:Int)))) []<| .br (.fin []) (.sub Int intD e28.vars<| .elem _ intD e28.vars (fun e66=> .call (vB (decide (e66∈(e28.vars.take yy1.1)))) []<| .lit<| .br (.fin []) (.elem _ intD e28.vars (fun e74=> .back [])))))) (.back [])))))) (.fin []))))) (p:=(q.atoms.map bC).length≤9223372036854775807→eZ q.variableCount (1:Int) (4:Int)∧(((!(dP q.variableCount (1:Int) (4:Int)))=true→(false)=(cY q)∧True)∧((!(dP q.variableCount (1:Int) (4:Int)))=false→Lm bC q.atoms∧(eZ ((q.atoms.length:Nat):Int) (1:Int) (4:Int)∧(((!(dP ((q.atoms.length:Nat):Int) (1:Int) (4:Int)))=true→(false)=(cY q)∧True)∧((!(dP ((q.atoms.length:Nat):Int) (1:Int) (4:Int)))=false→(∃(k:Nat) (o:Int),(0:Int)=(k:Int)∧(0:Int)=o∧k≤q.atoms.length∧o=m4 (gJ q.atoms k [] 0)∧(q.atoms.take k).all (dZ q.variableCount)=true)∧ ∀(k:Nat) (o:Int),(k≤q.atoms.length∧o=m4 (gJ q.atoms k [] 0)∧(q.atoms.take k).all (dZ q.variableCount)=true)→Lm bC q.atoms∧(((decide ((k:Int)<((q.atoms.length:Nat):Int)))=true→0≤(k:Int)∧Em bC q.atoms k fun e28=>wO e28.name∧(((!(dV e28.name))=true→(false)=(cY q)∧True)∧((!(dV e28.name))=false→Lm intD e28.vars∧(eZ ((e28.vars.length:Nat):Int) (1:Int) (3:Int)∧(((!(dP ((e28.vars.length:Nat):Int) (1:Int) (3:Int)))=true→(false)=(cY q)∧True)∧((!(dP ((e28.vars.length:Nat):Int) (1:Int) (3:Int)))=false→(∃(i:Nat) (p:Int),(0:Int)=(i:Int)∧o=p∧i≤e28.vars.length∧p=m4 (gJ q.atoms k e28.vars i)∧(List.range i).all (jD q.variableCount e28.vars)=true)∧ ∀(i:Nat) (p:Int),(i≤e28.vars.length∧p=m4 (gJ q.atoms k e28.vars i)∧(List.range i).all (jD q.variableCount e28.vars)=true)→Lm intD e28.vars∧(((decide ((i:Int)<((e28.vars.length:Nat):Int)))=true→0≤(i:Int)∧Em intD e28.vars i fun e51=>dB (q.variableCount - (1:Int))∧(eZ e51 (0:Int) (q.variableCount - (1:Int))∧(((!(dP e51 (0:Int) (q.variableCount - (1:Int))))=true→(false)=(cY q)∧True)∧((!(dP e51 (0:Int) (q.variableCount - (1:Int))))=false→e28.vars.map intD=e28.vars.map intD∧0≤(i:Int)∧(i:Int)≤((e28.vars.length:Nat):Int)∧(0≤(i:Int)∧Em intD e28.vars i fun e66=>aOW (e28.vars.take i) e66∧(((decide (e66∈(e28.vars.take i)))=true→(false)=(cY q)∧True)∧((decide (e66∈(e28.vars.take i)))=false→0≤(i:Int)∧Em intD e28.vars i fun e74=>(0≤e74∧e74≤64)∧dB ((1:Int)*2^(Int.toNat e74))∧dB ((i:Int)+(1:Int))∧ ∃(i' :Nat) (p' :Int),((i:Int)+(1:Int))=(i' :Int)∧(hZ .or .i64 p ((1:Int)*2^(Int.toNat e74)))=p' ∧(i' ≤e28.vars.length∧p' =m4 (gJ q.atoms k e28.vars i')∧(List.range i').all (jD q.variableCount e28.vars)=true)∧e28.vars.length - i' <e28.vars.length - i)))))))∧((decide ((i:Int)<((e28.vars.length:Nat):Int)))=false→dB ((k:Int)+(1:Int))∧ ∃(k' :Nat) (o' :Int),((k:Int)+(1:Int))=(k' :Int)∧p=o' ∧(k' ≤q.atoms.length∧o' =m4 (gJ q.atoms k' [] 0)∧(q.atoms.take k').all (dZ q.variableCount)=true)∧q.atoms.length - k' <q.atoms.length - k))))))))∧((decide ((k:Int)<((q.atoms.length:Nat):Int)))=false→(0≤q.variableCount∧q.variableCount≤64)∧dB ((1:Int)*2^(Int.toNat q.variableCount))∧dB (((1:Int)*2^(Int.toNat q.variableCount)) - (1:Int))∧(decide (o=(((1:Int)*2^(Int.toNat q.variableCount)) - (1:Int))))=(cY q)∧True)))))))) (by kernel_rfl) ?_
 intro n0
 simp only [List.length_map] at n0
 refine ⟨iK _ _ _,fun g11=>?_,fun g11=>?_⟩
 ·replace g11:=nt g11
  have hbad:(dP q.variableCount 1 4&&dP (q.atoms.length:Nat) 1 4)=false:=by first | (rw [g11];rfl) | (rw [g11,c0];rfl)
  refine ⟨?_,trivial⟩
  ·first | (exact (mJ hbad).symm) | (exact (iM h28 hA).symm) | (rw [kF hpar hall,hs,gD (by omega)];exact uD hn fun v hv=>qR hall hn.1 hv)
 ·replace g11:=nf g11
  refine ⟨List.length_map _,iK _ _ _,fun c0=>?_,fun c0=>?_⟩
  ·replace c0:=nt c0
   have hbad:(dP q.variableCount 1 4&&dP (q.atoms.length:Nat) 1 4)=false:=by first | (rw [g11];rfl) | (rw [g11,c0];rfl)
   refine ⟨?_,trivial⟩
   ·first | (exact (mJ hbad).symm) | (exact (iM h28 hA).symm) | (rw [kF hpar hall,hs,gD (by omega)];exact uD hn fun v hv=>qR hall hn.1 hv)
  ·replace c0:=nf c0
   have hpar:(dP q.variableCount 1 4&&dP (q.atoms.length:Nat) 1 4)=true:=by rw [g11,c0];rfl
   have hn:=eL g11
   refine ⟨⟨0,(0:Int),rfl,rfl,Nat.zero_le _,aRL _ _,rfl⟩,fun k o ⟨hk,hs,ha⟩=>?_⟩
   refine ⟨List.length_map _,fun c1=>?_,fun c1=>?_⟩
   ·replace c1:=yq c1
    refine ⟨by omega,rfl,by omega,fun e28 h28=>?_⟩
    refine ⟨aGk _,fun g34=>?_,fun g34=>?_⟩
    ·replace g34:=nt g34
     have hA:dZ q.variableCount e28=false:=by first | (rw [dZ,g34];rfl) | (rw [dZ,g34,c2];rfl)
     refine ⟨?_,trivial⟩
     ·first | (exact (mJ hbad).symm) | (exact (iM h28 hA).symm) | (rw [kF hpar hall,hs,gD (by omega)];exact uD hn fun v hv=>qR hall hn.1 hv)
    ·replace g34:=nf g34
     refine ⟨List.length_map _,iK _ _ _,fun c2=>?_,fun c2=>?_⟩
     ·replace c2:=nt c2
      have hA:dZ q.variableCount e28=false:=by first | (rw [dZ,g34];rfl) | (rw [dZ,g34,c2];rfl)
      refine ⟨?_,trivial⟩
      ·first | (exact (mJ hbad).symm) | (exact (iM h28 hA).symm) | (rw [kF hpar hall,hs,gD (by omega)];exact uD hn fun v hv=>qR hall hn.1 hv)
     ·replace c2:=nf c2
      have w9:=eL c2
      refine ⟨⟨0,o,rfl,rfl,Nat.zero_le _,by rw [hs,aEy],rfl⟩,fun i p ⟨hi,hm,hv⟩=>?_⟩
      refine ⟨List.length_map _,fun c3=>?_,fun c3=>?_⟩
      ·replace c3:=yq c3
       refine ⟨by omega,rfl,by omega,fun e51 h51=>?_⟩
       have hx:=List.mem_of_getElem? h51
       refine ⟨by first | exact w1 | exact ⟨by omega,by omega⟩,iK _ _ _,fun g58=>?_,fun g58=>?_⟩
       ·replace g58:=nt g58
        have hp:jD q.variableCount e28.vars i=false:=by first | (rw [jD,bD h51,g58];rfl) | (rw [jD,bD h51,g58,c4];rfl)
        have hA:dZ q.variableCount e28=false:=by rw [dZ,xD,fF (by omega) hp];simp
        refine ⟨?_,trivial⟩
        ·first | (exact (mJ hbad).symm) | (exact (iM h28 hA).symm) | (rw [kF hpar hall,hs,gD (by omega)];exact uD hn fun v hv=>qR hall hn.1 hv)
       ·replace g58:=nf g58
        refine ⟨rfl,by omega,by omega,by omega,rfl,by omega,fun e66 h66=>?_⟩
        obtain rfl:=(bA h51 h66).symm
        refine ⟨hsI _ _,fun c4=>?_,fun c4=>?_⟩
        ·have hp:jD q.variableCount e28.vars i=false:=by first | (rw [jD,bD h51,g58];rfl) | (rw [jD,bD h51,g58,c4];rfl)
         have hA:dZ q.variableCount e28=false:=by rw [dZ,xD,fF (by omega) hp];simp
         refine ⟨?_,trivial⟩
         ·first | (exact (mJ hbad).symm) | (exact (iM h28 hA).symm) | (rw [kF hpar hall,hs,gD (by omega)];exact uD hn fun v hv=>qR hall hn.1 hv)
        ·have hp:jD q.variableCount e28.vars i=true:=by rw [jD,bD h51,g58,c4];rfl
         have hb:=eL g58
         obtain ⟨w1,w2,w3⟩:=aFG (x:=e51) (aBg (by omega) (by omega))
         refine ⟨by omega,rfl,by omega,fun e74 h74=>?_⟩
         obtain rfl:=(bA h51 h74).symm
         refine ⟨⟨by omega,by omega⟩,by first | exact w1 | exact ⟨by omega,by omega⟩,by first | exact w1 | exact ⟨by omega,by omega⟩,?_⟩
         exact ⟨i+1,_,rfl,rfl,⟨by omega,by rw [hm,aR9 (by omega),aEz h51 (by omega)],iT hv hp⟩,by omega⟩
      ·replace c3:=nq c3
       have hA:dZ q.variableCount e28=true:=by rw [dZ,g34,c2,xD,show e28.vars.length=i by omega,hv];rfl
       refine ⟨by first | exact w1 | exact ⟨by omega,by omega⟩,?_⟩
       exact ⟨k+1,_,rfl,rfl,⟨by omega,by rw [hm,aFA h28 (by omega) []],dQ h28 ha hA⟩,by omega⟩
   ·replace c1:=nq c1
    have hall:=bU (by omega) ha
    obtain ⟨w1,w2,w3⟩:=aFG (x:=q.variableCount - 1) (aBg (by omega) (by omega))
    have w4:=uF (n:=q.variableCount.toNat) ⟨by omega,by omega⟩
    refine ⟨⟨by omega,by omega⟩,by first | exact w1 | exact ⟨by omega,by omega⟩,by first | exact w1 | exact ⟨by omega,by omega⟩,?_,trivial⟩
    ·first | (exact (mJ hbad).symm) | (exact (iM h28 hA).symm) | (rw [kF hpar hall,hs,gD (by omega)];exact uD hn fun v hv=>qR hall hn.1 hv)
end Go.Proofs.YtokkjaflmcjlhaaGreat
