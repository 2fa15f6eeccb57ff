/-
  Contracts and plain laws, joined: part 7.
-/
import Derived.Test.YtlidmoeecphbmaaGreateb5
import Derived.Test.YtlidmoeecphbmaaGreateb4
import Derived.IntWalk
namespace Go.Proofs.YtlidmoeecphbmaaGreat
open Go.ChangeShapes Go.WideShapes Go.ChangeAt Go.RowKit
set_option linter.unusedVariables false
set_option linter.unusedSimpArgs false
set_option maxRecDepth 100000
set_option maxHeartbeats 4000000
def aOa (m x:Int):Int:=if eI x 0 3=true then cI .or .i64 m ((1:Int)*2^x.toNat) else m
def gB (l:List Int):Int:=l.foldl aOa 0
theorem rO (l:List Int)(x:Int):gB (l++[x])=aOa (gB l) x:=by simp[gB]
theorem aNC {m x:Int}(h:eI x 0 3=true):aOa m x=cI .or .i64 m ((1:Int)*2^x.toNat):=by rw[aOa,if_pos h]
theorem aPt {m x:Int}(h:eI x 0 3=false):aOa m x=m:=by rw[aOa,if_neg (by rw[h];decide)]
theorem aDa {x:Int}(h:eI x 0 3=true):bO ((1:Int)*2^x.toNat)∧0≤x∧x≤64:=by
 have h2:=eG h
 have h1:x=0∨x=1∨x=2∨x=3:=by omega
 refine⟨?_,by omega,by omega⟩
 unfold bO
 rcases h1 with rfl | rfl | rfl | rfl<;>exact⟨by decide,by decide⟩
def vsS (m:Int)(l:List Int):Nat→Int
 | 0=>0
 | k+1=>if (decide (cI .and .i64 (m/2^k) 1=1)&&eI (l.getD k 0) 0 3)=true then cI .or .i64 (vsS m l k) ((1:Int)*2^(l.getD k 0).toNat) else vsS m l k
theorem aWP {m:Int}{l:List Int}{k:Nat}{x:Int}(hx:l[k]? =some x)(h1:cI .and .i64 (m/2^k) 1=1)(h2:eI x 0 3=true):vsS m l (k+1)=cI .or .i64 (vsS m l k) ((1:Int)*2^x.toNat):=by
 rw[vsS,bQ hx,if_pos (by simp[h1,h2])]
theorem aUD {m:Int}{l:List Int}{k:Nat}{x:Int}(hx:l[k]? =some x)(h:(decide (cI .and .i64 (m/2^k) 1=1)&&eI x 0 3)=false):vsS m l (k+1)=vsS m l k:=by
 rw[vsS,bQ hx,if_neg (by rw[h];decide)]
theorem aHD (m:Int)(l:List Int): ∀k,gB ((lI m k).map (sK l))=vsS m l k
 | 0=>rfl
 | k+1=>by
   by_cases h:cI .and .i64 (m/2^k) 1=1
   ·rw[aD0 h,List.map_append,List.map_cons,List.map_nil,rO,aHD m l k]
    have e:sK l (k:Int)=l.getD k 0:=by simp[sK]
    rw[e,vsS,aOa]
    simp[h]
   ·rw[aG8 h,aHD m l k,vsS,if_neg (by simp[h])]
theorem aHE {m:Int}{l:List Int}{k:Nat}(h:m/2^k=0):vsS m l (k+1)=vsS m l k:=by
 rw[vsS,if_neg (by rw[h];simp[show ¬cI .and .i64 0 1=1 by decide])]
theorem aJw {m:Int}{l:List Int}{n:Int}(hn:1≤n∧n≤3)(hl:(l.length:Int)=n)(h0:0≤m)(h1:m<2^n.toNat - 1):vsS m l (min l.length 3)=vsS m l 3:=by
 have h:n=1∨n=2∨n=3:=by omega
 rcases h with rfl | rfl | rfl
 ·have hm:m=0:=by simp at h1;omega
  subst hm
  rw[show min l.length 3=1 by omega,aHE (k:=2) (by decide),aHE (k:=1) (by decide)]
 ·have hm:m<4:=by simp at h1;omega
  rw[show min l.length 3=2 by omega,aHE (k:=2) (by omega)]
 ·rw[show min l.length 3=3 by omega]
theorem aND {m:Int}{l:List Int}{n:Int}(hn:1≤n∧n≤3)(hl:(l.length:Int)=n)(h0:0≤m)(h1:m<2^n.toNat - 1):gB (fH l (eK m)).1=vsS m l 3:=by
 have hs:aMY l.length (eK m)=true:=by
  rw[hl]
  have h:n=1∨n=2∨n=3:=by omega
  rcases h with rfl | rfl | rfl
  ·have hm:m=0:=by simp at h1;omega
   subst hm;decide
  ·have hm:m=0∨m=1∨m=2:=by simp at h1;omega
   rcases hm with rfl | rfl | rfl<;>decide
  ·have hm:m=0∨m=1∨m=2∨m=3∨m=4∨m=5∨m=6:=by simp at h1;omega
   rcases hm with rfl | rfl | rfl | rfl | rfl | rfl | rfl<;>decide
 rw[fH,if_pos hs]
 exact aHD m l 3
def jY:Nat→Nat→Int→Int
 | 0,b,_=>b
 | f+1,b,n=>if (2:Int)^b<n then jY f (b+1) n else b
def pU (n:Int):Int:=if eI n 1 4096=true then jY 12 0 n else -1
theorem aHF {b:Nat}{n:Int}(h2:n≤4096)(hb:b≤12)(h:(2:Int)^b<n):b<12∧jY (12 - (b+1)) (b+1) n=jY (12 - b) b n:=by
 have hlt:b<12:=by
  rcases Nat.lt_or_ge b 12 with h' | h'
  ·exact h'
  ·obtain rfl:b=12:=by omega
   exact absurd h (by have:(2:Int)^12=4096:=by decide
                      omega)
 refine⟨hlt,?_⟩
 obtain⟨f,hf⟩: ∃f,12 - b=f+1:=⟨11 - b,by omega⟩
 rw[hf,show 12 - (b+1)=f by omega,jY,if_pos h]
theorem aHG {b:Nat}{n:Int}(h:n≤2^b): ∀f,jY f b n=b
 | 0=>rfl
 | f+1=>by rw[jY,if_neg (by omega)]
def tcC (x:aM)(a:dG)(m:Nat):aH:=⟨vsS (m:Int) a.vars 3,gB a.vars,pU ((iB x (eK (m:Int))).getD 0 0)⟩
def rY (x:aM)(a:dG):Bool:=cN x&&(!decide (x.rowCount=0)&&decide ((a.vars.length:Int)=x.arity))
def lK (x:aM)(a:dG):List aH:=if rY x a=true then (List.range ((2:Int)^x.arity.toNat - 1).toNat).map (tcC x a) else []
theorem aHH {x:aM}{a:dG}(h:rY x a=true):lK x a=(List.range ((2:Int)^x.arity.toNat - 1).toNat).map (tcC x a):=by rw[lK,if_pos h]
theorem vK {x:aM}{a:dG}(h:rY x a=false):lK x a= []:=by rw[lK,if_neg (by rw[h];decide)]
theorem aB3 {x:aM}{a:dG}(h:rY x a=true):cN x=true∧(a.vars.length:Int)=x.arity:=by
 simp only[rY,Bool.and_eq_true,decide_eq_true_eq] at h
 exact⟨h.1,h.2.2⟩
theorem aHI (x:aM)(a:dG):(lK x a).length≤7:=by
 cases h:rY x a with
 | false=>rw[vK h];exact Nat.zero_le _
 | true=>
   have:=qO (aA4 (aB3 h).1)
   rw[aHH h,List.length_map,List.length_range]
   omega
abbrev yV (l:List Int):Prop:=cH Tryz.prog 208 [.one (.sl 3 1 (l.map intD))] (vI (gB l)) []
theorem aJx (l:List Int):yV l:=by
 refine aW bH aO Tryz.func208 (by kernel_rfl) (.len l.length<| .loop (Nat × Int) (Q2 Nat Int) ([3,5]++rg 8 11) [] (fun yy0=>[(8,vI (yy0.1:Int)),(3,vI yy0.2)]) (fun yy0=>[]) (fun yy0=>yy0.1≤l.length∧yy0.2=gB (l.take yy0.1)) (fun yy0=>l.length - yy0.1) (fun yy0=> .br (.elem _ intD l (fun e10=> .call (vB (eI e10 (0:Int) (3:Int))) []<| .br (.back []) (.back []))) (.fin []))) (p:=(l.map intD).length≤9223372036854775807→Lm intD l∧((∃(k:Nat) (o:Int),0=(k:Int)∧0=o∧k≤l.length∧o=gB (l.take k))∧ ∀(k:Nat) (o:Int),(k≤l.length∧o=gB (l.take k))→Br ((k:Int)<(l.length:Int)) (0≤(k:Int)∧Em intD l k fun e10=>eW e10 (0:Int) (3:Int)∧Bb (eI e10 (0:Int) (3:Int)) ((0≤e10∧e10≤64)∧bO ((1:Int)*2^(Int.toNat e10))∧bO ((k:Int)+1)∧ ∃(k' :Nat) (o' :Int),((k:Int)+1)=(k' :Int)∧(cI .or .i64 o ((1:Int)*2^(Int.toNat e10)))=o' ∧(k' ≤l.length∧o' =gB (l.take k'))∧l.length - k' <l.length - k) (bO ((k:Int)+1)∧ ∃(k' :Nat) (o' :Int),((k:Int)+1)=(k' :Int)∧o=o' ∧(k' ≤l.length∧o' =gB (l.take k'))∧l.length - k' <l.length - k)) (o=(gB l)∧True))) (by kernel_rfl) ?_
 intro n0
 simp only[List.length_map] at n0
 refine⟨List.length_map _,⟨0,0,rfl,rfl,Nat.zero_le _,rfl⟩,fun k o ⟨hk,hv⟩=>?_⟩
 refine dd (fun c0=>?_) fun c0=>?_
 ·refine⟨by omega,rfl,by omega,fun e10 h10=>?_⟩
  try (obtain rfl:=(aZ h10 h10).symm)
  refine⟨iV _ _ _,db (fun c1=>?_) fun c1=>?_⟩
  ·obtain⟨w1,w2,w3⟩:=aDa c1
   refine⟨⟨by omega,by omega⟩,by exact w1,by exact⟨by omega,by omega⟩,?_⟩
   exact⟨k+1,_,rfl,rfl,⟨by omega,by (rw[bU h10,rO,aNC c1,hv];done)⟩,by omega⟩
  ·refine⟨by exact⟨by omega,by omega⟩,?_⟩
   exact⟨k+1,_,rfl,rfl,⟨by omega,by (rw[bU h10,rO,aPt c1,hv];done)⟩,by omega⟩
 ·refine⟨?_,trivial⟩
  ·rw[hv,List.take_of_length_le (by omega)]
abbrev aEP (l:List Int):Prop:=cH Tryz.prog 197 [.one (.sl 3 1 (l.map intD))] (vI (gB l)) []
theorem aRN (l:List Int):aEP l:=by
 refine aW bH aO Tryz.func197 (by kernel_rfl) (.loop (Nat × Int) (Q2 Nat Int) (rg 3 20) [] (fun yy0=>[(4,vI (yy0.1:Int)),(3,vI yy0.2)]) (fun yy0=>[]) (fun yy0=>yy0.1≤l.length∧yy0.2=gB (l.take yy0.1)) (fun yy0=>l.length - yy0.1) (fun yy0=> .len l.length<| .br (.elem _ intD l (fun e13=> .call (vB (eI e13 (0:Int) (3:Int))) []<| .br (.elem _ intD l (fun e19=> .back [])) (.back []))) (.fin []))) (p:=(l.map intD).length≤9223372036854775807→(∃(k:Nat) (o:Int),0=(k:Int)∧0=o∧k≤l.length∧o=gB (l.take k))∧ ∀(k:Nat) (o:Int),(k≤l.length∧o=gB (l.take k))→Lm intD l∧Br ((k:Int)<(l.length:Int)) (0≤(k:Int)∧Em intD l k fun e13=>eX e13 (0:Int) (3:Int)∧Bb (eI e13 (0:Int) (3:Int)) (0≤(k:Int)∧Em intD l k fun e19=>(0≤e19∧e19≤64)∧bO ((1:Int)*2^(Int.toNat e19))∧bO ((k:Int)+1)∧ ∃(k' :Nat) (o' :Int),((k:Int)+1)=(k' :Int)∧(cI .or .i64 o ((1:Int)*2^(Int.toNat e19)))=o' ∧(k' ≤l.length∧o' =gB (l.take k'))∧l.length - k' <l.length - k) (bO ((k:Int)+1)∧ ∃(k' :Nat) (o' :Int),((k:Int)+1)=(k' :Int)∧o=o' ∧(k' ≤l.length∧o' =gB (l.take k'))∧l.length - k' <l.length - k)) (o=(gB l)∧True)) (by kernel_rfl) ?_
 intro n0
 simp only[List.length_map] at n0
 refine⟨⟨0,0,rfl,rfl,Nat.zero_le _,rfl⟩,fun k o ⟨hk,hv⟩=>?_⟩
 refine⟨List.length_map _,dd (fun c0=>?_) fun c0=>?_⟩
 ·refine⟨by omega,rfl,by omega,fun e13 h13=>?_⟩
  try (obtain rfl:=(aZ h13 h13).symm)
  refine⟨iW _ _ _,db (fun c1=>?_) fun c1=>?_⟩
  ·obtain⟨w1,w2,w3⟩:=aDa c1
   refine⟨by omega,rfl,by omega,fun e19 h19=>?_⟩
   try (obtain rfl:=(aZ h13 h19).symm)
   refine⟨⟨by omega,by omega⟩,by exact w1,by exact⟨by omega,by omega⟩,?_⟩
   exact⟨k+1,_,rfl,rfl,⟨by omega,by (rw[bU h13,rO,aNC c1,hv];done)⟩,by omega⟩
  ·refine⟨by exact⟨by omega,by omega⟩,?_⟩
   exact⟨k+1,_,rfl,rfl,⟨by omega,by (rw[bU h13,rO,aPt c1,hv];done)⟩,by omega⟩
 ·refine⟨?_,trivial⟩
  ·rw[hv,List.take_of_length_le (by omega)]
abbrev aEQ (n:Int):Prop:=cH Tryz.prog 209 [.one (.int .i64 n)] (vI (pU n)) []
theorem aRO (n:Int):aEQ n:=by
 refine aW bH aO Tryz.func209 (by kernel_rfl) (.call (vB (eI n (1:Int) (4096:Int))) []<| .br (.fin []) (.loop Nat (Q1 Nat) [3,7,8,9,10,11,12] [] (fun b=>[(3,vI (b:Int))]) (fun b=>[]) (fun b=>b≤12∧jY (12 - b) b n=jY 12 0 n) (fun b=>12 - b) (fun b=> .br (.back []) (.fin [])))) (p:=eW n (1:Int) (4096:Int)∧Nr (eI n (1:Int) (4096:Int)) ((-1:Int)=(pU n)∧True) ((∃(b:Nat),0=(b:Int)∧b≤12∧jY (12 - b) b n=jY 12 0 n)∧ ∀(b:Nat),(b≤12∧jY (12 - b) b n=jY 12 0 n)→(0≤(b:Int)∧(b:Int)≤64)∧bO ((1:Int)*2^b)∧Br (((1:Int)*2^b)<n) (bO ((b:Int)+1)∧ ∃(b' :Nat),((b:Int)+1)=(b' :Int)∧(b' ≤12∧jY (12 - b') b' n=jY 12 0 n)∧12 - b' <12 - b) ((b:Int)=(pU n)∧True))) (by kernel_rfl) ?_
 refine⟨iV _ _ _,dm (fun c0=>?_) fun c0=>?_⟩
 ·have hn:eI n 1 4096=false:=by simpa using c0
  refine⟨?_,trivial⟩
  ·(rw[pU,if_neg (by rw[hn];decide)];done)
 ·have hn:eI n 1 4096=true:=by simpa using c0
  obtain⟨w1,w2⟩:=eG hn
  refine⟨⟨0,rfl,by omega,rfl⟩,fun b ⟨hb,hr⟩=>?_⟩
  refine⟨⟨by omega,by omega⟩,by (have hp:=aPK b hb;exact⟨by omega,by omega⟩),dd (fun c1=>?_) fun c1=>?_⟩
  ·obtain⟨w3,w4⟩:=aHF w2 hb (by omega)
   refine⟨by exact⟨by omega,by omega⟩,?_⟩
   exact⟨b+1,rfl,⟨by omega,by rw[w4];exact hr⟩,by omega⟩
  ·have w5:=aHG (b:=b) (n:=n) (by omega) (12 - b)
   refine⟨?_,trivial⟩
   ·(rw[pU,if_pos hn,←hr,w5])
abbrev aER (n:Int):Prop:=cH Tryz.prog 198 [.one (.int .i64 n)] (vI (pU n)) []
theorem aRP (n:Int):aER n:=by
 refine aW bH aO Tryz.func198 (by kernel_rfl) (.call (vB (eI n (1:Int) (4096:Int))) []<| .br (.fin []) (.loop Nat (Q1 Nat) [3,7,8,9,10,11,12] [] (fun b=>[(3,vI (b:Int))]) (fun b=>[]) (fun b=>b≤12∧jY (12 - b) b n=jY 12 0 n) (fun b=>12 - b) (fun b=> .br (.back []) (.fin [])))) (p:=eX n (1:Int) (4096:Int)∧Nr (eI n (1:Int) (4096:Int)) ((-1:Int)=(pU n)∧True) ((∃(b:Nat),0=(b:Int)∧b≤12∧jY (12 - b) b n=jY 12 0 n)∧ ∀(b:Nat),(b≤12∧jY (12 - b) b n=jY 12 0 n)→(0≤(b:Int)∧(b:Int)≤64)∧bO ((1:Int)*2^b)∧Br (((1:Int)*2^b)<n) (bO ((b:Int)+1)∧ ∃(b' :Nat),((b:Int)+1)=(b' :Int)∧(b' ≤12∧jY (12 - b') b' n=jY 12 0 n)∧12 - b' <12 - b) ((b:Int)=(pU n)∧True))) (by kernel_rfl) ?_
 refine⟨iW _ _ _,dm (fun c0=>?_) fun c0=>?_⟩
 ·have hn:eI n 1 4096=false:=by simpa using c0
  refine⟨?_,trivial⟩
  ·(rw[pU,if_neg (by rw[hn];decide)];done)
 ·have hn:eI n 1 4096=true:=by simpa using c0
  obtain⟨w1,w2⟩:=eG hn
  refine⟨⟨0,rfl,by omega,rfl⟩,fun b ⟨hb,hr⟩=>?_⟩
  refine⟨⟨by omega,by omega⟩,by (have hp:=aPK b hb;exact⟨by omega,by omega⟩),dd (fun c1=>?_) fun c1=>?_⟩
  ·obtain⟨w3,w4⟩:=aHF w2 hb (by omega)
   refine⟨by exact⟨by omega,by omega⟩,?_⟩
   exact⟨b+1,rfl,⟨by omega,by rw[w4];exact hr⟩,by omega⟩
  ·have w5:=aHG (b:=b) (n:=n) (by omega) (12 - b)
   refine⟨?_,trivial⟩
   ·(rw[pU,if_pos hn,←hr,w5])
theorem aYB (l:List dG)(a:List Int):(0:Int)=m4 (iG l 0 a 0):=by simp[m4,b4,iG,aFC]
theorem aUE (n:Nat)(l:List dG)(a:List Int):List.replicate n false=(List.range n).map (iG l 0 a 0):=by
 apply List.ext_getElem?
 intro i
 rw[List.getElem?_map,List.getElem?_replicate]
 by_cases hi:i<n
 ·rw[if_pos hi,List.getElem?_range hi];simp[iG,aFC]
 ·rw[if_neg hi,show (List.range n)[i]? =none from List.getElem?_eq_none (by simp;omega)];rfl
theorem aUF {l:List Bool}{v:Bool}:decide (0≤kY (fun y=>v==y) l)=decide (v∈l):=by
 apply Bool.eq_iff_iff.2
 rw[decide_eq_true_eq,decide_eq_true_eq]
 constructor
 ·intro h
  obtain⟨k,x,_,hx,hf⟩:=qP.2 h
  have h1:=List.find?_some hf
  have:v=x:=by simpa using h1
  rw[this];exact List.mem_of_getElem? hx
 ·intro h
  rcases Int.lt_or_le (kY (fun y=>v==y) l) 0 with q | q
  ·have:=qP.1 q
   rw[List.find?_eq_none] at this
   exact absurd (this v h) (by simp)
  ·exact q
abbrev aWq (l:List Bool)(v:Bool):Prop:=cH Tryz.prog 236 [.one (.sl 4 1 (l.map jQ)),.one (.bool v)] (vI (kY (fun y=>v==y) l)) []
theorem ixB (l:List Bool)(v:Bool):aWq l v:=by
 refine aW bH aO Tryz.func236 (by kernel_rfl) (.len l.length<| .loop Nat (Q1 Nat) ([5]++rg 8 9++[18]) [] (fun k=>[(8,vI (k:Int))]) (fun k=>[]) (fun k=>k≤l.length∧(l.take k).all (fun y=> !(v==y))=true) (fun k=>l.length - k) (fun k=> .br (.elem _ jQ l (fun e14=> .br (.fin []) (.back []))) (.fin []))) (p:=(l.map jQ).length≤9223372036854775807→Lm jQ l∧((∃(k:Nat),0=(k:Int)∧k≤l.length∧(l.take k).all (fun y=> !(v==y))=true)∧ ∀(k:Nat),(k≤l.length∧(l.take k).all (fun y=> !(v==y))=true)→Br ((k:Int)<(l.length:Int)) (0≤(k:Int)∧Em jQ l k fun e14=>Bb (v==e14) ((k:Int)=(kY (fun y=>v==y) l)∧True) (bO ((k:Int)+1)∧ ∃(k' :Nat),((k:Int)+1)=(k' :Int)∧(k' ≤l.length∧(l.take k').all (fun y=> !(v==y))=true)∧l.length - k' <l.length - k)) ((-1:Int)=(kY (fun y=>v==y) l)∧True))) (by kernel_rfl) ?_
 intro n0
 simp only[List.length_map] at n0
 refine⟨List.length_map _,⟨0,rfl,Nat.zero_le _,rfl⟩,fun k ⟨hk,ha⟩=>?_⟩
 refine dd (fun c0=>?_) fun c0=>?_
 ·refine⟨by omega,rfl,by omega,fun e14 h14=>?_⟩
  refine db (fun c1=>?_) fun c1=>?_
  ·refine⟨?_,trivial⟩
   ·(rw[aLL h14 ha c1];done)
  ·refine⟨⟨by omega,by omega⟩,?_⟩
   exact⟨k+1,rfl,⟨by omega,cL h14 ha (by rw[c1];rfl)⟩,by omega⟩
 ·refine⟨?_,trivial⟩
  ·(rw[aFU (dC (by omega) ha)];done)
abbrev aWr (l:List Bool)(v:Bool):Prop:=cH Tryz.prog 193 [.one (.sl 4 1 (l.map jQ)),.one (.bool v)] (vB (decide (v∈l))) []
theorem ctB (l:List Bool)(v:Bool):aWr l v:=by
 refine aW bH aO Tryz.func193 (by kernel_rfl) (.call (vI (kY (fun y=>v==y) l)) []<| .fin []) (p:=(l.map jQ).length≤9223372036854775807→aWq l v∧(decide (0≤(kY (fun y=>v==y) l)))=(decide (v∈l))∧True) (by kernel_rfl) ?_
 intro n0
 simp only[List.length_map] at n0
 refine⟨ixB _ _,?_,trivial⟩
 ·exact aUF
abbrev vL (q:QueryD):Prop:=cH Tryz.prog 134 [.agg [.int .i64 q.variableCount,.sl 125 2 (q.atoms.map bM)]] (vB (cO q)) []
theorem aHJ (q:QueryD):vL q:=by
 refine aW bH aO Tryz.func134 (by kernel_rfl) (.call (vB (eI q.variableCount (1:Int) (4:Int))) []<| .br (.fin []) (.len q.atoms.length<| .call (vB (eI (q.atoms.length:Int) (1:Int) (4:Int))) []<| .lit<| .lit<| .br (.fin []) (.mk ((q.variableCount).toNat) [.bool false] ((List.replicate ((q.variableCount).toNat) false).map jQ)<| .len q.atoms.length<| .loop (Nat × (List Bool)) (Q2 Nat (List Bool)) ([5,6,7]++rg 25 42) [500,2100] (fun yy0=>[(25,vI (yy0.1:Int))]) (fun yy0=>[(2100,some (.arr 4 1 true (yy0.2.map jQ)))]) (fun yy0=>yy0.1≤q.atoms.length∧yy0.2=(List.range q.variableCount.toNat).map (iG q.atoms yy0.1 [] 0)∧(q.atoms.take yy0.1).all (eR q.variableCount)=true) (fun yy0=>q.atoms.length - yy0.1) (fun yy0=> .br (.elem _ bM q.atoms (fun e27=> .call (vB (gJ e27.name)) []<| .br (.fin []) (.len e27.vars.length<| .call (vB (eI (e27.vars.length:Int) (1:Int) (3:Int))) []<| .lit<| .lit<| .br (.fin []) (.len e27.vars.length<| .loop (Nat × (List Bool)) (Q2 Nat (List Bool)) ([6,7]++rg 43 23) [2100] (fun yy1=>[(43,vI (yy1.1:Int))]) (fun yy1=>[(2100,some (.arr 4 1 true (yy1.2.map jQ)))]) (fun yy1=>yy1.1≤e27.vars.length∧yy1.2=(List.range q.variableCount.toNat).map (iG q.atoms yy0.1 e27.vars yy1.1)∧(List.range yy1.1).all (lQ q.variableCount e27.vars)=true) (fun yy1=>e27.vars.length - yy1.1) (fun yy1=> .br (.elem _ intD e27.vars (fun e46=> .call (vB (eI e46 (0:Int) (q.variableCount - 1))) []<| .br (.fin []) (.sub Int intD e27.vars<| .call (vB (decide (e46∈(e27.vars.take yy1.1)))) []<| .lit<| .br (.fin []) (.len yy1.2.length<| .set Bool jQ yy1.2 (fun s14_3=>true) (fun s14_3=> .back [(2100,2100)]))))) (.back [(2100,2100)])))))) (.call (vB (decide (false∈yy0.2))) []<| .fin []))))) (p:=(q.atoms.map bM).length≤9223372036854775807→eW q.variableCount (1:Int) (4:Int)∧Nr (eI q.variableCount (1:Int) (4:Int)) ((false)=(cO q)∧True) (Lm bM q.atoms∧(eW (q.atoms.length:Int) (1:Int) (4:Int)∧Nr (eI (q.atoms.length:Int) (1:Int) (4:Int)) ((false)=(cO q)∧True) (q.variableCount=(((q.variableCount).toNat:Nat):Int)∧q.variableCount=(((q.variableCount).toNat:Nat):Int)∧1*((q.variableCount).toNat)≤281474976710656∧((q.variableCount).toNat)≤9223372036854775807∧List.replicate ((q.variableCount).toNat) [.bool false]=(List.replicate ((q.variableCount).toNat) false).map jQ∧(Lm bM q.atoms∧((∃(k:Nat) (sn:List Bool),0=(k:Int)∧(List.replicate ((q.variableCount).toNat) false).map jQ=sn.map jQ∧k≤q.atoms.length∧sn=(List.range q.variableCount.toNat).map (iG q.atoms k [] 0)∧(q.atoms.take k).all (eR q.variableCount)=true)∧ ∀(k:Nat) (sn:List Bool),(k≤q.atoms.length∧sn=(List.range q.variableCount.toNat).map (iG q.atoms k [] 0)∧(q.atoms.take k).all (eR q.variableCount)=true)→Br ((k:Int)<(q.atoms.length:Int)) (0≤(k:Int)∧Em bM q.atoms k fun e27=>yB e27.name∧Nr (gJ e27.name) ((false)=(cO q)∧True) (Lm intD e27.vars∧(eW (e27.vars.length:Int) (1:Int) (3:Int)∧Nr (eI (e27.vars.length:Int) (1:Int) (3:Int)) ((false)=(cO q)∧True) (Lm intD e27.vars∧((∃(i:Nat) (sm:List Bool),0=(i:Int)∧sn.map jQ=sm.map jQ∧i≤e27.vars.length∧sm=(List.range q.variableCount.toNat).map (iG q.atoms k e27.vars i)∧(List.range i).all (lQ q.variableCount e27.vars)=true)∧ ∀(i:Nat) (sm:List Bool),(i≤e27.vars.length∧sm=(List.range q.variableCount.toNat).map (iG q.atoms k e27.vars i)∧(List.range i).all (lQ q.variableCount e27.vars)=true)→Br ((i:Int)<(e27.vars.length:Int)) (0≤(i:Int)∧Em intD e27.vars i fun e46=>bO (q.variableCount - 1)∧(eW e46 (0:Int) (q.variableCount - 1)∧Nr (eI e46 (0:Int) (q.variableCount - 1)) ((false)=(cO q)∧True) (e27.vars.map intD=e27.vars.map intD∧0≤(i:Int)∧(i:Int)≤(e27.vars.length:Int)∧(aMo (e27.vars.take i) e46∧Bb (decide (e46∈(e27.vars.take i))) ((false)=(cO q)∧True) (0≤e46∧Lm jQ sm∧e46<(sm.length:Int)∧(sm.map jQ=sm.map jQ∧(e46).toNat<sm.length∧ ∀s14_3,sm[(e46).toNat]? =some s14_3→bW (jQ s14_3)=true∧0+1≤(jQ s14_3).length∧(jQ s14_3).take 0++[.bool true]++(jQ s14_3).drop (0+1)=jQ true∧bO ((i:Int)+1)∧ ∃(i' :Nat) (sm' :List Bool),((i:Int)+1)=(i' :Int)∧(sm.set ((e46).toNat) true).map jQ=sm'.map jQ∧(i' ≤e27.vars.length∧sm' =(List.range q.variableCount.toNat).map (iG q.atoms k e27.vars i')∧(List.range i').all (lQ q.variableCount e27.vars)=true)∧e27.vars.length - i' <e27.vars.length - i)))))) (bO ((k:Int)+1)∧ ∃(k' :Nat) (sn' :List Bool),((k:Int)+1)=(k' :Int)∧sm.map jQ=sn'.map jQ∧(k' ≤q.atoms.length∧sn' =(List.range q.variableCount.toNat).map (iG q.atoms k' [] 0)∧(q.atoms.take k').all (eR q.variableCount)=true)∧q.atoms.length - k' <q.atoms.length - k)))))) (aWr sn false∧(!(decide (false∈sn)))=(cO q)∧True))))))) (by kernel_rfl) ?_
 intro n0
 simp only[List.length_map] at n0
 refine⟨iV _ _ _,dm (fun g12=>?_) fun g12=>?_⟩
 ·have hbad:(eI q.variableCount 1 4&&eI (q.atoms.length:Nat) 1 4)=false:=by (rw[g12];rfl)
  refine⟨?_,trivial⟩
  ·(exact(aLM hbad).symm)
 ·refine⟨List.length_map _,iV _ _ _,dm (fun c0=>?_) fun c0=>?_⟩
  ·have hbad:(eI q.variableCount 1 4&&eI (q.atoms.length:Nat) 1 4)=false:=by (rw[g12,c0];rfl)
   refine⟨?_,trivial⟩
   ·(exact(aLM hbad).symm)
  ·have hpar:(eI q.variableCount 1 4&&eI (q.atoms.length:Nat) 1 4)=true:=by rw[g12,c0];rfl
   have hn:=eG g12
   refine⟨by omega,by omega,by omega,by omega,by (rw[List.map_replicate];rfl),List.length_map _,⟨0,List.replicate ((q.variableCount).toNat) false,rfl,rfl,Nat.zero_le _,aUE _ _ _,rfl⟩,fun k sn ⟨hk,hs,ha⟩=>?_⟩
   refine dd (fun c1=>?_) fun c1=>?_
   ·refine⟨by omega,rfl,by omega,fun e27 h27=>?_⟩
    refine⟨aJ8 _,dm (fun g33=>?_) fun g33=>?_⟩
    ·have hA:eR q.variableCount e27=false:=by (rw[eR,g33];rfl)
     refine⟨?_,trivial⟩
     ·(exact(pT h27 hA).symm)
    ·refine⟨List.length_map _,iV _ _ _,dm (fun c2=>?_) fun c2=>?_⟩
     ·have hA:eR q.variableCount e27=false:=by (rw[eR,g33,c2];rfl)
      refine⟨?_,trivial⟩
      ·(exact(pT h27 hA).symm)
     ·have w9:=eG c2
      refine⟨List.length_map _,⟨0,sn,rfl,rfl,Nat.zero_le _,by rw[hs,aGw],rfl⟩,fun i sm ⟨hi,hm,hv⟩=>?_⟩
      have hml:sm.length=q.variableCount.toNat:=by rw[hm];simp
      refine dd (fun c3=>?_) fun c3=>?_
      ·refine⟨by omega,rfl,by omega,fun e46 h46=>?_⟩
       have hx:=List.mem_of_getElem? h46
       refine⟨by exact⟨by omega,by omega⟩,iV _ _ _,dm (fun g54=>?_) fun g54=>?_⟩
       ·have hp:lQ q.variableCount e27.vars i=false:=by (rw[lQ,bQ h46,g54];rfl)
        have hA:eR q.variableCount e27=false:=by rw[eR,yS,iA (by omega) hp];simp
        refine⟨?_,trivial⟩
        ·(exact(pT h27 hA).symm)
       ·refine⟨rfl,by omega,by omega,ctI _ _,db (fun c4=>?_) fun c4=>?_⟩
        ·have hp:lQ q.variableCount e27.vars i=false:=by (rw[lQ,bQ h46,g54,c4];rfl)
         have hA:eR q.variableCount e27=false:=by rw[eR,yS,iA (by omega) hp];simp
         refine⟨?_,trivial⟩
         ·(exact(pT h27 hA).symm)
        ·have hp:lQ q.variableCount e27.vars i=true:=by rw[lQ,bQ h46,g54,c4];rfl
         have hb:=eG g54
         refine⟨by omega,List.length_map _,by omega,rfl,by omega,fun s14_3 hs14_3=>⟨rfl,Nat.le_of_ble_eq_true rfl,rfl,?_⟩⟩
         refine⟨by exact⟨by omega,by omega⟩,?_⟩
         exact⟨i+1,_,rfl,rfl,⟨by omega,by rw[hm,aTs,aGx h46 (by omega)],jN hv hp⟩,by omega⟩
      ·have hA:eR q.variableCount e27=true:=by rw[eR,g33,c2,yS,show e27.vars.length=i by omega,hv];rfl
       refine⟨by exact⟨by omega,by omega⟩,?_⟩
       exact⟨k+1,_,rfl,rfl,⟨by omega,by rw[hm,aGy h27 (by omega) []],cL h27 ha hA⟩,by omega⟩
   ·have hall:=dC (by omega) ha
    refine⟨ctB _ _,?_,trivial⟩
    ·(rw[aPq hpar hall,hs,aJs (by omega),aTt])
abbrev vM (q:QueryD):Prop:=cH Tryz.prog 125 [.agg [.int .i64 q.variableCount,.sl 125 2 (q.atoms.map bM)]] (vB (cO q)) []
theorem aHK (q:QueryD):vM q:=by
 refine aW bH aO Tryz.func125 (by kernel_rfl) (.call (vB (eI q.variableCount (1:Int) (4:Int))) []<| .br (.fin []) (.len q.atoms.length<| .call (vB (eI (q.atoms.length:Int) (1:Int) (4:Int))) []<| .lit<| .lit<| .br (.fin []) (.loop (Nat × Int) (Q2 Nat Int) ([3,4,5,6]++rg 18 60) [500] (fun yy0=>[(4,vI (yy0.1:Int)),(3,vI yy0.2)]) (fun yy0=>[]) (fun yy0=>yy0.1≤q.atoms.length∧yy0.2=m4 (iG q.atoms yy0.1 [] 0)∧(q.atoms.take yy0.1).all (eR q.variableCount)=true) (fun yy0=>q.atoms.length - yy0.1) (fun yy0=> .len q.atoms.length<| .br (.elem _ bM q.atoms (fun e28=> .call (vB (gJ e28.name)) []<| .br (.fin []) (.len e28.vars.length<| .call (vB (eI (e28.vars.length:Int) (1:Int) (3:Int))) []<| .lit<| .lit<| .br (.fin []) (.loop (Nat × Int) (Q2 Nat Int) ([3,6]++rg 41 37) [] (fun yy1=>[(6,vI (yy1.1:Int)),(3,vI yy1.2)]) (fun yy1=>[]) (fun yy1=>yy1.1≤e28.vars.length∧yy1.2=m4 (iG q.atoms yy0.1 e28.vars yy1.1)∧(List.range yy1.1).all (lQ q.variableCount e28.vars)=true) (fun yy1=>e28.vars.length - yy1.1) (fun yy1=> .len e28.vars.length<| .br (.elem _ intD e28.vars (fun e51=> .call (vB (eI e51 (0:Int) (q.variableCount - 1))) []<| .br (.fin []) (.sub Int intD e28.vars<| .elem _ intD e28.vars (fun e66=> .call (vB (decide (e66∈(e28.vars.take yy1.1)))) []<| .lit<| .br (.fin []) (.elem _ intD e28.vars (fun e74=> .back [])))))) (.back [])))))) (.fin []))))) (p:=(q.atoms.map bM).length≤9223372036854775807→eX q.variableCount (1:Int) (4:Int)∧Nr (eI q.variableCount (1:Int) (4:Int)) ((false)=(cO q)∧True) (Lm bM q.atoms∧(eX (q.atoms.length:Int) (1:Int) (4:Int)∧Nr (eI (q.atoms.length:Int) (1:Int) (4:Int)) ((false)=(cO q)∧True) ((∃(k:Nat) (o:Int),0=(k:Int)∧0=o∧k≤q.atoms.length∧o=m4 (iG q.atoms k [] 0)∧(q.atoms.take k).all (eR q.variableCount)=true)∧ ∀(k:Nat) (o:Int),(k≤q.atoms.length∧o=m4 (iG q.atoms k [] 0)∧(q.atoms.take k).all (eR q.variableCount)=true)→Lm bM q.atoms∧Br ((k:Int)<(q.atoms.length:Int)) (0≤(k:Int)∧Em bM q.atoms k fun e28=>yC e28.name∧Nr (gJ e28.name) ((false)=(cO q)∧True) (Lm intD e28.vars∧(eX (e28.vars.length:Int) (1:Int) (3:Int)∧Nr (eI (e28.vars.length:Int) (1:Int) (3:Int)) ((false)=(cO q)∧True) ((∃(i:Nat) (p:Int),0=(i:Int)∧o=p∧i≤e28.vars.length∧p=m4 (iG q.atoms k e28.vars i)∧(List.range i).all (lQ q.variableCount e28.vars)=true)∧ ∀(i:Nat) (p:Int),(i≤e28.vars.length∧p=m4 (iG q.atoms k e28.vars i)∧(List.range i).all (lQ q.variableCount e28.vars)=true)→Lm intD e28.vars∧Br ((i:Int)<(e28.vars.length:Int)) (0≤(i:Int)∧Em intD e28.vars i fun e51=>bO (q.variableCount - 1)∧eX e51 (0:Int) (q.variableCount - 1)∧Nr (eI e51 (0:Int) (q.variableCount - 1)) ((false)=(cO q)∧True) (e28.vars.map intD=e28.vars.map intD∧0≤(i:Int)∧(i:Int)≤(e28.vars.length:Int)∧0≤(i:Int)∧Em intD e28.vars i fun e66=>aTn (e28.vars.take i) e66∧Bb (decide (e66∈(e28.vars.take i))) ((false)=(cO q)∧True) (0≤(i:Int)∧Em intD e28.vars i fun e74=>(0≤e74∧e74≤64)∧bO ((1:Int)*2^(Int.toNat e74))∧bO ((i:Int)+1)∧ ∃(i' :Nat) (p' :Int),((i:Int)+1)=(i' :Int)∧(cI .or .i64 p ((1:Int)*2^(Int.toNat e74)))=p' ∧(i' ≤e28.vars.length∧p' =m4 (iG q.atoms k e28.vars i')∧(List.range i').all (lQ q.variableCount e28.vars)=true)∧e28.vars.length - i' <e28.vars.length - i))) (bO ((k:Int)+1)∧ ∃(k' :Nat) (o' :Int),((k:Int)+1)=(k' :Int)∧p=o' ∧(k' ≤q.atoms.length∧o' =m4 (iG q.atoms k' [] 0)∧(q.atoms.take k').all (eR q.variableCount)=true)∧q.atoms.length - k' <q.atoms.length - k))))) ((0≤q.variableCount∧q.variableCount≤64)∧bO ((1:Int)*2^(Int.toNat q.variableCount))∧bO (((1:Int)*2^(Int.toNat q.variableCount)) - 1)∧(decide (o=(((1:Int)*2^(Int.toNat q.variableCount)) - 1)))=(cO q)∧True))))) (by kernel_rfl) ?_
 intro n0
 simp only[List.length_map] at n0
 refine⟨iW _ _ _,dm (fun g11=>?_) fun g11=>?_⟩
 ·have hbad:(eI q.variableCount 1 4&&eI (q.atoms.length:Nat) 1 4)=false:=by (rw[g11];rfl)
  refine⟨?_,trivial⟩
  ·(exact(aLM hbad).symm)
 ·refine⟨List.length_map _,iW _ _ _,dm (fun c0=>?_) fun c0=>?_⟩
  ·have hbad:(eI q.variableCount 1 4&&eI (q.atoms.length:Nat) 1 4)=false:=by (rw[g11,c0];rfl)
   refine⟨?_,trivial⟩
   ·(exact(aLM hbad).symm)
  ·have hpar:(eI q.variableCount 1 4&&eI (q.atoms.length:Nat) 1 4)=true:=by rw[g11,c0];rfl
   have hn:=eG g11
   refine⟨⟨0,(0:Int),rfl,rfl,Nat.zero_le _,aYB _ _,rfl⟩,fun k o ⟨hk,hs,ha⟩=>?_⟩
   refine⟨List.length_map _,dd (fun c1=>?_) fun c1=>?_⟩
   ·refine⟨by omega,rfl,by omega,fun e28 h28=>?_⟩
    refine⟨aJ9 _,dm (fun g34=>?_) fun g34=>?_⟩
    ·have hA:eR q.variableCount e28=false:=by (rw[eR,g34];rfl)
     refine⟨?_,trivial⟩
     ·(exact(pT h28 hA).symm)
    ·refine⟨List.length_map _,iW _ _ _,dm (fun c2=>?_) fun c2=>?_⟩
     ·have hA:eR q.variableCount e28=false:=by (rw[eR,g34,c2];rfl)
      refine⟨?_,trivial⟩
      ·(exact(pT h28 hA).symm)
     ·have w9:=eG c2
      refine⟨⟨0,o,rfl,rfl,Nat.zero_le _,by rw[hs,aGw],rfl⟩,fun i p ⟨hi,hm,hv⟩=>?_⟩
      refine⟨List.length_map _,dd (fun c3=>?_) fun c3=>?_⟩
      ·refine⟨by omega,rfl,by omega,fun e51 h51=>?_⟩
       have hx:=List.mem_of_getElem? h51
       refine⟨by exact⟨by omega,by omega⟩,iW _ _ _,dm (fun g58=>?_) fun g58=>?_⟩
       ·have hp:lQ q.variableCount e28.vars i=false:=by (rw[lQ,bQ h51,g58];rfl)
        have hA:eR q.variableCount e28=false:=by rw[eR,yS,iA (by omega) hp];simp
        refine⟨?_,trivial⟩
        ·(exact(pT h28 hA).symm)
       ·refine⟨rfl,by omega,by omega,by omega,rfl,by omega,fun e66 h66=>?_⟩
        obtain rfl:=(aZ h51 h66).symm
        refine⟨hsI _ _,db (fun c4=>?_) fun c4=>?_⟩
        ·have hp:lQ q.variableCount e28.vars i=false:=by (rw[lQ,bQ h51,g58,c4];rfl)
         have hA:eR q.variableCount e28=false:=by rw[eR,yS,iA (by omega) hp];simp
         refine⟨?_,trivial⟩
         ·(exact(pT h28 hA).symm)
        ·have hp:lQ q.variableCount e28.vars i=true:=by rw[lQ,bQ h51,g58,c4];rfl
         have hb:=eG g58
         obtain⟨w1,w2,w3⟩:=aDa (x:=e51) (pX (by omega) (by omega))
         refine⟨by omega,rfl,by omega,fun e74 h74=>?_⟩
         obtain rfl:=(aZ h51 h74).symm
         refine⟨⟨by omega,by omega⟩,by exact w1,by exact⟨by omega,by omega⟩,?_⟩
         exact⟨i+1,_,rfl,rfl,⟨by omega,by rw[hm,aTq (by omega),aGx h51 (by omega)],jN hv hp⟩,by omega⟩
      ·have hA:eR q.variableCount e28=true:=by rw[eR,g34,c2,yS,show e28.vars.length=i by omega,hv];rfl
       refine⟨by exact⟨by omega,by omega⟩,?_⟩
       exact⟨k+1,_,rfl,rfl,⟨by omega,by rw[hm,aGy h28 (by omega) []],cL h28 ha hA⟩,by omega⟩
   ·have hall:=dC (by omega) ha
    obtain⟨w1,w2,w3⟩:=aDa (x:=q.variableCount - 1) (pX (by omega) (by omega))
    have w4:=mG (n:=q.variableCount.toNat) ⟨by omega,by omega⟩
    refine⟨⟨by omega,by omega⟩,by exact⟨by omega,by omega⟩,by exact⟨by omega,by omega⟩,?_,trivial⟩
    ·(rw[aPq hpar hall,hs,aJs (by omega)];exact aWM hn fun v hv=>aTu hall hn.1 hv)
abbrev yW (d:aV)(f:bD):AV × List (Nat × Rs):=(.own 0,[(0,.arr 3 1 true ((kE d f).map intD))])
abbrev aES (d:aV)(f:bD):Prop:=cH Tryz.prog 232 [.agg [.sl 142 3 (d.tables.map aT)],.agg [.str f.name,.sl 3 1 (f.src.map intD),.int .i64 f.dst]] (yW d f).1 (yW d f).2
theorem aRQ (d:aV)(f:bD)(hc:bR d≤1048576):aES d f:=by
 refine aW bH aO Tryz.func232 (by kernel_rfl) (.call (vB (iJ d f)) []<| .br (.fin []) (.call (.tup [.agg [.p none (.str ((aL d f.name).1.name)),vI ((aL d f.name).1.arity),.p none (.sl 91 1 ((aL d f.name).1.rows.map aC))],vB ((aL d f.name).2)]) []<| .len ((aL d f.name).1.rows.length)<| .loop Nat (Q1 Nat) (rg 7 8++rg 29 45++[77,78]) [4800,5500] (fun k=>[(29,vI (k:Int))]) (fun k=>[]) (fun k=>k≤(aL d f.name).1.rows.length∧lD (aL d f.name).1.rows f.src f.dst k= []) (fun k=>(aL d f.name).1.rows.length - k) (fun k=> .br (.elem _ aC ((aL d f.name).1.rows) (fun e32=> .sub (List Int) aC ((aL d f.name).1.rows)<| .len (((aL d f.name).1.rows.take k).length)<| .loop Nat (Q1 Nat) ([9,10,11,12,13,14]++rg 39 35++[77]) [4800,5500] (fun i=>[(39,vI (i:Int))]) (fun i=>[]) (fun i=>i≤k∧kO (aL d f.name).1.rows f.src f.dst k i= []) (fun i=>k - i) (fun i=> .br (.elem _ aC ((aL d f.name).1.rows.take k) (fun e42=>bL (oJ e42 f.src)<| bL (oJ e32 f.src)<| .call (vB (decide (((fH e42 f.src).1)=((fH e32 f.src).1)))) []<| .br (.elem _ intD e42 (fun e65=> .elem _ intD e32 (fun e70=> .lit<| .lit<| .lit<| .br (.fin [(0,7600)]) (.back [])))) (.back []))) (.back [])))) (.fin [])))) (p:=(d.tables.map aT).length≤9223372036854775807→(f.src.map intD).length≤9223372036854775807→vA d f∧Nr (iJ d f) ([]=(kE d f).map intD∧True) (cH Tryz.prog 86 [.agg [.sl 142 3 (d.tables.map aT)],.one (.str f.name)] (.tup [.agg [.p none (.str ((aL d f.name).1.name)),vI ((aL d f.name).1.arity),.p none (.sl 91 1 ((aL d f.name).1.rows.map aC))],vB ((aL d f.name).2)]) []∧(Lm aC ((aL d f.name).1.rows)∧((∃(k:Nat),0=(k:Int)∧k≤(aL d f.name).1.rows.length∧lD (aL d f.name).1.rows f.src f.dst k= [])∧ ∀(k:Nat),(k≤(aL d f.name).1.rows.length∧lD (aL d f.name).1.rows f.src f.dst k= [])→Br ((k:Int)<(((aL d f.name).1.rows.length:Nat):Int)) (0≤(k:Int)∧Em aC ((aL d f.name).1.rows) k fun e32=>(aL d f.name).1.rows.map aC=(aL d f.name).1.rows.map aC∧0≤(k:Int)∧(k:Int)≤(((aL d f.name).1.rows.length:Nat):Int)∧(Lm aC ((aL d f.name).1.rows.take k)∧((∃(i:Nat),0=(i:Int)∧i≤k∧kO (aL d f.name).1.rows f.src f.dst k i= [])∧ ∀(i:Nat),(i≤k∧kO (aL d f.name).1.rows f.src f.dst k i= [])→Br ((i:Int)<((((aL d f.name).1.rows.take k).length:Nat):Int)) (0≤(i:Int)∧Em aC ((aL d f.name).1.rows.take k) i fun e42=>rH e42 f.src∧rH e32 f.src∧qM ((fH e42 f.src).1) ((fH e32 f.src).1)∧Br (((fH e42 f.src).1)=((fH e32 f.src).1)) (0≤f.dst∧Em intD e42 ((f.dst).toNat) fun e65=>0≤f.dst∧Em intD e32 ((f.dst).toNat) fun e70=>Nb (e65=e70) ([[.int .i64 (i:Int)],[.int .i64 (k:Int)]]=(kE d f).map intD∧True) (bO ((i:Int)+1)∧ ∃(i' :Nat),((i:Int)+1)=(i' :Int)∧(i' ≤k∧kO (aL d f.name).1.rows f.src f.dst k i' = [])∧k - i' <k - i)) (bO ((i:Int)+1)∧ ∃(i' :Nat),((i:Int)+1)=(i' :Int)∧(i' ≤k∧kO (aL d f.name).1.rows f.src f.dst k i' = [])∧k - i' <k - i)) (bO ((k:Int)+1)∧ ∃(k' :Nat),((k:Int)+1)=(k' :Int)∧(k' ≤(aL d f.name).1.rows.length∧lD (aL d f.name).1.rows f.src f.dst k' = [])∧(aL d f.name).1.rows.length - k' <(aL d f.name).1.rows.length - k)))) ([]=(kE d f).map intD∧True))))) (by kernel_rfl) ?_
 intro n0 n1
 simp only[List.length_map] at n0 n1
 refine⟨aGq _ _ (by omega),dm (fun c0=>?_) fun c0=>?_⟩
 ·have hbad:kE d f= []:=by rw[kE,if_neg (by simpa using c0)]
  refine⟨?_,trivial⟩
  ·(rw[hbad]<;>rfl)
 ·have hok:iJ d f=true:=by simpa using c0
  obtain⟨hT,hd0,hd1,hsl⟩:=aEH hok
  have hT8:=cE hT
  have hV:kE d f=lD (aL d f.name).1.rows f.src f.dst (aL d f.name).1.rows.length:=by rw[kE,if_pos hok]
  refine⟨jT (rM _ f.name (by omega)) rfl,List.length_map _,⟨0,rfl,Nat.zero_le _,rfl⟩,fun k ⟨hk,hv⟩=>?_⟩
  refine dd (fun c1=>?_) fun c1=>?_
  ·refine⟨by omega,rfl,by omega,fun e32 h32=>?_⟩
   have hl32:=pA hT (List.mem_of_getElem? h32)
   refine⟨rfl,by omega,by omega,List.length_map _,⟨0,rfl,Nat.zero_le _,rfl⟩,fun i ⟨hi,hw⟩=>?_⟩
   have htl:((aL d f.name).1.rows.take k).length=k:=by rw[List.length_take];omega
   refine dd (fun c2=>?_) fun c2=>?_
   ·refine⟨by omega,rfl,by omega,fun e42 h42=>?_⟩
    have hx:(aL d f.name).1.rows[i]? =some e42:=by rw[List.getElem?_take_of_lt (by omega)] at h42;exact h42
    have hl42:=pA hT (List.mem_of_getElem? hx)
    have hb:=aPp (cols:=f.src) (c:=f.dst) hx h32
    refine⟨aC3 _ _ (by omega),aC3 _ _ (by omega),aCX _ _,dd (fun g61=>?_) fun g61=>?_⟩
    ·refine⟨by omega,rfl,by omega,fun e65 h65=>?_⟩
     refine⟨by omega,rfl,by omega,fun e70 h70=>?_⟩
     refine dn (fun c3=>?_) fun c3=>?_
     ·have hB:aO4 (aL d f.name).1.rows f.src f.dst i k=true:=by rw[hb,bQ h65,bQ h70];simp[*]
      have hE:=aGo hv hw hB (by omega) (by omega:k<(aL d f.name).1.rows.length)
      refine⟨?_,trivial⟩
      ·(rw[hV,hE]<;>rfl)
     ·refine⟨⟨by omega,by omega⟩,?_⟩
      exact⟨i+1,rfl,⟨by omega,aCg hw (by rw[hb];(rw[bQ h65,bQ h70];simp[*];done))⟩,by omega⟩
    ·refine⟨⟨by omega,by omega⟩,?_⟩
     exact⟨i+1,rfl,⟨by omega,aCg hw (by rw[hb];(simp[g61];done))⟩,by omega⟩
   ·refine⟨⟨by omega,by omega⟩,?_⟩
    exact⟨k+1,rfl,⟨by omega,aGp hv (by obtain rfl:i=k:=(by omega);exact hw)⟩,by omega⟩
  ·have hE:kE d f= []:=by rw[hV,show (aL d f.name).1.rows.length=k by omega,hv]
   refine⟨?_,trivial⟩
   ·(rw[hE]<;>rfl)
abbrev yX (d:aV)(f:bD):AV × List (Nat × Rs):=(.own 0,[(0,.arr 3 1 true ((kE d f).map intD))])
abbrev aET (d:aV)(f:bD):Prop:=cH Tryz.prog 223 [.agg [.sl 142 3 (d.tables.map aT)],.agg [.str f.name,.sl 3 1 (f.src.map intD),.int .i64 f.dst]] (yX d f).1 (yX d f).2
theorem aRR (d:aV)(f:bD)(hc:bR d≤1048576):aET d f:=by
 refine aW bH aO Tryz.func223 (by kernel_rfl) (.call (.tup [.agg [.p none (.str ((aL d f.name).1.name)),vI ((aL d f.name).1.arity),.p none (.sl 91 1 ((aL d f.name).1.rows.map aC))],vB ((aL d f.name).2)]) []<| .loop Nat (Q1 Nat) ([7,8,9,10,11,12]++rg 20 64) [4000,5600] (fun k=>[(7,vI (k:Int))]) (fun k=>[]) (fun k=>k≤(aL d f.name).1.rows.length∧lD (aL d f.name).1.rows f.src f.dst k= []) (fun k=>(aL d f.name).1.rows.length - k) (fun k=> .len ((aL d f.name).1.rows.length)<| .br (.call (vB (iJ d f)) []<| .lit<| .br (.elem _ aC ((aL d f.name).1.rows) (fun e36=>bL (oK e36 f.src)<| .loop Nat (Q1 Nat) ([10,11,12]++rg 43 41) [5600] (fun i=>[(10,vI (i:Int))]) (fun i=>[]) (fun i=>i≤k∧kO (aL d f.name).1.rows f.src f.dst k i= []) (fun i=>k - i) (fun i=> .br (.elem _ aC ((aL d f.name).1.rows) (fun e52=>bL (oK e52 f.src)<| .call (vI (cF ((fH e52 f.src).1) ((fH e36 f.src).1))) []<| .br (.elem _ aC ((aL d f.name).1.rows) (fun e67=> .elem _ intD e67 (fun e71=> .elem _ aC ((aL d f.name).1.rows) (fun e76=> .elem _ intD e76 (fun e80=> .lit<| .lit<| .lit<| .br (.fin [(0,8600)]) (.back [])))))) (.back []))) (.back [])))) (.fin [(0,8700)])) (.fin [(0,8700)]))) (p:=(d.tables.map aT).length≤9223372036854775807→(f.src.map intD).length≤9223372036854775807→cH Tryz.prog 126 [.agg [.sl 142 3 (d.tables.map aT)],.one (.str f.name)] (.tup [.agg [.p none (.str ((aL d f.name).1.name)),vI ((aL d f.name).1.arity),.p none (.sl 91 1 ((aL d f.name).1.rows.map aC))],vB ((aL d f.name).2)]) []∧((∃(k:Nat),0=(k:Int)∧k≤(aL d f.name).1.rows.length∧lD (aL d f.name).1.rows f.src f.dst k= [])∧ ∀(k:Nat),(k≤(aL d f.name).1.rows.length∧lD (aL d f.name).1.rows f.src f.dst k= [])→Lm aC ((aL d f.name).1.rows)∧Br ((k:Int)<(((aL d f.name).1.rows.length:Nat):Int)) (vC d f∧Bb (iJ d f) (0≤(k:Int)∧Em aC ((aL d f.name).1.rows) k fun e36=>rI e36 f.src∧((∃(i:Nat),0=(i:Int)∧i≤k∧kO (aL d f.name).1.rows f.src f.dst k i= [])∧ ∀(i:Nat),(i≤k∧kO (aL d f.name).1.rows f.src f.dst k i= [])→Br ((i:Int)<(k:Int)) (0≤(i:Int)∧Em aC ((aL d f.name).1.rows) i fun e52=>rI e52 f.src∧fR ((fH e52 f.src).1) ((fH e36 f.src).1)∧Br ((cF ((fH e52 f.src).1) ((fH e36 f.src).1))=0) (0≤(i:Int)∧Em aC ((aL d f.name).1.rows) i fun e67=>0≤f.dst∧Em intD e67 ((f.dst).toNat) fun e71=>0≤(k:Int)∧Em aC ((aL d f.name).1.rows) k fun e76=>0≤f.dst∧Em intD e76 ((f.dst).toNat) fun e80=>Nb (e71=e80) ([[.int .i64 (i:Int)],[.int .i64 (k:Int)]]=(kE d f).map intD∧True) (bO ((i:Int)+1)∧ ∃(i' :Nat),((i:Int)+1)=(i' :Int)∧(i' ≤k∧kO (aL d f.name).1.rows f.src f.dst k i' = [])∧k - i' <k - i)) (bO ((i:Int)+1)∧ ∃(i' :Nat),((i:Int)+1)=(i' :Int)∧(i' ≤k∧kO (aL d f.name).1.rows f.src f.dst k i' = [])∧k - i' <k - i)) (bO ((k:Int)+1)∧ ∃(k' :Nat),((k:Int)+1)=(k' :Int)∧(k' ≤(aL d f.name).1.rows.length∧lD (aL d f.name).1.rows f.src f.dst k' = [])∧(aL d f.name).1.rows.length - k' <(aL d f.name).1.rows.length - k))) ([]=(kE d f).map intD∧True)) ([]=(kE d f).map intD∧True))) (by kernel_rfl) ?_
 intro n0 n1
 simp only[List.length_map] at n0 n1
 refine⟨jT (rN _ f.name (by omega)) rfl,⟨0,rfl,Nat.zero_le _,rfl⟩,fun k ⟨hk,hv⟩=>?_⟩
 refine⟨List.length_map _,dd (fun g25=>?_) fun g25=>?_⟩
 ·refine⟨aGr _ _ (by omega),db (fun c0=>?_) fun c0=>?_⟩
  ·have hok:iJ d f=true:=c0
   obtain⟨hT,hd0,hd1,hsl⟩:=aEH hok
   have hT8:=cE hT
   have hV:kE d f=lD (aL d f.name).1.rows f.src f.dst (aL d f.name).1.rows.length:=by rw[kE,if_pos hok]
   refine⟨by omega,rfl,by omega,fun e36 h36=>?_⟩
   have hl36:=pA hT (List.mem_of_getElem? h36)
   refine⟨aC4 _ _ (by omega),⟨0,rfl,Nat.zero_le _,rfl⟩,fun i ⟨hi,hw⟩=>?_⟩
   refine dd (fun c1=>?_) fun c1=>?_
   ·refine⟨by omega,rfl,by omega,fun e52 h52=>?_⟩
    have hl52:=pA hT (List.mem_of_getElem? h52)
    have hb:=aPp (cols:=f.src) (c:=f.dst) h52 h36
    refine⟨aC4 _ _ (by omega),jF _ _,dd (fun g63=>?_) fun g63=>?_⟩
    ·refine⟨by omega,rfl,by omega,fun e67 h67=>?_⟩
     obtain rfl:=(aZ h52 h67).symm
     refine⟨by omega,rfl,by omega,fun e71 h71=>?_⟩
     refine⟨by omega,rfl,by omega,fun e76 h76=>?_⟩
     obtain rfl:=(aZ h36 h76).symm
     refine⟨by omega,rfl,by omega,fun e80 h80=>?_⟩
     refine dn (fun c2=>?_) fun c2=>?_
     ·have hB:aO4 (aL d f.name).1.rows f.src f.dst i k=true:=by rw[hb,bQ h71,bQ h80,eV.1 g63];simp[c2]
      have hE:=aGo hv hw hB (by omega) (by omega:k<(aL d f.name).1.rows.length)
      refine⟨?_,trivial⟩
      ·(rw[hV,hE]<;>rfl)
     ·refine⟨⟨by omega,by omega⟩,?_⟩
      exact⟨i+1,rfl,⟨by omega,aCg hw (by rw[hb];(rw[bQ h71,bQ h80];simp[c2];done))⟩,by omega⟩
    ·refine⟨⟨by omega,by omega⟩,?_⟩
     exact⟨i+1,rfl,⟨by omega,aCg hw (by rw[hb];(simp[show ¬(fH e52 f.src).1=(fH e36 f.src).1 from fun q=>g63 (eV.2 q)];done))⟩,by omega⟩
   ·refine⟨⟨by omega,by omega⟩,?_⟩
    exact⟨k+1,rfl,⟨by omega,aGp hv (by obtain rfl:i=k:=(by omega);exact hw)⟩,by omega⟩
  ·have hE:kE d f= []:=by (rw[kE,if_neg (by rw[c0];decide)];done)
   refine⟨?_,trivial⟩
   ·(rw[hE]<;>rfl)
 ·have hE:kE d f= []:=by (rw[kE];split<;>first|(rw[show (aL d f.name).1.rows.length=k by omega,hv];done)|rfl)
  refine⟨?_,trivial⟩
  ·(rw[hE]<;>rfl)
abbrev aCi (d:aV)(f:bD):Prop:=cH Tryz.prog 189 [.agg [.sl 142 3 (d.tables.map aT)],.agg [.str f.name,.sl 3 1 (f.src.map intD),.int .i64 f.dst]] (vB (kP d f)) []
theorem aOb (d:aV)(f:bD)(hc:bR d≤1048576):aCi d f:=by
 refine aW bH aO Tryz.func189 (by kernel_rfl) (.call (vB (iJ d f)) []<| .br (bL (yW d f)<| .len ((kE d f).length)<| .fin []) (.fin [])) (p:=(d.tables.map aT).length≤9223372036854775807→(f.src.map intD).length≤9223372036854775807→vA d f∧Bb (iJ d f) (aES d f∧Lm intD (kE d f)∧(decide ((((kE d f).length:Nat):Int)=0))=(kP d f)∧True) ((false)=(kP d f)∧True)) (by kernel_rfl) ?_
 intro n0 n1
 simp only[List.length_map] at n0 n1
 refine⟨aGq _ _ (by omega),db (fun g8=>?_) fun g8=>?_⟩
 ·refine⟨aRQ _ _ (by omega),List.length_map _,?_,trivial⟩
  ·(simp[kP, *];done)
 ·refine⟨?_,trivial⟩
  ·(simp[kP, *];done)
abbrev aCj (d:aV)(f:bD):Prop:=cH Tryz.prog 180 [.agg [.sl 142 3 (d.tables.map aT)],.agg [.str f.name,.sl 3 1 (f.src.map intD),.int .i64 f.dst]] (vB (kP d f)) []
theorem aOc (d:aV)(f:bD)(hc:bR d≤1048576):aCj d f:=by
 refine aW bH aO Tryz.func180 (by kernel_rfl) (.call (vB (iJ d f)) []<| .br (bL (yX d f)<| .len ((kE d f).length)<| .fin []) (.fin [])) (p:=(d.tables.map aT).length≤9223372036854775807→(f.src.map intD).length≤9223372036854775807→vC d f∧Bb (iJ d f) (aET d f∧Lm intD (kE d f)∧(decide ((((kE d f).length:Nat):Int)=0))=(kP d f)∧True) ((false)=(kP d f)∧True)) (by kernel_rfl) ?_
 intro n0 n1
 simp only[List.length_map] at n0 n1
 refine⟨aGr _ _ (by omega),db (fun g8=>?_) fun g8=>?_⟩
 ·refine⟨aRR _ _ (by omega),List.length_map _,?_,trivial⟩
  ·(simp[kP, *];done)
 ·refine⟨?_,trivial⟩
  ·(simp[kP, *];done)
abbrev yY (d:aV)(x:bB):AV × List (Nat × Rs):=(.own 0,[(0,.arr 3 1 true ((wH d x).map intD))])
abbrev aEU (d:aV)(x:bB):Prop:=cH Tryz.prog 234 [.agg [.sl 142 3 (d.tables.map aT)],.agg [.str x.name,.int .i64 x.column,.str x.into,.int .i64 x.intoColumn]] (yY d x).1 (yY d x).2
theorem aRS (d:aV)(x:bB)(hc:bR d≤1048576):aEU d x:=by
 refine aW bH aO Tryz.func234 (by kernel_rfl) (.call (vB (gR d x)) []<| .br (.fin []) (.call (.tup [.agg [.p none (.str ((aL d x.name).1.name)),vI ((aL d x.name).1.arity),.p none (.sl 91 1 ((aL d x.name).1.rows.map aC))],vB ((aL d x.name).2)]) []<| .call (.tup [.agg [.p none (.str ((aL d x.into).1.name)),vI ((aL d x.into).1.arity),.p none (.sl 91 1 ((aL d x.into).1.rows.map aC))],vB ((aL d x.into).2)]) []<| .len ((aL d x.into).1.rows.length)<| .loop (Nat × (List Int)) (Q2 Nat (List Int)) ([9,11,34]++rg 38 13) [3400,4800,4900] (fun yy0=>[(38,vI (yy0.1:Int)),(9,.own 3400)]) (fun yy0=>[(3400,some (.arr 3 1 true (yy0.2.map intD)))]) (fun yy0=>yy0.1≤(aL d x.into).1.rows.length∧yy0.2=iK ((aL d x.into).1.rows.take yy0.1) x.intoColumn) (fun yy0=>(aL d x.into).1.rows.length - yy0.1) (fun yy0=> .br (.elem _ aC ((aL d x.into).1.rows) (fun e40=> .elem _ intD e40 (fun e46=> .app Int intD yy0.2 ([e46]:List Int)<| .back [(3400,4900)]))) (.len ((aL d x.name).1.rows.length)<| .loop (Nat × (List Int)) (Q2 Nat (List Int)) ([12,14,15,51]++rg 55 18) [5100,7000,7100] (fun yy1=>[(55,vI (yy1.1:Int)),(12,.own 5100)]) (fun yy1=>[(5100,some (.arr 3 1 true (yy1.2.map intD)))]) (fun yy1=>yy1.1≤(aL d x.name).1.rows.length∧yy1.2=(iK ((aL d x.name).1.rows.take yy1.1) x.column).filter fun v=> !decide (v∈yy0.2)) (fun yy1=>(aL d x.name).1.rows.length - yy1.1) (fun yy1=> .br (.elem _ aC ((aL d x.name).1.rows) (fun e57=> .elem _ intD e57 (fun e62=> .call (vB (decide (e62∈yy0.2))) []<| .br (.app Int intD yy1.2 ([e62]:List Int)<| .back [(5100,7100)]) (.back [(5100,5100)])))) (.callx [.own 0] [(0,.arr 3 1 true (yy1.2.map intD))] [(0,5100)] (.tup []) [(0,.arr 3 1 true ((jR yy1.2).map intD))]<| .callx [.own 0] [(0,.arr 3 1 true ((jR yy1.2).map intD))] [(0,5100)] (.own 1) [(1,.arr 3 1 true ((sP (jR yy1.2)).map intD))]<| .fin [(0,7601)])))))) (p:=(d.tables.map aT).length≤9223372036854775807→vE d x∧Nr (gR d x) ([]=(wH d x).map intD∧True) (cH Tryz.prog 86 [.agg [.sl 142 3 (d.tables.map aT)],.one (.str x.name)] (.tup [.agg [.p none (.str ((aL d x.name).1.name)),vI ((aL d x.name).1.arity),.p none (.sl 91 1 ((aL d x.name).1.rows.map aC))],vB ((aL d x.name).2)]) []∧(cH Tryz.prog 86 [.agg [.sl 142 3 (d.tables.map aT)],.one (.str x.into)] (.tup [.agg [.p none (.str ((aL d x.into).1.name)),vI ((aL d x.into).1.arity),.p none (.sl 91 1 ((aL d x.into).1.rows.map aC))],vB ((aL d x.into).2)]) []∧(Lm aC ((aL d x.into).1.rows)∧((∃(k:Nat) (there:List Int),0=(k:Int)∧[]=there.map intD∧k≤(aL d x.into).1.rows.length∧there=iK ((aL d x.into).1.rows.take k) x.intoColumn)∧ ∀(k:Nat) (there:List Int),(k≤(aL d x.into).1.rows.length∧there=iK ((aL d x.into).1.rows.take k) x.intoColumn)→Br ((k:Int)<(((aL d x.into).1.rows.length:Nat):Int)) (0≤(k:Int)∧Em aC ((aL d x.into).1.rows) k fun e40=>0≤x.intoColumn∧Em intD e40 ((x.intoColumn).toNat) fun e46=>there.map intD=there.map intD∧[[.int .i64 e46]]=([e46]:List Int).map intD∧(∀x,bW (intD x)=true)∧(there.length+([e46]:List Int).length)*8≤140737488355328∧bO ((k:Int)+1)∧ ∃(k' :Nat) (there' :List Int),((k:Int)+1)=(k' :Int)∧(there++[e46]).map intD=there'.map intD∧(k' ≤(aL d x.into).1.rows.length∧there' =iK ((aL d x.into).1.rows.take k') x.intoColumn)∧(aL d x.into).1.rows.length - k' <(aL d x.into).1.rows.length - k) (Lm aC ((aL d x.name).1.rows)∧((∃(j:Nat) (out:List Int),0=(j:Int)∧[]=out.map intD∧j≤(aL d x.name).1.rows.length∧out=(iK ((aL d x.name).1.rows.take j) x.column).filter fun v=> !decide (v∈there))∧ ∀(j:Nat) (out:List Int),(j≤(aL d x.name).1.rows.length∧out=(iK ((aL d x.name).1.rows.take j) x.column).filter fun v=> !decide (v∈there))→Br ((j:Int)<(((aL d x.name).1.rows.length:Nat):Int)) (0≤(j:Int)∧Em aC ((aL d x.name).1.rows) j fun e57=>0≤x.column∧Em intD e57 ((x.column).toNat) fun e62=>aMo there e62∧Nr (decide (e62∈there)) (out.map intD=out.map intD∧[[.int .i64 e62]]=([e62]:List Int).map intD∧(∀x,bW (intD x)=true)∧(out.length+([e62]:List Int).length)*8≤140737488355328∧bO ((j:Int)+1)∧ ∃(j' :Nat) (out' :List Int),((j:Int)+1)=(j' :Int)∧(out++[e62]).map intD=out'.map intD∧(j' ≤(aL d x.name).1.rows.length∧out' =(iK ((aL d x.name).1.rows.take j') x.column).filter fun v=> !decide (v∈there))∧(aL d x.name).1.rows.length - j' <(aL d x.name).1.rows.length - j) (bO ((j:Int)+1)∧ ∃(j' :Nat) (out' :List Int),((j:Int)+1)=(j' :Int)∧out.map intD=out'.map intD∧(j' ≤(aL d x.name).1.rows.length∧out' =(iK ((aL d x.name).1.rows.take j') x.column).filter fun v=> !decide (v∈there))∧(aL d x.name).1.rows.length - j' <(aL d x.name).1.rows.length - j)) (rB Tryz.prog 250 [.own 0] [(0,.arr 3 1 true (out.map intD))] (.tup []) [(0,.arr 3 1 true ((jR out).map intD))]∧out.map intD=out.map intD∧rB Tryz.prog 251 [.own 0] [(0,.arr 3 1 true ((jR out).map intD))] (.own 1) [(1,.arr 3 1 true ((sP (jR out)).map intD))]∧(jR out).map intD=(jR out).map intD∧(sP (jR out)).map intD=(wH d x).map intD∧True)))))))) (by kernel_rfl) ?_
 intro n0
 simp only[List.length_map] at n0
 refine⟨aGt _ _ (by omega),dm (fun c0=>?_) fun c0=>?_⟩
 ·have hbad:wH d x= []:=by rw[wH,if_neg (by simpa using c0)]
  refine⟨?_,trivial⟩
  ·(rw[hbad]<;>rfl)
 ·have hok:gR d x=true:=by simpa using c0
  obtain⟨hTa,hTb,hca,hcb⟩:=yP hok
  have hA8:=cE hTa
  have hB8:=cE hTb
  refine⟨jT (rM _ x.name (by omega)) rfl,jT (rM _ x.into (by omega)) rfl,List.length_map _,⟨0,([]:List Int),rfl,rfl,Nat.zero_le _,rfl⟩,fun k there ⟨hk,hth⟩=>?_⟩
  have htl:there.length=k:=by rw[hth,iK,List.length_map,List.length_take];omega
  refine dd (fun c1=>?_) fun c1=>?_
  ·refine⟨by omega,rfl,by omega,fun e40 h40=>?_⟩
   have hl40:=pA hTb (List.mem_of_getElem? h40)
   refine⟨by omega,rfl,by omega,fun e46 h46=>?_⟩
   refine⟨rfl,rfl,fun _=>rfl,by (simp;omega),?_⟩
   refine⟨⟨by omega,by omega⟩,?_⟩
   exact⟨k+1,_,rfl,rfl,⟨by omega,by rw[mF _ _ h40,←hth,bQ h46]⟩,by omega⟩
  ·have hTH:there=iK (aL d x.into).1.rows x.intoColumn:=by rw[hth,List.take_of_length_le (by omega)]
   refine⟨List.length_map _,⟨0,([]:List Int),rfl,rfl,Nat.zero_le _,rfl⟩,fun j out ⟨hj,ho⟩=>?_⟩
   have hol:out.length≤j:=by rw[ho];refine Nat.le_trans (List.length_filter_le _ _) ?_;simp[iK];omega
   refine dd (fun c2=>?_) fun c2=>?_
   ·refine⟨by omega,rfl,by omega,fun e57 h57=>?_⟩
    have hl57:=pA hTa (List.mem_of_getElem? h57)
    refine⟨by omega,rfl,by omega,fun e62 h62=>?_⟩
    refine⟨ctI _ _,dm (fun c3=>?_) fun c3=>?_⟩
    ·refine⟨rfl,rfl,fun _=>rfl,by (simp[hth];omega),?_⟩
     refine⟨⟨by omega,by omega⟩,?_⟩
     exact⟨j+1,_,rfl,rfl,⟨by omega,by rw[mF _ _ h57,List.filter_append,←ho,bQ h62,List.filter_cons_of_pos (by simpa using c3)];rfl⟩,by omega⟩
    ·refine⟨⟨by omega,by omega⟩,?_⟩
     exact⟨j+1,_,rfl,rfl,⟨by omega,by rw[mF _ _ h57,List.filter_append,←ho,bQ h62,List.filter_cons_of_neg (by simpa using c3)];simp⟩,by omega⟩
   ·have hE:wH d x=sP (jR out):=by rw[wH,if_pos hok,aEI,ho,hTH,List.take_of_length_le (by omega)]
    refine⟨aJq out (by omega),rfl,aQu (jR out) (by (rw[tV];omega)),rfl,?_,trivial⟩
    ·(rw[hE]<;>rfl)
abbrev aCk (d:aV)(x:bB):Prop:=cH Tryz.prog 190 [.agg [.sl 142 3 (d.tables.map aT)],.agg [.str x.name,.int .i64 x.column,.str x.into,.int .i64 x.intoColumn]] (vB (kQ d x)) []
theorem aOd (d:aV)(x:bB)(hc:bR d≤1048576):aCk d x:=by
 refine aW bH aO Tryz.func190 (by kernel_rfl) (.call (vB (gR d x)) []<| .br (bL (yY d x)<| .len ((wH d x).length)<| .fin []) (.fin [])) (p:=(d.tables.map aT).length≤9223372036854775807→vE d x∧Bb (gR d x) (aEU d x∧Lm intD (wH d x)∧(decide ((((wH d x).length:Nat):Int)=0))=(kQ d x)∧True) ((false)=(kQ d x)∧True)) (by kernel_rfl) ?_
 intro n0
 simp only[List.length_map] at n0
 refine⟨aGt _ _ (by omega),db (fun g8=>?_) fun g8=>?_⟩
 ·refine⟨aRS _ _ (by omega),List.length_map _,?_,trivial⟩
  ·(rw[kQ,g8,aMp,aQy g8];rfl)
 ·refine⟨?_,trivial⟩
  ·(simp[kQ, *];done)
abbrev yZ (d:aV)(x:bB):AV × List (Nat × Rs):=(.own 0,[(0,.arr 3 1 true ((wI d x).map intD))])
abbrev aEV (d:aV)(x:bB):Prop:=cH Tryz.prog 225 [.agg [.sl 142 3 (d.tables.map aT)],.agg [.str x.name,.int .i64 x.column,.str x.into,.int .i64 x.intoColumn]] (yZ d x).1 (yZ d x).2
theorem aRT (d:aV)(x:bB)(hc:bR d≤1048576):aEV d x:=by
 refine aW bH aO Tryz.func225 (by kernel_rfl) (.call (vB (gR d x)) []<| .br (.fin [(0,1500)]) (.call (.tup [.agg [.p none (.str ((aL d x.name).1.name)),vI ((aL d x.name).1.arity),.p none (.sl 91 1 ((aL d x.name).1.rows.map aC))],vB ((aL d x.name).2)]) []<| .call (.tup [.agg [.p none (.str ((aL d x.into).1.name)),vI ((aL d x.into).1.arity),.p none (.sl 91 1 ((aL d x.into).1.rows.map aC))],vB ((aL d x.into).2)]) []<| .loop (Nat × (List Int)) (Q2 Nat (List Int)) ([5,10,11,12,13,14,15]++rg 35 55) [1500,8800,8900] (fun yy0=>[(10,vI (yy0.1:Int)),(5,.own 1500)]) (fun yy0=>[(1500,some (.arr 3 1 true (yy0.2.map intD)))]) (fun yy0=>yy0.1≤10∧yy0.2=nW d x yy0.1) (fun yy0=>10 - yy0.1) (fun yy0=> .br (.loop (Nat × Bool) (Q2 Nat Bool) ([11,13]++rg 39 21) [] (fun yy1=>[(13,vI (yy1.1:Int)),(11,vB yy1.2)]) (fun yy1=>[]) (fun yy1=>yy1.1≤(aL d x.name).1.rows.length∧yy1.2=decide ((yy0.1:Int)∈iK ((aL d x.name).1.rows.take yy1.1) x.column)) (fun yy1=>(aL d x.name).1.rows.length - yy1.1) (fun yy1=> .len ((aL d x.name).1.rows.length)<| .br (.br (.back []) (.elem _ aC ((aL d x.name).1.rows) (fun e51=> .elem _ intD e51 (fun e55=> .back [])))) (.loop (Nat × Bool) (Q2 Nat Bool) ([12,14]++rg 60 21) [] (fun yy2=>[(14,vI (yy2.1:Int)),(12,vB yy2.2)]) (fun yy2=>[]) (fun yy2=>yy2.1≤(aL d x.into).1.rows.length∧yy2.2=decide ((yy0.1:Int)∈iK ((aL d x.into).1.rows.take yy2.1) x.intoColumn)) (fun yy2=>(aL d x.into).1.rows.length - yy2.1) (fun yy2=> .len ((aL d x.into).1.rows.length)<| .br (.br (.back []) (.elem _ aC ((aL d x.into).1.rows) (fun e72=> .elem _ intD e72 (fun e76=> .back [])))) (.br (.lit<| .lit<| .br (.app Int intD yy0.2 ([(yy0.1:Int)]:List Int)<| .back [(1500,8900)]) (.back [(1500,1500)])) (.back [(1500,1500)])))))) (.fin [(0,1500)])))) (p:=(d.tables.map aT).length≤9223372036854775807→vF d x∧Nr (gR d x) ([]=(wI d x).map intD∧True) (cH Tryz.prog 126 [.agg [.sl 142 3 (d.tables.map aT)],.one (.str x.name)] (.tup [.agg [.p none (.str ((aL d x.name).1.name)),vI ((aL d x.name).1.arity),.p none (.sl 91 1 ((aL d x.name).1.rows.map aC))],vB ((aL d x.name).2)]) []∧(cH Tryz.prog 126 [.agg [.sl 142 3 (d.tables.map aT)],.one (.str x.into)] (.tup [.agg [.p none (.str ((aL d x.into).1.name)),vI ((aL d x.into).1.arity),.p none (.sl 91 1 ((aL d x.into).1.rows.map aC))],vB ((aL d x.into).2)]) []∧((∃(v:Nat) (out:List Int),0=(v:Int)∧[]=out.map intD∧v≤10∧out=nW d x v)∧ ∀(v:Nat) (out:List Int),(v≤10∧out=nW d x v)→Br ((v:Int)≤9) ((∃(k:Nat) (p:Bool),0=(k:Int)∧(false)=p∧k≤(aL d x.name).1.rows.length∧p=decide ((v:Int)∈iK ((aL d x.name).1.rows.take k) x.column))∧ ∀(k:Nat) (p:Bool),(k≤(aL d x.name).1.rows.length∧p=decide ((v:Int)∈iK ((aL d x.name).1.rows.take k) x.column))→Lm aC ((aL d x.name).1.rows)∧Br ((k:Int)<(((aL d x.name).1.rows.length:Nat):Int)) (Bb (p) (bO ((k:Int)+1)∧ ∃(k' :Nat) (p' :Bool),((k:Int)+1)=(k' :Int)∧(true)=p' ∧(k' ≤(aL d x.name).1.rows.length∧p' =decide ((v:Int)∈iK ((aL d x.name).1.rows.take k') x.column))∧(aL d x.name).1.rows.length - k' <(aL d x.name).1.rows.length - k) (0≤(k:Int)∧Em aC ((aL d x.name).1.rows) k fun e51=>0≤x.column∧Em intD e51 ((x.column).toNat) fun e55=>bO ((k:Int)+1)∧ ∃(k' :Nat) (p' :Bool),((k:Int)+1)=(k' :Int)∧(decide (e55=(v:Int)))=p' ∧(k' ≤(aL d x.name).1.rows.length∧p' =decide ((v:Int)∈iK ((aL d x.name).1.rows.take k') x.column))∧(aL d x.name).1.rows.length - k' <(aL d x.name).1.rows.length - k)) ((∃(j:Nat) (q:Bool),0=(j:Int)∧(false)=q∧j≤(aL d x.into).1.rows.length∧q=decide ((v:Int)∈iK ((aL d x.into).1.rows.take j) x.intoColumn))∧ ∀(j:Nat) (q:Bool),(j≤(aL d x.into).1.rows.length∧q=decide ((v:Int)∈iK ((aL d x.into).1.rows.take j) x.intoColumn))→Lm aC ((aL d x.into).1.rows)∧Br ((j:Int)<(((aL d x.into).1.rows.length:Nat):Int)) (Bb (q) (bO ((j:Int)+1)∧ ∃(j' :Nat) (q' :Bool),((j:Int)+1)=(j' :Int)∧(true)=q' ∧(j' ≤(aL d x.into).1.rows.length∧q' =decide ((v:Int)∈iK ((aL d x.into).1.rows.take j') x.intoColumn))∧(aL d x.into).1.rows.length - j' <(aL d x.into).1.rows.length - j) (0≤(j:Int)∧Em aC ((aL d x.into).1.rows) j fun e72=>0≤x.intoColumn∧Em intD e72 ((x.intoColumn).toNat) fun e76=>bO ((j:Int)+1)∧ ∃(j' :Nat) (q' :Bool),((j:Int)+1)=(j' :Int)∧(decide (e76=(v:Int)))=q' ∧(j' ≤(aL d x.into).1.rows.length∧q' =decide ((v:Int)∈iK ((aL d x.into).1.rows.take j') x.intoColumn))∧(aL d x.into).1.rows.length - j' <(aL d x.into).1.rows.length - j)) (Bb (p) (Nr (q) (out.map intD=out.map intD∧[[.int .i64 (v:Int)]]=([(v:Int)]:List Int).map intD∧(∀x,bW (intD x)=true)∧(out.length+([(v:Int)]:List Int).length)*8≤140737488355328∧bO ((v:Int)+1)∧ ∃(v' :Nat) (out' :List Int),((v:Int)+1)=(v' :Int)∧(out++[(v:Int)]).map intD=out'.map intD∧(v' ≤10∧out' =nW d x v')∧10 - v' <10 - v) (bO ((v:Int)+1)∧ ∃(v' :Nat) (out' :List Int),((v:Int)+1)=(v' :Int)∧out.map intD=out'.map intD∧(v' ≤10∧out' =nW d x v')∧10 - v' <10 - v)) (bO ((v:Int)+1)∧ ∃(v' :Nat) (out' :List Int),((v:Int)+1)=(v' :Int)∧out.map intD=out'.map intD∧(v' ≤10∧out' =nW d x v')∧10 - v' <10 - v)))) (out.map intD=(wI d x).map intD∧True))))) (by kernel_rfl) ?_
 intro n0
 simp only[List.length_map] at n0
 refine⟨aGu _ _ (by omega),dm (fun c0=>?_) fun c0=>?_⟩
 ·have hbad:wI d x= []:=by rw[wI,if_neg (by simpa using c0)]
  refine⟨?_,trivial⟩
  ·(rw[hbad]<;>rfl)
 ·have hok:gR d x=true:=by simpa using c0
  obtain⟨hTa,hTb,hca,hcb⟩:=yP hok
  have hA8:=cE hTa
  have hB8:=cE hTb
  refine⟨jT (rN _ x.name (by omega)) rfl,jT (rN _ x.into (by omega)) rfl,⟨0,([]:List Int),rfl,rfl,by omega,rfl⟩,fun v out ⟨hvv,ho⟩=>?_⟩
  have hol:=aQw d x v
  rw[←ho] at hol
  refine dd (fun c1=>?_) fun c1=>?_
  ·refine⟨⟨0,false,rfl,rfl,Nat.zero_le _,rfl⟩,fun k p ⟨hk,hp⟩=>?_⟩
   refine⟨List.length_map _,dd (fun c2=>?_) fun c2=>?_⟩
   ·obtain⟨ra,hra⟩:=dE (l:=(aL d x.name).1.rows) (k:=k) (by omega)
    refine db (fun g47=>?_) fun g47=>?_
    ·refine⟨⟨by omega,by omega⟩,?_⟩
     exact⟨k+1,_,rfl,rfl,⟨by omega,by rw[mF _ _ hra,tW,←hp,g47];rfl⟩,by omega⟩
    ·refine⟨by omega,rfl,by omega,fun e51 h51=>?_⟩
     have hl51:=pA hTa (List.mem_of_getElem? h51)
     refine⟨by omega,rfl,by omega,fun e55 h55=>?_⟩
     refine⟨⟨by omega,by omega⟩,?_⟩
     exact⟨k+1,_,rfl,rfl,⟨by omega,by obtain rfl:=aZ h51 hra;rw[mF _ _ hra,tW,←hp,g47,bQ h55,Bool.false_or];exact decide_eq_decide.2 ⟨Eq.symm,Eq.symm⟩⟩,by omega⟩
   ·have hP:p=decide ((v:Int)∈iK (aL d x.name).1.rows x.column):=by rw[hp,List.take_of_length_le (by omega)]
    refine⟨⟨0,false,rfl,rfl,Nat.zero_le _,rfl⟩,fun j q ⟨hj,hq⟩=>?_⟩
    refine⟨List.length_map _,dd (fun c3=>?_) fun c3=>?_⟩
    ·obtain⟨rb,hrb⟩:=dE (l:=(aL d x.into).1.rows) (k:=j) (by omega)
     refine db (fun g68=>?_) fun g68=>?_
     ·refine⟨⟨by omega,by omega⟩,?_⟩
      exact⟨j+1,_,rfl,rfl,⟨by omega,by rw[mF _ _ hrb,tW,←hq,g68];rfl⟩,by omega⟩
     ·refine⟨by omega,rfl,by omega,fun e72 h72=>?_⟩
      have hl72:=pA hTb (List.mem_of_getElem? h72)
      refine⟨by omega,rfl,by omega,fun e76 h76=>?_⟩
      refine⟨⟨by omega,by omega⟩,?_⟩
      exact⟨j+1,_,rfl,rfl,⟨by omega,by obtain rfl:=aZ h72 hrb;rw[mF _ _ hrb,tW,←hq,g68,bQ h76,Bool.false_or];exact decide_eq_decide.2 ⟨Eq.symm,Eq.symm⟩⟩,by omega⟩
    ·have hQ:q=decide ((v:Int)∈iK (aL d x.into).1.rows x.intoColumn):=by rw[hq,List.take_of_length_le (by omega)]
     refine db (fun g82=>?_) fun g82=>?_
     ·refine dm (fun c4=>?_) fun c4=>?_
      ·refine⟨rfl,rfl,fun _=>rfl,by (simp;omega),?_⟩
       refine⟨⟨by omega,by omega⟩,?_⟩
       exact⟨v+1,_,rfl,rfl,⟨by omega,by rw[ho,aQv (by rw[aCh,←hP,←hQ,g82,c4];rfl)]⟩,by omega⟩
      ·refine⟨⟨by omega,by omega⟩,?_⟩
       exact⟨v+1,_,rfl,rfl,⟨by omega,by rw[ho,aMr (by rw[aCh,←hP,←hQ,g82,c4];rfl)]⟩,by omega⟩
     ·refine⟨⟨by omega,by omega⟩,?_⟩
      exact⟨v+1,_,rfl,rfl,⟨by omega,by rw[ho,aMr (by rw[aCh,←hP,←hQ,g82];rfl)]⟩,by omega⟩
  ·have hE:wI d x=out:=by rw[wI,if_pos hok,ho,show v=10 by omega]
   refine⟨?_,trivial⟩
   ·(rw[hE]<;>rfl)
abbrev aCl (d:aV)(x:bB):Prop:=cH Tryz.prog 181 [.agg [.sl 142 3 (d.tables.map aT)],.agg [.str x.name,.int .i64 x.column,.str x.into,.int .i64 x.intoColumn]] (vB (kQ d x)) []
theorem aOe (d:aV)(x:bB)(hc:bR d≤1048576):aCl d x:=by
 refine aW bH aO Tryz.func181 (by kernel_rfl) (.call (vB (gR d x)) []<| .br (bL (yZ d x)<| .len ((wI d x).length)<| .fin []) (.fin [])) (p:=(d.tables.map aT).length≤9223372036854775807→vF d x∧Bb (gR d x) (aEV d x∧Lm intD (wI d x)∧(decide ((((wI d x).length:Nat):Int)=0))=(kQ d x)∧True) ((false)=(kQ d x)∧True)) (by kernel_rfl) ?_
 intro n0
 simp only[List.length_map] at n0
 refine⟨aGu _ _ (by omega),db (fun g8=>?_) fun g8=>?_⟩
 ·refine⟨aRT _ _ (by omega),List.length_map _,?_,trivial⟩
  ·(rw[kQ,g8,aMp,aQz g8];rfl)
 ·refine⟨?_,trivial⟩
  ·(simp[kQ, *];done)
def kR (d:aV)(l:List bD)(m:List bB):Bool:=l.all (kP d)&&(m.all (kQ d)&&(decide ((l.length:Int)≤8)&&decide ((m.length:Int)≤8)))
abbrev aEW (d:aV)(l:List bD)(m:List bB):Prop:=cH Tryz.prog 133 [.agg [.sl 142 3 (d.tables.map aT)],.one (.sl 121 3 (l.map aP)),.one (.sl 123 4 (m.map aS))] (vB (kR d l m)) []
theorem aRU (d:aV)(l:List bD)(m:List bB)(hc:bR d≤1048576):aEW d l m:=by
 refine aW bH aO Tryz.func133 (by kernel_rfl) (.len l.length<| .loop Nat (Q1 Nat) ([8]++rg 13 9) [800] (fun k=>[(13,vI (k:Int))]) (fun k=>[]) (fun k=>k≤l.length∧(l.take k).all (kP d)=true) (fun k=>l.length - k) (fun k=> .br (.elem _ aP l (fun e15=> .call (vB (kP d e15)) []<| .br (.fin []) (.back []))) (.len m.length<| .loop Nat (Q1 Nat) ([10]++rg 24 9) [1000] (fun j=>[(24,vI (j:Int))]) (fun j=>[]) (fun j=>j≤m.length∧(m.take j).all (kQ d)=true) (fun j=>m.length - j) (fun j=> .br (.elem _ aS m (fun e26=> .call (vB (kQ d e26)) []<| .br (.fin []) (.back []))) (.len l.length<| .br (.len m.length<| .fin []) (.fin [])))))) (p:=(d.tables.map aT).length≤9223372036854775807→(l.map aP).length≤9223372036854775807→(m.map aS).length≤9223372036854775807→Lm aP l∧((∃(k:Nat),0=(k:Int)∧k≤l.length∧(l.take k).all (kP d)=true)∧ ∀(k:Nat),(k≤l.length∧(l.take k).all (kP d)=true)→Br ((k:Int)<(l.length:Int)) (0≤(k:Int)∧Em aP l k fun e15=>aCi d e15∧Nr (kP d e15) ((false)=(kR d l m)∧True) (bO ((k:Int)+1)∧ ∃(k' :Nat),((k:Int)+1)=(k' :Int)∧(k' ≤l.length∧(l.take k').all (kP d)=true)∧l.length - k' <l.length - k)) (Lm aS m∧((∃(j:Nat),0=(j:Int)∧j≤m.length∧(m.take j).all (kQ d)=true)∧ ∀(j:Nat),(j≤m.length∧(m.take j).all (kQ d)=true)→Br ((j:Int)<(m.length:Int)) (0≤(j:Int)∧Em aS m j fun e26=>aCk d e26∧Nr (kQ d e26) ((false)=(kR d l m)∧True) (bO ((j:Int)+1)∧ ∃(j' :Nat),((j:Int)+1)=(j' :Int)∧(j' ≤m.length∧(m.take j').all (kQ d)=true)∧m.length - j' <m.length - j)) (Lm aP l∧Br ((l.length:Int)≤8) (Lm aS m∧(decide ((m.length:Int)≤8))=(kR d l m)∧True) ((false)=(kR d l m)∧True)))))) (by kernel_rfl) ?_
 intro n0 n1 n2
 simp only[List.length_map] at n0 n1 n2
 refine⟨List.length_map _,⟨0,rfl,Nat.zero_le _,rfl⟩,fun k ⟨hk,ha⟩=>?_⟩
 refine dd (fun c0=>?_) fun c0=>?_
 ·refine⟨by omega,rfl,by omega,fun e15 h15=>?_⟩
  refine⟨aOb _ _ (by omega),dm (fun c1=>?_) fun c1=>?_⟩
  ·have hL:l.all (kP d)=false:=eO h15 (by simpa using c1)
   refine⟨?_,trivial⟩
   ·(simp[kR,hL];done)
  ·refine⟨⟨by omega,by omega⟩,?_⟩
   exact⟨k+1,rfl,⟨by omega,cL h15 ha (by simpa using c1)⟩,by omega⟩
 ·have hL:=dC (by omega) ha
  refine⟨List.length_map _,⟨0,rfl,Nat.zero_le _,rfl⟩,fun j ⟨hj,hb⟩=>?_⟩
  refine dd (fun c2=>?_) fun c2=>?_
  ·refine⟨by omega,rfl,by omega,fun e26 h26=>?_⟩
   refine⟨aOd _ _ (by omega),dm (fun c3=>?_) fun c3=>?_⟩
   ·have hM:m.all (kQ d)=false:=eO h26 (by simpa using c3)
    refine⟨?_,trivial⟩
    ·(simp[kR,hL,hM];done)
   ·refine⟨⟨by omega,by omega⟩,?_⟩
    exact⟨j+1,rfl,⟨by omega,cL h26 hb (by simpa using c3)⟩,by omega⟩
  ·have hM:=dC (by omega) hb
   refine⟨List.length_map _,dd (fun g36=>?_) fun g36=>?_⟩
   ·refine⟨List.length_map _,?_,trivial⟩
    ·(simp[kR,hL,hM, *];done)
   ·refine⟨?_,trivial⟩
    ·(simp[kR,hL,hM, *];done)
abbrev aEX (d:aV)(l:List bD)(m:List bB):Prop:=cH Tryz.prog 124 [.agg [.sl 142 3 (d.tables.map aT)],.one (.sl 121 3 (l.map aP)),.one (.sl 123 4 (m.map aS))] (vB (kR d l m)) []
theorem aRV (d:aV)(l:List bD)(m:List bB)(hc:bR d≤1048576):aEX d l m:=by
 refine aW bH aO Tryz.func124 (by kernel_rfl) (.len l.length<| .br (.fin []) (.len m.length<| .lit<| .lit<| .br (.fin []) (.loop Nat (Q1 Nat) ([7]++rg 17 13) [] (fun k=>[(7,vI (k:Int))]) (fun k=>[]) (fun k=>k≤l.length∧(l.take k).all (kP d)=true) (fun k=>l.length - k) (fun k=> .len l.length<| .br (.elem _ aP l (fun e26=> .call (vB (kP d e26)) []<| .br (.fin []) (.back []))) (.loop Nat (Q1 Nat) ([8]++rg 30 13) [] (fun j=>[(8,vI (j:Int))]) (fun j=>[]) (fun j=>j≤m.length∧(m.take j).all (kQ d)=true) (fun j=>m.length - j) (fun j=> .len m.length<| .br (.elem _ aS m (fun e39=> .call (vB (kQ d e39)) []<| .br (.fin []) (.back []))) (.fin []))))))) (p:=(d.tables.map aT).length≤9223372036854775807→(l.map aP).length≤9223372036854775807→(m.map aS).length≤9223372036854775807→Lm aP l∧Br (8<(l.length:Int)) ((false)=(kR d l m)∧True) (Lm aS m∧Br (8<(m.length:Int)) ((false)=(kR d l m)∧True) ((∃(k:Nat),0=(k:Int)∧k≤l.length∧(l.take k).all (kP d)=true)∧ ∀(k:Nat),(k≤l.length∧(l.take k).all (kP d)=true)→Lm aP l∧Br ((k:Int)<(l.length:Int)) (0≤(k:Int)∧Em aP l k fun e26=>aCj d e26∧Nr (kP d e26) ((false)=(kR d l m)∧True) (bO ((k:Int)+1)∧ ∃(k' :Nat),((k:Int)+1)=(k' :Int)∧(k' ≤l.length∧(l.take k').all (kP d)=true)∧l.length - k' <l.length - k)) ((∃(j:Nat),0=(j:Int)∧j≤m.length∧(m.take j).all (kQ d)=true)∧ ∀(j:Nat),(j≤m.length∧(m.take j).all (kQ d)=true)→Lm aS m∧Br ((j:Int)<(m.length:Int)) (0≤(j:Int)∧Em aS m j fun e39=>aCl d e39∧Nr (kQ d e39) ((false)=(kR d l m)∧True) (bO ((j:Int)+1)∧ ∃(j' :Nat),((j:Int)+1)=(j' :Int)∧(j' ≤m.length∧(m.take j').all (kQ d)=true)∧m.length - j' <m.length - j)) ((true)=(kR d l m)∧True))))) (by kernel_rfl) ?_
 intro n0 n1 n2
 simp only[List.length_map] at n0 n1 n2
 refine⟨List.length_map _,dd (fun g12=>?_) fun g12=>?_⟩
 ·have hbad:(decide ((l.length:Int)≤8)&&decide ((m.length:Int)≤8))=false:=by (simp;omega)
  refine⟨?_,trivial⟩
  ·(rw[kR,hbad];simp;done)
 ·refine⟨List.length_map _,dd (fun c0=>?_) fun c0=>?_⟩
  ·have hbad:(decide ((l.length:Int)≤8)&&decide ((m.length:Int)≤8))=false:=by (simp;omega)
   refine⟨?_,trivial⟩
   ·(rw[kR,hbad];simp;done)
  ·have hz:(decide ((l.length:Int)≤8)&&decide ((m.length:Int)≤8))=true:=by simp;omega
   refine⟨⟨0,rfl,Nat.zero_le _,rfl⟩,fun k ⟨hk,ha⟩=>?_⟩
   refine⟨List.length_map _,dd (fun c1=>?_) fun c1=>?_⟩
   ·refine⟨by omega,rfl,by omega,fun e26 h26=>?_⟩
    refine⟨aOc _ _ (by omega),dm (fun c2=>?_) fun c2=>?_⟩
    ·have hL:l.all (kP d)=false:=eO h26 (by simpa using c2)
     refine⟨?_,trivial⟩
     ·(rw[kR,hL];rfl)
    ·refine⟨⟨by omega,by omega⟩,?_⟩
     exact⟨k+1,rfl,⟨by omega,cL h26 ha (by simpa using c2)⟩,by omega⟩
   ·have hL:=dC (by omega) ha
    refine⟨⟨0,rfl,Nat.zero_le _,rfl⟩,fun j ⟨hj,hb⟩=>?_⟩
    refine⟨List.length_map _,dd (fun c3=>?_) fun c3=>?_⟩
    ·refine⟨by omega,rfl,by omega,fun e39 h39=>?_⟩
     refine⟨aOe _ _ (by omega),dm (fun c4=>?_) fun c4=>?_⟩
     ·have hM:m.all (kQ d)=false:=eO h39 (by simpa using c4)
      refine⟨?_,trivial⟩
      ·(rw[kR,hL,hM,hz];rfl)
     ·refine⟨⟨by omega,by omega⟩,?_⟩
      exact⟨j+1,rfl,⟨by omega,cL h39 hb (by simpa using c4)⟩,by omega⟩
    ·have hM:=dC (by omega) hb
     refine⟨?_,trivial⟩
     ·(rw[kR,hL,hM,hz];rfl)
def gY (s:StoreD):Bool:=(fT s.database s.catalogue.version).2&&(decide ((fT s.database s.catalogue.version).1=s.catalogue)&&kR s.database s.dependencies s.inclusions)
abbrev aEY (s:StoreD):Prop:=cH Tryz.prog 81 [.agg [.sl 142 3 (s.database.tables.map aT),.int .i64 s.catalogue.version,.sl 88 4 (s.catalogue.tables.map aG),.sl 121 3 (s.dependencies.map aP),.sl 123 4 (s.inclusions.map aS)]] (vB (gY s)) []
theorem aRW (s:StoreD)(hc:dT s≤1048576):aEY s:=by
 refine aW bH aO Tryz.func81 (by kernel_rfl) (bL (aBV s.database s.catalogue.version)<| .br (.call (vB (decide (((fT s.database s.catalogue.version).1)=s.catalogue))) []<| .lit<| .br (.call (vB (kR s.database s.dependencies s.inclusions)) []<| .fin []) (.fin [])) (.fin [])) (p:=(s.database.tables.map aT).length≤9223372036854775807→(s.catalogue.tables.map aG).length≤9223372036854775807→(s.dependencies.map aP).length≤9223372036854775807→(s.inclusions.map aS).length≤9223372036854775807→aGe s.database s.catalogue.version∧Bb ((fT s.database s.catalogue.version).2) (aCY ((fT s.database s.catalogue.version).1) s.catalogue∧Br (((fT s.database s.catalogue.version).1)=s.catalogue) (aEW s.database s.dependencies s.inclusions∧(kR s.database s.dependencies s.inclusions)=(gY s)∧True) ((false)=(gY s)∧True)) ((false)=(gY s)∧True)) (by kernel_rfl) ?_
 intro n0 n1 n2 n3
 simp only[List.length_map] at n0 n1 n2 n3
 have hS:dT s=bR s.database+bX s.catalogue+cC s.dependencies+cU s.inclusions:=rfl
 have hsm:=aJn s.database s.catalogue.version
 refine⟨aTf s.database s.catalogue.version,db (fun g15=>?_) fun g15=>?_⟩
 ·refine⟨aOW _ _,dd (fun g21=>?_) fun g21=>?_⟩
  ·refine⟨aRU s.database _ _ (by omega),?_,trivial⟩
   ·(simp[gY, *];done)
  ·refine⟨?_,trivial⟩
   ·(simp[gY, *];done)
 ·refine⟨?_,trivial⟩
  ·(simp[gY, *];done)
abbrev aEZ (s:StoreD):Prop:=cH Tryz.prog 72 [.agg [.sl 142 3 (s.database.tables.map aT),.int .i64 s.catalogue.version,.sl 88 4 (s.catalogue.tables.map aG),.sl 121 3 (s.dependencies.map aP),.sl 123 4 (s.inclusions.map aS)]] (vB (gY s)) []
theorem aRX (s:StoreD)(hc:dT s≤1048576):aEZ s:=by
 refine aW bH aO Tryz.func72 (by kernel_rfl) (bL (aBW s.database s.catalogue.version)<| .br (.call (vB (decide (((fT s.database s.catalogue.version).1)=s.catalogue))) []<| .lit<| .br (.call (vB (kR s.database s.dependencies s.inclusions)) []<| .fin []) (.fin [])) (.fin [])) (p:=(s.database.tables.map aT).length≤9223372036854775807→(s.catalogue.tables.map aG).length≤9223372036854775807→(s.dependencies.map aP).length≤9223372036854775807→(s.inclusions.map aS).length≤9223372036854775807→aGf s.database s.catalogue.version∧Bb ((fT s.database s.catalogue.version).2) (aC0 ((fT s.database s.catalogue.version).1) s.catalogue∧Br (((fT s.database s.catalogue.version).1)=s.catalogue) (aEX s.database s.dependencies s.inclusions∧(kR s.database s.dependencies s.inclusions)=(gY s)∧True) ((false)=(gY s)∧True)) ((false)=(gY s)∧True)) (by kernel_rfl) ?_
 intro n0 n1 n2 n3
 simp only[List.length_map] at n0 n1 n2 n3
 have hS:dT s=bR s.database+bX s.catalogue+cC s.dependencies+cU s.inclusions:=rfl
 have hsm:=aJn s.database s.catalogue.version
 refine⟨aTg s.database s.catalogue.version,db (fun g15=>?_) fun g15=>?_⟩
 ·refine⟨aOX _ _ (by omega),dd (fun g21=>?_) fun g21=>?_⟩
  ·refine⟨aRV s.database _ _ (by omega),?_,trivial⟩
   ·(simp[gY, *];done)
  ·refine⟨?_,trivial⟩
   ·(simp[gY, *];done)
 ·refine⟨?_,trivial⟩
  ·(simp[gY, *];done)
abbrev aB4 (x:aM):AV × List (Nat × Rs):=(.agg [.p none (.str x.name),vI x.arity,vI x.rowCount,.own 0],[(0,.arr 220 3 true (x.groups.map aD))])
abbrev aHL (x:aM):Prop:=cH Tryz.prog 128 [.agg [.str x.name,.int .i64 x.arity,.int .i64 x.rowCount,.sl 220 3 (x.groups.map aD)]] (aB4 x).1 (aB4 x).2
theorem aUG (x:aM)(hc:bI x≤1048576):aHL x:=by
 refine aW bH aO Tryz.func128 (by kernel_rfl) (.loop (Nat × (List aR)) (Q2 Nat (List aR)) ([4,5,6]++rg 14 57) [300,500,2100,2800,2900,3600,5100,6100,6200,6300,6800,6900,9000,9001] (fun yy0=>[(4,vI (yy0.1:Int))]) (fun yy0=>[(300,some (.box 88 [.p none (.str x.name),vI x.arity,vI x.rowCount,.own 9000])),(9000,some (.arr 220 3 true (yy0.2.map aD)))]) (fun yy0=>yy0.1≤x.groups.length∧yy0.2=x.groups.take yy0.1) (fun yy0=>x.groups.length - yy0.1) (fun yy0=> .len x.groups.length<| .br (.elem _ aD x.groups (fun e25=> .app Int intD ([]:List Int) e25.columns<| .elem _ aD x.groups (fun e33=> .app Int intD ([]:List Int) e33.counts<| .loop (Nat × (List (List Int))) (Q2 Nat (List (List Int))) ([6]++rg 38 27) [500,5100,6100,6200,6300,9001] (fun yy1=>[(6,vI (yy1.1:Int))]) (fun yy1=>[(500,some (.box 220 [.own 2800,.own 9001,.own 3600])),(9001,some (.arr 91 1 true (yy1.2.map aC)))]) (fun yy1=>yy1.1≤e25.values.length∧yy1.2=e25.values.take yy1.1) (fun yy1=>e25.values.length - yy1.1) (fun yy1=> .elem _ aD x.groups (fun e42=> .len e42.values.length<| .br (.elem _ aD x.groups (fun e55=> .elem _ aC e55.values (fun e59=> .app Int intD ([]:List Int) e59<| .appx (List Int) aC yy1.2 (([]:List Int)++e59)<| .back [(500,500),(9001,6300)]))) (.appx aR aD yy0.2 (⟨([]:List Int)++e25.columns,yy1.2,([]:List Int)++e33.counts⟩:aR)<| .back [(300,300),(9000,6900)])))))) (.fin [(0,9000)]))) (p:=(x.groups.map aD).length≤9223372036854775807→(∃(k:Nat) (out:List aR),0=(k:Int)∧x.name=x.name∧x.arity=x.arity∧x.rowCount=x.rowCount∧[]=out.map aD∧k≤x.groups.length∧out=x.groups.take k)∧ ∀(k:Nat) (out:List aR),(k≤x.groups.length∧out=x.groups.take k)→Lm aD x.groups∧Br ((k:Int)<(x.groups.length:Int)) (0≤(k:Int)∧Em aD x.groups k fun e25=>[]=([]:List Int).map intD∧e25.columns.map intD=e25.columns.map intD∧(∀x,bW (intD x)=true)∧(([]:List Int).length+e25.columns.length)*8≤140737488355328∧(0≤(k:Int)∧Em aD x.groups k fun e33=>[]=([]:List Int).map intD∧e33.counts.map intD=e33.counts.map intD∧(∀x,bW (intD x)=true)∧(([]:List Int).length+e33.counts.length)*8≤140737488355328∧((∃(i:Nat) (v:List (List Int)),0=(i:Int)∧[]=v.map aC∧i≤e25.values.length∧v=e25.values.take i)∧ ∀(i:Nat) (v:List (List Int)),(i≤e25.values.length∧v=e25.values.take i)→0≤(k:Int)∧Em aD x.groups k fun e42=>Lm aC e42.values∧Br ((i:Int)<(e42.values.length:Int)) (0≤(k:Int)∧Em aD x.groups k fun e55=>0≤(i:Int)∧Em aC e55.values i fun e59=>[]=([]:List Int).map intD∧e59.map intD=e59.map intD∧(∀x,bW (intD x)=true)∧(([]:List Int).length+e59.length)*8≤140737488355328∧v.map aC=v.map aC∧(([]:List Int)++e59).map intD=(([]:List Int)++e59).map intD∧(v.length+1)*24≤140737488355328∧bO ((i:Int)+1)∧ ∃(i' :Nat) (v' :List (List Int)),((i:Int)+1)=(i' :Int)∧(v++[([]:List Int)++e59]).map aC=v'.map aC∧(i' ≤e25.values.length∧v' =e25.values.take i')∧e25.values.length - i' <e25.values.length - i) (out.map aD=out.map aD∧(([]:List Int)++e25.columns).map intD=(⟨([]:List Int)++e25.columns,v,([]:List Int)++e33.counts⟩:aR).columns.map intD∧v.map aC=(⟨([]:List Int)++e25.columns,v,([]:List Int)++e33.counts⟩:aR).values.map aC∧(([]:List Int)++e33.counts).map intD=(⟨([]:List Int)++e25.columns,v,([]:List Int)++e33.counts⟩:aR).counts.map intD∧(out.length+1)*72≤140737488355328∧bO ((k:Int)+1)∧ ∃(k' :Nat) (out' :List aR),((k:Int)+1)=(k' :Int)∧x.name=x.name∧x.arity=x.arity∧x.rowCount=x.rowCount∧(out++[(⟨([]:List Int)++e25.columns,v,([]:List Int)++e33.counts⟩:aR)]).map aD=out'.map aD∧(k' ≤x.groups.length∧out' =x.groups.take k')∧x.groups.length - k' <x.groups.length - k)))) (x.name=x.name∧x.arity=x.arity∧x.rowCount=x.rowCount∧out.map aD=x.groups.map aD∧True)) (by kernel_rfl) ?_
 intro n0
 simp only[List.length_map] at n0
 have q2:bI x=x.name.size+dP x.groups:=rfl
 have q5:=gI x.groups
 refine⟨⟨0,([]:List aR),rfl,rfl,rfl,rfl,rfl,Nat.zero_le _,rfl⟩,fun k out ⟨hk,ho⟩=>?_⟩
 refine⟨List.length_map _,dd (fun c0=>?_) fun c0=>?_⟩
 ·refine⟨by omega,rfl,by omega,fun e25 h25=>?_⟩
  try (obtain rfl:=(aZ h25 h25).symm)
  have q1:=hZ h25
  have q3:cA e25=cG e25.columns+cT e25.values+cG e25.counts:=rfl
  have q6:cG e25.columns=e25.columns.length:=rfl
  have q7:cG e25.counts=e25.counts.length:=rfl
  have q8:=fJ e25.values
  refine⟨rfl,rfl,fun _=>rfl,by (simp;omega),?_⟩
  refine⟨by omega,rfl,by omega,fun e33 h33=>?_⟩
  try (obtain rfl:=(aZ h25 h33).symm)
  refine⟨rfl,rfl,fun _=>rfl,by (simp;omega),?_⟩
  refine⟨⟨0,([]:List (List Int)),rfl,rfl,Nat.zero_le _,rfl⟩,fun i v ⟨hi,hv⟩=>?_⟩
  refine⟨by omega,rfl,by omega,fun e42 h42=>?_⟩
  try (obtain rfl:=(aZ h25 h42).symm)
  refine⟨List.length_map _,dd (fun c1=>?_) fun c1=>?_⟩
  ·refine⟨by omega,rfl,by omega,fun e55 h55=>?_⟩
   try (obtain rfl:=(aZ h25 h55).symm)
   refine⟨by omega,rfl,by omega,fun e59 h59=>?_⟩
   have hp3:=aA1 h59
   refine⟨rfl,rfl,fun _=>rfl,by (simp;omega),?_⟩
   refine⟨rfl,rfl,by (simp[hv];omega),⟨by omega,by omega⟩,?_⟩
   exact⟨i+1,_,rfl,rfl,⟨by omega,by rw[hv,bU h59];rfl⟩,by omega⟩
  ·have hvv:v=e25.values:=by rw[hv,List.take_of_length_le (by omega)]
   refine⟨rfl,rfl,rfl,rfl,by (simp[ho];omega),⟨by omega,by omega⟩,?_⟩
   exact⟨k+1,_,rfl,rfl,rfl,rfl,rfl,⟨by omega,by rw[ho,bU h25,hvv];rfl⟩,by omega⟩
 ·refine⟨rfl,rfl,rfl,?_,trivial⟩
  ·(rw[ho,List.take_of_length_le (by omega)])
def rZ (n:ByteArray)(x:aM):Bool:=(x.name.toList==n.toList)&&cN x
def cZ (c:cJ)(n:ByteArray):aM × Bool:=match c.tables.find? (rZ n) with | some x=>(x,true) | none=>(dQ,false)
theorem aDb {c:cJ}{n:ByteArray}{x:aM}(h:c.tables.find? (rZ n)=some x):cZ c n=(x,true):=by rw[cZ,h]
theorem aHM {c:cJ}{n:ByteArray}(h:c.tables.find? (rZ n)=none):cZ c n=(dQ,false):=by rw[cZ,h]
theorem aNE (c:cJ)(n:ByteArray):bI (cZ c n).1≤bX c:=by
 have hS:bX c=dZ c.tables:=rfl
 cases h:c.tables.find? (rZ n) with
 | none=>rw[aHM h];exact Nat.zero_le _
 | some x=>
   rw[aDb h,hS]
   obtain⟨i,hi⟩:=List.getElem?_of_mem (List.mem_of_find?_eq_some h)
   exact kM hi
abbrev aE0 (c:cJ)(n:ByteArray):AV × List (Nat × Rs):=(.tup [.agg [.p none (.str ((cZ c n).1.name)),vI ((cZ c n).1.arity),vI ((cZ c n).1.rowCount),.own 0],vB ((cZ c n).2)],[(0,.arr 220 3 true ((cZ c n).1.groups.map aD))])
abbrev aNF (c:cJ)(n:ByteArray):Prop:=cH Tryz.prog 154 [.agg [.int .i64 c.version,.sl 88 4 (c.tables.map aG)],.one (.str n)] (aE0 c n).1 (aE0 c n).2
theorem aRY (c:cJ)(n:ByteArray)(hc:bX c≤1048576):aNF c n:=by
 refine aW bH aO Tryz.func154 (by kernel_rfl) (.len c.tables.length<| .loop Nat (Q1 Nat) ([7]++rg 11 12++[25]) [700] (fun k=>[(11,vI (k:Int))]) (fun k=>[]) (fun k=>k≤c.tables.length∧(c.tables.take k).all (fun y=> !rZ n y)=true) (fun k=>c.tables.length - k) (fun k=> .br (.elem _ aG c.tables (fun e13=> .br (.call (vB (cN e13)) []<| .lit<| .br (bL (aBT e13)<| .fin [(0,2400)]) (.back [])) (.back []))) (.fin []))) (p:=(c.tables.map aG).length≤9223372036854775807→Lm aG c.tables∧((∃(k:Nat),0=(k:Int)∧k≤c.tables.length∧(c.tables.take k).all (fun y=> !rZ n y)=true)∧ ∀(k:Nat),(k≤c.tables.length∧(c.tables.take k).all (fun y=> !rZ n y)=true)→Br ((k:Int)<(c.tables.length:Int)) (0≤(k:Int)∧Em aG c.tables k fun e13=>Bb (e13.name.toList==n.toList) (aBU e13∧Bb (cN e13) (aGa e13∧e13.name=((cZ c n).1.name)∧e13.arity=((cZ c n).1.arity)∧e13.rowCount=((cZ c n).1.rowCount)∧(true)=((cZ c n).2)∧e13.groups.map aD=(cZ c n).1.groups.map aD∧True) (bO ((k:Int)+1)∧ ∃(k' :Nat),((k:Int)+1)=(k' :Int)∧(k' ≤c.tables.length∧(c.tables.take k').all (fun y=> !rZ n y)=true)∧c.tables.length - k' <c.tables.length - k)) (bO ((k:Int)+1)∧ ∃(k' :Nat),((k:Int)+1)=(k' :Int)∧(k' ≤c.tables.length∧(c.tables.take k').all (fun y=> !rZ n y)=true)∧c.tables.length - k' <c.tables.length - k)) (ByteArray.empty=((cZ c n).1.name)∧0=((cZ c n).1.arity)∧0=((cZ c n).1.rowCount)∧(false)=((cZ c n).2)∧[]=(cZ c n).1.groups.map aD∧True))) (by kernel_rfl) ?_
 intro n0
 simp only[List.length_map] at n0
 have hS:bX c=dZ c.tables:=rfl
 refine⟨List.length_map _,⟨0,rfl,Nat.zero_le _,rfl⟩,fun k ⟨hk,ha⟩=>?_⟩
 refine dd (fun c0=>?_) fun c0=>?_
 ·refine⟨by omega,rfl,by omega,fun e13 h13=>?_⟩
  try (obtain rfl:=(aZ h13 h13).symm)
  have q1:=kM h13
  refine db (fun g19=>?_) fun g19=>?_
  ·refine⟨aMg _ (by omega),db (fun c1=>?_) fun c1=>?_⟩
   ·have hf:=aLI (p:=rZ n) h13 ha (by simp[rZ,g19,c1])
    refine⟨aTb _ (by omega),?_,?_,?_,?_,?_,trivial⟩<;>((rw[aDb hf]<;>rfl))
   ·refine⟨⟨by omega,by omega⟩,?_⟩
    exact⟨k+1,rfl,⟨by omega,cL h13 ha (by (simp[rZ,g19,c1];done))⟩,by omega⟩
  ·refine⟨⟨by omega,by omega⟩,?_⟩
   exact⟨k+1,rfl,⟨by omega,cL h13 ha (by (simp[rZ,g19];done))⟩,by omega⟩
 ·have hall:=aLJ (dC (by omega) ha)
  refine⟨?_,?_,?_,?_,?_,trivial⟩<;>((rw[aHM hall]<;>rfl))
abbrev aE1 (c:cJ)(n:ByteArray):AV × List (Nat × Rs):=(.tup [.agg [.p none (.str ((cZ c n).1.name)),vI ((cZ c n).1.arity),vI ((cZ c n).1.rowCount),.own 0],vB ((cZ c n).2)],[(0,.arr 220 3 true ((cZ c n).1.groups.map aD))])
abbrev aNG (c:cJ)(n:ByteArray):Prop:=cH Tryz.prog 76 [.agg [.int .i64 c.version,.sl 88 4 (c.tables.map aG)],.one (.str n)] (aE1 c n).1 (aE1 c n).2
theorem aRZ (c:cJ)(n:ByteArray)(hc:bX c≤1048576):aNG c n:=by
 refine aW bH aO Tryz.func76 (by kernel_rfl) (.loop Nat (Q1 Nat) (rg 6 24) [] (fun k=>[(6,vI (k:Int))]) (fun k=>[]) (fun k=>k≤c.tables.length∧(c.tables.take k).all (fun y=> !rZ n y)=true) (fun k=>c.tables.length - k) (fun k=> .len c.tables.length<| .br (.elem _ aG c.tables (fun e17=> .br (.elem _ aG c.tables (fun e26=> .call (vB (cN e26)) []<| .lit<| .br (.elem _ aG c.tables (fun e33=>bL (aB4 e33)<| .fin [(0,3500)])) (.back []))) (.back []))) (.fin []))) (p:=(c.tables.map aG).length≤9223372036854775807→(∃(k:Nat),0=(k:Int)∧k≤c.tables.length∧(c.tables.take k).all (fun y=> !rZ n y)=true)∧ ∀(k:Nat),(k≤c.tables.length∧(c.tables.take k).all (fun y=> !rZ n y)=true)→Lm aG c.tables∧Br ((k:Int)<(c.tables.length:Int)) (0≤(k:Int)∧Em aG c.tables k fun e17=>Bb (e17.name.toList==n.toList) (0≤(k:Int)∧Em aG c.tables k fun e26=>vJ e26∧Bb (cN e26) (0≤(k:Int)∧Em aG c.tables k fun e33=>aHL e33∧e33.name=((cZ c n).1.name)∧e33.arity=((cZ c n).1.arity)∧e33.rowCount=((cZ c n).1.rowCount)∧(true)=((cZ c n).2)∧e33.groups.map aD=(cZ c n).1.groups.map aD∧True) (bO ((k:Int)+1)∧ ∃(k' :Nat),((k:Int)+1)=(k' :Int)∧(k' ≤c.tables.length∧(c.tables.take k').all (fun y=> !rZ n y)=true)∧c.tables.length - k' <c.tables.length - k)) (bO ((k:Int)+1)∧ ∃(k' :Nat),((k:Int)+1)=(k' :Int)∧(k' ≤c.tables.length∧(c.tables.take k').all (fun y=> !rZ n y)=true)∧c.tables.length - k' <c.tables.length - k)) (ByteArray.empty=((cZ c n).1.name)∧0=((cZ c n).1.arity)∧0=((cZ c n).1.rowCount)∧(false)=((cZ c n).2)∧[]=(cZ c n).1.groups.map aD∧True)) (by kernel_rfl) ?_
 intro n0
 simp only[List.length_map] at n0
 have hS:bX c=dZ c.tables:=rfl
 refine⟨⟨0,rfl,Nat.zero_le _,rfl⟩,fun k ⟨hk,ha⟩=>?_⟩
 refine⟨List.length_map _,dd (fun c0=>?_) fun c0=>?_⟩
 ·refine⟨by omega,rfl,by omega,fun e17 h17=>?_⟩
  try (obtain rfl:=(aZ h17 h17).symm)
  have q1:=kM h17
  refine db (fun g22=>?_) fun g22=>?_
  ·refine⟨by omega,rfl,by omega,fun e26 h26=>?_⟩
   try (obtain rfl:=(aZ h17 h26).symm)
   refine⟨aHA _ (by omega),db (fun c1=>?_) fun c1=>?_⟩
   ·have hf:=aLI (p:=rZ n) h17 ha (by simp[rZ,g22,c1])
    refine⟨by omega,rfl,by omega,fun e33 h33=>?_⟩
    try (obtain rfl:=(aZ h17 h33).symm)
    refine⟨aUG _ (by omega),?_,?_,?_,?_,?_,trivial⟩<;>((rw[aDb hf]<;>rfl))
   ·refine⟨⟨by omega,by omega⟩,?_⟩
    exact⟨k+1,rfl,⟨by omega,cL h17 ha (by (simp[rZ,g22,c1];done))⟩,by omega⟩
  ·refine⟨⟨by omega,by omega⟩,?_⟩
   exact⟨k+1,rfl,⟨by omega,cL h17 ha (by (simp[rZ,g22];done))⟩,by omega⟩
 ·have hall:=aLJ (dC (by omega) ha)
  refine⟨?_,?_,?_,?_,?_,trivial⟩<;>((rw[aHM hall]<;>rfl))
def gT (d:aV)(q:QueryD):Bool:=cO q&&q.atoms.all fun a=>(aL d a.name).2&&decide ((aL d a.name).1.arity=(a.vars.length:Nat))
def qOk (s:StoreD)(q:QueryD)(m:Int):Bool:=gY s&&(gT s.database q&&eI m 1 (nN q))
def gC (s:StoreD)(q:QueryD)(i:Nat):aM:=(cZ s.catalogue (q.atoms.getD i iR).name).1
theorem aR0 {d:aV}{q:QueryD}(h:gT d q=true):cO q=true∧ ∀a∈q.atoms,(aL d a.name).2=true∧(aL d a.name).1.arity=(a.vars.length:Nat):=by
 simp only[gT,Bool.and_eq_true] at h
 exact⟨h.1,fun a ha=>by simpa using List.all_eq_true.1 h.2 a ha⟩
theorem aDc {s:StoreD}{q:QueryD}{m:Int}(h:qOk s q m=true):gY s=true∧gT s.database q=true∧cO q=true∧1≤m∧m≤1*2^q.atoms.length - 1∧m≤15∧jO q m=true∧(1≤q.atoms.length∧q.atoms.length≤4):=by
 simp only[qOk,Bool.and_eq_true] at h
 have h1:=eG h.2.2
 have h2:=(aR0 h.2.1).1
 have h3:=fZ h2
 have h4:=mG h3.2.1
 rw[aD9 h2] at h1
 exact⟨h.1,h.2.1,h2,h1.1,h1.2,by omega,by rw[jO,h2,pX (by omega) h1.2];rfl,h3.2.1⟩
abbrev aHN (d:aV)(q:QueryD):Prop:=cH Tryz.prog 82 [.agg [.sl 142 3 (d.tables.map aT)],.agg [.int .i64 q.variableCount,.sl 125 2 (q.atoms.map bM)]] (vB (gT d q)) []
theorem aUH (d:aV)(q:QueryD)(hc:bR d≤1048576):aHN d q:=by
 refine aW bH aO Tryz.func82 (by kernel_rfl) (.call (vB (cO q)) []<| .br (.fin []) (.len q.atoms.length<| .loop Nat (Q1 Nat) ([6,7,8]++rg 15 22) [600,700] (fun k=>[(15,vI (k:Int))]) (fun k=>[]) (fun k=>k≤q.atoms.length∧(q.atoms.take k).all (fun a=>(aL d a.name).2&&decide ((aL d a.name).1.arity=(a.vars.length:Nat)))=true) (fun k=>q.atoms.length - k) (fun k=> .br (.elem _ bM q.atoms (fun e17=> .call (.tup [.agg [.p none (.str ((aL d e17.name).1.name)),vI ((aL d e17.name).1.arity),.p none (.sl 91 1 ((aL d e17.name).1.rows.map aC))],vB ((aL d e17.name).2)]) []<| .br (.fin []) (.len e17.vars.length<| .lit<| .lit<| .br (.fin []) (.back [])))) (.fin [])))) (p:=(d.tables.map aT).length≤9223372036854775807→(q.atoms.map bM).length≤9223372036854775807→vL q∧Nr (cO q) ((false)=(gT d q)∧True) (Lm bM q.atoms∧((∃(k:Nat),0=(k:Int)∧k≤q.atoms.length∧(q.atoms.take k).all (fun a=>(aL d a.name).2&&decide ((aL d a.name).1.arity=(a.vars.length:Nat)))=true)∧ ∀(k:Nat),(k≤q.atoms.length∧(q.atoms.take k).all (fun a=>(aL d a.name).2&&decide ((aL d a.name).1.arity=(a.vars.length:Nat)))=true)→Br ((k:Int)<(q.atoms.length:Int)) (0≤(k:Int)∧Em bM q.atoms k fun e17=>cH Tryz.prog 86 [.agg [.sl 142 3 (d.tables.map aT)],.one (.str e17.name)] (.tup [.agg [.p none (.str ((aL d e17.name).1.name)),vI ((aL d e17.name).1.arity),.p none (.sl 91 1 ((aL d e17.name).1.rows.map aC))],vB ((aL d e17.name).2)]) []∧Nr ((aL d e17.name).2) ((false)=(gT d q)∧True) (Lm intD e17.vars∧Nb (((aL d e17.name).1.arity)=(e17.vars.length:Int)) ((false)=(gT d q)∧True) (bO ((k:Int)+1)∧ ∃(k' :Nat),((k:Int)+1)=(k' :Int)∧(k' ≤q.atoms.length∧(q.atoms.take k').all (fun a=>(aL d a.name).2&&decide ((aL d a.name).1.arity=(a.vars.length:Nat)))=true)∧q.atoms.length - k' <q.atoms.length - k))) ((true)=(gT d q)∧True)))) (by kernel_rfl) ?_
 intro n0 n1
 simp only[List.length_map] at n0 n1
 refine⟨aHJ q,dm (fun c0=>?_) fun c0=>?_⟩
 ·refine⟨?_,trivial⟩
  ·(rw[gT,c0];rfl)
 ·refine⟨List.length_map _,⟨0,rfl,Nat.zero_le _,rfl⟩,fun k ⟨hk,ha⟩=>?_⟩
  refine dd (fun c1=>?_) fun c1=>?_
  ·refine⟨by omega,rfl,by omega,fun e17 h17=>?_⟩
   try (obtain rfl:=(aZ h17 h17).symm)
   refine⟨jT (rM _ e17.name (by omega)) rfl,dm (fun g28=>?_) fun g28=>?_⟩
   ·have hA:((aL d e17.name).2&&decide ((aL d e17.name).1.arity=(e17.vars.length:Nat)))=false:=by (rw[g28];rfl)
    refine⟨?_,trivial⟩
    ·(rw[gT,eO h17 hA,Bool.and_false];done)
   ·refine⟨List.length_map _,dn (fun c2=>?_) fun c2=>?_⟩
    ·have hA:((aL d e17.name).2&&decide ((aL d e17.name).1.arity=(e17.vars.length:Nat)))=false:=by (rw[g28];simp[c2];done)
     refine⟨?_,trivial⟩
     ·(rw[gT,eO h17 hA,Bool.and_false];done)
    ·have hA:((aL d e17.name).2&&decide ((aL d e17.name).1.arity=(e17.vars.length:Nat)))=true:=by rw[g28];simp[c2]
     refine⟨⟨by omega,by omega⟩,?_⟩
     exact⟨k+1,rfl,⟨by omega,cL h17 ha hA⟩,by omega⟩
  ·refine⟨?_,trivial⟩
   ·(rw[gT,c0,dC (by omega) ha];rfl)
abbrev aE3 (q:QueryD):Prop:=cH Tryz.prog 84 [.agg [.int .i64 q.variableCount,.sl 125 2 (q.atoms.map bM)]] (vI (nN q)) []
theorem aR1 (q:QueryD):aE3 q:=by
 refine aW bH aO Tryz.func84 (by kernel_rfl) (.call (vB (cO q)) []<| .br (.fin []) (.len q.atoms.length<| .fin [])) (p:=(q.atoms.map bM).length≤9223372036854775807→vL q∧Nr (cO q) (0=(nN q)∧True) (Lm bM q.atoms∧(0≤(q.atoms.length:Int)∧(q.atoms.length:Int)≤64)∧bO ((1:Int)*2^q.atoms.length)∧bO (((1:Int)*2^q.atoms.length) - 1)∧(((1:Int)*2^q.atoms.length) - 1)=(nN q)∧True)) (by kernel_rfl) ?_
 intro n0
 simp only[List.length_map] at n0
 refine⟨aHJ q,dm (fun c0=>?_) fun c0=>?_⟩
 ·refine⟨?_,trivial⟩
  ·(rw[aMv c0];done)
 ·have w:=mG (fZ c0).2.1
  have w2:=(fZ c0).2.1
  refine⟨List.length_map _,⟨by omega,by omega⟩,⟨by omega,by omega⟩,⟨by omega,by omega⟩,?_,trivial⟩
  ·(rw[aD9 c0];done)
abbrev aHO (d:aV)(q:QueryD):Prop:=cH Tryz.prog 73 [.agg [.sl 142 3 (d.tables.map aT)],.agg [.int .i64 q.variableCount,.sl 125 2 (q.atoms.map bM)]] (vB (gT d q)) []
theorem aUI (d:aV)(q:QueryD)(hc:bR d≤1048576):aHO d q:=by
 refine aW bH aO Tryz.func73 (by kernel_rfl) (.call (vB (cO q)) []<| .br (.fin []) (.loop Nat (Q1 Nat) ([5,6,7]++rg 11 32) [600] (fun k=>[(5,vI (k:Int))]) (fun k=>[]) (fun k=>k≤q.atoms.length∧(q.atoms.take k).all (fun a=>(aL d a.name).2&&decide ((aL d a.name).1.arity=(a.vars.length:Nat)))=true) (fun k=>q.atoms.length - k) (fun k=> .len q.atoms.length<| .br (.elem _ bM q.atoms (fun e23=> .call (.tup [.agg [.p none (.str ((aL d e23.name).1.name)),vI ((aL d e23.name).1.arity),.p none (.sl 91 1 ((aL d e23.name).1.rows.map aC))],vB ((aL d e23.name).2)]) []<| .br (.fin []) (.elem _ bM q.atoms (fun e37=> .len e37.vars.length<| .lit<| .lit<| .br (.fin []) (.back []))))) (.fin [])))) (p:=(d.tables.map aT).length≤9223372036854775807→(q.atoms.map bM).length≤9223372036854775807→vM q∧Nr (cO q) ((false)=(gT d q)∧True) ((∃(k:Nat),0=(k:Int)∧k≤q.atoms.length∧(q.atoms.take k).all (fun a=>(aL d a.name).2&&decide ((aL d a.name).1.arity=(a.vars.length:Nat)))=true)∧ ∀(k:Nat),(k≤q.atoms.length∧(q.atoms.take k).all (fun a=>(aL d a.name).2&&decide ((aL d a.name).1.arity=(a.vars.length:Nat)))=true)→Lm bM q.atoms∧Br ((k:Int)<(q.atoms.length:Int)) (0≤(k:Int)∧Em bM q.atoms k fun e23=>cH Tryz.prog 126 [.agg [.sl 142 3 (d.tables.map aT)],.one (.str e23.name)] (.tup [.agg [.p none (.str ((aL d e23.name).1.name)),vI ((aL d e23.name).1.arity),.p none (.sl 91 1 ((aL d e23.name).1.rows.map aC))],vB ((aL d e23.name).2)]) []∧Nr ((aL d e23.name).2) ((false)=(gT d q)∧True) (0≤(k:Int)∧Em bM q.atoms k fun e37=>Lm intD e37.vars∧Nb (((aL d e23.name).1.arity)=(e37.vars.length:Int)) ((false)=(gT d q)∧True) (bO ((k:Int)+1)∧ ∃(k' :Nat),((k:Int)+1)=(k' :Int)∧(k' ≤q.atoms.length∧(q.atoms.take k').all (fun a=>(aL d a.name).2&&decide ((aL d a.name).1.arity=(a.vars.length:Nat)))=true)∧q.atoms.length - k' <q.atoms.length - k))) ((true)=(gT d q)∧True))) (by kernel_rfl) ?_
 intro n0 n1
 simp only[List.length_map] at n0 n1
 refine⟨aHK q,dm (fun c0=>?_) fun c0=>?_⟩
 ·refine⟨?_,trivial⟩
  ·(rw[gT,c0];rfl)
 ·refine⟨⟨0,rfl,Nat.zero_le _,rfl⟩,fun k ⟨hk,ha⟩=>?_⟩
  refine⟨List.length_map _,dd (fun c1=>?_) fun c1=>?_⟩
  ·refine⟨by omega,rfl,by omega,fun e23 h23=>?_⟩
   try (obtain rfl:=(aZ h23 h23).symm)
   refine⟨jT (rN _ e23.name (by omega)) rfl,dm (fun g31=>?_) fun g31=>?_⟩
   ·have hA:((aL d e23.name).2&&decide ((aL d e23.name).1.arity=(e23.vars.length:Nat)))=false:=by (rw[g31];rfl)
    refine⟨?_,trivial⟩
    ·(rw[gT,eO h23 hA,Bool.and_false];done)
   ·refine⟨by omega,rfl,by omega,fun e37 h37=>?_⟩
    try (obtain rfl:=(aZ h23 h37).symm)
    refine⟨List.length_map _,dn (fun c2=>?_) fun c2=>?_⟩
    ·have hA:((aL d e23.name).2&&decide ((aL d e23.name).1.arity=(e23.vars.length:Nat)))=false:=by (rw[g31];simp[c2];done)
     refine⟨?_,trivial⟩
     ·(rw[gT,eO h23 hA,Bool.and_false];done)
    ·have hA:((aL d e23.name).2&&decide ((aL d e23.name).1.arity=(e23.vars.length:Nat)))=true:=by rw[g31];simp[c2]
     refine⟨⟨by omega,by omega⟩,?_⟩
     exact⟨k+1,rfl,⟨by omega,cL h23 ha hA⟩,by omega⟩
  ·refine⟨?_,trivial⟩
   ·(rw[gT,c0,dC (by omega) ha];rfl)
abbrev aE4 (q:QueryD):Prop:=cH Tryz.prog 75 [.agg [.int .i64 q.variableCount,.sl 125 2 (q.atoms.map bM)]] (vI (nN q)) []
theorem aR2 (q:QueryD):aE4 q:=by
 refine aW bH aO Tryz.func75 (by kernel_rfl) (.call (vB (cO q)) []<| .br (.fin []) (.len q.atoms.length<| .fin [])) (p:=(q.atoms.map bM).length≤9223372036854775807→vM q∧Nr (cO q) (0=(nN q)∧True) (Lm bM q.atoms∧(0≤(q.atoms.length:Int)∧(q.atoms.length:Int)≤64)∧bO ((1:Int)*2^q.atoms.length)∧bO (((1:Int)*2^q.atoms.length) - 1)∧(((1:Int)*2^q.atoms.length) - 1)=(nN q)∧True)) (by kernel_rfl) ?_
 intro n0
 simp only[List.length_map] at n0
 refine⟨aHK q,dm (fun c0=>?_) fun c0=>?_⟩
 ·refine⟨?_,trivial⟩
  ·(rw[aMv c0];done)
 ·have w:=mG (fZ c0).2.1
  have w2:=(fZ c0).2.1
  refine⟨List.length_map _,⟨by omega,by omega⟩,⟨by omega,by omega⟩,⟨by omega,by omega⟩,?_,trivial⟩
  ·(rw[aD9 c0];done)
abbrev aB5 (m:Int):AV × List (Nat × Rs):=(.own 0,[(0,.arr 3 1 true ((fF m).map intD))])
abbrev aHP (m:Int):Prop:=cH Tryz.prog 85 [.one (.int .i64 m)] (aB5 m).1 (aB5 m).2
theorem aUJ (m:Int):aHP m:=by
 refine aW bH aO Tryz.func85 (by kernel_rfl) (.call (vB (eI m (0:Int) (15:Int))) []<| .br (.fin []) (.loop (Nat × (List Int)) (Q2 Nat (List Int)) ([3,4]++rg 8 14) [800,2000,2100] (fun yy0=>[(4,vI (yy0.1:Int)),(3,.own 800)]) (fun yy0=>[(800,some (.arr 3 1 true (yy0.2.map intD)))]) (fun yy0=>yy0.1≤4∧yy0.2=gS (fP m) yy0.1) (fun yy0=>4 - yy0.1) (fun yy0=> .br (.br (.app Int intD yy0.2 ([(yy0.1:Int)]:List Int)<| .back [(800,2100)]) (.back [(800,800)])) (.fin [(0,800)])))) (p:=eW m (0:Int) (15:Int)∧Nr (eI m (0:Int) (15:Int)) ([]=(fF m).map intD∧True) ((∃(i:Nat) (out:List Int),0=(i:Int)∧[]=out.map intD∧i≤4∧out=gS (fP m) i)∧ ∀(i:Nat) (out:List Int),(i≤4∧out=gS (fP m) i)→Br ((i:Int)<4) ((0≤(i:Int)∧(i:Int)≤64)∧Br ((cI .and .i64 (m/2^i) (1:Int))=1) (out.map intD=out.map intD∧[[.int .i64 (i:Int)]]=([(i:Int)]:List Int).map intD∧(∀x,bW (intD x)=true)∧(out.length+([(i:Int)]:List Int).length)*8≤140737488355328∧bO ((i:Int)+1)∧ ∃(i' :Nat) (out' :List Int),((i:Int)+1)=(i' :Int)∧(out++[(i:Int)]).map intD=out'.map intD∧(i' ≤4∧out' =gS (fP m) i')∧4 - i' <4 - i) (bO ((i:Int)+1)∧ ∃(i' :Nat) (out' :List Int),((i:Int)+1)=(i' :Int)∧out.map intD=out'.map intD∧(i' ≤4∧out' =gS (fP m) i')∧4 - i' <4 - i)) (out.map intD=(fF m).map intD∧True))) (by kernel_rfl) ?_
 refine⟨iV _ _ _,dm (fun c0=>?_) fun c0=>?_⟩
 ·refine⟨?_,trivial⟩
  ·(rw[aMu c0];rfl)
 ·refine⟨⟨0,([]:List Int),rfl,rfl,by omega,rfl⟩,fun i out ⟨hi,ho⟩=>?_⟩
  refine dd (fun c1=>?_) fun c1=>?_
  ·refine⟨⟨by omega,by omega⟩,dd (fun c2=>?_) fun c2=>?_⟩
   ·refine⟨rfl,rfl,fun _=>rfl,by (rw[ho];have:=yR (fP m) i;simp only[List.length_cons,List.length_nil];omega),?_⟩
    refine⟨⟨by omega,by omega⟩,?_⟩
    exact⟨i+1,_,rfl,rfl,⟨by omega,by (rw[ho,yQ (aFV c2)];done)⟩,by omega⟩
   ·refine⟨⟨by omega,by omega⟩,?_⟩
    exact⟨i+1,_,rfl,rfl,⟨by omega,by (rw[ho,aA5 (aD7 c2)];done)⟩,by omega⟩
  ·refine⟨?_,trivial⟩
   ·(rw[aD8 c0,ho,show i=4 by omega])
abbrev aHQ (q:QueryD)(m:Int):Prop:=cH Tryz.prog 156 [.agg [.int .i64 q.variableCount,.sl 125 2 (q.atoms.map bM)],.one (.int .i64 m)] (vB (jO q m)) []
theorem aUK (q:QueryD)(m:Int):aHQ q m:=by
 refine aW bH aO Tryz.func156 (by kernel_rfl) (.call (vB (cO q)) []<| .br (.len q.atoms.length<| .call (vB (eI m (0:Int) (((1:Int)*2^q.atoms.length) - 1))) []<| .fin []) (.fin [])) (p:=(q.atoms.map bM).length≤9223372036854775807→vL q∧Bb (cO q) (Lm bM q.atoms∧(0≤(q.atoms.length:Int)∧(q.atoms.length:Int)≤64)∧bO ((1:Int)*2^q.atoms.length)∧bO (((1:Int)*2^q.atoms.length) - 1)∧eW m (0:Int) (((1:Int)*2^q.atoms.length) - 1)∧(eI m (0:Int) (((1:Int)*2^q.atoms.length) - 1))=(jO q m)∧True) ((false)=(jO q m)∧True)) (by kernel_rfl) ?_
 intro n0
 simp only[List.length_map] at n0
 refine⟨aHJ q,db (fun g7=>?_) fun g7=>?_⟩
 ·have w:=mG (fZ g7).2.1
  have w2:=(fZ g7).2.1
  refine⟨List.length_map _,⟨by omega,by omega⟩,⟨by omega,by omega⟩,⟨by omega,by omega⟩,iV _ _ _,?_,trivial⟩
  ·(rw[jO,g7];rfl)
 ·refine⟨?_,trivial⟩
  ·(rw[jO,g7];rfl)
abbrev aHR (q:QueryD)(m:Int):Prop:=cH Tryz.prog 141 [.agg [.int .i64 q.variableCount,.sl 125 2 (q.atoms.map bM)],.one (.int .i64 m)] (vB (jO q m)) []
theorem aUL (q:QueryD)(m:Int):aHR q m:=by
 refine aW bH aO Tryz.func141 (by kernel_rfl) (.call (vB (cO q)) []<| .br (.len q.atoms.length<| .call (vB (eI m (0:Int) (((1:Int)*2^q.atoms.length) - 1))) []<| .fin []) (.fin [])) (p:=(q.atoms.map bM).length≤9223372036854775807→vM q∧Bb (cO q) (Lm bM q.atoms∧(0≤(q.atoms.length:Int)∧(q.atoms.length:Int)≤64)∧bO ((1:Int)*2^q.atoms.length)∧bO (((1:Int)*2^q.atoms.length) - 1)∧eX m (0:Int) (((1:Int)*2^q.atoms.length) - 1)∧(eI m (0:Int) (((1:Int)*2^q.atoms.length) - 1))=(jO q m)∧True) ((false)=(jO q m)∧True)) (by kernel_rfl) ?_
 intro n0
 simp only[List.length_map] at n0
 refine⟨aHK q,db (fun g7=>?_) fun g7=>?_⟩
 ·have w:=mG (fZ g7).2.1
  have w2:=(fZ g7).2.1
  refine⟨List.length_map _,⟨by omega,by omega⟩,⟨by omega,by omega⟩,⟨by omega,by omega⟩,iW _ _ _,?_,trivial⟩
  ·(rw[jO,g7];rfl)
 ·refine⟨?_,trivial⟩
  ·(rw[jO,g7];rfl)
abbrev zA (q:QueryD)(m:Int):AV × List (Nat × Rs):=(.own 0,[(0,.arr 3 1 true ((aEJ q m).map intD))])
abbrev aE5 (q:QueryD)(m:Int):Prop:=cH Tryz.prog 157 [.agg [.int .i64 q.variableCount,.sl 125 2 (q.atoms.map bM)],.one (.int .i64 m)] (zA q m).1 (zA q m).2
theorem aR3 (q:QueryD)(m:Int)(hq:cO q=true):aE5 q m:=by
 refine aW bH aO Tryz.func157 (by kernel_rfl) (.loop (Nat × (List Int)) (Q2 Nat (List Int)) (rg 5 35) [800,900,3700,3800] (fun yy0=>[(6,vI (yy0.1:Int)),(5,.own 900)]) (fun yy0=>[(900,some (.arr 3 1 true (yy0.2.map intD)))]) (fun yy0=>(yy0.1:Int)≤q.variableCount∧yy0.2=gS (inM q m) yy0.1) (fun yy0=>q.variableCount.toNat - yy0.1) (fun yy0=> .br (.len q.atoms.length<| .loop Nat (Q1 Nat) ([7,8]++rg 19 16++[39]) [800] (fun i=>[(19,vI (i:Int))]) (fun i=>[]) (fun i=>i≤q.atoms.length∧vG q m i yy0.1=false) (fun i=>q.atoms.length - i) (fun i=> .br (.elem _ bM q.atoms (fun e22=> .br (.call (vB (decide ((yy0.1:Int)∈e22.vars))) []<| .lit<| .br (.app Int intD yy0.2 ([(yy0.1:Int)]:List Int)<| .back [(900,3800)]) (.back [])) (.back []))) (.back [(900,900)]))) (.fin [(0,900)]))) (p:=(q.atoms.map bM).length≤9223372036854775807→(∃(v:Nat) (out:List Int),0=(v:Int)∧[]=out.map intD∧(v:Int)≤q.variableCount∧out=gS (inM q m) v)∧ ∀(v:Nat) (out:List Int),((v:Int)≤q.variableCount∧out=gS (inM q m) v)→Br ((v:Int)<q.variableCount) (Lm bM q.atoms∧((∃(i:Nat),0=(i:Int)∧i≤q.atoms.length∧vG q m i v=false)∧ ∀(i:Nat),(i≤q.atoms.length∧vG q m i v=false)→Br ((i:Int)<(q.atoms.length:Int)) (0≤(i:Int)∧Em bM q.atoms i fun e22=>(0≤(i:Int)∧(i:Int)≤64)∧Br ((cI .and .i64 (m/2^i) (1:Int))=1) (aMo e22.vars (v:Int)∧Bb (decide ((v:Int)∈e22.vars)) (out.map intD=out.map intD∧[[.int .i64 (v:Int)]]=([(v:Int)]:List Int).map intD∧(∀x,bW (intD x)=true)∧(out.length+([(v:Int)]:List Int).length)*8≤140737488355328∧bO ((v:Int)+1)∧ ∃(v' :Nat) (out' :List Int),((v:Int)+1)=(v' :Int)∧(out++[(v:Int)]).map intD=out'.map intD∧((v' :Int)≤q.variableCount∧out' =gS (inM q m) v')∧q.variableCount.toNat - v' <q.variableCount.toNat - v) (bO ((i:Int)+1)∧ ∃(i' :Nat),((i:Int)+1)=(i' :Int)∧(i' ≤q.atoms.length∧vG q m i' v=false)∧q.atoms.length - i' <q.atoms.length - i)) (bO ((i:Int)+1)∧ ∃(i' :Nat),((i:Int)+1)=(i' :Int)∧(i' ≤q.atoms.length∧vG q m i' v=false)∧q.atoms.length - i' <q.atoms.length - i)) (bO ((v:Int)+1)∧ ∃(v' :Nat) (out' :List Int),((v:Int)+1)=(v' :Int)∧out.map intD=out'.map intD∧((v' :Int)≤q.variableCount∧out' =gS (inM q m) v')∧q.variableCount.toNat - v' <q.variableCount.toNat - v))) (out.map intD=(aEJ q m).map intD∧True)) (by kernel_rfl) ?_
 intro n0
 simp only[List.length_map] at n0
 have w:=(fZ hq).1
 have w2:=(fZ hq).2.1
 refine⟨⟨0,([]:List Int),rfl,rfl,by omega,rfl⟩,fun v out ⟨hv,ho⟩=>?_⟩
 refine dd (fun c0=>?_) fun c0=>?_
 ·refine⟨List.length_map _,⟨0,rfl,Nat.zero_le _,rfl⟩,fun i ⟨hi,hn⟩=>?_⟩
  refine dd (fun c1=>?_) fun c1=>?_
  ·refine⟨by omega,rfl,by omega,fun e22 h22=>?_⟩
   refine⟨⟨by omega,by omega⟩,dd (fun g29=>?_) fun g29=>?_⟩
   ·refine⟨ctI _ _,db (fun c2=>?_) fun c2=>?_⟩
    ·have hT:inM q m v=true:=aWO h22 (aFV g29) c2
     refine⟨rfl,rfl,fun _=>rfl,by (rw[ho];have:=yR (inM q m) v;simp only[List.length_cons,List.length_nil];omega),?_⟩
     refine⟨⟨by omega,by omega⟩,?_⟩
     exact⟨v+1,_,rfl,rfl,⟨by omega,by (rw[ho,yQ hT];done)⟩,by omega⟩
    ·refine⟨⟨by omega,by omega⟩,?_⟩
     exact⟨i+1,rfl,⟨by omega,by rw[aA6,hn,bQ h22];(rw[c2];simp;done)⟩,by omega⟩
   ·refine⟨⟨by omega,by omega⟩,?_⟩
    exact⟨i+1,rfl,⟨by omega,by rw[aA6,hn,bQ h22];(rw[aD7 g29];rfl)⟩,by omega⟩
  ·have hF:inM q m v=false:=by rw[inM,show q.atoms.length=i by omega];exact hn
   refine⟨⟨by omega,by omega⟩,?_⟩
   exact⟨v+1,_,rfl,rfl,⟨by omega,by (rw[ho,aA5 hF];done)⟩,by omega⟩
 ·refine⟨?_,trivial⟩
  ·rw[aEJ,ho,show q.variableCount.toNat=v by omega]
abbrev zB (q:QueryD)(m:Int):AV × List (Nat × Rs):=(.own 0,[(0,.arr 3 1 true ((eE q m).map intD))])
abbrev aE6 (q:QueryD)(m:Int):Prop:=cH Tryz.prog 100 [.agg [.int .i64 q.variableCount,.sl 125 2 (q.atoms.map bM)],.one (.int .i64 m)] (zB q m).1 (zB q m).2
theorem aR4 (q:QueryD)(m:Int):aE6 q m:=by
 refine aW bH aO Tryz.func100 (by kernel_rfl) (.call (vB (jO q m)) []<| .br (.fin []) (bL (zA q m)<| .fin [(0,1100)])) (p:=(q.atoms.map bM).length≤9223372036854775807→aHQ q m∧Nr (jO q m) ([]=(eE q m).map intD∧True) (aE5 q m∧(aEJ q m).map intD=(eE q m).map intD∧True)) (by kernel_rfl) ?_
 intro n0
 simp only[List.length_map] at n0
 refine⟨aUK _ m,dm (fun c0=>?_) fun c0=>?_⟩
 ·refine⟨?_,trivial⟩
  ·(rw[aMt c0];rfl)
 ·refine⟨aR3 q m (by exact(vH (q:=q) (m:=m) (by assumption)).1),?_,trivial⟩
  ·(rw[aJt c0])
abbrev aCm (q:QueryD)(m:Int):Prop:=cH Tryz.prog 143 [.agg [.int .i64 q.variableCount,.sl 125 2 (q.atoms.map bM)],.one (.int .i64 m)] (vI (m4 (inM q m))) []
theorem aOf (q:QueryD)(m:Int)(hq:cO q=true):aCm q m:=by
 refine aW bH aO Tryz.func143 (by kernel_rfl) (.loop (Nat × Int) (Q2 Nat Int) (rg 5 40) [] (fun yy0=>[(6,vI (yy0.1:Int)),(5,vI yy0.2)]) (fun yy0=>[]) (fun yy0=>yy0.1≤q.atoms.length∧yy0.2=m4 (vG q m yy0.1)) (fun yy0=>q.atoms.length - yy0.1) (fun yy0=> .len q.atoms.length<| .br (.loop (Nat × Int) (Q2 Nat Int) ([5,7]++rg 15 30) [] (fun yy1=>[(7,vI (yy1.1:Int)),(5,vI yy1.2)]) (fun yy1=>[]) (fun yy1=>yy1.1≤(q.atoms.getD yy0.1 iR).vars.length∧yy1.2=m4 (aFD q m (q.atoms.getD yy0.1 iR) yy0.1 yy1.1)) (fun yy1=>(q.atoms.getD yy0.1 iR).vars.length - yy1.1) (fun yy1=> .elem _ bM q.atoms (fun e19=> .len e19.vars.length<| .br (.lit<| .lit<| .lit<| .lit<| .lit<| .br (.elem _ bM q.atoms (fun e37=> .elem _ intD e37.vars (fun e41=> .back []))) (.back [])) (.back [])))) (.fin []))) (p:=(q.atoms.map bM).length≤9223372036854775807→(∃(i:Nat) (o:Int),0=(i:Int)∧0=o∧i≤q.atoms.length∧o=m4 (vG q m i))∧ ∀(i:Nat) (o:Int),(i≤q.atoms.length∧o=m4 (vG q m i))→Lm bM q.atoms∧Br ((i:Int)<(q.atoms.length:Int)) ((∃(k:Nat) (p:Int),0=(k:Int)∧o=p∧k≤(q.atoms.getD i iR).vars.length∧p=m4 (aFD q m (q.atoms.getD i iR) i k))∧ ∀(k:Nat) (p:Int),(k≤(q.atoms.getD i iR).vars.length∧p=m4 (aFD q m (q.atoms.getD i iR) i k))→0≤(i:Int)∧Em bM q.atoms i fun e19=>Lm intD e19.vars∧Br ((k:Int)<(e19.vars.length:Int)) ((0≤(i:Int)∧(i:Int)≤64)∧Br ((cI .and .i64 (m/2^i) (1:Int))=1) (0≤(i:Int)∧Em bM q.atoms i fun e37=>0≤(k:Int)∧Em intD e37.vars k fun e41=>(0≤e41∧e41≤64)∧bO ((1:Int)*2^(Int.toNat e41))∧bO ((k:Int)+1)∧ ∃(k' :Nat) (p' :Int),((k:Int)+1)=(k' :Int)∧(cI .or .i64 p ((1:Int)*2^(Int.toNat e41)))=p' ∧(k' ≤(q.atoms.getD i iR).vars.length∧p' =m4 (aFD q m (q.atoms.getD i iR) i k'))∧(q.atoms.getD i iR).vars.length - k' <(q.atoms.getD i iR).vars.length - k) (bO ((i:Int)+1)∧ ∃(i' :Nat) (o' :Int),((i:Int)+1)=(i' :Int)∧p=o' ∧(i' ≤q.atoms.length∧o' =m4 (vG q m i'))∧q.atoms.length - i' <q.atoms.length - i)) (bO ((i:Int)+1)∧ ∃(i' :Nat) (o' :Int),((i:Int)+1)=(i' :Int)∧p=o' ∧(i' ≤q.atoms.length∧o' =m4 (vG q m i'))∧q.atoms.length - i' <q.atoms.length - i)) (o=(m4 (inM q m))∧True)) (by kernel_rfl) ?_
 intro n0
 simp only[List.length_map] at n0
 have w:=(fZ hq).1
 have w2:=(fZ hq).2
 refine⟨⟨0,(0:Int),rfl,rfl,Nat.zero_le _,rfl⟩,fun i o ⟨hi,ho⟩=>?_⟩
 refine⟨List.length_map _,dd (fun c0=>?_) fun c0=>?_⟩
 ·obtain⟨a,ha⟩:=dE (l:=q.atoms) (k:=i) (by omega)
  have w3:=(aBZ (w2.2 a (List.mem_of_getElem? ha))).2
  have hga:q.atoms.getD i iR=a:=bQ ha
  have hgl:(q.atoms.getD i iR).vars.length=a.vars.length:=by rw[hga]
  refine⟨⟨0,o,rfl,rfl,Nat.zero_le _,by rw[ho,aRC]⟩,fun k p ⟨hk,hp⟩=>?_⟩
  rw[hga] at hp
  refine⟨by omega,rfl,by omega,fun e19 h19=>?_⟩
  obtain rfl:=(aZ ha h19).symm
  refine⟨List.length_map _,dd (fun g24=>?_) fun g24=>?_⟩
  ·refine⟨⟨by omega,by omega⟩,dd (fun c1=>?_) fun c1=>?_⟩
   ·refine⟨by omega,rfl,by omega,fun e37 h37=>?_⟩
    obtain rfl:=(aZ ha h37).symm
    refine⟨by omega,rfl,by omega,fun e41 h41=>?_⟩
    have w8:=w3.2 _ (List.mem_of_getElem? h41)
    obtain⟨w4,w5,w6⟩:=aDa (x:=e41) (pX (by omega) (by omega))
    refine⟨⟨by omega,by omega⟩,by exact w4,by exact⟨by omega,by omega⟩,?_⟩
    exact⟨k+1,_,rfl,rfl,⟨by omega,by rw[hga,hp,aTq (by omega),aRD (aFV c1) h41 (by omega)]⟩,by omega⟩
   ·refine⟨by exact⟨by omega,by omega⟩,?_⟩
    exact⟨i+1,_,rfl,rfl,⟨by omega,by (rw[hp,aJu ha (.inl (aD7 c1))];done)⟩,by omega⟩
  ·refine⟨by exact⟨by omega,by omega⟩,?_⟩
   exact⟨i+1,_,rfl,rfl,⟨by omega,by (rw[hp,aJu ha (.inr (by omega))];done)⟩,by omega⟩
 ·refine⟨?_,trivial⟩
  ·rw[ho,show i=q.atoms.length by omega];rfl
abbrev vN (m:Int):AV × List (Nat × Rs):=(.own 0,[(0,.arr 3 1 true ((gS (fP m) 4).map intD))])
abbrev aCn (m:Int):Prop:=cH Tryz.prog 142 [.one (.int .i64 m)] (vN m).1 (vN m).2
theorem aOg (m:Int):aCn m:=by
 refine aW bH aO Tryz.func142 (by kernel_rfl) (.loop (Nat × (List Int)) (Q2 Nat (List Int)) (rg 3 16) [500,1700,1800] (fun yy0=>[(4,vI (yy0.1:Int)),(3,.own 500)]) (fun yy0=>[(500,some (.arr 3 1 true (yy0.2.map intD)))]) (fun yy0=>yy0.1≤4∧yy0.2=gS (fP m) yy0.1) (fun yy0=>4 - yy0.1) (fun yy0=> .br (.br (.app Int intD yy0.2 ([(yy0.1:Int)]:List Int)<| .back [(500,1800)]) (.back [(500,500)])) (.fin [(0,500)]))) (p:=(∃(i:Nat) (out:List Int),0=(i:Int)∧[]=out.map intD∧i≤4∧out=gS (fP m) i)∧ ∀(i:Nat) (out:List Int),(i≤4∧out=gS (fP m) i)→Br ((i:Int)<4) ((0≤(i:Int)∧(i:Int)≤64)∧Br ((cI .and .i64 (m/2^i) (1:Int))=1) (out.map intD=out.map intD∧[[.int .i64 (i:Int)]]=([(i:Int)]:List Int).map intD∧(∀x,bW (intD x)=true)∧(out.length+([(i:Int)]:List Int).length)*8≤140737488355328∧bO ((i:Int)+1)∧ ∃(i' :Nat) (out' :List Int),((i:Int)+1)=(i' :Int)∧(out++[(i:Int)]).map intD=out'.map intD∧(i' ≤4∧out' =gS (fP m) i')∧4 - i' <4 - i) (bO ((i:Int)+1)∧ ∃(i' :Nat) (out' :List Int),((i:Int)+1)=(i' :Int)∧out.map intD=out'.map intD∧(i' ≤4∧out' =gS (fP m) i')∧4 - i' <4 - i)) (out.map intD=(gS (fP m) 4).map intD∧True)) (by kernel_rfl) ?_
 refine⟨⟨0,([]:List Int),rfl,rfl,by omega,rfl⟩,fun i out ⟨hi,ho⟩=>?_⟩
 refine dd (fun c0=>?_) fun c0=>?_
 ·refine⟨⟨by omega,by omega⟩,dd (fun c1=>?_) fun c1=>?_⟩
  ·refine⟨rfl,rfl,fun _=>rfl,by (rw[ho];have:=yR (fP m) i;simp only[List.length_cons,List.length_nil];omega),?_⟩
   refine⟨⟨by omega,by omega⟩,?_⟩
   exact⟨i+1,_,rfl,rfl,⟨by omega,by (rw[ho,yQ (aFV c1)];done)⟩,by omega⟩
  ·refine⟨⟨by omega,by omega⟩,?_⟩
   exact⟨i+1,_,rfl,rfl,⟨by omega,by (rw[ho,aA5 (aD7 c1)];done)⟩,by omega⟩
 ·refine⟨?_,trivial⟩
  ·rw[ho,show i=4 by omega]
abbrev zC (q:QueryD)(m:Int):AV × List (Nat × Rs):=(.own 0,[(0,.arr 3 1 true ((eE q m).map intD))])
abbrev aE7 (q:QueryD)(m:Int):Prop:=cH Tryz.prog 91 [.agg [.int .i64 q.variableCount,.sl 125 2 (q.atoms.map bM)],.one (.int .i64 m)] (zC q m).1 (zC q m).2
theorem aR5 (q:QueryD)(m:Int):aE7 q m:=by
 refine aW bH aO Tryz.func91 (by kernel_rfl) (.call (vB (jO q m)) []<| .br (.fin [(0,900)]) (.call (vI (m4 (inM q m))) []<| bL (vN (m4 (inM q m)))<| .fin [(0,1300)])) (p:=(q.atoms.map bM).length≤9223372036854775807→aHR q m∧Nr (jO q m) ([]=(eE q m).map intD∧True) (aCm q m∧aCn (m4 (inM q m))∧(gS (fP (m4 (inM q m))) 4).map intD=(eE q m).map intD∧True)) (by kernel_rfl) ?_
 intro n0
 simp only[List.length_map] at n0
 refine⟨aUL _ m,dm (fun c0=>?_) fun c0=>?_⟩
 ·refine⟨?_,trivial⟩
  ·(rw[aMt c0];rfl)
 ·refine⟨aOf q m (by exact(vH (q:=q) (m:=m) (by assumption)).1),aOg (m4 (inM q m)),?_,trivial⟩
  ·(rw[aJt c0,aO8 (vH c0).1])
end Go.Proofs.YtlidmoeecphbmaaGreat
