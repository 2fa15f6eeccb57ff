/-
  Contracts and plain laws, joined: part 18.
-/
import Derived.Test.YtlidmoeecphbmaaGreates15
import Derived.Test.YtlidmoeecphbmaaGreates14
import Derived.Test.YtlidmoeecphbmaaGreates16
import Derived.Test.YtlidmoeecphbmaaGreates13
import Derived.Test.YtlidmoeecphbmaaGreates12
namespace Go.Proofs.YtlidmoeecphbmaaGreat
open Go.ChangeShapes Go.WideShapes Go.ChangeAt Go.RowKit
set_option linter.unusedVariables false
set_option linter.unusedSimpArgs false
set_option maxRecDepth 100000
set_option maxHeartbeats 4000000
abbrev aJY (x:List aB)(m:Int):Prop:=Cn 56 [.one (.sl 38 2 ((fA m x).map aA)),.one (.int .i64 m)] (vI (m+((cJ x:Nat):Int))) []
theorem aEa (x:List aB)(m:Int)(h0:0<=m)(hm:m+5*((jL x:Nat):Int)<=4611686018427387904):aJY x m:=by
 refine cq Tryz.func56 (.loop (Nat × Int) (Q2 Nat Int) ([1]++rg 5 25) [] (fun yy0=>[(5,vI (yy0.1:Int)),(1,vI yy0.2)]) (fun yy0=>[]) (fun yy0=>yy0.1<=x.length/\yy0.2=m+((bU dL (x.take yy0.1):Nat):Int)) (fun yy0=>x.length - yy0.1) (fun yy0=> .len ((fA m x).length)<| .br (.elem _ aA (fA m x) (fun e14=> .no<| .elem _ aA (fA m x) (fun e23=> .no<| .back []))) (.fin []))) (p:=Lx ((fA m x).map aA)<| (∃(k:Nat) (z:Int),0=(k:Int)/\m=z/\k<=x.length/\z=m+((bU dL (x.take k):Nat):Int))/\ ∀(k:Nat) (z:Int),(k<=x.length/\z=m+((bU dL (x.take k):Nat):Int))->Lm aA (fA m x)/\Br ((k:Int)<(((fA m x).length:Nat):Int)) (0<=(k:Int)/\Em aA (fA m x) k fun e14=>(!(decide (e14.num=z)))=false/\bK (z+1)/\0<=(k:Int)/\Em aA (fA m x) k fun e23=>(!(decide (e23.den=(z+1))))=false/\bK ((z+1)+1)/\bK ((k:Int)+1)/\ ∃(k' :Nat) (z' :Int),((k:Int)+1)=(k' :Int)/\((z+1)+1)=z' /\(k' <=x.length/\z' =m+((bU dL (x.take k'):Nat):Int))/\x.length - k' <x.length - k) (z=(m+((cJ x:Nat):Int))/\True)) (by kernel_rfl) ?_;refine lx fun n0=>?_;have hS:cJ x=bU dL x:=rfl;have hC:jL x=x.length:=rfl;have hlen:(fA m x).length=x.length:=pW _ _ _ _;refine⟨⟨0,m,rfl,rfl,aDB _,by simp[bU]⟩,fun k z ⟨hk,hz⟩=>?_⟩;refine⟨aAH _,dd (fun c0=>?_) fun c0=>?_⟩
 ·obtain⟨y,hy⟩:=cK (l:=x) (k:=k) (by omega);have hY:(fA m x)[k]? =some (nA z y):=by rw[hz];exact aHO _ _ x m k y hy
  have hs:=dE dL hy;have hle:=gE dL x (k+1);have hA:bU dL (x.take k)<=5*k:=bAZ (fun y=>by have:=wC y;simpa [wP] using this) x k hk;have hle5:=jD x;have hE:dL y=1+1:=rfl;have hg:x.getD k aTB=y:=by simp[aKU,hy]
  try rw[hg]
  refine⟨by omega,rfl,by omega,fun e14 h14=>?_⟩;obtain rfl:=(aY hY h14).symm;refine⟨by simp[nA],⟨by omega,by omega⟩,by omega,rfl,by omega,fun e23 h23=>?_⟩;obtain rfl:=(aY hY h23).symm;refine⟨by simp[nA],⟨by omega,by omega⟩,⟨by omega,by omega⟩,?_⟩;exact⟨k+1,_,rfl,rfl,⟨by omega,by rw[hs];(try dsimp only);omega⟩,by omega⟩
 ·have hkx:k=x.length:=by omega
  rw[hkx,aU0] at hz;apply et1
  ·rw[hz];rfl
abbrev aKg (x:gQ)(m:Int):Prop:=Cn 23 [.agg [.int .i64 ((fR m x).value.num),.int .i64 ((fR m x).value.den),.sl 38 2 ((fR m x).primal.map aA),.sl 38 2 ((fR m x).dual.map aA)],.one (.int .i64 m)] (vI (m+((eU x:Nat):Int))) []
theorem aGY (x:gQ)(m:Int)(h0:0<=m)(hm:m+5*((nF x:Nat):Int)<=4611686018427387904):aKg x m:=by
 refine cq Tryz.func23 (.call (vI (m+((cJ x.primal:Nat):Int))) []<| .no<| .call (vI ((m+((cJ x.primal:Nat):Int))+((cJ x.dual:Nat):Int))) []<| .no<| .fin []) (p:=Lx ((fR m x).primal.map aA)<| Lx ((fR m x).dual.map aA)<| rM Tryz.prog 56 [.one (.sl 38 2 ((fR m x).primal.map aA)),.one (.int .i64 m)] (vI (m+((cJ x.primal:Nat):Int))) []/\(decide ((m+((cJ x.primal:Nat):Int))<0))=false/\rM Tryz.prog 56 [.one (.sl 38 2 ((fR m x).dual.map aA)),.one (.int .i64 (m+((cJ x.primal:Nat):Int)))] (vI ((m+((cJ x.primal:Nat):Int))+((cJ x.dual:Nat):Int))) []/\(decide (((m+((cJ x.primal:Nat):Int))+((cJ x.dual:Nat):Int))<0))=false/\((m+((cJ x.primal:Nat):Int))+((cJ x.dual:Nat):Int))=(m+((eU x:Nat):Int))/\True) (by kernel_rfl) ?_;refine lx fun n0=>lx fun n1=>?_;have hS:eU x=cJ x.primal+cJ x.dual:=rfl;have hC:nF x=jL x.primal+jL x.dual:=rfl;have:=jD x.primal;have:=jD x.dual;refine⟨aEa _ _ (by omega) (by omega),by simp;omega,aEa _ _ (by omega) (by omega),by simp;omega,?_,trivial⟩
 ·(rw[hS];omega)
theorem aJZ (n:Int):cM (aCV n)<=1000:=by
 by_cases h:1<=n/\n<=4
 ·have:n=1\/n=2\/n=3\/n=4:=by omega
  rcases this with rfl | rfl | rfl | rfl<;>decide+kernel
 rw[aCV,if_neg h];decide
def okC (n:Int)(c:aL):Bool:=decide (1<=c.dst/\c.dst<=1*2^n.toNat - 1)&&(decide (0<=c.src)&&(decide (cL .and .i64 c.src c.dst=c.src)&&decide (¬c.src=c.dst)))
theorem aWg {n:Int}{c:aL}(h:okC n c=true):(1<=c.dst/\c.dst<=1*2^n.toNat - 1)/\0<=c.src/\cL .and .i64 c.src c.dst=c.src/\ ¬c.src=c.dst:=by
 simpa only [okC,aCA,aUa] using h
theorem aRC {n:Int}{c:aL}(h:(1<=c.dst/\c.dst<=1*2^n.toNat - 1)/\0<=c.src/\cL .and .i64 c.src c.dst=c.src/\ ¬c.src=c.dst):okC n c=true:=by
 simpa only [okC,aCA,aUa] using h
theorem zB {n:Int}{c:aL}(h: ¬((1<=c.dst/\c.dst<=1*2^n.toNat - 1)/\0<=c.src/\cL .and .i64 c.src c.dst=c.src/\ ¬c.src=c.dst)):okC n c=false:=by
 cases e:okC n c with
 | false=>rfl
 | true=>exact absurd (aWg e) h
theorem aDM {a c:Int}(h0:0<=a)(hc:0<=c)(ha:a<=9223372036854775807)(hc2:c<=9223372036854775807):cL .and .i64 a c<=c:=by
 obtain⟨m,rfl⟩:=Int.eq_ofNat_of_zero_le h0;obtain⟨k,rfl⟩:=Int.eq_ofNat_of_zero_le hc;have e1:(BitVec.ofInt 64 (m:Int)).toNat=m:=by simp;omega
 have e2:(BitVec.ofInt 64 (k:Int)).toNat=k:=by simp;omega
 have hle:m&&&k<=k:=Nat.and_le_right;unfold cL;show IntKind.i64.wrap ((BitVec.ofInt 64 (m:Int)&&&BitVec.ofInt 64 (k:Int)).toNat:Nat)<=_;rw[BitVec.toNat_and,e1,e2,IntWalk.i64_in _ ⟨by omega,by omega⟩];omega
def pO (n:Int)(c:aL):List Int:=eW (dP n) [c.dst] [c.src]
def aAI (n:Int)(l:List aL):bW:=⟨eW (dP n) [dP n] [],dU n++l.map (pO n),List.replicate (dU n).length 0++l.map (·.bits)⟩
def dX (l:List aL)(n:Int):bW × Bool:=if (1<=n/\n<=4)/\l.all (okC n)=true/\cZ (aAI n l)=true then (aAI n l,true) else (pD,false)
theorem aPZ {l:List aL}{n:Int}(h1:1<=n/\n<=4)(h2:l.all (okC n)=true)(h3:cZ (aAI n l)=true):dX l n=(aAI n l,true):=by rw[dX,if_pos ⟨h1,h2,h3⟩]
theorem aWh {l:List aL}{n:Int}(h1: ¬(1<=n/\n<=4)):dX l n=(pD,false):=by rw[dX,if_neg (fun h=>h1 h.1)]
theorem zC {l:List aL}{n:Int}{k:Nat}{c:aL}(h:l[k]? =some c)(hc:okC n c=false):dX l n=(pD,false):=by
 rw[dX,if_neg (fun q=>by have:=eX h hc;rw[q.2.1] at this;cases this)]
theorem aRD {l:List aL}{n:Int}(h:cZ (aAI n l)=false):dX l n=(pD,false):=by
 rw[dX,if_neg (fun q=>by rw[q.2.2] at h;cases h)]
theorem xE {l:List aL}{n:Int}(h:64<l.length):dX l n=(pD,false):=aRD (mW (fun q=>by
 have:(aAI n l).rows.length=(dU n).length+l.length:=by simp[aAI]
 omega))
theorem aWi (al:Int)(p m:List Int):(eW al p m).length=al.toNat:=by
 have h: ∀(v:Int) (q:List Int) (r:List Int),(q.foldl (pR v) r).length=r.length:=by
  intro v q
  induction q with
  | nil=>intro r;rfl
  | cons s q ih=>
    intro r;rw[List.foldl_cons,ih];unfold pR;split
    ·simp
    rfl
 rw[eW,h,h,aZI]
theorem aRE {n:Int}{c:aL}(hd:0<c.dst)(hs:0<c.src):pO n c=((List.replicate (dP n).toNat (0:Int)).set (c.dst - 1).toNat 1).set (c.src - 1).toNat (-1):=by
 show pR (-1) (pR 1 _ c.dst) c.src=_;rw[wZ hd,wZ hs]
theorem aRF {n:Int}{c:aL}(hd:0<c.dst)(hs: ¬0<c.src):pO n c=(List.replicate (dP n).toNat (0:Int)).set (c.dst - 1).toNat 1:=by
 show pR (-1) (pR 1 _ c.dst) c.src=_;rw[wZ hd,aNY hs]
theorem aN2 {n:Int}(h:0<dP n):eW (dP n) [dP n] []=(List.replicate (dP n).toNat (0:Int)).set (dP n - 1).toNat 1:=by
 show pR 1 _ (dP n)=_;rw[wZ h]
theorem aMN (n:Int):(dU n).length<=1000:=by
 have h:=aJZ n;have h2:=fX (aCV n);rw[<-aNX];omega
theorem aGZ {α:Type}{ct:α->Nat}{m:Nat}: ∀{l:List α},(∀x∈l,ct x<=m)->bU ct l<=l.length*m
 | [],_=>by simp[bU]
 | a::l,h=>by
   have h1:=h a (by simp);have h2:=aGZ (l:=l) fun x hx=>h x (by simp[hx]);simp only[bU,aLz,List.sum_cons,aQP,Nat.add_mul,Nat.one_mul] at*;omega
theorem aN3 {p:bW}(h:cZ p=true):aAb p<=2000:=by
 obtain⟨h1,h2,h3,h4,h5⟩:=mX h
 have hs:bU cD p.rows<=p.rows.length*15:=aGZ fun r hr=>by
  have:=(h4 r (by simp[hr])).1;have e:cD r=r.length:=rfl;omega
 have e1:aAb p=cD p.objective+cM p.rows+cD p.limits:=rfl;have e2:cD p.objective=p.objective.length:=rfl;have e3:cD p.limits=p.limits.length:=rfl;have e4:cM p.rows=p.rows.length+bU cD p.rows:=rfl;omega
theorem aRG (l:List aL)(n:Int):aAb (dX l n).1<=2000:=by
 unfold dX;split
 ·rename_i h;exact aN3 h.2.2
 decide
theorem aWj {n:Int}{l:List aL}(hn:1<=n/\n<=4): ∀r∈dU n++l.map (pO n),r.length<=1048576:=by
 intro r hr;rcases aKT.1 hr with h | h
 ·have h1:=aJZ n;rw[aNX] at h1;obtain⟨k,hk⟩:=List.getElem?_of_mem h;have h2:=aBq hk;have e:cD r=r.length:=rfl;omega
 obtain⟨c,_,rfl⟩:=aQO.1 h;rw[pO,aWi];obtain⟨b1,b2,b3⟩:=aCB hn;have hal:dP n=1*2^n.toNat - 1:=rfl;omega
theorem aWk {n d:Int}:Int.gcd (-n) (-d)=Int.gcd n d:=by simp[Int.gcd]
theorem wD {n d:Int}(h:0<d):bQ n d=if dF (n.tdiv (Int.gcd n d)) (d.tdiv (Int.gcd n d))=true then (n.tdiv (Int.gcd n d),d.tdiv (Int.gcd n d),true) else (0,0,false):=aTr h rfl
theorem aBU {n d:Int}(h:d<0):bQ n d=if dF ((-n).tdiv (Int.gcd (-n) (-d))) ((-d).tdiv (Int.gcd (-n) (-d)))=true then ((-n).tdiv (Int.gcd (-n) (-d)),(-d).tdiv (Int.gcd (-n) (-d)),true) else (0,0,false):=aTs h rfl
theorem aP0 {n:Int}:jH (bQ n 0)=(⟨0,0⟩,false):=by rw[oG];rfl
theorem aN4 {n d:Int}(h:0<d)(c:bC ⟨n.tdiv (Int.gcd n d),d.tdiv (Int.gcd n d)⟩=true):jH (bQ n d)=(⟨n.tdiv (Int.gcd n d),d.tdiv (Int.gcd n d)⟩,true):=by
 rw[wD h,if_pos (show dF _ _=true from c)];rfl
theorem aJ0 {n d:Int}(h:0<d)(c:bC ⟨n.tdiv (Int.gcd n d),d.tdiv (Int.gcd n d)⟩=false):jH (bQ n d)=(⟨0,0⟩,false):=by
 rw[wD h,if_neg (by rw[show dF _ _=false from c];simp)];rfl
theorem aN5 {n d:Int}(h:d<0)(c:bC ⟨(-n).tdiv (Int.gcd (-n) (-d)),(-d).tdiv (Int.gcd (-n) (-d))⟩=true):jH (bQ n d)=(⟨(-n).tdiv (Int.gcd (-n) (-d)),(-d).tdiv (Int.gcd (-n) (-d))⟩,true):=by
 rw[aBU h,if_pos (show dF _ _=true from c)];rfl
theorem aJ1 {n d:Int}(h:d<0)(c:bC ⟨(-n).tdiv (Int.gcd (-n) (-d)),(-d).tdiv (Int.gcd (-n) (-d))⟩=false):jH (bQ n d)=(⟨0,0⟩,false):=by
 rw[aBU h,if_neg (by rw[show dF _ _=false from c];simp)];rfl
theorem mG {n g:Int}(hn: -9223372036854775807<=n/\n<=9223372036854775807):bK (n.tdiv g):=by have:=aW5 n g hn;exact⟨by omega,by omega⟩
abbrev xF (n:Int)(d:Int):AV × List (Nat × Rs):=(.tup [.agg [vI ((jH (bQ n d)).1.num),vI ((jH (bQ n d)).1.den)],vB ((jH (bQ n d)).2)],[])
abbrev aCF (n:Int)(d:Int):Prop:=Cn 212 [.one (.int .i64 n),.one (.int .i64 d)] (xF n d).1 (xF n d).2
theorem aN6 (n d:Int)(hn: -9223372036854775807<=n/\n<=9223372036854775807)(hd: -9223372036854775807<=d/\d<=9223372036854775807):aCF n d:=by
 refine cq Tryz.func212 (.br (.fin []) (.lit<| .lit<| .lit<| .lit<| .br (.lit<| .lit<| .lit<| .lit<| .br (.fin []) (.lit<| .lit<| .lit<| .lit<| .br (.fin []) (.br (.call (vI ((Int.gcd (-n) (-d):Nat):Int)) []<| .call (vB (bC (⟨Int.tdiv (-n) ((Int.gcd (-n) (-d):Nat):Int),Int.tdiv (-d) ((Int.gcd (-n) (-d):Nat):Int)⟩:aB))) []<| .br (.fin []) (.fin [])) (.call (vI ((Int.gcd n d:Nat):Int)) []<| .call (vB (bC (⟨Int.tdiv n ((Int.gcd n d:Nat):Int),Int.tdiv d ((Int.gcd n d:Nat):Int)⟩:aB))) []<| .br (.fin []) (.fin []))))) (.lit<| .lit<| .lit<| .lit<| .lit<| .lit<| .lit<| .lit<| .lit<| .br (.fin []) (.br (.call (vI ((Int.gcd (-n) (-d):Nat):Int)) []<| .call (vB (bC (⟨Int.tdiv (-n) ((Int.gcd (-n) (-d):Nat):Int),Int.tdiv (-d) ((Int.gcd (-n) (-d):Nat):Int)⟩:aB))) []<| .br (.fin []) (.fin [])) (.call (vI ((Int.gcd n d:Nat):Int)) []<| .call (vB (bC (⟨Int.tdiv n ((Int.gcd n d:Nat):Int),Int.tdiv d ((Int.gcd n d:Nat):Int)⟩:aB))) []<| .br (.fin []) (.fin [])))))) (p:=Br (d=0) (0=((jH (bQ n d)).1.num)/\0=((jH (bQ n d)).1.den)/\(false)=((jH (bQ n d)).2)/\True) (bK (-n)/\Br (n=(-n)) (Nb (n=0) (0=((jH (bQ n d)).1.num)/\0=((jH (bQ n d)).1.den)/\(false)=((jH (bQ n d)).2)/\True) (bK (-d)/\Br (d=(-d)) (0=((jH (bQ n d)).1.num)/\0=((jH (bQ n d)).1.den)/\(false)=((jH (bQ n d)).2)/\True) (Br (d<0) (bK (-n)/\bK (-d)/\qL (-n) (-d)/\((Int.gcd (-n) (-d):Nat):Int)≠0/\bK (Int.tdiv (-n) ((Int.gcd (-n) (-d):Nat):Int))/\((Int.gcd (-n) (-d):Nat):Int)≠0/\bK (Int.tdiv (-d) ((Int.gcd (-n) (-d):Nat):Int))/\hX (⟨Int.tdiv (-n) ((Int.gcd (-n) (-d):Nat):Int),Int.tdiv (-d) ((Int.gcd (-n) (-d):Nat):Int)⟩:aB)/\Nr (bC (⟨Int.tdiv (-n) ((Int.gcd (-n) (-d):Nat):Int),Int.tdiv (-d) ((Int.gcd (-n) (-d):Nat):Int)⟩:aB)) (0=((jH (bQ n d)).1.num)/\0=((jH (bQ n d)).1.den)/\(false)=((jH (bQ n d)).2)/\True) ((Int.tdiv (-n) ((Int.gcd (-n) (-d):Nat):Int))=((jH (bQ n d)).1.num)/\(Int.tdiv (-d) ((Int.gcd (-n) (-d):Nat):Int))=((jH (bQ n d)).1.den)/\(true)=((jH (bQ n d)).2)/\True)) (qL n d/\((Int.gcd n d:Nat):Int)≠0/\bK (Int.tdiv n ((Int.gcd n d:Nat):Int))/\((Int.gcd n d:Nat):Int)≠0/\bK (Int.tdiv d ((Int.gcd n d:Nat):Int))/\hX (⟨Int.tdiv n ((Int.gcd n d:Nat):Int),Int.tdiv d ((Int.gcd n d:Nat):Int)⟩:aB)/\Nr (bC (⟨Int.tdiv n ((Int.gcd n d:Nat):Int),Int.tdiv d ((Int.gcd n d:Nat):Int)⟩:aB)) (0=((jH (bQ n d)).1.num)/\0=((jH (bQ n d)).1.den)/\(false)=((jH (bQ n d)).2)/\True) ((Int.tdiv n ((Int.gcd n d:Nat):Int))=((jH (bQ n d)).1.num)/\(Int.tdiv d ((Int.gcd n d:Nat):Int))=((jH (bQ n d)).1.den)/\(true)=((jH (bQ n d)).2)/\True))))) (bK (-d)/\Br (d=(-d)) (0=((jH (bQ n d)).1.num)/\0=((jH (bQ n d)).1.den)/\(false)=((jH (bQ n d)).2)/\True) (Br (d<0) (bK (-n)/\bK (-d)/\qL (-n) (-d)/\((Int.gcd (-n) (-d):Nat):Int)≠0/\bK (Int.tdiv (-n) ((Int.gcd (-n) (-d):Nat):Int))/\((Int.gcd (-n) (-d):Nat):Int)≠0/\bK (Int.tdiv (-d) ((Int.gcd (-n) (-d):Nat):Int))/\hX (⟨Int.tdiv (-n) ((Int.gcd (-n) (-d):Nat):Int),Int.tdiv (-d) ((Int.gcd (-n) (-d):Nat):Int)⟩:aB)/\Nr (bC (⟨Int.tdiv (-n) ((Int.gcd (-n) (-d):Nat):Int),Int.tdiv (-d) ((Int.gcd (-n) (-d):Nat):Int)⟩:aB)) (0=((jH (bQ n d)).1.num)/\0=((jH (bQ n d)).1.den)/\(false)=((jH (bQ n d)).2)/\True) ((Int.tdiv (-n) ((Int.gcd (-n) (-d):Nat):Int))=((jH (bQ n d)).1.num)/\(Int.tdiv (-d) ((Int.gcd (-n) (-d):Nat):Int))=((jH (bQ n d)).1.den)/\(true)=((jH (bQ n d)).2)/\True)) (qL n d/\((Int.gcd n d:Nat):Int)≠0/\bK (Int.tdiv n ((Int.gcd n d:Nat):Int))/\((Int.gcd n d:Nat):Int)≠0/\bK (Int.tdiv d ((Int.gcd n d:Nat):Int))/\hX (⟨Int.tdiv n ((Int.gcd n d:Nat):Int),Int.tdiv d ((Int.gcd n d:Nat):Int)⟩:aB)/\Nr (bC (⟨Int.tdiv n ((Int.gcd n d:Nat):Int),Int.tdiv d ((Int.gcd n d:Nat):Int)⟩:aB)) (0=((jH (bQ n d)).1.num)/\0=((jH (bQ n d)).1.den)/\(false)=((jH (bQ n d)).2)/\True) ((Int.tdiv n ((Int.gcd n d:Nat):Int))=((jH (bQ n d)).1.num)/\(Int.tdiv d ((Int.gcd n d:Nat):Int))=((jH (bQ n d)).1.den)/\(true)=((jH (bQ n d)).2)/\True)))))) (by kernel_rfl) ?_;refine dd (fun g10=>?_) fun g10=>?_
 ·apply et3<;>((subst g10;rw[aP0]<;>rfl))
 ·refine⟨by exact⟨by omega,by omega⟩,dd (fun g15=>?_) fun g15=>?_⟩
  ·refine dn (fun g20=>?_) fun g20=>?_
   ·apply et3<;>((exfalso;omega))
   ·refine⟨by exact⟨by omega,by omega⟩,dd (fun c0=>?_) fun c0=>?_⟩
    ·apply et3<;>((exfalso;omega))
    ·refine dd (fun c1=>?_) fun c1=>?_
     ·have q1:((Int.gcd (-n) (-d):Nat):Int)≠0:=by have:=nX (n:= -n) (d:= -d) (by omega);omega
      have q2:((Int.gcd ((Int.natAbs (-n):Nat):Int) (-d):Nat):Int)≠0:=by rw[gM];have:=nX (n:= -n) (d:= -d) (by omega);omega
      refine⟨by exact⟨by omega,by omega⟩,by exact⟨by omega,by omega⟩,aBK _ _ (by omega) (by omega),by omega,by exact mG (by omega),by omega,by exact mG (by omega),mD (⟨Int.tdiv (-n) ((Int.gcd (-n) (-d):Nat):Int),Int.tdiv (-d) ((Int.gcd (-n) (-d):Nat):Int)⟩:aB),dm (fun c2=>?_) fun c2=>?_⟩
      ·apply et3<;>((rw[aJ1 (by omega) c2]<;>rfl))
      ·apply et3<;>((rw[aN5 (by omega) c2]<;>rfl))
     ·have q1:((Int.gcd n d:Nat):Int)≠0:=by have:=nX (n:=n) (d:=d) (by omega);omega
      have q2:((Int.gcd ((Int.natAbs n:Nat):Int) d:Nat):Int)≠0:=by rw[gM];have:=nX (n:=n) (d:=d) (by omega);omega
      refine⟨aBK _ _ (by omega) (by omega),by omega,by exact mG hn,by omega,by exact mG (by omega),mD (⟨Int.tdiv n ((Int.gcd n d:Nat):Int),Int.tdiv d ((Int.gcd n d:Nat):Int)⟩:aB),dm (fun c2=>?_) fun c2=>?_⟩
      ·apply et3<;>((rw[aJ0 (by omega) c2]<;>rfl))
      ·apply et3<;>((rw[aN4 (by omega) c2]<;>rfl))
  ·refine⟨by exact⟨by omega,by omega⟩,dd (fun c0=>?_) fun c0=>?_⟩
   ·apply et3<;>((exfalso;omega))
   ·refine dd (fun c1=>?_) fun c1=>?_
    ·have q1:((Int.gcd (-n) (-d):Nat):Int)≠0:=by have:=nX (n:= -n) (d:= -d) (by omega);omega
     have q2:((Int.gcd ((Int.natAbs (-n):Nat):Int) (-d):Nat):Int)≠0:=by rw[gM];have:=nX (n:= -n) (d:= -d) (by omega);omega
     refine⟨by exact⟨by omega,by omega⟩,by exact⟨by omega,by omega⟩,aBK _ _ (by omega) (by omega),by omega,by exact mG (by omega),by omega,by exact mG (by omega),mD (⟨Int.tdiv (-n) ((Int.gcd (-n) (-d):Nat):Int),Int.tdiv (-d) ((Int.gcd (-n) (-d):Nat):Int)⟩:aB),dm (fun c2=>?_) fun c2=>?_⟩
     ·apply et3<;>((rw[aJ1 (by omega) c2]<;>rfl))
     ·apply et3<;>((rw[aN5 (by omega) c2]<;>rfl))
    ·have q1:((Int.gcd n d:Nat):Int)≠0:=by have:=nX (n:=n) (d:=d) (by omega);omega
     have q2:((Int.gcd ((Int.natAbs n:Nat):Int) d:Nat):Int)≠0:=by rw[gM];have:=nX (n:=n) (d:=d) (by omega);omega
     refine⟨aBK _ _ (by omega) (by omega),by omega,by exact mG hn,by omega,by exact mG (by omega),mD (⟨Int.tdiv n ((Int.gcd n d:Nat):Int),Int.tdiv d ((Int.gcd n d:Nat):Int)⟩:aB),dm (fun c2=>?_) fun c2=>?_⟩
     ·apply et3<;>((rw[aJ0 (by omega) c2]<;>rfl))
     ·apply et3<;>((rw[aN4 (by omega) c2]<;>rfl))
abbrev tD (n:Int)(d:Int):AV × List (Nat × Rs):=(.tup [.agg [vI ((jH (bQ n d)).1.num),vI ((jH (bQ n d)).1.den)],vB ((jH (bQ n d)).2)],[])
abbrev xG (n:Int)(d:Int):Prop:=Cn 202 [.one (.int .i64 n),.one (.int .i64 d)] (tD n d).1 (tD n d).2
theorem aHL (n d:Int)(hn: -9223372036854775807<=n/\n<=9223372036854775807)(hd: -9223372036854775807<=d/\d<=9223372036854775807):xG n d:=by
 refine cq Tryz.func202 (.br (.fin []) (.lit<| .lit<| .br (.fin []) (.lit<| .lit<| .br (.fin []) (.br (.call (vI (((-n).natAbs:Nat):Int)) []<| .call (vI ((Int.gcd (((-n).natAbs:Nat):Int) (-d):Nat):Int)) []<| .call (vB (bC (⟨Int.tdiv (-n) ((Int.gcd (((-n).natAbs:Nat):Int) (-d):Nat):Int),Int.tdiv (-d) ((Int.gcd (((-n).natAbs:Nat):Int) (-d):Nat):Int)⟩:aB))) []<| .br (.fin []) (.fin [])) (.call (vI (n.natAbs:Int)) []<| .call (vI ((Int.gcd (n.natAbs:Int) d:Nat):Int)) []<| .call (vB (bC (⟨Int.tdiv n ((Int.gcd (n.natAbs:Int) d:Nat):Int),Int.tdiv d ((Int.gcd (n.natAbs:Int) d:Nat):Int)⟩:aB))) []<| .br (.fin []) (.fin [])))))) (p:=Br (d=0) (0=((jH (bQ n d)).1.num)/\0=((jH (bQ n d)).1.den)/\(false)=((jH (bQ n d)).2)/\True) (Br (n<(-9223372036854775807:Int)) (0=((jH (bQ n d)).1.num)/\0=((jH (bQ n d)).1.den)/\(false)=((jH (bQ n d)).2)/\True) (Br (d<(-9223372036854775807:Int)) (0=((jH (bQ n d)).1.num)/\0=((jH (bQ n d)).1.den)/\(false)=((jH (bQ n d)).2)/\True) (Br (d<0) (bK (-n)/\bK (-d)/\yX (-n)/\yW (((-n).natAbs:Nat):Int) (-d)/\((Int.gcd (((-n).natAbs:Nat):Int) (-d):Nat):Int)≠0/\bK (Int.tdiv (-n) ((Int.gcd (((-n).natAbs:Nat):Int) (-d):Nat):Int))/\((Int.gcd (((-n).natAbs:Nat):Int) (-d):Nat):Int)≠0/\bK (Int.tdiv (-d) ((Int.gcd (((-n).natAbs:Nat):Int) (-d):Nat):Int))/\fY (⟨Int.tdiv (-n) ((Int.gcd (((-n).natAbs:Nat):Int) (-d):Nat):Int),Int.tdiv (-d) ((Int.gcd (((-n).natAbs:Nat):Int) (-d):Nat):Int)⟩:aB)/\Nr (bC (⟨Int.tdiv (-n) ((Int.gcd (((-n).natAbs:Nat):Int) (-d):Nat):Int),Int.tdiv (-d) ((Int.gcd (((-n).natAbs:Nat):Int) (-d):Nat):Int)⟩:aB)) (0=((jH (bQ n d)).1.num)/\0=((jH (bQ n d)).1.den)/\(false)=((jH (bQ n d)).2)/\True) ((Int.tdiv (-n) ((Int.gcd (((-n).natAbs:Nat):Int) (-d):Nat):Int))=((jH (bQ n d)).1.num)/\(Int.tdiv (-d) ((Int.gcd (((-n).natAbs:Nat):Int) (-d):Nat):Int))=((jH (bQ n d)).1.den)/\(true)=((jH (bQ n d)).2)/\True)) (yX n/\yW (n.natAbs:Int) d/\((Int.gcd (n.natAbs:Int) d:Nat):Int)≠0/\bK (Int.tdiv n ((Int.gcd (n.natAbs:Int) d:Nat):Int))/\((Int.gcd (n.natAbs:Int) d:Nat):Int)≠0/\bK (Int.tdiv d ((Int.gcd (n.natAbs:Int) d:Nat):Int))/\fY (⟨Int.tdiv n ((Int.gcd (n.natAbs:Int) d:Nat):Int),Int.tdiv d ((Int.gcd (n.natAbs:Int) d:Nat):Int)⟩:aB)/\Nr (bC (⟨Int.tdiv n ((Int.gcd (n.natAbs:Int) d:Nat):Int),Int.tdiv d ((Int.gcd (n.natAbs:Int) d:Nat):Int)⟩:aB)) (0=((jH (bQ n d)).1.num)/\0=((jH (bQ n d)).1.den)/\(false)=((jH (bQ n d)).2)/\True) ((Int.tdiv n ((Int.gcd (n.natAbs:Int) d:Nat):Int))=((jH (bQ n d)).1.num)/\(Int.tdiv d ((Int.gcd (n.natAbs:Int) d:Nat):Int))=((jH (bQ n d)).1.den)/\(true)=((jH (bQ n d)).2)/\True)))))) (by kernel_rfl) ?_;refine dd (fun g10=>?_) fun g10=>?_
 ·apply et3<;>((try simp only[gM] at*);(subst g10;rw[aP0]<;>rfl))
 ·refine dd (fun g14=>?_) fun g14=>?_
  ·apply et3<;>((try simp only[gM] at*);(exfalso;omega))
  ·refine dd (fun c0=>?_) fun c0=>?_
   ·apply et3<;>((try simp only[gM] at*);(exfalso;omega))
   ·refine dd (fun c1=>?_) fun c1=>?_
    ·have q1:((Int.gcd (-n) (-d):Nat):Int)≠0:=by have:=nX (n:= -n) (d:= -d) (by omega);omega
     have q2:((Int.gcd ((Int.natAbs (-n):Nat):Int) (-d):Nat):Int)≠0:=by rw[gM];have:=nX (n:= -n) (d:= -d) (by omega);omega
     refine⟨by exact⟨by omega,by omega⟩,by exact⟨by omega,by omega⟩,aJJ _ (by omega),aJI _ _ (by omega) (by omega),by omega,by exact mG (by omega),by omega,by exact mG (by omega),kI (⟨Int.tdiv (-n) ((Int.gcd (((-n).natAbs:Nat):Int) (-d):Nat):Int),Int.tdiv (-d) ((Int.gcd (((-n).natAbs:Nat):Int) (-d):Nat):Int)⟩:aB),dm (fun c2=>?_) fun c2=>?_⟩
     ·apply et3<;>((try simp only[gM] at*);(rw[aJ1 (by omega) c2]<;>rfl))
     ·apply et3<;>((try simp only[gM] at*);(rw[aN5 (by omega) c2]<;>rfl))
    ·have q1:((Int.gcd n d:Nat):Int)≠0:=by have:=nX (n:=n) (d:=d) (by omega);omega
     have q2:((Int.gcd ((Int.natAbs n:Nat):Int) d:Nat):Int)≠0:=by rw[gM];have:=nX (n:=n) (d:=d) (by omega);omega
     refine⟨aJJ _ (by omega),aJI _ _ (by omega) (by omega),by omega,by exact mG hn,by omega,by exact mG (by omega),kI (⟨Int.tdiv n ((Int.gcd (n.natAbs:Int) d:Nat):Int),Int.tdiv d ((Int.gcd (n.natAbs:Int) d:Nat):Int)⟩:aB),dm (fun c2=>?_) fun c2=>?_⟩
     ·apply et3<;>((try simp only[gM] at*);(rw[aJ0 (by omega) c2]<;>rfl))
     ·apply et3<;>((try simp only[gM] at*);(rw[aN4 (by omega) c2]<;>rfl))
abbrev aDN (a:aB)(b:aB):AV × List (Nat × Rs):=(.tup [.agg [vI ((gL a b).1.num),vI ((gL a b).1.den)],vB ((gL a b).2)],[])
abbrev aJ2 (a:aB)(b:aB):Prop:=Cn 214 [.agg [.int .i64 a.num,.int .i64 a.den],.agg [.int .i64 b.num,.int .i64 b.den]] (aDN a b).1 (aDN a b).2
theorem aWl (a b:aB):aJ2 a b:=by
 refine cq Tryz.func214 (.call (vB (bC a)) []<| .br (.fin []) (.call (vB (bC b)) []<| .lit<| .lit<| .br (.fin []) (bJ (xF ((a.num*b.den)+(b.num*a.den)) (a.den*b.den))<| .fin []))) (p:=hX a/\Nr (bC a) (0=((gL a b).1.num)/\0=((gL a b).1.den)/\(false)=((gL a b).2)/\True) (hX b/\Nr (bC b) (0=((gL a b).1.num)/\0=((gL a b).1.den)/\(false)=((gL a b).2)/\True) (bK (a.num*b.den)/\bK (b.num*a.den)/\bK ((a.num*b.den)+(b.num*a.den))/\bK (a.den*b.den)/\aCF ((a.num*b.den)+(b.num*a.den)) (a.den*b.den)/\(((jH (bQ ((a.num*b.den)+(b.num*a.den)) (a.den*b.den))).1).num)=((gL a b).1.num)/\(((jH (bQ ((a.num*b.den)+(b.num*a.den)) (a.den*b.den))).1).den)=((gL a b).1.den)/\((jH (bQ ((a.num*b.den)+(b.num*a.den)) (a.den*b.den))).2)=((gL a b).2)/\True))) (by kernel_rfl) ?_;refine⟨mD a,dm (fun g9=>?_) fun g9=>?_⟩
 ·apply et3<;>((rw[gL,aHG (.inl g9)];rfl))
 ·refine⟨mD b,dm (fun c0=>?_) fun c0=>?_⟩
  ·apply et3<;>((rw[gL,aHG (.inr c0)];rfl))
  ·have q1:=cY g9;have q2:=cY c0;have m1:=fL (x:=a.num) (y:=b.den) ⟨by omega,by omega⟩ ⟨by omega,by omega⟩;have m2:=fL (x:=b.num) (y:=a.den) ⟨by omega,by omega⟩ ⟨by omega,by omega⟩;have m3:=fL (x:=a.den) (y:=b.den) ⟨by omega,by omega⟩ ⟨by omega,by omega⟩;have m4:=fL (x:=a.num) (y:=b.num) ⟨by omega,by omega⟩ ⟨by omega,by omega⟩;have m5:=fL (x:=a.den) (y:=b.num) ⟨by omega,by omega⟩ ⟨by omega,by omega⟩;refine⟨⟨by omega,by omega⟩,⟨by omega,by omega⟩,⟨by omega,by omega⟩,⟨by omega,by omega⟩,aN6 _ _ (by omega) (by omega),?_,?_,?_,trivial⟩<;>((rw[gL,aJH g9 c0];done))
abbrev aDO (a:aB)(b:aB):AV × List (Nat × Rs):=(.tup [.agg [vI ((dY a b).1.num),vI ((dY a b).1.den)],vB ((dY a b).2)],[])
abbrev aJ3 (a:aB)(b:aB):Prop:=Cn 213 [.agg [.int .i64 a.num,.int .i64 a.den],.agg [.int .i64 b.num,.int .i64 b.den]] (aDO a b).1 (aDO a b).2
theorem aWm (a b:aB):aJ3 a b:=by
 refine cq Tryz.func213 (.call (vB (bC a)) []<| .br (.fin []) (.call (vB (bC b)) []<| .lit<| .lit<| .br (.fin []) (bJ (xF (a.num*b.num) (a.den*b.den))<| .fin []))) (p:=hX a/\Nr (bC a) (0=((dY a b).1.num)/\0=((dY a b).1.den)/\(false)=((dY a b).2)/\True) (hX b/\Nr (bC b) (0=((dY a b).1.num)/\0=((dY a b).1.den)/\(false)=((dY a b).2)/\True) (bK (a.num*b.num)/\bK (a.den*b.den)/\aCF (a.num*b.num) (a.den*b.den)/\(((jH (bQ (a.num*b.num) (a.den*b.den))).1).num)=((dY a b).1.num)/\(((jH (bQ (a.num*b.num) (a.den*b.den))).1).den)=((dY a b).1.den)/\((jH (bQ (a.num*b.num) (a.den*b.den))).2)=((dY a b).2)/\True))) (by kernel_rfl) ?_;refine⟨mD a,dm (fun g9=>?_) fun g9=>?_⟩
 ·apply et3<;>((rw[dY,aHH (.inl g9)];rfl))
 ·refine⟨mD b,dm (fun c0=>?_) fun c0=>?_⟩
  ·apply et3<;>((rw[dY,aHH (.inr c0)];rfl))
  ·have q1:=cY g9;have q2:=cY c0;have m1:=fL (x:=a.num) (y:=b.den) ⟨by omega,by omega⟩ ⟨by omega,by omega⟩;have m2:=fL (x:=b.num) (y:=a.den) ⟨by omega,by omega⟩ ⟨by omega,by omega⟩;have m3:=fL (x:=a.den) (y:=b.den) ⟨by omega,by omega⟩ ⟨by omega,by omega⟩;have m4:=fL (x:=a.num) (y:=b.num) ⟨by omega,by omega⟩ ⟨by omega,by omega⟩;have m5:=fL (x:=a.den) (y:=b.num) ⟨by omega,by omega⟩ ⟨by omega,by omega⟩;refine⟨⟨by omega,by omega⟩,⟨by omega,by omega⟩,aN6 _ _ (by omega) (by omega),?_,?_,?_,trivial⟩<;>((rw[dY,aBH g9 c0];done))
abbrev zD (a:aB)(b:aB):AV × List (Nat × Rs):=(.tup [.agg [vI ((bA a b).1.num),vI ((bA a b).1.den)],vB ((bA a b).2)],[])
abbrev aDP (a:aB)(b:aB):Prop:=Cn 162 [.agg [.int .i64 a.num,.int .i64 a.den],.agg [.int .i64 b.num,.int .i64 b.den]] (zD a b).1 (zD a b).2
theorem aP1 (a b:aB):aDP a b:=by
 refine cq Tryz.func162 (.call (vB (bC a)) []<| .br (.fin []) (.call (vB (bC b)) []<| .lit<| .lit<| .br (.fin []) (bJ (xF (a.num*b.den) (a.den*b.num))<| .fin []))) (p:=hX a/\Nr (bC a) (0=((bA a b).1.num)/\0=((bA a b).1.den)/\(false)=((bA a b).2)/\True) (hX b/\Nr (bC b) (0=((bA a b).1.num)/\0=((bA a b).1.den)/\(false)=((bA a b).2)/\True) (bK (a.num*b.den)/\bK (a.den*b.num)/\aCF (a.num*b.den) (a.den*b.num)/\(((jH (bQ (a.num*b.den) (a.den*b.num))).1).num)=((bA a b).1.num)/\(((jH (bQ (a.num*b.den) (a.den*b.num))).1).den)=((bA a b).1.den)/\((jH (bQ (a.num*b.den) (a.den*b.num))).2)=((bA a b).2)/\True))) (by kernel_rfl) ?_;refine⟨mD a,dm (fun g9=>?_) fun g9=>?_⟩
 ·apply et3<;>((rw[bA,aHI (.inl g9)];rfl))
 ·refine⟨mD b,dm (fun c0=>?_) fun c0=>?_⟩
  ·apply et3<;>((rw[bA,aHI (.inr c0)];rfl))
  ·have q1:=cY g9;have q2:=cY c0;have m1:=fL (x:=a.num) (y:=b.den) ⟨by omega,by omega⟩ ⟨by omega,by omega⟩;have m2:=fL (x:=b.num) (y:=a.den) ⟨by omega,by omega⟩ ⟨by omega,by omega⟩;have m3:=fL (x:=a.den) (y:=b.den) ⟨by omega,by omega⟩ ⟨by omega,by omega⟩;have m4:=fL (x:=a.num) (y:=b.num) ⟨by omega,by omega⟩ ⟨by omega,by omega⟩;have m5:=fL (x:=a.den) (y:=b.num) ⟨by omega,by omega⟩ ⟨by omega,by omega⟩;refine⟨⟨by omega,by omega⟩,⟨by omega,by omega⟩,aN6 _ _ (by omega) (by omega),?_,?_,?_,trivial⟩<;>((rw[bA,aBI g9 c0];done))
abbrev zE (a:aB)(b:aB):AV × List (Nat × Rs):=(.tup [.agg [vI ((gL a b).1.num),vI ((gL a b).1.den)],vB ((gL a b).2)],[])
abbrev aDQ (a:aB)(b:aB):Prop:=Cn 153 [.agg [.int .i64 a.num,.int .i64 a.den],.agg [.int .i64 b.num,.int .i64 b.den]] (zE a b).1 (zE a b).2
theorem aP2 (a b:aB):aDQ a b:=by
 refine cq Tryz.func153 (.call (vB (bC a)) []<| .br (.fin []) (.call (vB (bC b)) []<| .lit<| .lit<| .br (.fin []) (bJ (tD ((a.num*b.den)+(b.num*a.den)) (a.den*b.den))<| .fin []))) (p:=fY a/\Nr (bC a) (0=((gL a b).1.num)/\0=((gL a b).1.den)/\(false)=((gL a b).2)/\True) (fY b/\Nr (bC b) (0=((gL a b).1.num)/\0=((gL a b).1.den)/\(false)=((gL a b).2)/\True) (bK (a.num*b.den)/\bK (b.num*a.den)/\bK ((a.num*b.den)+(b.num*a.den))/\bK (a.den*b.den)/\xG ((a.num*b.den)+(b.num*a.den)) (a.den*b.den)/\(((jH (bQ ((a.num*b.den)+(b.num*a.den)) (a.den*b.den))).1).num)=((gL a b).1.num)/\(((jH (bQ ((a.num*b.den)+(b.num*a.den)) (a.den*b.den))).1).den)=((gL a b).1.den)/\((jH (bQ ((a.num*b.den)+(b.num*a.den)) (a.den*b.den))).2)=((gL a b).2)/\True))) (by kernel_rfl) ?_;refine⟨kI a,dm (fun g11=>?_) fun g11=>?_⟩
 ·apply et3<;>((rw[gL,aHG (.inl g11)];rfl))
 ·refine⟨kI b,dm (fun c0=>?_) fun c0=>?_⟩
  ·apply et3<;>((rw[gL,aHG (.inr c0)];rfl))
  ·have q1:=cY g11;have q2:=cY c0;have m1:=fL (x:=a.num) (y:=b.den) ⟨by omega,by omega⟩ ⟨by omega,by omega⟩;have m2:=fL (x:=b.num) (y:=a.den) ⟨by omega,by omega⟩ ⟨by omega,by omega⟩;have m3:=fL (x:=a.den) (y:=b.den) ⟨by omega,by omega⟩ ⟨by omega,by omega⟩;have m4:=fL (x:=a.num) (y:=b.num) ⟨by omega,by omega⟩ ⟨by omega,by omega⟩;have m5:=fL (x:=a.den) (y:=b.num) ⟨by omega,by omega⟩ ⟨by omega,by omega⟩;refine⟨⟨by omega,by omega⟩,⟨by omega,by omega⟩,⟨by omega,by omega⟩,⟨by omega,by omega⟩,aHL _ _ (by omega) (by omega),?_,?_,?_,trivial⟩<;>((rw[gL,aJH g11 c0];done))
abbrev uH (a:aB)(b:aB):AV × List (Nat × Rs):=(.tup [.agg [vI ((dY a b).1.num),vI ((dY a b).1.den)],vB ((dY a b).2)],[])
abbrev zF (a:aB)(b:aB):Prop:=Cn 152 [.agg [.int .i64 a.num,.int .i64 a.den],.agg [.int .i64 b.num,.int .i64 b.den]] (uH a b).1 (uH a b).2
theorem aJ4 (a b:aB):zF a b:=by
 refine cq Tryz.func152 (.call (vB (bC a)) []<| .br (.fin []) (.call (vB (bC b)) []<| .lit<| .lit<| .br (.fin []) (bJ (tD (a.num*b.num) (a.den*b.den))<| .fin []))) (p:=fY a/\Nr (bC a) (0=((dY a b).1.num)/\0=((dY a b).1.den)/\(false)=((dY a b).2)/\True) (fY b/\Nr (bC b) (0=((dY a b).1.num)/\0=((dY a b).1.den)/\(false)=((dY a b).2)/\True) (bK (a.num*b.num)/\bK (a.den*b.den)/\xG (a.num*b.num) (a.den*b.den)/\(((jH (bQ (a.num*b.num) (a.den*b.den))).1).num)=((dY a b).1.num)/\(((jH (bQ (a.num*b.num) (a.den*b.den))).1).den)=((dY a b).1.den)/\((jH (bQ (a.num*b.num) (a.den*b.den))).2)=((dY a b).2)/\True))) (by kernel_rfl) ?_;refine⟨kI a,dm (fun g11=>?_) fun g11=>?_⟩
 ·apply et3<;>((rw[dY,aHH (.inl g11)];rfl))
 ·refine⟨kI b,dm (fun c0=>?_) fun c0=>?_⟩
  ·apply et3<;>((rw[dY,aHH (.inr c0)];rfl))
  ·have q1:=cY g11;have q2:=cY c0;have m1:=fL (x:=a.num) (y:=b.den) ⟨by omega,by omega⟩ ⟨by omega,by omega⟩;have m2:=fL (x:=b.num) (y:=a.den) ⟨by omega,by omega⟩ ⟨by omega,by omega⟩;have m3:=fL (x:=a.den) (y:=b.den) ⟨by omega,by omega⟩ ⟨by omega,by omega⟩;have m4:=fL (x:=a.num) (y:=b.num) ⟨by omega,by omega⟩ ⟨by omega,by omega⟩;have m5:=fL (x:=a.den) (y:=b.num) ⟨by omega,by omega⟩ ⟨by omega,by omega⟩;refine⟨⟨by omega,by omega⟩,⟨by omega,by omega⟩,aHL _ _ (by omega) (by omega),?_,?_,?_,trivial⟩<;>((rw[dY,aBH g11 c0];done))
abbrev qO (a:aB)(b:aB):AV × List (Nat × Rs):=(.tup [.agg [vI ((bA a b).1.num),vI ((bA a b).1.den)],vB ((bA a b).2)],[])
abbrev uI (a:aB)(b:aB):Prop:=Cn 149 [.agg [.int .i64 a.num,.int .i64 a.den],.agg [.int .i64 b.num,.int .i64 b.den]] (qO a b).1 (qO a b).2
theorem aEb (a b:aB):uI a b:=by
 refine cq Tryz.func149 (.call (vB (bC a)) []<| .br (.fin []) (.call (vB (bC b)) []<| .lit<| .lit<| .br (.fin []) (.lit<| .lit<| .lit<| .br (.fin []) (bJ (tD (a.num*b.den) (a.den*b.num))<| .fin [])))) (p:=fY a/\Nr (bC a) (0=((bA a b).1.num)/\0=((bA a b).1.den)/\(false)=((bA a b).2)/\True) (fY b/\Nr (bC b) (0=((bA a b).1.num)/\0=((bA a b).1.den)/\(false)=((bA a b).2)/\True) (Br (b.num=0) (0=((bA a b).1.num)/\0=((bA a b).1.den)/\(false)=((bA a b).2)/\True) (bK (a.num*b.den)/\bK (a.den*b.num)/\xG (a.num*b.den) (a.den*b.num)/\(((jH (bQ (a.num*b.den) (a.den*b.num))).1).num)=((bA a b).1.num)/\(((jH (bQ (a.num*b.den) (a.den*b.num))).1).den)=((bA a b).1.den)/\((jH (bQ (a.num*b.den) (a.den*b.num))).2)=((bA a b).2)/\True)))) (by kernel_rfl) ?_;refine⟨kI a,dm (fun g11=>?_) fun g11=>?_⟩
 ·apply et3<;>((rw[bA,aHI (.inl g11)];rfl))
 ·refine⟨kI b,dm (fun g16=>?_) fun g16=>?_⟩
  ·apply et3<;>((rw[bA,aHI (.inr g16)];rfl))
  ·refine dd (fun c0=>?_) fun c0=>?_
   ·apply et3<;>((simp[bA,aTt,jH, *];done))
   ·have q1:=cY g11;have q2:=cY g16;have m1:=fL (x:=a.num) (y:=b.den) ⟨by omega,by omega⟩ ⟨by omega,by omega⟩;have m2:=fL (x:=b.num) (y:=a.den) ⟨by omega,by omega⟩ ⟨by omega,by omega⟩;have m3:=fL (x:=a.den) (y:=b.den) ⟨by omega,by omega⟩ ⟨by omega,by omega⟩;have m4:=fL (x:=a.num) (y:=b.num) ⟨by omega,by omega⟩ ⟨by omega,by omega⟩;have m5:=fL (x:=a.den) (y:=b.num) ⟨by omega,by omega⟩ ⟨by omega,by omega⟩;refine⟨⟨by omega,by omega⟩,⟨by omega,by omega⟩,aHL _ _ (by omega) (by omega),?_,?_,?_,trivial⟩<;>((rw[bA,aBI g11 g16];done))
theorem uJ {n d:Int}:dF (-n) d=dF n d:=by
 have e:Int.gcd (-n) d=Int.gcd n d:=by simp[Int.gcd]
 simp only[dF,e]
 congr 2
 simp only[eQ];rw[Bool.eq_iff_iff];simp;omega
theorem aWn {a b c d:Int}:aNU a b (-c) d=aNV a b c d:=by
 unfold aNU aNV;rw[uJ,Int.neg_mul,Int.sub_eq_add_neg]
abbrev aDR (a:aB)(b:aB):AV × List (Nat × Rs):=(.tup [.agg [vI ((pQ a b).1.num),vI ((pQ a b).1.den)],vB ((pQ a b).2)],[])
abbrev aJ5 (a:aB)(b:aB):Prop:=Cn 203 [.agg [.int .i64 a.num,.int .i64 a.den],.agg [.int .i64 b.num,.int .i64 b.den]] (aDR a b).1 (aDR a b).2
theorem aWo (a b:aB):aJ5 a b:=by
 refine cq Tryz.func203 (.call (vB (bC a)) []<| .br (.fin []) (.call (vB (bC b)) []<| .lit<| .lit<| .br (.fin []) (bJ (tD ((a.num*b.den) - (b.num*a.den)) (a.den*b.den))<| .fin []))) (p:=fY a/\Nr (bC a) (0=((pQ a b).1.num)/\0=((pQ a b).1.den)/\(false)=((pQ a b).2)/\True) (fY b/\Nr (bC b) (0=((pQ a b).1.num)/\0=((pQ a b).1.den)/\(false)=((pQ a b).2)/\True) (bK (a.num*b.den)/\bK (b.num*a.den)/\bK ((a.num*b.den) - (b.num*a.den))/\bK (a.den*b.den)/\xG ((a.num*b.den) - (b.num*a.den)) (a.den*b.den)/\(((jH (bQ ((a.num*b.den) - (b.num*a.den)) (a.den*b.den))).1).num)=((pQ a b).1.num)/\(((jH (bQ ((a.num*b.den) - (b.num*a.den)) (a.den*b.den))).1).den)=((pQ a b).1.den)/\((jH (bQ ((a.num*b.den) - (b.num*a.den)) (a.den*b.den))).2)=((pQ a b).2)/\True))) (by kernel_rfl) ?_;refine⟨kI a,dm (fun g11=>?_) fun g11=>?_⟩
 ·apply et3<;>((rw[pQ,aSL (.inl g11)];rfl))
 ·refine⟨kI b,dm (fun c0=>?_) fun c0=>?_⟩
  ·apply et3<;>((rw[pQ,aSL (.inr c0)];rfl))
  ·have q1:=cY g11;have q2:=cY c0;have m1:=fL (x:=a.num) (y:=b.den) ⟨by omega,by omega⟩ ⟨by omega,by omega⟩;have m2:=fL (x:=b.num) (y:=a.den) ⟨by omega,by omega⟩ ⟨by omega,by omega⟩;have m3:=fL (x:=a.den) (y:=b.den) ⟨by omega,by omega⟩ ⟨by omega,by omega⟩;have m4:=fL (x:=a.num) (y:=b.num) ⟨by omega,by omega⟩ ⟨by omega,by omega⟩;have m5:=fL (x:=a.den) (y:=b.num) ⟨by omega,by omega⟩ ⟨by omega,by omega⟩;refine⟨⟨by omega,by omega⟩,⟨by omega,by omega⟩,⟨by omega,by omega⟩,⟨by omega,by omega⟩,aHL _ _ (by omega) (by omega),?_,?_,?_,trivial⟩<;>((rw[pQ,aPS g11 c0];done))
abbrev aJ6 (a:aB)(b:aB):Prop:=Cn 163 [.agg [.int .i64 a.num,.int .i64 a.den],.agg [.int .i64 b.num,.int .i64 b.den]] (vI (fP a b)) []
theorem aWp (a b:aB):aJ6 a b:=by
 refine cq Tryz.func163 (.call (vB (bC a)) []<| .br (.fin []) (.call (vB (bC b)) []<| .lit<| .lit<| .br (.fin []) (.br (.fin []) (.br (.fin []) (.fin []))))) (p:=hX a/\Nr (bC a) (0=(fP a b)/\True) (hX b/\Nr (bC b) (0=(fP a b)/\True) (bK (a.num*b.den)/\bK (b.num*a.den)/\Br ((a.num*b.den)<(b.num*a.den)) ((-1:Int)=(fP a b)/\True) (Br ((b.num*a.den)<(a.num*b.den)) (1=(fP a b)/\True) (0=(fP a b)/\True))))) (by kernel_rfl) ?_;refine⟨mD a,dm (fun g10=>?_) fun g10=>?_⟩
 ·apply et1
  ·(rw[fP,aHJ (.inl g10)];done)
 ·refine⟨mD b,dm (fun c0=>?_) fun c0=>?_⟩
  ·apply et1
   ·(rw[fP,aHJ (.inr c0)];done)
  ·have q1:=cY g10;have q2:=cY c0;have m1:=fL (x:=a.num) (y:=b.den) ⟨by omega,by omega⟩ ⟨by omega,by omega⟩;have m2:=fL (x:=b.num) (y:=a.den) ⟨by omega,by omega⟩ ⟨by omega,by omega⟩;have m3:=fL (x:=a.den) (y:=b.den) ⟨by omega,by omega⟩ ⟨by omega,by omega⟩;have m4:=fL (x:=a.num) (y:=b.num) ⟨by omega,by omega⟩ ⟨by omega,by omega⟩;have m5:=fL (x:=a.den) (y:=b.num) ⟨by omega,by omega⟩ ⟨by omega,by omega⟩;refine⟨⟨by omega,by omega⟩,⟨by omega,by omega⟩,dd (fun c1=>?_) fun c1=>?_⟩
   ·apply et1
    ·(rw[fP,wY g10 c0];(rw[if_pos c1];done))
   ·refine dd (fun c2=>?_) fun c2=>?_
    ·apply et1
     ·(rw[fP,wY g10 c0];(rw[if_neg c1,if_pos c2];done))
    ·apply et1
     ·(rw[fP,wY g10 c0];(rw[if_neg c1,if_neg c2];done))
abbrev aJ7 (a:aB)(b:aB):Prop:=Cn 150 [.agg [.int .i64 a.num,.int .i64 a.den],.agg [.int .i64 b.num,.int .i64 b.den]] (vI (fP a b)) []
theorem aWq (a b:aB):aJ7 a b:=by
 refine cq Tryz.func150 (.call (vB (bC a)) []<| .br (.fin []) (.call (vB (bC b)) []<| .lit<| .lit<| .br (.fin []) (.br (.fin []) (.br (.fin []) (.fin []))))) (p:=fY a/\Nr (bC a) (0=(fP a b)/\True) (fY b/\Nr (bC b) (0=(fP a b)/\True) (bK (a.num*b.den)/\bK (b.num*a.den)/\Br ((a.num*b.den)<(b.num*a.den)) ((-1:Int)=(fP a b)/\True) (Br ((b.num*a.den)<(a.num*b.den)) (1=(fP a b)/\True) (0=(fP a b)/\True))))) (by kernel_rfl) ?_;refine⟨kI a,dm (fun g10=>?_) fun g10=>?_⟩
 ·apply et1
  ·(rw[fP,aHJ (.inl g10)];done)
 ·refine⟨kI b,dm (fun c0=>?_) fun c0=>?_⟩
  ·apply et1
   ·(rw[fP,aHJ (.inr c0)];done)
  ·have q1:=cY g10;have q2:=cY c0;have m1:=fL (x:=a.num) (y:=b.den) ⟨by omega,by omega⟩ ⟨by omega,by omega⟩;have m2:=fL (x:=b.num) (y:=a.den) ⟨by omega,by omega⟩ ⟨by omega,by omega⟩;have m3:=fL (x:=a.den) (y:=b.den) ⟨by omega,by omega⟩ ⟨by omega,by omega⟩;have m4:=fL (x:=a.num) (y:=b.num) ⟨by omega,by omega⟩ ⟨by omega,by omega⟩;have m5:=fL (x:=a.den) (y:=b.num) ⟨by omega,by omega⟩ ⟨by omega,by omega⟩;refine⟨⟨by omega,by omega⟩,⟨by omega,by omega⟩,dd (fun c1=>?_) fun c1=>?_⟩
   ·apply et1
    ·(rw[fP,wY g10 c0];(rw[if_pos c1];done))
   ·refine dd (fun c2=>?_) fun c2=>?_
    ·apply et1
     ·(rw[fP,wY g10 c0];(rw[if_neg c1,if_pos c2];done))
    ·apply et1
     ·(rw[fP,wY g10 c0];(rw[if_neg c1,if_neg c2];done))
theorem bG {α:Type}{l:List α}{k:Nat}{x y:α}(h:l[k]? =some x):l.getD k y=x:=by simp[aKU,h]
def aU (n:Int):aB:=⟨n,1⟩
def zR:aB:=⟨0,0⟩
theorem aJ8 (m:Int)(l:List Int): ∀k,∃p,kW m l k=m4 p
 | 0=>⟨fun _=>false,by simp[kW,m4,b4]⟩
 | k+1=>by
   obtain⟨p,hp⟩:=aJ8 m l k;rw[kW];split
   ·rename_i h;exact⟨_,by rw[hp,aWF h.1.1]⟩
   exact⟨p,hp⟩
theorem aG0 (m:Int)(l:List Int):0<=kJ m l/\kJ m l<=15:=by
 obtain⟨p,hp⟩:=aJ8 m l l.length;rw[kJ,hp];exact aWE p
theorem aG1: ∀(f b:Nat) (n:Int),0<=lB f b n/\lB f b n<=((b+f:Nat):Int)
 | 0,b,_=>by rw[lB];omega
 | f+1,b,n=>by
   have:=aG1 f (b+1) n;rw[lB];split<;>omega
theorem aRH (n:Int): -1<=uR n/\uR n<=12:=by
 have:=aG1 12 0 n;unfold uR;split<;>omega
theorem aRI {s:StoreD}{q:QueryD}{m:Int}{x:aL}(h:x∈eH s q m): -1<=x.bits/\x.bits<=12:=by
 unfold eH at h;split at h
 ·rw[qcL,List.mem_flatMap] at h;obtain⟨y,_,h⟩:=h;rw[qcA] at h;unfold oF at h;split at h
  ·obtain⟨z,_,rfl⟩:=aQO.1 h;exact aRH _
  simp at h
 simp at h
theorem aP3 {s:StoreD}{q:QueryD}{m:Int}(v:List Int):qE ((eH s q m).map (nT v)):=by
 intro x hx;obtain⟨y,hy,rfl⟩:=aQO.1 hx;have h1:=aG0 y.src v;have h2:=aG0 y.dst v;have h3:=aRI hy;refine⟨⟨?_,?_⟩,⟨?_,?_⟩,⟨?_,?_⟩⟩<;>(simp only[nT];omega)
def gT (s:StoreD)(q:QueryD)(m:Int):bW × Bool:=if (eH s q m).length=0 then (pD,false) else dX ((eH s q m).map (nT (eM q m))) ((eM q m).length:Nat)
theorem aSQ {s:StoreD}{q:QueryD}{m:Int}(h:(eH s q m).length=0):gT s q m=(pD,false):=by rw[gT,if_pos h]
theorem aP4 {s:StoreD}{q:QueryD}{m:Int}(h: ¬(eH s q m).length=0):gT s q m=dX ((eH s q m).map (nT (eM q m))) ((eM q m).length:Nat):=by rw[gT,if_neg h]
theorem aRJ (s:StoreD)(q:QueryD)(m:Int):aAb (gT s q m).1<=2000:=by
 unfold gT;split
 ·decide
 exact aRG _ _
end Go.Proofs.YtlidmoeecphbmaaGreat
