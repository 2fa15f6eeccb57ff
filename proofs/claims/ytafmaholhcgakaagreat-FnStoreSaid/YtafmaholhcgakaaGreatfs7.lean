/-
  Contracts and plain laws, joined: part 8.
-/
import Derived.Test.YtafmaholhcgakaaGreatfs6
import Derived.Test.YtafmaholhcgakaaGreatfs5
import Derived.Test.YtafmaholhcgakaaGreatfs3
import Derived.Test.YtafmaholhcgakaaGreatfs4
namespace Go.Proofs.YtafmaholhcgakaaGreat
open Go.ChangeShapes Go.WideShapes Go.ChangeAt Go.RowKit
set_option linter.unusedVariables false
set_option linter.unusedSimpArgs false
set_option maxRecDepth 100000
set_option maxHeartbeats 4000000
def aN1 (s:Int)(v:Nat):Bool:=decide (lO .and .i64 (s/2^v) 1=1)
def jN (s:Int)(k:Nat):List Int:=((List.range k).filter (aN1 s)).map fun v:Nat=>(v:Int)
def nP (s:Int):List Int:=jN s 3
theorem aEZ {s:Int}{k:Nat}(h:lO .and .i64 (s/2^k) 1=1):jN s (k+1)=jN s k++[(k:Int)]:=by
 rw[jN,List.range_succ,List.filter_append,aG0];simp[jN,aN1,h]
theorem aG8 {s:Int}{k:Nat}(h: ¬lO .and .i64 (s/2^k) 1=1):jN s (k+1)=jN s k:=by
 rw[jN,List.range_succ,List.filter_append,aG0];simp[jN,aN1,h]
theorem aJ8 {s:Int}{k:Nat}(hs:0<=s/\s<=7)(hk:k<=3)(h:s/2^k=0):jN s k=nP s:=by
 have h1:s=0\/s=1\/s=2\/s=3\/s=4\/s=5\/s=6\/s=7:=by omega
 have h2:k=0\/k=1\/k=2\/k=3:=by omega
 rcases h2 with rfl|rfl|rfl|rfl<;>rcases h1 with rfl|rfl|rfl|rfl|rfl|rfl|rfl|rfl<;>first|rfl|(revert h;decide)
theorem aN2 {s:Int}{k:Nat}(hs:0<=s/\s<=7)(hk:k<=3)(h: ¬s/2^k=0):k<3:=by
 by_cases q:k=3
 ·subst q;omega
 omega
theorem aA8 (s:Int)(k:Nat):(jN s k).length<=k:=by
 rw[jN,aAK];have:=(List.filter_sublist (l:=List.range k) (p:=aN1 s)).length_le;rw[List.length_range] at this;exact this
theorem aA9 {n:Int}(h:1<=n/\n<=3):2<=(2:Int)^n.toNat/\(2:Int)^n.toNat<=8:=by
 have:n=1\/n=2\/n=3:=by omega
 rcases this with rfl | rfl | rfl<;>decide
def pA (k:Nat):List (List Int):=(List.range k).map fun i=>nP ((i+1:Nat):Int)
def bL (n:Int):List (List Int):=pA ((2:Int)^n.toNat - 1).toNat
theorem aCg (k:Nat):pA (k+1)=pA k++[nP ((k+1:Nat):Int)]:=by rw[pA,List.range_succ,aG0];rfl
abbrev uS (s:Int):AV × List (Nat × Rs):=(.own 0,[(0,.arr 3 1 true ((nP s).map intD))])
abbrev aBB (s:Int):Prop:=Cn 162 [.one (.int .i64 s)] (uS s).1 (uS s).2
theorem aJ9 (s:Int)(hs:0<=s/\s<=7):aBB s:=by
 refine cq Tryz.func162 (.loop (Nat × (List Int)) (Q2 Nat (List Int)) (rg 3 18) [500,1900,2000] (fun yy0=>[(4,vI (yy0.1:Int)),(3,.own 500)]) (fun yy0=>[(500,some (.arr 3 1 true (yy0.2.map intD)))]) (fun yy0=>yy0.1<=3/\yy0.2=jN s yy0.1) (fun yy0=>3 - yy0.1) (fun yy0=> .br (.br (.app Int intD yy0.2 ([(yy0.1:Int)]:List Int)<| .back [(500,2000)]) (.back [(500,500)])) (.fin [(0,500)]))) (p:=(∃(k:Nat) (out:List Int),0=(k:Int)/\[]=out.map intD/\k<=3/\out=jN s k)/\ ∀(k:Nat) (out:List Int),(k<=3/\out=jN s k)->(0<=(k:Int)/\(k:Int)<=64)/\Nb ((s/2^k)=0) ((0<=(k:Int)/\(k:Int)<=64)/\Br ((lO .and .i64 (s/2^k) (1:Int))=1) (Ap intD out ([(k:Int)]:List Int) 8 (cW ((k:Int)+1)/\ ∃(k' :Nat) (out' :List Int),((k:Int)+1)=(k' :Int)/\(out++[(k:Int)]).map intD=out'.map intD/\(k' <=3/\out' =jN s k')/\3 - k' <3 - k)) (cW ((k:Int)+1)/\ ∃(k' :Nat) (out' :List Int),((k:Int)+1)=(k' :Int)/\out.map intD=out'.map intD/\(k' <=3/\out' =jN s k')/\3 - k' <3 - k)) (out.map intD=(nP s).map intD/\True)) (by kernel_rfl) ?_;refine⟨⟨0,([]:List Int),rfl,rfl,by omega,rfl⟩,fun k out ⟨hk,ho⟩=>?_⟩;refine⟨⟨by omega,by omega⟩,dn (fun c0=>?_) fun c0=>?_⟩
 ·have hk3:=aN2 hs hk c0;have hln:=aA8 s k;refine⟨⟨by omega,by omega⟩,dd (fun c1=>?_) fun c1=>?_⟩
  ·refine ap ?_ (fun _=>rfl) (by (simp[ho];omega));refine⟨⟨by omega,by omega⟩,?_⟩;exact⟨k+1,_,rfl,rfl,⟨by omega,by (rw[ho,aEZ c1];done)⟩,by omega⟩
  ·refine⟨⟨by omega,by omega⟩,?_⟩;exact⟨k+1,_,rfl,rfl,⟨by omega,by (rw[ho,aG8 c1];done)⟩,by omega⟩
 ·apply et1
  ·(rw[ho];exact congrArg _ (aJ8 hs hk c0))
abbrev uT (s:Int):AV × List (Nat × Rs):=(.own 0,[(0,.arr 3 1 true ((nP s).map intD))])
abbrev aBC (s:Int):Prop:=Cn 166 [.one (.int .i64 s)] (uT s).1 (uT s).2
theorem aJa (s:Int)(hs:0<=s/\s<=7):aBC s:=by
 refine cq Tryz.func166 (.loop (Nat × (List Int)) (Q2 Nat (List Int)) (rg 3 16) [500,1700,1800] (fun yy0=>[(4,vI (yy0.1:Int)),(3,.own 500)]) (fun yy0=>[(500,some (.arr 3 1 true (yy0.2.map intD)))]) (fun yy0=>yy0.1<=3/\yy0.2=jN s yy0.1) (fun yy0=>3 - yy0.1) (fun yy0=> .br (.br (.app Int intD yy0.2 ([(yy0.1:Int)]:List Int)<| .back [(500,1800)]) (.back [(500,500)])) (.fin [(0,500)]))) (p:=(∃(k:Nat) (out:List Int),0=(k:Int)/\[]=out.map intD/\k<=3/\out=jN s k)/\ ∀(k:Nat) (out:List Int),(k<=3/\out=jN s k)->Br ((k:Int)<3) ((0<=(k:Int)/\(k:Int)<=64)/\Br ((lO .and .i64 (s/2^k) (1:Int))=1) (Ap intD out ([(k:Int)]:List Int) 8 (cW ((k:Int)+1)/\ ∃(k' :Nat) (out' :List Int),((k:Int)+1)=(k' :Int)/\(out++[(k:Int)]).map intD=out'.map intD/\(k' <=3/\out' =jN s k')/\3 - k' <3 - k)) (cW ((k:Int)+1)/\ ∃(k' :Nat) (out' :List Int),((k:Int)+1)=(k' :Int)/\out.map intD=out'.map intD/\(k' <=3/\out' =jN s k')/\3 - k' <3 - k)) (out.map intD=(nP s).map intD/\True)) (by kernel_rfl) ?_;refine⟨⟨0,([]:List Int),rfl,rfl,by omega,rfl⟩,fun k out ⟨hk,ho⟩=>?_⟩;refine dd (fun c0=>?_) fun c0=>?_
 ·skip
  have hln:=aA8 s k;refine⟨⟨by omega,by omega⟩,dd (fun c1=>?_) fun c1=>?_⟩
  ·refine ap ?_ (fun _=>rfl) (by (simp[ho];omega));refine⟨⟨by omega,by omega⟩,?_⟩;exact⟨k+1,_,rfl,rfl,⟨by omega,by (rw[ho,aEZ c1];done)⟩,by omega⟩
  ·refine⟨⟨by omega,by omega⟩,?_⟩;exact⟨k+1,_,rfl,rfl,⟨by omega,by (rw[ho,aG8 c1];done)⟩,by omega⟩
 ·apply et1
  ·(rw[ho];exact congrArg _ (by rw[nP,show 3=k by omega]))
abbrev uU (n:Int):AV × List (Nat × Rs):=(.own 0,[(0,.arr 34 1 true ((bL n).map aE))])
abbrev aBD (n:Int):Prop:=Cn 106 [.one (.int .i64 n)] (uU n).1 (uU n).2
theorem aJb (n:Int)(hn:1<=n/\n<=3):aBD n:=by
 refine cq Tryz.func106 (.call (vB (gZ n (1:Int) (3:Int))) []<| .br (.fin []) (.loop (Nat × (List (List Int))) (Q2 Nat (List (List Int))) ([3,4]++rg 8 12) [800,1700,1800,1900] (fun yy0=>[(4,vI ((yy0.1+1:Nat):Int)),(3,.own 800)]) (fun yy0=>[(800,some (.arr 34 1 true (yy0.2.map aE)))]) (fun yy0=>yy0.1<=((2:Int)^n.toNat - 1).toNat/\yy0.2=pA yy0.1) (fun yy0=>((2:Int)^n.toNat - 1).toNat - yy0.1) (fun yy0=> .br (bC (uS ((yy0.1+1:Nat):Int))<| .appx (List Int) aE yy0.2 (nP ((yy0.1+1:Nat):Int))<| .back [(800,1900)]) (.fin [(0,800)])))) (p:=iP n (1:Int) (3:Int)/\Nr (gZ n (1:Int) (3:Int)) ([]=(bL n).map aE/\True) ((∃(k:Nat) (out:List (List Int)),1=((k+1:Nat):Int)/\[]=out.map aE/\k<=((2:Int)^n.toNat - 1).toNat/\out=pA k)/\ ∀(k:Nat) (out:List (List Int)),(k<=((2:Int)^n.toNat - 1).toNat/\out=pA k)->(0<=n/\n<=64)/\cW ((1:Int)*2^(Int.toNat n))/\Br (((k+1:Nat):Int)<((1:Int)*2^(Int.toNat n))) (aBB ((k+1:Nat):Int)/\out.map aE=out.map aE/\(nP ((k+1:Nat):Int)).map intD=(nP ((k+1:Nat):Int)).map intD/\(out.length+1)*24<=140737488355328/\cW (((k+1:Nat):Int)+1)/\ ∃(k' :Nat) (out' :List (List Int)),(((k+1:Nat):Int)+1)=((k' +1:Nat):Int)/\(out++[nP ((k+1:Nat):Int)]).map aE=out'.map aE/\(k' <=((2:Int)^n.toNat - 1).toNat/\out' =pA k')/\((2:Int)^n.toNat - 1).toNat - k' <((2:Int)^n.toNat - 1).toNat - k) (out.map aE=(bL n).map aE/\True))) (by kernel_rfl) ?_;have hb:=aA9 hn;have hin:gZ n 1 3=true:=aHF hn.1 hn.2;refine⟨nT _ _ _,dm (fun c0=>?_) fun c0=>?_⟩
 ·apply et1
  ·(exfalso;simp[hin] at c0;done)
 ·refine⟨⟨0,([]:List (List Int)),rfl,rfl,aAd _,rfl⟩,fun k out ⟨hk,ho⟩=>?_⟩;refine⟨⟨by omega,by omega⟩,⟨by omega,by omega⟩,dd (fun c1=>?_) fun c1=>?_⟩
  ·refine⟨aJ9 ((k+1:Nat):Int) (by omega),rfl,rfl,by (simp[ho,pA];omega),⟨by omega,by omega⟩,?_⟩;exact⟨(k+1),_,rfl,rfl,⟨by omega,by rw[ho,aCg]⟩,by omega⟩
  ·apply et1
   ·(rw[ho,bL];congr 2;omega)
abbrev uV (n:Int):AV × List (Nat × Rs):=(.own 0,[(0,.arr 34 1 true ((bL n).map aE))])
abbrev aBE (n:Int):Prop:=Cn 109 [.one (.int .i64 n)] (uV n).1 (uV n).2
theorem aJc (n:Int)(hn:1<=n/\n<=3):aBE n:=by
 refine cq Tryz.func109 (.loop (Nat × (List (List Int))) (Q2 Nat (List (List Int))) (rg 3 18) [500,1800,1900,2000] (fun yy0=>[(4,vI ((yy0.1+1:Nat):Int)),(3,.own 500)]) (fun yy0=>[(500,some (.arr 34 1 true (yy0.2.map aE)))]) (fun yy0=>yy0.1<=((2:Int)^n.toNat - 1).toNat/\yy0.2=pA yy0.1) (fun yy0=>((2:Int)^n.toNat - 1).toNat - yy0.1) (fun yy0=> .call (vB (gZ n (1:Int) (3:Int))) []<| .br (.lit<| .lit<| .lit<| .lit<| .br (bC (uT ((yy0.1+1:Nat):Int))<| .appx (List Int) aE yy0.2 (nP ((yy0.1+1:Nat):Int))<| .back [(500,2000)]) (.fin [(0,500)])) (.fin [(0,500)]))) (p:=(∃(k:Nat) (out:List (List Int)),1=((k+1:Nat):Int)/\[]=out.map aE/\k<=((2:Int)^n.toNat - 1).toNat/\out=pA k)/\ ∀(k:Nat) (out:List (List Int)),(k<=((2:Int)^n.toNat - 1).toNat/\out=pA k)->iQ n (1:Int) (3:Int)/\Bb (gZ n (1:Int) (3:Int)) ((0<=n/\n<=64)/\cW ((1:Int)*2^(Int.toNat n))/\Br (((k+1:Nat):Int)<((1:Int)*2^(Int.toNat n))) (aBC ((k+1:Nat):Int)/\out.map aE=out.map aE/\(nP ((k+1:Nat):Int)).map intD=(nP ((k+1:Nat):Int)).map intD/\(out.length+1)*24<=140737488355328/\cW (((k+1:Nat):Int)+1)/\ ∃(k' :Nat) (out' :List (List Int)),(((k+1:Nat):Int)+1)=((k' +1:Nat):Int)/\(out++[nP ((k+1:Nat):Int)]).map aE=out'.map aE/\(k' <=((2:Int)^n.toNat - 1).toNat/\out' =pA k')/\((2:Int)^n.toNat - 1).toNat - k' <((2:Int)^n.toNat - 1).toNat - k) (out.map aE=(bL n).map aE/\True)) (out.map aE=(bL n).map aE/\True)) (by kernel_rfl) ?_;have hb:=aA9 hn;have hin:gZ n 1 3=true:=aHF hn.1 hn.2;refine⟨⟨0,([]:List (List Int)),rfl,rfl,aAd _,rfl⟩,fun k out ⟨hk,ho⟩=>?_⟩;refine⟨nU _ _ _,db (fun g8=>?_) fun g8=>?_⟩
 ·refine⟨⟨by omega,by omega⟩,⟨by omega,by omega⟩,dd (fun c0=>?_) fun c0=>?_⟩
  ·refine⟨aJa ((k+1:Nat):Int) (by omega),rfl,rfl,by (simp[ho,pA];omega),⟨by omega,by omega⟩,?_⟩;exact⟨(k+1),_,rfl,rfl,⟨by omega,by rw[ho,aCg]⟩,by omega⟩
  ·apply et1
   ·(rw[ho,bL];congr 2;omega)
 ·apply et1
  ·(exfalso;simp[hin] at*;done)
def zP (t:aJ)(cols:List Int):aR:=⟨cols,(fQ t cols).1,(fQ t cols).2⟩
def bD (t:aJ):aQ:=if aP t=true then ⟨t.name,t.arity,(t.rows.length:Nat),(bL t.arity).map (zP t)⟩ else aAt
theorem kW {t:aJ}(h:aP t=true):bD t=⟨t.name,t.arity,(t.rows.length:Nat),(bL t.arity).map (zP t)⟩:=by rw[bD,if_pos h]
theorem xR {t:aJ}(h:aP t=false):bD t=aAt:=by rw[bD,if_neg (by rw[h];decide)]
theorem aId {α:Type}{l:List α}{k:Nat}(h:k<l.length):l.drop k≠[]:=fun e=>by
 have:=congrArg List.length e;simp at this;omega
theorem aIe {α:Type}{l l2:List α}{k:Nat}{x:α}(h:l.drop k=x::l2):l2=l.drop (k+1):=by rw[<-List.tail_drop,h];rfl
theorem aIf {α:Type}{l l2:List α}{k:Nat}{x:α}(h:l.drop k=x::l2):l[k]? =some x:=by
 have:=congrArg List.head? h;simpa [List.head?_drop] using this
theorem xS {n:Int}{k:Nat}{x:List Int}(h:(bL n)[k]? =some x):x.length<=3:=by
 obtain⟨i,_,rfl⟩:=aID.1 (aBA h);exact aA8 _ 3
theorem uW {n:Int}(h:1<=n/\n<=3):(bL n).length<=7:=by
 have:=aA9 h;simp only[bL,pA,aAK,List.length_range];omega
abbrev aAa (t:aJ):AV × List (Nat × Rs):=(.agg [.p none (.str ((bD t).name)),vI ((bD t).arity),vI ((bD t).rowCount),.own 0],[(0,.arr 138 3 true ((bD t).groups.map aM))])
abbrev aE0 (t:aJ):Prop:=Cn 51 [.agg [.str t.name,.int .i64 t.arity,.sl 34 1 (t.rows.map aE)]] (aAa t).1 (aAa t).2
theorem aN3 (t:aJ):aE0 t:=by
 refine cq Tryz.func51 (.call (vB (aP t)) []<| .br (.fin []) (.len t.rows.length<| bC (uU t.arity)<| .len ((bL t.arity).length)<| .loop (Nat × (List (List Int)) × (List aR)) (Q3 Nat (List (List Int)) (List aR)) ([5,6,7]++rg 24 20) [300,2200,3100,3101,4000,4100,9000,50607] (fun yy0=>[(24,vI (yy0.1:Int))]) (fun yy0=>[(300,some (.box 91 [.p none (.str t.name),vI t.arity,vI (t.rows.length:Int),.own 9000])),(9000,some (.arr 138 3 true (yy0.2.2.map aM))),(2200,some (.arr 34 1 true (List.replicate yy0.1 [bB.gone]++yy0.2.1.map aE)))]) (fun yy0=>yy0.1<=(bL t.arity).length/\yy0.2.1=(bL t.arity).drop yy0.1/\yy0.2.2=((bL t.arity).take yy0.1).map (zP t)) (fun yy0=>(bL t.arity).length - yy0.1) (fun yy0=> .br (.takeg 6 2200 yy0.1 50607 (List Int) aE yy0.2.1 (fun x6 l6=> .len (yy0.1+(l6.length+1))<| .leave 7 2200 yy0.1 50607 (List Int) aE x6 l6 (bC (xP t x6)<| .appx aR aM yy0.2.2 (⟨x6,(fQ t x6).1,(fQ t x6).2⟩:aR)<| .back [(300,300),(2200,2200),(9000,4100)]))) (.fin [(0,9000)])))) (p:=Lx (t.rows.map aE)<| kJ t/\Nr (aP t) (ByteArray.empty=((bD t).name)/\0=((bD t).arity)/\0=((bD t).rowCount)/\[]=(bD t).groups.map aM/\True) (Lm aE t.rows/\(aBD t.arity/\(Lm aE (bL t.arity)/\((∃(k:Nat) (l2:List (List Int)) (out:List aR),0=(k:Int)/\t.name=t.name/\t.arity=t.arity/\(t.rows.length:Int)=(t.rows.length:Int)/\[]=out.map aM/\(bL t.arity).map aE=List.replicate k [bB.gone]++l2.map aE/\k<=(bL t.arity).length/\l2=(bL t.arity).drop k/\out=((bL t.arity).take k).map (zP t))/\ ∀(k:Nat) (l2:List (List Int)) (out:List aR),(k<=(bL t.arity).length/\l2=(bL t.arity).drop k/\out=((bL t.arity).take k).map (zP t))->Br ((k:Int)<(((bL t.arity).length:Nat):Int)) (List.replicate k [bB.gone]++l2.map aE=List.replicate k [bB.gone]++l2.map aE/\l2≠[]/\ ∀x6 l6,l2=x6::l6->0<=(k:Int)/\(List.replicate k [bB.gone]++(x6::l6).map aE).length=k+(l6.length+1)/\(k:Int)<((k+(l6.length+1):Nat):Int)/\k=k/\List.replicate k [bB.gone]++(x6::l6).map aE=List.replicate k [bB.gone]++(x6::l6).map aE/\k=k/\aC9 t x6/\out.map aM=out.map aM/\x6.map intD=(⟨x6,(fQ t x6).1,(fQ t x6).2⟩:aR).columns.map intD/\(fQ t x6).1.map aE=(⟨x6,(fQ t x6).1,(fQ t x6).2⟩:aR).values.map aE/\(fQ t x6).2.map intD=(⟨x6,(fQ t x6).1,(fQ t x6).2⟩:aR).counts.map intD/\(out.length+1)*72<=140737488355328/\cW ((k:Int)+1)/\ ∃(k' :Nat) (l2' :List (List Int)) (out' :List aR),((k:Int)+1)=(k' :Int)/\t.name=t.name/\t.arity=t.arity/\(t.rows.length:Int)=(t.rows.length:Int)/\(out++[(⟨x6,(fQ t x6).1,(fQ t x6).2⟩:aR)]).map aM=out'.map aM/\List.replicate (k+1) [bB.gone]++l6.map aE=List.replicate k' [bB.gone]++l2'.map aE/\(k' <=(bL t.arity).length/\l2' =(bL t.arity).drop k' /\out' =((bL t.arity).take k').map (zP t))/\(bL t.arity).length - k' <(bL t.arity).length - k) (t.name=((bD t).name)/\t.arity=((bD t).arity)/\(t.rows.length:Int)=((bD t).rowCount)/\out.map aM=(bD t).groups.map aM/\True)))))) (by kernel_rfl) ?_;refine lx fun n0=>?_;refine⟨rG t,dm (fun c0=>?_) fun c0=>?_⟩
 ·have hbad:aP t=false:=by simpa using c0
  apply et4<;>((rw[xR hbad]<;>rfl))
 ·have hok:aP t=true:=by simpa using c0
  have hT:=bI hok;have hn:=uW (n:=t.arity) ⟨hT.1,hT.2.1⟩;refine⟨aAK _,aJb t.arity (by omega),aAK _,⟨0,bL t.arity,([]:List aR),rfl,rfl,rfl,rfl,rfl,rfl,aAd _,rfl,rfl⟩,fun k l2 out ⟨hk,hl,ho⟩=>?_⟩;have hlen:l2.length=(bL t.arity).length - k:=by rw[hl,aMO]
  refine dd (fun c1=>?_) fun c1=>?_
  ·refine⟨rfl,(by rw[hl];exact aId (by omega)),fun x6 l6 t6=>?_⟩;have hdx:=hl.symm.trans t6;have hx:=aIf hdx;have hx3:=xS hx;refine⟨by omega,by simp,by omega,rfl,rfl,rfl,aL5 t x6 (by omega),rfl,rfl,rfl,rfl,by (simp[ho];omega),⟨by omega,by omega⟩,?_⟩;exact⟨k+1,_,_,rfl,rfl,rfl,rfl,rfl,rfl,⟨by omega,aIe hdx,by rw[ho,cC hx,aG0];rfl⟩,by omega⟩
  ·apply et4<;>(first|(rw[kW hok]<;>rfl)|(rw[kW hok,ho,aCv (by omega)]))
abbrev aAb (t:aJ):AV × List (Nat × Rs):=(.agg [.p none (.str ((bD t).name)),vI ((bD t).arity),vI ((bD t).rowCount),.own 0],[(0,.arr 138 3 true ((bD t).groups.map aM))])
abbrev aE1 (t:aJ):Prop:=Cn 54 [.agg [.str t.name,.int .i64 t.arity,.sl 34 1 (t.rows.map aE)]] (aAb t).1 (aAb t).2
theorem aN4 (t:aJ):aE1 t:=by
 refine cq Tryz.func54 (.call (vB (aP t)) []<| .br (.fin []) (.len t.rows.length<| bC (uV t.arity)<| .loop (Nat × (List (List Int)) × (List aR)) (Q3 Nat (List (List Int)) (List aR)) ([5,6,7]++rg 23 27) [300,2200,3500,3501,4700,4800,9000,50807] (fun yy0=>[(5,vI (yy0.1:Int))]) (fun yy0=>[(300,some (.box 91 [.p none (.str t.name),vI t.arity,vI (t.rows.length:Int),.own 9000])),(9000,some (.arr 138 3 true (yy0.2.2.map aM))),(2200,some (.arr 34 1 true (List.replicate yy0.1 [bB.gone]++yy0.2.1.map aE)))]) (fun yy0=>yy0.1<=(bL t.arity).length/\yy0.2.1=(bL t.arity).drop yy0.1/\yy0.2.2=((bL t.arity).take yy0.1).map (zP t)) (fun yy0=>(bL t.arity).length - yy0.1) (fun yy0=> .len (yy0.1+yy0.2.1.length)<| .br (.takeg 8 2200 yy0.1 50807 (List Int) aE yy0.2.1 (fun x8 l8=> .len (yy0.1+(l8.length+1))<| bC (xQ t x8)<| .len (yy0.1+(l8.length+1))<| .appx aR aM yy0.2.2 (⟨x8,(fQ t x8).1,(fQ t x8).2⟩:aR)<| .leave 7 2200 yy0.1 50807 (List Int) aE x8 l8 (.back [(300,300),(2200,2200),(9000,4800)]))) (.fin [(0,9000)])))) (p:=Lx (t.rows.map aE)<| kK t/\Nr (aP t) (ByteArray.empty=((bD t).name)/\0=((bD t).arity)/\0=((bD t).rowCount)/\[]=(bD t).groups.map aM/\True) (Lm aE t.rows/\(aBE t.arity/\((∃(k:Nat) (l2:List (List Int)) (out:List aR),0=(k:Int)/\t.name=t.name/\t.arity=t.arity/\(t.rows.length:Int)=(t.rows.length:Int)/\[]=out.map aM/\(bL t.arity).map aE=List.replicate k [bB.gone]++l2.map aE/\k<=(bL t.arity).length/\l2=(bL t.arity).drop k/\out=((bL t.arity).take k).map (zP t))/\ ∀(k:Nat) (l2:List (List Int)) (out:List aR),(k<=(bL t.arity).length/\l2=(bL t.arity).drop k/\out=((bL t.arity).take k).map (zP t))->(List.replicate k [bB.gone]++l2.map aE).length=k+l2.length/\Br ((k:Int)<((k+l2.length:Nat):Int)) (List.replicate k [bB.gone]++l2.map aE=List.replicate k [bB.gone]++l2.map aE/\l2≠[]/\ ∀x8 l8,l2=x8::l8->0<=(k:Int)/\(List.replicate k [bB.gone]++(x8::l8).map aE).length=k+(l8.length+1)/\(k:Int)<((k+(l8.length+1):Nat):Int)/\k=k/\aCf t x8/\0<=(k:Int)/\(List.replicate k [bB.gone]++(x8::l8).map aE).length=k+(l8.length+1)/\(k:Int)<((k+(l8.length+1):Nat):Int)/\k=k/\out.map aM=out.map aM/\x8.map intD=(⟨x8,(fQ t x8).1,(fQ t x8).2⟩:aR).columns.map intD/\(fQ t x8).1.map aE=(⟨x8,(fQ t x8).1,(fQ t x8).2⟩:aR).values.map aE/\(fQ t x8).2.map intD=(⟨x8,(fQ t x8).1,(fQ t x8).2⟩:aR).counts.map intD/\(out.length+1)*72<=140737488355328/\List.replicate k [bB.gone]++(x8::l8).map aE=List.replicate k [bB.gone]++(x8::l8).map aE/\k=k/\cW ((k:Int)+1)/\ ∃(k' :Nat) (l2' :List (List Int)) (out' :List aR),((k:Int)+1)=(k' :Int)/\t.name=t.name/\t.arity=t.arity/\(t.rows.length:Int)=(t.rows.length:Int)/\(out++[(⟨x8,(fQ t x8).1,(fQ t x8).2⟩:aR)]).map aM=out'.map aM/\List.replicate (k+1) [bB.gone]++l8.map aE=List.replicate k' [bB.gone]++l2'.map aE/\(k' <=(bL t.arity).length/\l2' =(bL t.arity).drop k' /\out' =((bL t.arity).take k').map (zP t))/\(bL t.arity).length - k' <(bL t.arity).length - k) (t.name=((bD t).name)/\t.arity=((bD t).arity)/\(t.rows.length:Int)=((bD t).rowCount)/\out.map aM=(bD t).groups.map aM/\True))))) (by kernel_rfl) ?_;refine lx fun n0=>?_;refine⟨rH t,dm (fun c0=>?_) fun c0=>?_⟩
 ·have hbad:aP t=false:=by simpa using c0
  apply et4<;>((rw[xR hbad]<;>rfl))
 ·have hok:aP t=true:=by simpa using c0
  have hT:=bI hok;have hn:=uW (n:=t.arity) ⟨hT.1,hT.2.1⟩;refine⟨aAK _,aJc t.arity (by omega),⟨0,bL t.arity,([]:List aR),rfl,rfl,rfl,rfl,rfl,rfl,aAd _,rfl,rfl⟩,fun k l2 out ⟨hk,hl,ho⟩=>?_⟩;have hlen:l2.length=(bL t.arity).length - k:=by rw[hl,aMO]
  refine⟨by simp,dd (fun c1=>?_) fun c1=>?_⟩
  ·refine⟨rfl,(by rw[hl];exact aId (by omega)),fun x8 l8 t8=>?_⟩;have hdx:=hl.symm.trans t8;have hx:=aIf hdx;have hx3:=xS hx;refine⟨by omega,by simp,by omega,rfl,aLb t x8 (by omega),by omega,by simp,by omega,rfl,rfl,rfl,rfl,rfl,by (simp[ho];omega),rfl,rfl,⟨by omega,by omega⟩,?_⟩;exact⟨k+1,_,_,rfl,rfl,rfl,rfl,rfl,rfl,⟨by omega,aIe hdx,by rw[ho,cC hx,aG0];rfl⟩,by omega⟩
  ·apply et4<;>(first|(rw[kW hok]<;>rfl)|(rw[kW hok,ho,aCv (by omega)]))
abbrev xT (x:aQ):AV × List (Nat × Rs):=(.agg [.p none (.str x.name),vI x.arity,vI x.rowCount,.own 0],[(0,.arr 138 3 true (x.groups.map aM))])
abbrev aCh (x:aQ):Prop:=Cn 138 [.agg [.str x.name,.int .i64 x.arity,.int .i64 x.rowCount,.sl 138 3 (x.groups.map aM)]] (xT x).1 (xT x).2
theorem aLc (x:aQ)(hc:dW x<=1048576):aCh x:=by
 refine cq Tryz.func138 (.len x.groups.length<| .loop (Nat × (List aR)) (Q2 Nat (List aR)) ([3,5,6]++rg 10 18) [500,600,1700,2000,2300,2500,2600] (fun yy0=>[(3,.own 600),(10,vI (yy0.1:Int))]) (fun yy0=>[(600,some (.arr 138 3 true (yy0.2.map aM)))]) (fun yy0=>yy0.1<=x.groups.length/\yy0.2=x.groups.take yy0.1) (fun yy0=>x.groups.length - yy0.1) (fun yy0=> .br (.elem _ aM x.groups (fun e12=>bC (aEU e12.columns)<| bC (aGX e12.values)<| bC (aEU e12.counts)<| .appx aR aM yy0.2 e12<| .back [(600,2600)])) (.fin [(0,600)]))) (p:=Lx (x.groups.map aM)<| Lm aM x.groups/\((∃(k:Nat) (out:List aR),0=(k:Int)/\[]=out.map aM/\k<=x.groups.length/\out=x.groups.take k)/\ ∀(k:Nat) (out:List aR),(k<=x.groups.length/\out=x.groups.take k)->Br ((k:Int)<(x.groups.length:Int)) (0<=(k:Int)/\Em aM x.groups k fun e12=>aGW e12.columns/\aIa e12.values/\aGW e12.counts/\out.map aM=out.map aM/\e12.columns.map intD=e12.columns.map intD/\e12.values.map aE=e12.values.map aE/\e12.counts.map intD=e12.counts.map intD/\(out.length+1)*72<=140737488355328/\cW ((k:Int)+1)/\ ∃(k' :Nat) (out' :List aR),((k:Int)+1)=(k' :Int)/\(out++[e12]).map aM=out'.map aM/\(k' <=x.groups.length/\out' =x.groups.take k')/\x.groups.length - k' <x.groups.length - k) (x.name=x.name/\x.arity=x.arity/\x.rowCount=x.rowCount/\out.map aM=x.groups.map aM/\True))) (by kernel_rfl) ?_;refine lx fun n0=>?_;have q2:dW x=x.name.size+jK x.groups:=rfl;have q5:=rC x.groups;refine⟨aAK _,⟨0,([]:List aR),rfl,rfl,aAd _,rfl⟩,fun k out ⟨hk,ho⟩=>?_⟩;refine dd (fun c0=>?_) fun c0=>?_
 ·refine⟨by omega,rfl,by omega,fun e12 h12=>?_⟩;have q1:=nL h12;have q3:iF e12=fL e12.columns+cM e12.values+fL e12.counts:=rfl;have q6:fL e12.columns=e12.columns.length:=rfl;have q7:fL e12.counts=e12.counts.length:=rfl;have q8:=eV e12.values;refine⟨cpI _ (by omega),cpR _ (by omega),cpI _ (by omega),rfl,rfl,rfl,rfl,by simp[ho];omega,⟨by omega,by omega⟩,?_⟩;exact⟨k+1,out++[e12],rfl,rfl,⟨by omega,by rw[ho,cC h12]⟩,by omega⟩
 ·refine⟨rfl,rfl,rfl,?_,trivial⟩
  ·rw[ho,aCv (by omega)]
theorem uX (a:List Int)(l:List (List Int)):cM (a::l)=cM l+1+a.length:=by
 simp only[cM,kF,fL,aGQ,List.sum_cons,aIl];omega
theorem aLd: ∀{l:List (List Int)},(∀i,i+1<l.length->bM (l.getD i []) (l.getD (i+1) [])<0)->Asc l
 | [],_=>List.Pairwise.nil
 | [a],_=>List.pairwise_singleton _ _
 | a::b::l,h=>by
   have ih:=aLd (l:=b::l) fun i hi=>by
    have:=h (i+1) (by simpa using hi);simpa using this
   have h0:bM a b<0:=by
    have:=h 0 (by simp);simpa using this
   refine List.pairwise_cons.2 ⟨fun y hy=>?_,ih⟩;rcases aHB.1 hy with rfl | q
   ·exact h0
   exact kL h0 ((List.pairwise_cons.1 ih).1 y q)
theorem aG9 {l:List (List Int)}(h:aA4 l=true):Asc l:=aLd fun i hi=>by
 have:=aDT.1 h i (aJy.2 (by omega));simpa [kA] using this
theorem mQ {t:aJ}(h:aP t=true):t.rows.all (fG t.arity)=true/\gU t.name=true/\aA4 t.rows=true:=by
 simp only[aP,aAO] at h;exact⟨h.1,h.2.1,h.2.2.2.2⟩
theorem aGa {l:List (List Int)}(h:Asc l):gP l=l:=by
 obtain⟨h1,h2,_⟩:=uQ l [] List.Pairwise.nil;exact aFP h1 h fun x=>by have:=h2 x;simpa [gP] using this
theorem mR {t:aJ}(h:aP t=true){r:List Int}(hr:r∈t.rows):(r.length:Int)=t.arity:=by
 have:=aDT.1 (mQ h).1 r hr;simp only[fG,aAO,aKQ] at this;exact this.2
theorem aN5 {α:Type}{p:α->Bool}{l:List α}{k:Nat}{x:α}(h:l[k]? =some x)(ha:(l.take k).all (fun y=> !p y)=true)(hx:p x=true):l.find? p=some x:=by
 rw[List.find?_eq_some_iff_getElem];obtain⟨hk,rfl⟩:=aCk.1 h;refine⟨hx,k,hk,rfl,fun j hj=>?_⟩;have:=aDT.1 ha l[j] (List.mem_iff_getElem.2 ⟨j,by simp;omega,by simp⟩);exact this
theorem aN6 {α:Type}{p:α->Bool}{l:List α}(ha:l.all (fun y=> !p y)=true):l.find? p=none:=by
 rw[List.find?_eq_none];intro x hx;have:=aDT.1 ha x hx;simpa using this
def eJ (l:List aJ)(i:Nat):Bool:=Op.bytesLess (l.getD i nK).name.toList (l.getD (i+1) nK).name.toList
def dT (d:aI):Bool:=d.tables.all aP&&((List.range (d.tables.length - 1)).all (eJ d.tables)&&decide ((d.tables.length:Int)<=6))
abbrev wE (t:aI):Prop:=Cn 49 [.agg [.sl 88 3 (t.tables.map aB)]] (vB (dT t)) []
theorem aFS (t:aI):wE t:=by
 refine cq Tryz.func49 (.len t.tables.length<| .loop Nat (Q1 Nat) ([3,4]++rg 8 25) [400] (fun k=>[(8,vI (k:Int))]) (fun k=>[]) (fun k=>k<=t.tables.length/\(t.tables.take k).all aP=true/\(List.range (k - 1)).all (eJ t.tables)=true) (fun k=>t.tables.length - k) (fun k=> .br (.elem _ aB t.tables (fun e11=> .call (vB (aP e11)) []<| .br (.fin []) (.lit<| .lit<| .br (.elem _ aB t.tables (fun e24=> .lit<| .lit<| .lit<| .lit<| .lit<| .lit<| .lit<| .lit<| .br (.fin []) (.back []))) (.back [])))) (.len t.tables.length<| .fin []))) (p:=Lx (t.tables.map aB)<| Lm aB t.tables/\((∃(k:Nat),0=(k:Int)/\k<=t.tables.length/\(t.tables.take k).all aP=true/\(List.range (k - 1)).all (eJ t.tables)=true)/\ ∀(k:Nat),(k<=t.tables.length/\(t.tables.take k).all aP=true/\(List.range (k - 1)).all (eJ t.tables)=true)->Br ((k:Int)<(t.tables.length:Int)) (0<=(k:Int)/\Em aB t.tables k fun e11=>kJ e11/\Nr (aP e11) ((false)=(dT t)/\True) (Br (0<(k:Int)) (cW ((k:Int) - 1)/\0<=((k:Int) - 1)/\Em aB t.tables (((k:Int) - 1).toNat) fun e24=>Nr (Op.bytesLess e24.name.toList e11.name.toList) ((false)=(dT t)/\True) (cW ((k:Int)+1)/\ ∃(k' :Nat),((k:Int)+1)=(k' :Int)/\(k' <=t.tables.length/\(t.tables.take k').all aP=true/\(List.range (k' - 1)).all (eJ t.tables)=true)/\t.tables.length - k' <t.tables.length - k)) (cW ((k:Int)+1)/\ ∃(k' :Nat),((k:Int)+1)=(k' :Int)/\(k' <=t.tables.length/\(t.tables.take k').all aP=true/\(List.range (k' - 1)).all (eJ t.tables)=true)/\t.tables.length - k' <t.tables.length - k))) (Lm aB t.tables/\(decide ((t.tables.length:Int)<=6))=(dT t)/\True))) (by kernel_rfl) ?_;refine lx fun n0=>?_;refine⟨aAK _,⟨0,rfl,aAd _,rfl,rfl⟩,fun k ⟨hk,ha,hs⟩=>?_⟩;refine dd (fun c0=>?_) fun c0=>?_
 ·refine⟨by omega,rfl,by omega,fun e11 h11=>?_⟩;refine⟨rG e11,dm (fun g16=>?_) fun g16=>?_⟩
  ·apply et1
   ·(rw[dT,iK h11 g16];rfl)
  ·refine dd (fun g19=>?_) fun g19=>?_
   ·refine⟨⟨by omega,by omega⟩,by omega,rfl,by omega,fun e24 h24=>?_⟩;have i1:t.tables[k - 1]? =some e24:=by rw[<-h24];congr 1;omega
    refine dm (fun c1=>?_) fun c1=>?_
    ·have hp:eJ t.tables (k - 1)=false:=by rw[eJ,bP i1,show k - 1+1=k by omega,bP h11];simpa using c1
     have hz:(List.range (t.tables.length - 1)).all (eJ t.tables)=false:=jD (by omega) hp;apply et1
     ·(rw[dT,hz];simp[*];done)
    ·have hp:eJ t.tables (k - 1)=true:=by rw[eJ,bP i1,show k - 1+1=k by omega,bP h11];simpa using c1
     have hs2:(List.range (k+1 - 1)).all (eJ t.tables)=true:=by rw[show k+1 - 1=(k - 1)+1 by omega];exact jC hs hp
     refine⟨⟨by omega,by omega⟩,?_⟩;exact⟨k+1,rfl,⟨by omega,dP h11 ha g16,hs2⟩,by omega⟩
   ·have hs2:(List.range (k+1 - 1)).all (eJ t.tables)=true:=by rw[show k=0 by omega];rfl
    refine⟨⟨by omega,by omega⟩,?_⟩;exact⟨k+1,rfl,⟨by omega,dP h11 ha g16,hs2⟩,by omega⟩
 ·have hall:=dQ (by omega) ha;have hz:(List.range (t.tables.length - 1)).all (eJ t.tables)=true:=by rw[show t.tables.length - 1=k - 1 by omega,hs]
  refine⟨aAK _,?_,trivial⟩
  ·(rw[dT,hz];simp[*];done)
abbrev oG (t:aI):Prop:=Cn 52 [.agg [.sl 88 3 (t.tables.map aB)]] (vB (dT t)) []
theorem zQ (t:aI):oG t:=by
 refine cq Tryz.func52 (.loop Nat (Q1 Nat) (rg 3 35) [] (fun k=>[(3,vI (k:Int))]) (fun k=>[]) (fun k=>k<=t.tables.length/\(t.tables.take k).all aP=true/\(List.range (k - 1)).all (eJ t.tables)=true) (fun k=>t.tables.length - k) (fun k=> .len t.tables.length<| .br (.elem _ aB t.tables (fun e14=> .call (vB (aP e14)) []<| .br (.fin []) (.lit<| .lit<| .br (.elem _ aB t.tables (fun e26=> .elem _ aB t.tables (fun e32=> .lit<| .lit<| .lit<| .lit<| .lit<| .lit<| .br (.fin []) (.back [])))) (.back [])))) (.len t.tables.length<| .fin []))) (p:=Lx (t.tables.map aB)<| (∃(k:Nat),0=(k:Int)/\k<=t.tables.length/\(t.tables.take k).all aP=true/\(List.range (k - 1)).all (eJ t.tables)=true)/\ ∀(k:Nat),(k<=t.tables.length/\(t.tables.take k).all aP=true/\(List.range (k - 1)).all (eJ t.tables)=true)->Lm aB t.tables/\Br ((k:Int)<(t.tables.length:Int)) (0<=(k:Int)/\Em aB t.tables k fun e14=>kK e14/\Nr (aP e14) ((false)=(dT t)/\True) (Br (0<(k:Int)) (cW ((k:Int) - 1)/\0<=((k:Int) - 1)/\Em aB t.tables (((k:Int) - 1).toNat) fun e26=>0<=(k:Int)/\Em aB t.tables k fun e32=>Nr (Op.bytesLess e26.name.toList e32.name.toList) ((false)=(dT t)/\True) (cW ((k:Int)+1)/\ ∃(k' :Nat),((k:Int)+1)=(k' :Int)/\(k' <=t.tables.length/\(t.tables.take k').all aP=true/\(List.range (k' - 1)).all (eJ t.tables)=true)/\t.tables.length - k' <t.tables.length - k)) (cW ((k:Int)+1)/\ ∃(k' :Nat),((k:Int)+1)=(k' :Int)/\(k' <=t.tables.length/\(t.tables.take k').all aP=true/\(List.range (k' - 1)).all (eJ t.tables)=true)/\t.tables.length - k' <t.tables.length - k))) (Lm aB t.tables/\(decide ((t.tables.length:Int)<=6))=(dT t)/\True)) (by kernel_rfl) ?_;refine lx fun n0=>?_;refine⟨⟨0,rfl,aAd _,rfl,rfl⟩,fun k ⟨hk,ha,hs⟩=>?_⟩;refine⟨aAK _,dd (fun c0=>?_) fun c0=>?_⟩
 ·refine⟨by omega,rfl,by omega,fun e14 h14=>?_⟩;refine⟨rH e14,dm (fun g18=>?_) fun g18=>?_⟩
  ·apply et1
   ·(rw[dT,iK h14 g18];rfl)
  ·refine dd (fun g21=>?_) fun g21=>?_
   ·refine⟨⟨by omega,by omega⟩,by omega,rfl,by omega,fun e26 h26=>?_⟩;have i1:t.tables[k - 1]? =some e26:=by rw[<-h26];congr 1;omega
    refine⟨by omega,rfl,by omega,fun e32 h32=>?_⟩;refine dm (fun c1=>?_) fun c1=>?_
    ·have hp:eJ t.tables (k - 1)=false:=by rw[eJ,bP i1,show k - 1+1=k by omega,bP h32];simpa using c1
     have hz:(List.range (t.tables.length - 1)).all (eJ t.tables)=false:=jD (by omega) hp;apply et1
     ·(rw[dT,hz];simp[*];done)
    ·have hp:eJ t.tables (k - 1)=true:=by rw[eJ,bP i1,show k - 1+1=k by omega,bP h32];simpa using c1
     have hs2:(List.range (k+1 - 1)).all (eJ t.tables)=true:=by rw[show k+1 - 1=(k - 1)+1 by omega];exact jC hs hp
     refine⟨⟨by omega,by omega⟩,?_⟩;exact⟨k+1,rfl,⟨by omega,dP h14 ha g18,hs2⟩,by omega⟩
   ·have hs2:(List.range (k+1 - 1)).all (eJ t.tables)=true:=by rw[show k=0 by omega];rfl
    refine⟨⟨by omega,by omega⟩,?_⟩;exact⟨k+1,rfl,⟨by omega,dP h14 ha g18,hs2⟩,by omega⟩
 ·have hall:=dQ (by omega) ha;have hz:(List.range (t.tables.length - 1)).all (eJ t.tables)=true:=by rw[show t.tables.length - 1=k - 1 by omega,hs]
  refine⟨aAK _,?_,trivial⟩
  ·(rw[dT,hz];simp[*];done)
def bO (d:aI)(v:Int):dI × Bool:=if (dT d&&gZ v 1 999)=true then (⟨v,d.tables.map bD⟩,true) else (xK,false)
theorem mG {d:aI}{v:Int}(h:(dT d&&gZ v 1 999)=true):bO d v=(⟨v,d.tables.map bD⟩,true):=by rw[bO,if_pos h]
theorem pB {d:aI}{v:Int}(h:(dT d&&gZ v 1 999)=false):bO d v=(xK,false):=by rw[bO,if_neg (by rw[h];decide)]
theorem uY {d:aI}(h:dT d=true):d.tables.length<=6:=by
 simp only[dT,aAO,aKQ] at h;omega
abbrev mH (d:aI)(v:Int):AV × List (Nat × Rs):=(.tup [.agg [vI ((bO d v).1.version),.own 0],vB ((bO d v).2)],[(0,.arr 91 4 true ((bO d v).1.tables.map aC))])
abbrev pC (d:aI)(v:Int):Prop:=Cn 17 [.agg [.sl 88 3 (d.tables.map aB)],.one (.int .i64 v)] (mH d v).1 (mH d v).2
theorem zR (d:aI)(v:Int):pC d v:=by
 refine cq Tryz.func17 (.call (vB (dT d)) []<| .br (.fin []) (.call (vB (gZ v (1:Int) (999:Int))) []<| .lit<| .lit<| .br (.fin []) (.len d.tables.length<| .loop (Nat × (List aQ)) (Q2 Nat (List aQ)) ([8]++rg 23 12) [600,800,3000,3100,3200,9000] (fun yy0=>[(23,vI (yy0.1:Int))]) (fun yy0=>[(600,some (.box 29 [vI v,.own 9000])),(9000,some (.arr 91 4 true (yy0.2.map aC)))]) (fun yy0=>yy0.1<=d.tables.length/\yy0.2=(d.tables.take yy0.1).map bD) (fun yy0=>d.tables.length - yy0.1) (fun yy0=> .br (.elem _ aB d.tables (fun e25=>bC (aAa e25)<| .appx aQ aC yy0.2 (bD e25)<| .back [(600,600),(9000,3200)])) (.fin [(0,9000)]))))) (p:=Lx (d.tables.map aB)<| wE d/\Nr (dT d) (0=((bO d v).1.version)/\(false)=((bO d v).2)/\[]=(bO d v).1.tables.map aC/\True) (iP v (1:Int) (999:Int)/\Nr (gZ v (1:Int) (999:Int)) (0=((bO d v).1.version)/\(false)=((bO d v).2)/\[]=(bO d v).1.tables.map aC/\True) (Lm aB d.tables/\((∃(k:Nat) (out:List aQ),0=(k:Int)/\v=v/\[]=out.map aC/\k<=d.tables.length/\out=(d.tables.take k).map bD)/\ ∀(k:Nat) (out:List aQ),(k<=d.tables.length/\out=(d.tables.take k).map bD)->Br ((k:Int)<(d.tables.length:Int)) (0<=(k:Int)/\Em aB d.tables k fun e25=>aE0 e25/\out.map aC=out.map aC/\((bD e25).name)=((bD e25).name)/\((bD e25).arity)=((bD e25).arity)/\((bD e25).rowCount)=((bD e25).rowCount)/\(bD e25).groups.map aM=(bD e25).groups.map aM/\(out.length+1)*56<=140737488355328/\cW ((k:Int)+1)/\ ∃(k' :Nat) (out' :List aQ),((k:Int)+1)=(k' :Int)/\v=v/\(out++[(bD e25)]).map aC=out'.map aC/\(k' <=d.tables.length/\out' =(d.tables.take k').map bD)/\d.tables.length - k' <d.tables.length - k) (v=((bO d v).1.version)/\(true)=((bO d v).2)/\out.map aC=(bO d v).1.tables.map aC/\True))))) (by kernel_rfl) ?_;refine lx fun n0=>?_;refine⟨aFS d,dm (fun g12=>?_) fun g12=>?_⟩
 ·have hbad:(dT d&&gZ v 1 999)=false:=by simp_all
  apply et3<;>((rw[pB hbad]<;>rfl))
 ·refine⟨nT _ _ _,dm (fun c0=>?_) fun c0=>?_⟩
  ·have hbad:(dT d&&gZ v 1 999)=false:=by simp_all
   apply et3<;>((rw[pB hbad]<;>rfl))
  ·have hok:(dT d&&gZ v 1 999)=true:=by simp_all
   have h6:=uY (by simp_all:dT d=true);refine⟨aAK _,⟨0,([]:List aQ),rfl,rfl,rfl,aAd _,rfl⟩,fun k out ⟨hk,ho⟩=>?_⟩;refine dd (fun c1=>?_) fun c1=>?_
   ·refine⟨by omega,rfl,by omega,fun e25 h25=>?_⟩;refine⟨aN3 e25,rfl,rfl,rfl,rfl,rfl,by (simp[ho];omega),⟨by omega,by omega⟩,?_⟩;exact⟨k+1,_,rfl,rfl,rfl,⟨by omega,by rw[ho,cC h25,aG0];rfl⟩,by omega⟩
   ·apply et3<;>(first|(rw[mG hok]<;>rfl)|(rw[mG hok,ho,aCv (by omega)]))
abbrev kM (d:aI)(v:Int):AV × List (Nat × Rs):=(.tup [.agg [vI ((bO d v).1.version),.own 0],vB ((bO d v).2)],[(0,.arr 91 4 true ((bO d v).1.tables.map aC))])
abbrev mI (d:aI)(v:Int):Prop:=Cn 18 [.agg [.sl 88 3 (d.tables.map aB)],.one (.int .i64 v)] (kM d v).1 (kM d v).2
theorem uZ (d:aI)(v:Int):mI d v:=by
 refine cq Tryz.func18 (.call (vB (dT d)) []<| .br (.fin []) (.call (vB (gZ v (1:Int) (999:Int))) []<| .lit<| .lit<| .br (.fin []) (.loop (Nat × (List aQ)) (Q2 Nat (List aQ)) ([7,8]++rg 20 19) [600,800,3200,3600,3700,9000] (fun yy0=>[(7,vI (yy0.1:Int))]) (fun yy0=>[(600,some (.box 29 [vI v,.own 9000])),(9000,some (.arr 91 4 true (yy0.2.map aC)))]) (fun yy0=>yy0.1<=d.tables.length/\yy0.2=(d.tables.take yy0.1).map bD) (fun yy0=>d.tables.length - yy0.1) (fun yy0=> .len d.tables.length<| .br (.elem _ aB d.tables (fun e30=>bC (aAb e30)<| .appx aQ aC yy0.2 (bD e30)<| .back [(600,600),(9000,3700)])) (.fin [(0,9000)]))))) (p:=Lx (d.tables.map aB)<| oG d/\Nr (dT d) (0=((bO d v).1.version)/\(false)=((bO d v).2)/\[]=(bO d v).1.tables.map aC/\True) (iQ v (1:Int) (999:Int)/\Nr (gZ v (1:Int) (999:Int)) (0=((bO d v).1.version)/\(false)=((bO d v).2)/\[]=(bO d v).1.tables.map aC/\True) ((∃(k:Nat) (out:List aQ),0=(k:Int)/\v=v/\[]=out.map aC/\k<=d.tables.length/\out=(d.tables.take k).map bD)/\ ∀(k:Nat) (out:List aQ),(k<=d.tables.length/\out=(d.tables.take k).map bD)->Lm aB d.tables/\Br ((k:Int)<(d.tables.length:Int)) (0<=(k:Int)/\Em aB d.tables k fun e30=>aE1 e30/\out.map aC=out.map aC/\((bD e30).name)=((bD e30).name)/\((bD e30).arity)=((bD e30).arity)/\((bD e30).rowCount)=((bD e30).rowCount)/\(bD e30).groups.map aM=(bD e30).groups.map aM/\(out.length+1)*56<=140737488355328/\cW ((k:Int)+1)/\ ∃(k' :Nat) (out' :List aQ),((k:Int)+1)=(k' :Int)/\v=v/\(out++[(bD e30)]).map aC=out'.map aC/\(k' <=d.tables.length/\out' =(d.tables.take k').map bD)/\d.tables.length - k' <d.tables.length - k) (v=((bO d v).1.version)/\(true)=((bO d v).2)/\out.map aC=(bO d v).1.tables.map aC/\True)))) (by kernel_rfl) ?_;refine lx fun n0=>?_;refine⟨zQ d,dm (fun g12=>?_) fun g12=>?_⟩
 ·have hbad:(dT d&&gZ v 1 999)=false:=by simp_all
  apply et3<;>((rw[pB hbad]<;>rfl))
 ·refine⟨nU _ _ _,dm (fun c0=>?_) fun c0=>?_⟩
  ·have hbad:(dT d&&gZ v 1 999)=false:=by simp_all
   apply et3<;>((rw[pB hbad]<;>rfl))
  ·have hok:(dT d&&gZ v 1 999)=true:=by simp_all
   have h6:=uY (by simp_all:dT d=true);refine⟨⟨0,([]:List aQ),rfl,rfl,rfl,aAd _,rfl⟩,fun k out ⟨hk,ho⟩=>?_⟩;refine⟨aAK _,dd (fun c1=>?_) fun c1=>?_⟩
   ·refine⟨by omega,rfl,by omega,fun e30 h30=>?_⟩;refine⟨aN4 e30,rfl,rfl,rfl,rfl,rfl,by (simp[ho];omega),⟨by omega,by omega⟩,?_⟩;exact⟨k+1,_,rfl,rfl,rfl,⟨by omega,by rw[ho,cC h30,aG0];rfl⟩,by omega⟩
   ·apply et3<;>(first|(rw[mG hok]<;>rfl)|(rw[mG hok,ho,aCv (by omega)]))
theorem pD {α:Type}{c:α->Nat}{m:Nat}{l:List α}(h: ∀x∈l,c x<=m):kF c l<=l.length+l.length*m:=by
 have h1:=xO (ct:=c) (m:=m) (l:=l) h;have h2:kF c l=l.length+aDX c l:=rfl;omega
theorem aJd (t:aJ)(cols:List Int):cM (fQ t cols).1<=64/\(fQ t cols).2.length<=8:=by
 cases h:(aP t&&cV (t.arity - 1) cols) with
 | false=>rw[aB7 h];exact⟨by decide,by decide⟩
 | true=>
   have:=aFR (k:=(jP t cols).length) h;rw[aKE,uR] at this;rw[uP h];exact⟨this.2,by simp only[aL0,aAK,aLZ];exact this.1⟩
theorem sJ {t:aJ}(h:aP t=true):t.name.size=1:=by
 simp only[aP,gU,aAO,aKQ] at h;omega
theorem aGb (t:aJ):dW (bD t)<=2000:=by
 cases h:aP t with
 | false=>rw[xR h];decide
 | true=>
   have hT:=bI h;have hn:=sJ h;have hl:=uW (n:=t.arity) ⟨hT.1,hT.2.1⟩;rw[kW h]
   have h1:=pD (c:=iF) (m:=75) (l:=(bL t.arity).map (zP t)) fun x hx=>by
    obtain⟨c,hc,rfl⟩:=aID.1 hx;obtain⟨k,hk,hc⟩:=List.mem_iff_getElem.1 hc;have h3:=xS (aCk.2 ⟨hk,hc⟩);have h4:=aJd t c;have h5:iF (zP t c)=c.length+cM (fQ t c).1+(fQ t c).2.length:=rfl;omega
   rw[aAK] at h1;have h2:dW ⟨t.name,t.arity,(t.rows.length:Nat),(bL t.arity).map (zP t)⟩=t.name.size+kF iF ((bL t.arity).map (zP t)):=rfl;omega
theorem oH (d:aI)(v:Int):cI (bO d v).1<=20000:=by
 cases h:(dT d&&gZ v 1 999) with
 | false=>rw[pB h];decide
 | true=>
   have h6:=uY (by simp_all:dT d=true);rw[mG h]
   have h1:=pD (c:=dW) (m:=2000) (l:=d.tables.map bD) fun x hx=>by
    obtain⟨t,_,rfl⟩:=aID.1 hx;exact aGb t
   rw[aAK] at h1;have h2:cI ⟨v,d.tables.map bD⟩=kF dW (d.tables.map bD):=rfl;show cI ⟨v,d.tables.map bD⟩<=20000;omega
end Go.Proofs.YtafmaholhcgakaaGreat
