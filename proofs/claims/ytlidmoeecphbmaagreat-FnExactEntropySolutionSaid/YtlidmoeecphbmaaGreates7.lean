/-
  Contracts and plain laws, joined: part 8.
-/
import Derived.Test.YtlidmoeecphbmaaGreates6
import Derived.Test.YtlidmoeecphbmaaGreates5
import Derived.Test.YtlidmoeecphbmaaGreates3
import Derived.Test.YtlidmoeecphbmaaGreates4
namespace Go.Proofs.YtlidmoeecphbmaaGreat
open Go.ChangeShapes Go.WideShapes Go.ChangeAt Go.RowKit
set_option linter.unusedVariables false
set_option linter.unusedSimpArgs false
set_option maxRecDepth 100000
set_option maxHeartbeats 4000000
def gG (s:Int)(v:Nat):Bool:=decide (cL .and .i64 (s/2^v) 1=1)
def mT (s:Int)(k:Nat):List Int:=((List.range k).filter (gG s)).map fun v:Nat=>(v:Int)
def fK (s:Int):List Int:=mT s 3
theorem aFJ {s:Int}{k:Nat}(h:cL .and .i64 (s/2^k) 1=1):mT s (k+1)=mT s k++[(k:Int)]:=by
 rw[mT,List.range_succ,List.filter_append,aMQ];simp[mT,gG,h]
theorem aIT {s:Int}{k:Nat}(h: ¬cL .and .i64 (s/2^k) 1=1):mT s (k+1)=mT s k:=by
 rw[mT,List.range_succ,List.filter_append,aMQ];simp[mT,gG,h]
theorem aTG {s:Int}{k:Nat}(hs:0<=s/\s<=7)(hk:k<=3)(h:s/2^k=0):mT s k=fK s:=by
 have h1:s=0\/s=1\/s=2\/s=3\/s=4\/s=5\/s=6\/s=7:=by omega
 have h2:k=0\/k=1\/k=2\/k=3:=by omega
 rcases h2 with rfl|rfl|rfl|rfl<;>rcases h1 with rfl|rfl|rfl|rfl|rfl|rfl|rfl|rfl<;>first|rfl|(revert h;decide)
theorem aY2 {s:Int}{k:Nat}(hs:0<=s/\s<=7)(hk:k<=3)(h: ¬s/2^k=0):k<3:=by
 by_cases q:k=3
 ·subst q;omega
 omega
theorem wR (s:Int)(k:Nat):(mT s k).length<=k:=by
 rw[mT,aAH];have:=(List.filter_sublist (l:=List.range k) (p:=gG s)).length_le;rw[List.length_range] at this;exact this
theorem tA {n:Int}(h:1<=n/\n<=3):2<=(2:Int)^n.toNat/\(2:Int)^n.toNat<=8:=by
 have:n=1\/n=2\/n=3:=by omega
 rcases this with rfl | rfl | rfl<;>decide
def tY (k:Nat):List (List Int):=(List.range k).map fun i=>fK ((i+1:Nat):Int)
def bY (n:Int):List (List Int):=tY ((2:Int)^n.toNat - 1).toNat
theorem aIU (k:Nat):tY (k+1)=tY k++[fK ((k+1:Nat):Int)]:=by rw[tY,List.range_succ,aMQ];rfl
abbrev vJ (s:Int):AV × List (Nat × Rs):=(.own 0,[(0,.arr 3 1 true ((fK s).map intD))])
abbrev aAl (s:Int):Prop:=Cn 206 [.one (.int .i64 s)] (vJ s).1 (vJ s).2
theorem aLk (s:Int)(hs:0<=s/\s<=7):aAl s:=by
 refine cq Tryz.func206 (.loop (Nat × (List Int)) (Q2 Nat (List Int)) (rg 3 18) [500,1900,2000] (fun yy0=>[(4,vI (yy0.1:Int)),(3,.own 500)]) (fun yy0=>[(500,some (.arr 3 1 true (yy0.2.map intD)))]) (fun yy0=>yy0.1<=3/\yy0.2=mT s yy0.1) (fun yy0=>3 - yy0.1) (fun yy0=> .br (.br (.app Int intD yy0.2 ([(yy0.1:Int)]:List Int)<| .back [(500,2000)]) (.back [(500,500)])) (.fin [(0,500)]))) (p:=(∃(k:Nat) (out:List Int),0=(k:Int)/\[]=out.map intD/\k<=3/\out=mT s k)/\ ∀(k:Nat) (out:List Int),(k<=3/\out=mT s k)->(0<=(k:Int)/\(k:Int)<=64)/\Nb ((s/2^k)=0) ((0<=(k:Int)/\(k:Int)<=64)/\Br ((cL .and .i64 (s/2^k) (1:Int))=1) (Ap intD out ([(k:Int)]:List Int) 8 (bK ((k:Int)+1)/\ ∃(k' :Nat) (out' :List Int),((k:Int)+1)=(k' :Int)/\(out++[(k:Int)]).map intD=out'.map intD/\(k' <=3/\out' =mT s k')/\3 - k' <3 - k)) (bK ((k:Int)+1)/\ ∃(k' :Nat) (out' :List Int),((k:Int)+1)=(k' :Int)/\out.map intD=out'.map intD/\(k' <=3/\out' =mT s k')/\3 - k' <3 - k)) (out.map intD=(fK s).map intD/\True)) (by kernel_rfl) ?_;refine⟨⟨0,([]:List Int),rfl,rfl,by omega,rfl⟩,fun k out ⟨hk,ho⟩=>?_⟩;refine⟨⟨by omega,by omega⟩,dn (fun c0=>?_) fun c0=>?_⟩
 ·have hk3:=aY2 hs hk c0;have hln:=wR s k;refine⟨⟨by omega,by omega⟩,dd (fun c1=>?_) fun c1=>?_⟩
  ·refine ap ?_ (fun _=>rfl) (by (simp[ho];omega));refine⟨⟨by omega,by omega⟩,?_⟩;exact⟨k+1,_,rfl,rfl,⟨by omega,by (rw[ho,aFJ c1];done)⟩,by omega⟩
  ·refine⟨⟨by omega,by omega⟩,?_⟩;exact⟨k+1,_,rfl,rfl,⟨by omega,by (rw[ho,aIT c1];done)⟩,by omega⟩
 ·apply et1
  ·(rw[ho];exact congrArg _ (aTG hs hk c0))
abbrev vK (s:Int):AV × List (Nat × Rs):=(.own 0,[(0,.arr 3 1 true ((fK s).map intD))])
abbrev aAm (s:Int):Prop:=Cn 200 [.one (.int .i64 s)] (vK s).1 (vK s).2
theorem aLl (s:Int)(hs:0<=s/\s<=7):aAm s:=by
 refine cq Tryz.func200 (.loop (Nat × (List Int)) (Q2 Nat (List Int)) (rg 3 16) [500,1700,1800] (fun yy0=>[(4,vI (yy0.1:Int)),(3,.own 500)]) (fun yy0=>[(500,some (.arr 3 1 true (yy0.2.map intD)))]) (fun yy0=>yy0.1<=3/\yy0.2=mT s yy0.1) (fun yy0=>3 - yy0.1) (fun yy0=> .br (.br (.app Int intD yy0.2 ([(yy0.1:Int)]:List Int)<| .back [(500,1800)]) (.back [(500,500)])) (.fin [(0,500)]))) (p:=(∃(k:Nat) (out:List Int),0=(k:Int)/\[]=out.map intD/\k<=3/\out=mT s k)/\ ∀(k:Nat) (out:List Int),(k<=3/\out=mT s k)->Br ((k:Int)<3) ((0<=(k:Int)/\(k:Int)<=64)/\Br ((cL .and .i64 (s/2^k) (1:Int))=1) (Ap intD out ([(k:Int)]:List Int) 8 (bK ((k:Int)+1)/\ ∃(k' :Nat) (out' :List Int),((k:Int)+1)=(k' :Int)/\(out++[(k:Int)]).map intD=out'.map intD/\(k' <=3/\out' =mT s k')/\3 - k' <3 - k)) (bK ((k:Int)+1)/\ ∃(k' :Nat) (out' :List Int),((k:Int)+1)=(k' :Int)/\out.map intD=out'.map intD/\(k' <=3/\out' =mT s k')/\3 - k' <3 - k)) (out.map intD=(fK s).map intD/\True)) (by kernel_rfl) ?_;refine⟨⟨0,([]:List Int),rfl,rfl,by omega,rfl⟩,fun k out ⟨hk,ho⟩=>?_⟩;refine dd (fun c0=>?_) fun c0=>?_
 ·skip
  have hln:=wR s k;refine⟨⟨by omega,by omega⟩,dd (fun c1=>?_) fun c1=>?_⟩
  ·refine ap ?_ (fun _=>rfl) (by (simp[ho];omega));refine⟨⟨by omega,by omega⟩,?_⟩;exact⟨k+1,_,rfl,rfl,⟨by omega,by (rw[ho,aFJ c1];done)⟩,by omega⟩
  ·refine⟨⟨by omega,by omega⟩,?_⟩;exact⟨k+1,_,rfl,rfl,⟨by omega,by (rw[ho,aIT c1];done)⟩,by omega⟩
 ·apply et1
  ·(rw[ho];exact congrArg _ (by rw[fK,show 3=k by omega]))
abbrev aAn (n:Int):AV × List (Nat × Rs):=(.own 0,[(0,.arr 91 1 true ((bY n).map aE))])
abbrev aFk (n:Int):Prop:=Cn 227 [.one (.int .i64 n)] (aAn n).1 (aAn n).2
theorem aTH (n:Int)(hn:1<=n/\n<=3):aFk n:=by
 refine cq Tryz.func227 (.call (vB (eQ n (1:Int) (3:Int))) []<| .br (.fin []) (.loop (Nat × (List (List Int))) (Q2 Nat (List (List Int))) ([3,4]++rg 8 12) [800,1700,1800,1900] (fun yy0=>[(4,vI ((yy0.1+1:Nat):Int)),(3,.own 800)]) (fun yy0=>[(800,some (.arr 91 1 true (yy0.2.map aE)))]) (fun yy0=>yy0.1<=((2:Int)^n.toNat - 1).toNat/\yy0.2=tY yy0.1) (fun yy0=>((2:Int)^n.toNat - 1).toNat - yy0.1) (fun yy0=> .br (bJ (vJ ((yy0.1+1:Nat):Int))<| .appx (List Int) aE yy0.2 (fK ((yy0.1+1:Nat):Int))<| .back [(800,1900)]) (.fin [(0,800)])))) (p:=fH n (1:Int) (3:Int)/\Nr (eQ n (1:Int) (3:Int)) ([]=(bY n).map aE/\True) ((∃(k:Nat) (out:List (List Int)),1=((k+1:Nat):Int)/\[]=out.map aE/\k<=((2:Int)^n.toNat - 1).toNat/\out=tY k)/\ ∀(k:Nat) (out:List (List Int)),(k<=((2:Int)^n.toNat - 1).toNat/\out=tY k)->(0<=n/\n<=64)/\bK ((1:Int)*2^(Int.toNat n))/\Br (((k+1:Nat):Int)<((1:Int)*2^(Int.toNat n))) (aAl ((k+1:Nat):Int)/\out.map aE=out.map aE/\(fK ((k+1:Nat):Int)).map intD=(fK ((k+1:Nat):Int)).map intD/\(out.length+1)*24<=140737488355328/\bK (((k+1:Nat):Int)+1)/\ ∃(k' :Nat) (out' :List (List Int)),(((k+1:Nat):Int)+1)=((k' +1:Nat):Int)/\(out++[fK ((k+1:Nat):Int)]).map aE=out'.map aE/\(k' <=((2:Int)^n.toNat - 1).toNat/\out' =tY k')/\((2:Int)^n.toNat - 1).toNat - k' <((2:Int)^n.toNat - 1).toNat - k) (out.map aE=(bY n).map aE/\True))) (by kernel_rfl) ?_;have hb:=tA hn;have hin:eQ n 1 3=true:=sE hn.1 hn.2;refine⟨jT _ _ _,dm (fun c0=>?_) fun c0=>?_⟩
 ·apply et1
  ·(exfalso;simp[hin] at c0;done)
 ·refine⟨⟨0,([]:List (List Int)),rfl,rfl,aDB _,rfl⟩,fun k out ⟨hk,ho⟩=>?_⟩;refine⟨⟨by omega,by omega⟩,⟨by omega,by omega⟩,dd (fun c1=>?_) fun c1=>?_⟩
  ·refine⟨aLk ((k+1:Nat):Int) (by omega),rfl,rfl,by (simp[ho,tY];omega),⟨by omega,by omega⟩,?_⟩;exact⟨(k+1),_,rfl,rfl,⟨by omega,by rw[ho,aIU]⟩,by omega⟩
  ·apply et1
   ·(rw[ho,bY];congr 2;omega)
abbrev aAo (n:Int):AV × List (Nat × Rs):=(.own 0,[(0,.arr 91 1 true ((bY n).map aE))])
abbrev aFl (n:Int):Prop:=Cn 219 [.one (.int .i64 n)] (aAo n).1 (aAo n).2
theorem aTI (n:Int)(hn:1<=n/\n<=3):aFl n:=by
 refine cq Tryz.func219 (.loop (Nat × (List (List Int))) (Q2 Nat (List (List Int))) (rg 3 18) [500,1800,1900,2000] (fun yy0=>[(4,vI ((yy0.1+1:Nat):Int)),(3,.own 500)]) (fun yy0=>[(500,some (.arr 91 1 true (yy0.2.map aE)))]) (fun yy0=>yy0.1<=((2:Int)^n.toNat - 1).toNat/\yy0.2=tY yy0.1) (fun yy0=>((2:Int)^n.toNat - 1).toNat - yy0.1) (fun yy0=> .call (vB (eQ n (1:Int) (3:Int))) []<| .br (.lit<| .lit<| .lit<| .lit<| .br (bJ (vK ((yy0.1+1:Nat):Int))<| .appx (List Int) aE yy0.2 (fK ((yy0.1+1:Nat):Int))<| .back [(500,2000)]) (.fin [(0,500)])) (.fin [(0,500)]))) (p:=(∃(k:Nat) (out:List (List Int)),1=((k+1:Nat):Int)/\[]=out.map aE/\k<=((2:Int)^n.toNat - 1).toNat/\out=tY k)/\ ∀(k:Nat) (out:List (List Int)),(k<=((2:Int)^n.toNat - 1).toNat/\out=tY k)->fI n (1:Int) (3:Int)/\Bb (eQ n (1:Int) (3:Int)) ((0<=n/\n<=64)/\bK ((1:Int)*2^(Int.toNat n))/\Br (((k+1:Nat):Int)<((1:Int)*2^(Int.toNat n))) (aAm ((k+1:Nat):Int)/\out.map aE=out.map aE/\(fK ((k+1:Nat):Int)).map intD=(fK ((k+1:Nat):Int)).map intD/\(out.length+1)*24<=140737488355328/\bK (((k+1:Nat):Int)+1)/\ ∃(k' :Nat) (out' :List (List Int)),(((k+1:Nat):Int)+1)=((k' +1:Nat):Int)/\(out++[fK ((k+1:Nat):Int)]).map aE=out'.map aE/\(k' <=((2:Int)^n.toNat - 1).toNat/\out' =tY k')/\((2:Int)^n.toNat - 1).toNat - k' <((2:Int)^n.toNat - 1).toNat - k) (out.map aE=(bY n).map aE/\True)) (out.map aE=(bY n).map aE/\True)) (by kernel_rfl) ?_;have hb:=tA hn;have hin:eQ n 1 3=true:=sE hn.1 hn.2;refine⟨⟨0,([]:List (List Int)),rfl,rfl,aDB _,rfl⟩,fun k out ⟨hk,ho⟩=>?_⟩;refine⟨jU _ _ _,db (fun g8=>?_) fun g8=>?_⟩
 ·refine⟨⟨by omega,by omega⟩,⟨by omega,by omega⟩,dd (fun c0=>?_) fun c0=>?_⟩
  ·refine⟨aLl ((k+1:Nat):Int) (by omega),rfl,rfl,by (simp[ho,tY];omega),⟨by omega,by omega⟩,?_⟩;exact⟨(k+1),_,rfl,rfl,⟨by omega,by rw[ho,aIU]⟩,by omega⟩
  ·apply et1
   ·(rw[ho,bY];congr 2;omega)
 ·apply et1
  ·(exfalso;simp[hin] at*;done)
def wS (t:aV)(cols:List Int):aI:=⟨cols,(eK t cols).1,(eK t cols).2⟩
def bI (t:aV):aD:=if aZ t=true then ⟨t.name,t.arity,(t.rows.length:Nat),(bY t.arity).map (wS t)⟩ else dV
theorem lM {t:aV}(h:aZ t=true):bI t=⟨t.name,t.arity,(t.rows.length:Nat),(bY t.arity).map (wS t)⟩:=by rw[bI,if_pos h]
theorem aCp {t:aV}(h:aZ t=false):bI t=dV:=by rw[bI,if_neg (by rw[h];decide)]
theorem aRz {α:Type}{l:List α}{k:Nat}(h:k<l.length):l.drop k≠[]:=fun e=>by
 have:=congrArg List.length e;simp at this;omega
theorem aSA {α:Type}{l l2:List α}{k:Nat}{x:α}(h:l.drop k=x::l2):l2=l.drop (k+1):=by rw[<-List.tail_drop,h];rfl
theorem aSB {α:Type}{l l2:List α}{k:Nat}{x:α}(h:l.drop k=x::l2):l[k]? =some x:=by
 have:=congrArg List.head? h;simpa [List.head?_drop] using this
theorem aCq {n:Int}{k:Nat}{x:List Int}(h:(bY n)[k]? =some x):x.length<=3:=by
 obtain⟨i,_,rfl⟩:=aQO.1 (aDd h);exact wR _ 3
theorem aAp {n:Int}(h:1<=n/\n<=3):(bY n).length<=7:=by
 have:=tA h;simp only[bY,tY,aAH,List.length_range];omega
abbrev aBv (t:aV):AV × List (Nat × Rs):=(.agg [.p none (.str ((bI t).name)),vI ((bI t).arity),vI ((bI t).rowCount),.own 0],[(0,.arr 220 3 true ((bI t).groups.map aC))])
abbrev aFK (t:aV):Prop:=Cn 186 [.agg [.str t.name,.int .i64 t.arity,.sl 91 1 (t.rows.map aE)]] (aBv t).1 (aBv t).2
theorem aNK (t:aV):aFK t:=by
 refine cq Tryz.func186 (.call (vB (aZ t)) []<| .br (.fin []) (.len t.rows.length<| bJ (aAn t.arity)<| .len ((bY t.arity).length)<| .loop (Nat × (List (List Int)) × (List aI)) (Q3 Nat (List (List Int)) (List aI)) ([5,6,7]++rg 24 20) [300,2200,3100,3101,4000,4100,9000,50607] (fun yy0=>[(24,vI (yy0.1:Int))]) (fun yy0=>[(300,some (.box 88 [.p none (.str t.name),vI t.arity,vI (t.rows.length:Int),.own 9000])),(9000,some (.arr 220 3 true (yy0.2.2.map aC))),(2200,some (.arr 91 1 true (List.replicate yy0.1 [bR.gone]++yy0.2.1.map aE)))]) (fun yy0=>yy0.1<=(bY t.arity).length/\yy0.2.1=(bY t.arity).drop yy0.1/\yy0.2.2=((bY t.arity).take yy0.1).map (wS t)) (fun yy0=>(bY t.arity).length - yy0.1) (fun yy0=> .br (.takeg 6 2200 yy0.1 50607 (List Int) aE yy0.2.1 (fun x6 l6=> .len (yy0.1+(l6.length+1))<| .leave 7 2200 yy0.1 50607 (List Int) aE x6 l6 (bJ (yE t x6)<| .appx aI aC yy0.2.2 (⟨x6,(eK t x6).1,(eK t x6).2⟩:aI)<| .back [(300,300),(2200,2200),(9000,4100)]))) (.fin [(0,9000)])))) (p:=Lx (t.rows.map aE)<| tT t/\Nr (aZ t) (ByteArray.empty=((bI t).name)/\0=((bI t).arity)/\0=((bI t).rowCount)/\[]=(bI t).groups.map aC/\True) (Lm aE t.rows/\(aFk t.arity/\(Lm aE (bY t.arity)/\((∃(k:Nat) (l2:List (List Int)) (out:List aI),0=(k:Int)/\t.name=t.name/\t.arity=t.arity/\(t.rows.length:Int)=(t.rows.length:Int)/\[]=out.map aC/\(bY t.arity).map aE=List.replicate k [bR.gone]++l2.map aE/\k<=(bY t.arity).length/\l2=(bY t.arity).drop k/\out=((bY t.arity).take k).map (wS t))/\ ∀(k:Nat) (l2:List (List Int)) (out:List aI),(k<=(bY t.arity).length/\l2=(bY t.arity).drop k/\out=((bY t.arity).take k).map (wS t))->Br ((k:Int)<(((bY t.arity).length:Nat):Int)) (List.replicate k [bR.gone]++l2.map aE=List.replicate k [bR.gone]++l2.map aE/\l2≠[]/\ ∀x6 l6,l2=x6::l6->0<=(k:Int)/\(List.replicate k [bR.gone]++(x6::l6).map aE).length=k+(l6.length+1)/\(k:Int)<((k+(l6.length+1):Nat):Int)/\k=k/\List.replicate k [bR.gone]++(x6::l6).map aE=List.replicate k [bR.gone]++(x6::l6).map aE/\k=k/\aCm t x6/\out.map aC=out.map aC/\x6.map intD=(⟨x6,(eK t x6).1,(eK t x6).2⟩:aI).columns.map intD/\(eK t x6).1.map aE=(⟨x6,(eK t x6).1,(eK t x6).2⟩:aI).values.map aE/\(eK t x6).2.map intD=(⟨x6,(eK t x6).1,(eK t x6).2⟩:aI).counts.map intD/\(out.length+1)*72<=140737488355328/\bK ((k:Int)+1)/\ ∃(k' :Nat) (l2' :List (List Int)) (out' :List aI),((k:Int)+1)=(k' :Int)/\t.name=t.name/\t.arity=t.arity/\(t.rows.length:Int)=(t.rows.length:Int)/\(out++[(⟨x6,(eK t x6).1,(eK t x6).2⟩:aI)]).map aC=out'.map aC/\List.replicate (k+1) [bR.gone]++l6.map aE=List.replicate k' [bR.gone]++l2'.map aE/\(k' <=(bY t.arity).length/\l2' =(bY t.arity).drop k' /\out' =((bY t.arity).take k').map (wS t))/\(bY t.arity).length - k' <(bY t.arity).length - k) (t.name=((bI t).name)/\t.arity=((bI t).arity)/\(t.rows.length:Int)=((bI t).rowCount)/\out.map aC=(bI t).groups.map aC/\True)))))) (by kernel_rfl) ?_;refine lx fun n0=>?_;refine⟨aAg t,dm (fun c0=>?_) fun c0=>?_⟩
 ·have hbad:aZ t=false:=by simpa using c0
  apply et4<;>((rw[aCp hbad]<;>rfl))
 ·have hok:aZ t=true:=by simpa using c0
  have hT:=cH hok;have hn:=aAp (n:=t.arity) ⟨hT.1,hT.2.1⟩;refine⟨aAH _,aTH t.arity (by omega),aAH _,⟨0,bY t.arity,([]:List aI),rfl,rfl,rfl,rfl,rfl,rfl,aDB _,rfl,rfl⟩,fun k l2 out ⟨hk,hl,ho⟩=>?_⟩;have hlen:l2.length=(bY t.arity).length - k:=by rw[hl,aXh]
  refine dd (fun c1=>?_) fun c1=>?_
  ·refine⟨rfl,(by rw[hl];exact aRz (by omega)),fun x6 l6 t6=>?_⟩;have hdx:=hl.symm.trans t6;have hx:=aSB hdx;have hx3:=aCq hx;refine⟨by omega,by simp,by omega,rfl,rfl,rfl,aOj t x6 (by omega),rfl,rfl,rfl,rfl,by (simp[ho];omega),⟨by omega,by omega⟩,?_⟩;exact⟨k+1,_,_,rfl,rfl,rfl,rfl,rfl,rfl,⟨by omega,aSA hdx,by rw[ho,bT hx,aMQ];rfl⟩,by omega⟩
  ·apply et4<;>(first|(rw[lM hok]<;>rfl)|(rw[lM hok,ho,aGT (by omega)]))
abbrev aBw (t:aV):AV × List (Nat × Rs):=(.agg [.p none (.str ((bI t).name)),vI ((bI t).arity),vI ((bI t).rowCount),.own 0],[(0,.arr 220 3 true ((bI t).groups.map aC))])
abbrev aFL (t:aV):Prop:=Cn 178 [.agg [.str t.name,.int .i64 t.arity,.sl 91 1 (t.rows.map aE)]] (aBw t).1 (aBw t).2
theorem aSC (t:aV):aFL t:=by
 refine cq Tryz.func178 (.call (vB (aZ t)) []<| .br (.fin []) (.len t.rows.length<| bJ (aAo t.arity)<| .loop (Nat × (List (List Int)) × (List aI)) (Q3 Nat (List (List Int)) (List aI)) ([5,6,7]++rg 23 27) [300,2200,3500,3501,4700,4800,9000,50807] (fun yy0=>[(5,vI (yy0.1:Int))]) (fun yy0=>[(300,some (.box 88 [.p none (.str t.name),vI t.arity,vI (t.rows.length:Int),.own 9000])),(9000,some (.arr 220 3 true (yy0.2.2.map aC))),(2200,some (.arr 91 1 true (List.replicate yy0.1 [bR.gone]++yy0.2.1.map aE)))]) (fun yy0=>yy0.1<=(bY t.arity).length/\yy0.2.1=(bY t.arity).drop yy0.1/\yy0.2.2=((bY t.arity).take yy0.1).map (wS t)) (fun yy0=>(bY t.arity).length - yy0.1) (fun yy0=> .len (yy0.1+yy0.2.1.length)<| .br (.takeg 8 2200 yy0.1 50807 (List Int) aE yy0.2.1 (fun x8 l8=> .len (yy0.1+(l8.length+1))<| bJ (aCo t x8)<| .len (yy0.1+(l8.length+1))<| .appx aI aC yy0.2.2 (⟨x8,(eK t x8).1,(eK t x8).2⟩:aI)<| .leave 7 2200 yy0.1 50807 (List Int) aE x8 l8 (.back [(300,300),(2200,2200),(9000,4800)]))) (.fin [(0,9000)])))) (p:=Lx (t.rows.map aE)<| qG t/\Nr (aZ t) (ByteArray.empty=((bI t).name)/\0=((bI t).arity)/\0=((bI t).rowCount)/\[]=(bI t).groups.map aC/\True) (Lm aE t.rows/\(aFl t.arity/\((∃(k:Nat) (l2:List (List Int)) (out:List aI),0=(k:Int)/\t.name=t.name/\t.arity=t.arity/\(t.rows.length:Int)=(t.rows.length:Int)/\[]=out.map aC/\(bY t.arity).map aE=List.replicate k [bR.gone]++l2.map aE/\k<=(bY t.arity).length/\l2=(bY t.arity).drop k/\out=((bY t.arity).take k).map (wS t))/\ ∀(k:Nat) (l2:List (List Int)) (out:List aI),(k<=(bY t.arity).length/\l2=(bY t.arity).drop k/\out=((bY t.arity).take k).map (wS t))->(List.replicate k [bR.gone]++l2.map aE).length=k+l2.length/\Br ((k:Int)<((k+l2.length:Nat):Int)) (List.replicate k [bR.gone]++l2.map aE=List.replicate k [bR.gone]++l2.map aE/\l2≠[]/\ ∀x8 l8,l2=x8::l8->0<=(k:Int)/\(List.replicate k [bR.gone]++(x8::l8).map aE).length=k+(l8.length+1)/\(k:Int)<((k+(l8.length+1):Nat):Int)/\k=k/\aIS t x8/\0<=(k:Int)/\(List.replicate k [bR.gone]++(x8::l8).map aE).length=k+(l8.length+1)/\(k:Int)<((k+(l8.length+1):Nat):Int)/\k=k/\out.map aC=out.map aC/\x8.map intD=(⟨x8,(eK t x8).1,(eK t x8).2⟩:aI).columns.map intD/\(eK t x8).1.map aE=(⟨x8,(eK t x8).1,(eK t x8).2⟩:aI).values.map aE/\(eK t x8).2.map intD=(⟨x8,(eK t x8).1,(eK t x8).2⟩:aI).counts.map intD/\(out.length+1)*72<=140737488355328/\List.replicate k [bR.gone]++(x8::l8).map aE=List.replicate k [bR.gone]++(x8::l8).map aE/\k=k/\bK ((k:Int)+1)/\ ∃(k' :Nat) (l2' :List (List Int)) (out' :List aI),((k:Int)+1)=(k' :Int)/\t.name=t.name/\t.arity=t.arity/\(t.rows.length:Int)=(t.rows.length:Int)/\(out++[(⟨x8,(eK t x8).1,(eK t x8).2⟩:aI)]).map aC=out'.map aC/\List.replicate (k+1) [bR.gone]++l8.map aE=List.replicate k' [bR.gone]++l2'.map aE/\(k' <=(bY t.arity).length/\l2' =(bY t.arity).drop k' /\out' =((bY t.arity).take k').map (wS t))/\(bY t.arity).length - k' <(bY t.arity).length - k) (t.name=((bI t).name)/\t.arity=((bI t).arity)/\(t.rows.length:Int)=((bI t).rowCount)/\out.map aC=(bI t).groups.map aC/\True))))) (by kernel_rfl) ?_;refine lx fun n0=>?_;refine⟨aAh t,dm (fun c0=>?_) fun c0=>?_⟩
 ·have hbad:aZ t=false:=by simpa using c0
  apply et4<;>((rw[aCp hbad]<;>rfl))
 ·have hok:aZ t=true:=by simpa using c0
  have hT:=cH hok;have hn:=aAp (n:=t.arity) ⟨hT.1,hT.2.1⟩;refine⟨aAH _,aTI t.arity (by omega),⟨0,bY t.arity,([]:List aI),rfl,rfl,rfl,rfl,rfl,rfl,aDB _,rfl,rfl⟩,fun k l2 out ⟨hk,hl,ho⟩=>?_⟩;have hlen:l2.length=(bY t.arity).length - k:=by rw[hl,aXh]
  refine⟨by simp,dd (fun c1=>?_) fun c1=>?_⟩
  ·refine⟨rfl,(by rw[hl];exact aRz (by omega)),fun x8 l8 t8=>?_⟩;have hdx:=hl.symm.trans t8;have hx:=aSB hdx;have hx3:=aCq hx;refine⟨by omega,by simp,by omega,rfl,aVp t x8 (by omega),by omega,by simp,by omega,rfl,rfl,rfl,rfl,rfl,by (simp[ho];omega),rfl,rfl,⟨by omega,by omega⟩,?_⟩;exact⟨k+1,_,_,rfl,rfl,rfl,rfl,rfl,rfl,⟨by omega,aSA hdx,by rw[ho,bT hx,aMQ];rfl⟩,by omega⟩
  ·apply et4<;>(first|(rw[lM hok]<;>rfl)|(rw[lM hok,ho,aGT (by omega)]))
abbrev aCr (x:aD):AV × List (Nat × Rs):=(.agg [.p none (.str x.name),vI x.arity,vI x.rowCount,.own 0],[(0,.arr 220 3 true (x.groups.map aC))])
abbrev aIV (x:aD):Prop:=Cn 205 [.agg [.str x.name,.int .i64 x.arity,.int .i64 x.rowCount,.sl 220 3 (x.groups.map aC)]] (aCr x).1 (aCr x).2
theorem aVq (x:aD)(hc:bD x<=1048576):aIV x:=by
 refine cq Tryz.func205 (.len x.groups.length<| .loop (Nat × (List aI)) (Q2 Nat (List aI)) ([3,5,6]++rg 10 18) [500,600,1700,2000,2300,2500,2600] (fun yy0=>[(3,.own 600),(10,vI (yy0.1:Int))]) (fun yy0=>[(600,some (.arr 220 3 true (yy0.2.map aC)))]) (fun yy0=>yy0.1<=x.groups.length/\yy0.2=x.groups.take yy0.1) (fun yy0=>x.groups.length - yy0.1) (fun yy0=> .br (.elem _ aC x.groups (fun e12=>bJ (aFh e12.columns)<| bJ (aLe e12.values)<| bJ (aFh e12.counts)<| .appx aI aC yy0.2 e12<| .back [(600,2600)])) (.fin [(0,600)]))) (p:=Lx (x.groups.map aC)<| Lm aC x.groups/\((∃(k:Nat) (out:List aI),0=(k:Int)/\[]=out.map aC/\k<=x.groups.length/\out=x.groups.take k)/\ ∀(k:Nat) (out:List aI),(k<=x.groups.length/\out=x.groups.take k)->Br ((k:Int)<(x.groups.length:Int)) (0<=(k:Int)/\Em aC x.groups k fun e12=>aIJ e12.columns/\aO9 e12.values/\aIJ e12.counts/\out.map aC=out.map aC/\e12.columns.map intD=e12.columns.map intD/\e12.values.map aE=e12.values.map aE/\e12.counts.map intD=e12.counts.map intD/\(out.length+1)*72<=140737488355328/\bK ((k:Int)+1)/\ ∃(k' :Nat) (out' :List aI),((k:Int)+1)=(k' :Int)/\(out++[e12]).map aC=out'.map aC/\(k' <=x.groups.length/\out' =x.groups.take k')/\x.groups.length - k' <x.groups.length - k) (x.name=x.name/\x.arity=x.arity/\x.rowCount=x.rowCount/\out.map aC=x.groups.map aC/\True))) (by kernel_rfl) ?_;refine lx fun n0=>?_;have q2:bD x=x.name.size+dB x.groups:=rfl;have q5:=gY x.groups;refine⟨aAH _,⟨0,([]:List aI),rfl,rfl,aDB _,rfl⟩,fun k out ⟨hk,ho⟩=>?_⟩;refine dd (fun c0=>?_) fun c0=>?_
 ·refine⟨by omega,rfl,by omega,fun e12 h12=>?_⟩;have q1:=iP h12;have q3:bP e12=cD e12.columns+cM e12.values+cD e12.counts:=rfl;have q6:cD e12.columns=e12.columns.length:=rfl;have q7:cD e12.counts=e12.counts.length:=rfl;have q8:=fX e12.values;refine⟨cpI _ (by omega),cpR _ (by omega),cpI _ (by omega),rfl,rfl,rfl,rfl,by simp[ho];omega,⟨by omega,by omega⟩,?_⟩;exact⟨k+1,out++[e12],rfl,rfl,⟨by omega,by rw[ho,bT h12]⟩,by omega⟩
 ·refine⟨rfl,rfl,rfl,?_,trivial⟩
  ·rw[ho,aGT (by omega)]
def mN (x:aD):List (List Int):=(x.groups.getD (x.groups.length - 1) eS).values
def eD (x:aD):aV:=⟨x.name,x.arity,mN x⟩
def cS (x:aD):Bool:=aZ (eD x)&&decide (bI (eD x)=x)
theorem aOo {x:aD}{g:aI}(h:x.groups[x.groups.length - 1]? =some g):mN x=g.values:=by rw[mN,bO h]
theorem aTJ {x:aD}(h:x.groups.length=0):mN x= []:=by
 rw[mN,List.length_eq_zero_iff.1 h];rfl
abbrev sT (x:aD):AV × List (Nat × Rs):=(.tup [.agg [.p none (.str ((eD x).name)),vI ((eD x).arity),.own 0],vB (cS x)],[(0,.arr 91 1 true ((eD x).rows.map aE))])
abbrev yG (x:aD):Prop:=Cn 240 [.agg [.str x.name,.int .i64 x.arity,.int .i64 x.rowCount,.sl 220 3 (x.groups.map aC)]] (sT x).1 (sT x).2
theorem aIW (x:aD)(hc:bD x<=1048576):yG x:=by
 refine cq Tryz.func240 (.len x.groups.length<| .br (.elem _ aC x.groups (fun e20=>bJ (aLe e20.values)<| .call (vB (aZ (⟨x.name,x.arity,e20.values⟩:aV))) []<| .br (bJ (aBv (⟨x.name,x.arity,e20.values⟩:aV))<| .call (vB (decide ((bI (⟨x.name,x.arity,e20.values⟩:aV))=x))) []<| .fin [(0,2300)]) (.fin [(0,2300)]))) (.call (vB (aZ (⟨x.name,x.arity,([]:List (List Int))⟩:aV))) []<| .br (.call (.agg [.p none (.str ((bI (⟨x.name,x.arity,([]:List (List Int))⟩:aV)).name)),vI ((bI (⟨x.name,x.arity,([]:List (List Int))⟩:aV)).arity),vI ((bI (⟨x.name,x.arity,([]:List (List Int))⟩:aV)).rowCount),.own 0]) [(0,.arr 220 3 true (((bI (⟨x.name,x.arity,([]:List (List Int))⟩:aV)).groups).map aC))]<| .call (vB (decide ((bI (⟨x.name,x.arity,([]:List (List Int))⟩:aV))=x))) []<| .fin []) (.fin []))) (p:=Lx (x.groups.map aC)<| Lm aC x.groups/\Br (0<(x.groups.length:Int)) (bK ((x.groups.length:Int) - 1)/\0<=((x.groups.length:Int) - 1)/\Em aC x.groups (((x.groups.length:Int) - 1).toNat) fun e20=>aO9 e20.values/\tT (⟨x.name,x.arity,e20.values⟩:aV)/\Bb (aZ (⟨x.name,x.arity,e20.values⟩:aV)) (aFK (⟨x.name,x.arity,e20.values⟩:aV)/\pE (bI (⟨x.name,x.arity,e20.values⟩:aV)) x/\x.name=((eD x).name)/\x.arity=((eD x).arity)/\(decide ((bI (⟨x.name,x.arity,e20.values⟩:aV))=x))=(cS x)/\e20.values.map aE=(eD x).rows.map aE/\True) (x.name=((eD x).name)/\x.arity=((eD x).arity)/\(false)=(cS x)/\e20.values.map aE=(eD x).rows.map aE/\True)) (rM Tryz.prog 194 [.agg [.str x.name,.int .i64 x.arity,.sl 0 1 ([])]] (vB (aZ (⟨x.name,x.arity,([]:List (List Int))⟩:aV))) []/\Bb (aZ (⟨x.name,x.arity,([]:List (List Int))⟩:aV)) (rM Tryz.prog 186 [.agg [.str x.name,.int .i64 x.arity,.sl 0 1 ([])]] (.agg [.p none (.str ((bI (⟨x.name,x.arity,([]:List (List Int))⟩:aV)).name)),vI ((bI (⟨x.name,x.arity,([]:List (List Int))⟩:aV)).arity),vI ((bI (⟨x.name,x.arity,([]:List (List Int))⟩:aV)).rowCount),.own 0]) [(0,.arr 220 3 true (((bI (⟨x.name,x.arity,([]:List (List Int))⟩:aV)).groups).map aC))]/\pE (bI (⟨x.name,x.arity,([]:List (List Int))⟩:aV)) x/\x.name=((eD x).name)/\x.arity=((eD x).arity)/\(decide ((bI (⟨x.name,x.arity,([]:List (List Int))⟩:aV))=x))=(cS x)/\[]=(eD x).rows.map aE/\True) (x.name=((eD x).name)/\x.arity=((eD x).arity)/\(false)=(cS x)/\[]=(eD x).rows.map aE/\True))) (by kernel_rfl) ?_;refine lx fun n0=>?_;have q2:bD x=x.name.size+dB x.groups:=rfl;have q5:=gY x.groups;refine⟨aAH _,dd (fun c0=>?_) fun c0=>?_⟩
 ·refine⟨⟨by omega,by omega⟩,by omega,rfl,by omega,fun e20 h20=>?_⟩;have i20:x.groups[x.groups.length - 1]? =some e20:=by rw[<-h20];congr 1;omega
  have hT:mN x=e20.values:=aOo i20;have q1:=iP i20;have q3:bP e20=cD e20.columns+cM e20.values+cD e20.counts:=rfl;have q6:cD e20.columns=e20.columns.length:=rfl;have q7:cD e20.counts=e20.counts.length:=rfl;have q8:=fX e20.values;refine⟨cpR _ (by omega),aAg (⟨x.name,x.arity,e20.values⟩:aV),db (fun g28=>?_) fun g28=>?_⟩
  ·refine⟨aNK (⟨x.name,x.arity,e20.values⟩:aV),yD _ _,?_,?_,?_,?_,trivial⟩<;>(first|(rw[eD,hT]<;>rfl)|(simp[cS,eD,hT, *];done))
  ·apply et4<;>(first|(rw[eD,hT]<;>rfl)|(simp[cS,eD,hT, *];done))
 ·have hT:mN x= []:=aTJ (by omega);refine⟨rM.imp (fun A w vs h=>by simpa only [pU,aNy,jR,aOH,List.map_nil] using h) (aAg (⟨x.name,x.arity,([]:List (List Int))⟩:aV)),?_⟩;refine db (fun g28=>?_) fun g28=>?_
  ·refine⟨rM.imp (fun A w vs h=>by simpa only [pU,aNy,jR,aOH,List.map_nil] using h) (aNK (⟨x.name,x.arity,([]:List (List Int))⟩:aV)),?_⟩;refine⟨yD _ _,?_,?_,?_,?_,trivial⟩<;>(first|(rw[eD,hT]<;>rfl)|(simp[cS,eD,hT, *];done))
  ·apply et4<;>(first|(rw[eD,hT]<;>rfl)|(simp[cS,eD,hT, *];done))
abbrev aCs (x:aD):Prop:=Cn 204 [.agg [.str x.name,.int .i64 x.arity,.int .i64 x.rowCount,.sl 220 3 (x.groups.map aC)]] (vB (cS x)) []
theorem aOp (x:aD)(hc:bD x<=1048576):aCs x:=by
 refine cq Tryz.func204 (bJ (sT x)<| .fin []) (p:=Lx (x.groups.map aC)<| yG x/\(cS x)=(cS x)/\True) (by kernel_rfl) ?_;refine lx fun n0=>?_;refine⟨aIW x (by omega),?_⟩;exact⟨rfl,trivial⟩
theorem mU (a:List Int)(l:List (List Int)):cM (a::l)=cM l+1+a.length:=by
 simp only[cM,aAG,cD,aLz,List.sum_cons,aQP];omega
theorem aOq (l:List (List Int)): ∀k,cM (l.take k)<=cM l:=by
 induction l with
 | nil=>intro k;simp
 | cons a l ih=>
   intro k;cases k with
   | zero=>rw[List.take_zero];exact aDB _
   | succ k=>rw[List.take_succ_cons,mU,mU];have:=ih k;omega
theorem aOr {row:List Int}: ∀{xs:List (List Int)},cM (mJ row xs)<=cM xs+1+row.length
 | []=>by rw[aEK,mU];exact aUX _
 | x::xs=>by
   by_cases h:0<cI x row
   ·rw[aEL h,mU];omega
   by_cases h' :cI x row=0
   ·rw[aEM h'];omega
   rw[aEN h h',mU,mU];have:=aOr (row:=row) (xs:=xs);omega
theorem aSD {row:List Int}: ∀{xs:List (List Int)},xs.length<=(mJ row xs).length
 | []=>by simp
 | x::xs=>by
   by_cases h:0<cI x row
   ·rw[aEL h];simp
   by_cases h' :cI x row=0
   ·rw[aEM h'];simp
   rw[aEN h h'];have:=aSD (row:=row) (xs:=xs);simp only[aQP];omega
theorem aOs (l:List (List Int)): ∀acc,cM (l.foldl (fun acc x=>mJ x acc) acc)<=cM acc+cM l/\acc.length<=(l.foldl (fun acc x=>mJ x acc) acc).length:=by
 induction l with
 | nil=>intro acc;simp
 | cons x l ih=>
   intro acc;obtain⟨h1,h2⟩:=ih (mJ x acc);have h3:=aOr (row:=x) (xs:=acc);have h4:=aSD (row:=x) (xs:=acc);rw[List.foldl_cons,mU];exact⟨by omega,by omega⟩
theorem aOt (l:List (List Int))(k:Nat):cM (cN (l.take k))<=cM l:=by
 have h1:=(aOs (l.take k) []).1;have h2:=aOq l k;have h3:cM ([]:List (List Int))=0:=rfl;unfold cN;omega
theorem aNL (l:List (List Int))(k:Nat):(cN (l.take k)).length<=(cN l).length:=by
 have h:=(aOs (l.drop k) (cN (l.take k))).2
 have e:cN l=(l.drop k).foldl (fun acc x=>mJ x acc) (cN (l.take k)):=by
  unfold cN;rw[<-List.foldl_append,List.take_append_drop]
 rw[e];exact h
def oZ (name:ByteArray)(arity:Int)(rows:List (List Int)):aV × Bool:=if aZ ⟨name,arity,cN rows⟩=true then (⟨name,arity,cN rows⟩,true) else (gX,false)
theorem wT {name:ByteArray}{arity:Int}{rows:List (List Int)}(h:aZ ⟨name,arity,cN rows⟩=true):oZ name arity rows=(⟨name,arity,cN rows⟩,true):=by rw[oZ,if_pos h]
theorem aNM {name:ByteArray}{arity:Int}{rows:List (List Int)}(h:aZ ⟨name,arity,cN rows⟩=false):oZ name arity rows=(gX,false):=by rw[oZ,if_neg (by rw[h];decide)]
theorem aFm {t:aV}(h:8<t.rows.length):aZ t=false:=by
 cases e:aZ t with
 | false=>rfl
 | true=>have:=cH e;omega
theorem aOu {name:ByteArray}{arity:Int}{rows:List (List Int)}{k:Nat}{acc:List (List Int)}(ha:acc=cN (rows.take k))(h:rows.length<=k\/8<acc.length):aZ ⟨name,arity,acc⟩=aZ ⟨name,arity,cN rows⟩/\(aZ ⟨name,arity,acc⟩=true->acc=cN rows):=by
 by_cases h1:8<acc.length
 ·have h2:=aNL rows k;rw[<-ha] at h2;have q1:=aFm (t:=⟨name,arity,acc⟩) h1;rw[q1,aFm (t:=⟨name,arity,cN rows⟩) (show 8<(cN rows).length by omega)];exact⟨rfl,fun q=>by cases q⟩
 have e:acc=cN rows:=by rw[ha,aGT (by omega)]
 rw[e];exact⟨rfl,fun _=>rfl⟩
theorem aVr: ∀{l:List (List Int)},(∀i,i+1<l.length->cI (l.getD i []) (l.getD (i+1) [])<0)->Asc l
 | [],_=>List.Pairwise.nil
 | [a],_=>List.pairwise_singleton _ _
 | a::b::l,h=>by
   have ih:=aVr (l:=b::l) fun i hi=>by
    have:=h (i+1) (by simpa using hi);simpa using this
   have h0:cI a b<0:=by
    have:=h 0 (by simp);simpa using this
   refine List.pairwise_cons.2 ⟨fun y hy=>?_,ih⟩;rcases aNn.1 hy with rfl | q
   ·exact h0
   exact oC h0 ((List.pairwise_cons.1 ih).1 y q)
theorem aOv {l:List (List Int)}(h:aFG l=true):Asc l:=aVr fun i hi=>by
 have:=aI4.1 h i (aR2.2 (by omega));simpa [nS] using this
theorem rB {t:aV}(h:aZ t=true):t.rows.all (lA t.arity)=true/\gZ t.name=true/\aFG t.rows=true:=by
 simp only[aZ,aCA] at h;exact⟨h.1,h.2.1,h.2.2.2.2⟩
theorem aFn {l:List (List Int)}(h:Asc l):cN l=l:=by
 obtain⟨h1,h2,_⟩:=vG l [] List.Pairwise.nil;exact aHC h1 h fun x=>by have:=h2 x;simpa [cN] using this
theorem rC {t:aV}(h:aZ t=true){r:List Int}(hr:r∈t.rows):(r.length:Int)=t.arity:=by
 have:=aI4.1 (rB h).1 r hr;simp only[lA,aCA,aUa] at this;exact this.2
def aQd (n:Int):List Int:=fK ((2:Int)^n.toNat - 1)
theorem aY3 {n:Int}(hn:1<=n/\n<=3){r:List Int}(h:(r.length:Int)=n):(gB r (aQd n)).1=r:=by
 have h1:n=1\/n=2\/n=3:=by omega
 rcases h1 with rfl | rfl | rfl
 ·match r,h with
  | [a],_=>rfl
  | [],h=>simp at h
  | _::_::_,h=>simp at h;omega
 ·match r,h with
  | [a,b],_=>rfl
  | [],h=>simp at h
  | [_],h=>simp at h
  | _::_::_::_,h=>simp at h;omega
 match r,h with
 | [a,b,c],_=>rfl
 | [],h=>simp at h
 | [_],h=>simp at h
 | [_,_],h=>simp at h
 | _::_::_::_::_,h=>simp at h;omega
theorem aVs {n:Int}(hn:1<=n/\n<=3):eG (n - 1) (aQd n)=true:=by
 have h1:n=1\/n=2\/n=3:=by omega
 rcases h1 with rfl | rfl | rfl<;>decide
theorem aNN {n:Int}(hn:1<=n/\n<=3):0<(bY n).length/\(bY n)[(bY n).length - 1]? =some (aQd n):=by
 have h1:n=1\/n=2\/n=3:=by omega
 rcases h1 with rfl | rfl | rfl<;>decide
theorem aVt {t:aV}(h:aZ t=true):(eK t (aQd t.arity)).1=t.rows:=by
 have hT:=cH h;have hc:=aVs (n:=t.arity) ⟨hT.1,hT.2.1⟩;rw[tX (by rw[h,hc];rfl)]
 have e:lY t (aQd t.arity)=t.rows:=by
  rw[lY]
  conv=>rhs;rw[<-List.map_id t.rows]
  exact List.map_congr_left fun r hr=>aY3 ⟨hT.1,hT.2.1⟩ (rC h hr)
 show gJ (dO (lY t (aQd t.arity)))=t.rows;rw[e,<-vH,aFn (aOv (rB h).2.2)]
theorem aFo {t:aV}(h:aZ t=true):mN (bI t)=t.rows/\(bI t).groups≠[]:=by
 have hT:=cH h;obtain⟨h0,h1⟩:=aNN (n:=t.arity) ⟨hT.1,hT.2.1⟩;rw[lM h];constructor
 ·rw[mN];show (((bY t.arity).map (wS t)).getD (((bY t.arity).map (wS t)).length - 1) eS).values=t.rows;rw[aAH,bO (x:=wS t (aQd t.arity)) (by rw[aZH,h1];rfl)];exact aVt h
 intro e;have:((bY t.arity).map (wS t)).length=0:=congrArg List.length e;rw[aAH] at this;omega
def pG (x:aD):aV × Bool:=if x.groups.length=0 then (gX,false) else oZ x.name x.arity (mN x)
theorem aY4 {x:aD}(h:cS x=true):pG x=(eD x,true):=by
 simp only[cS,aCA,aUa] at h;have h2:=(aFo h.1).2;rw[h.2] at h2;rw[pG,if_neg (fun e=>h2 (aKV e))];have e:=aFn (aOv (rB h.1).2.2);rw[show (eD x).rows=mN x from rfl] at e;rw[wT (by rw[e];exact h.1),e];rfl
theorem aTK (x:aD):((pG x).2&&decide (bI (pG x).1=x))=cS x:=by
 cases h:cS x with
 | true=>
   rw[aY4 h];simp only[cS,aCA,aUa] at h;simp[h.2]
 | false=>
   rw[pG];split
   ·rfl
   cases e:aZ ⟨x.name,x.arity,cN (mN x)⟩ with
   | false=>rw[aNM e];rfl
   | true=>
     rw[wT e];simp only[Bool.true_and];by_cases q:bI ⟨x.name,x.arity,cN (mN x)⟩=x
     ·exfalso;have h3:=(aFo e).1;rw[q] at h3
      have h4:eD x=⟨x.name,x.arity,cN (mN x)⟩:=by
       rw[eD]
       congr 1
      rw[cS,h4,e,q] at h;simp at h
     simp[q]
theorem wU {x:aD}(h:cS x=true):aZ (eD x)=true/\bI (eD x)=x:=by
 simpa only [cS,aCA,aUa] using h
theorem aIX {x:aD}(h:cS x=true):x.groups=(bY x.arity).map (wS (eD x)):=by
 obtain⟨h1,h2⟩:=wU h;rw[lM h1] at h2;exact(congrArg aD.groups h2).symm
theorem aTL {x:aD}(h:cS x=true):x.rowCount=((mN x).length:Nat):=by
 obtain⟨h1,h2⟩:=wU h;rw[lM h1] at h2;exact(congrArg aD.rowCount h2).symm
theorem aBx {x:aD}(h:cS x=true):1<=x.arity/\x.arity<=3:=by
 have:=cH (wU h).1;exact⟨this.1,this.2.1⟩
theorem aNO {α:Type}{p:α->Bool}{l:List α}{k:Nat}{x:α}(h:l[k]? =some x)(ha:(l.take k).all (fun y=> !p y)=true)(hx:p x=true):l.find? p=some x:=by
 rw[List.find?_eq_some_iff_getElem];obtain⟨hk,rfl⟩:=aGL.1 h;refine⟨hx,k,hk,rfl,fun j hj=>?_⟩;have:=aI4.1 ha l[j] (List.mem_iff_getElem.2 ⟨j,by simp;omega,by simp⟩);exact this
theorem aNP {α:Type}{p:α->Bool}{l:List α}(ha:l.all (fun y=> !p y)=true):l.find? p=none:=by
 rw[List.find?_eq_none];intro x hx;have:=aI4.1 ha x hx;simpa using this
def hJ (l:List aV)(i:Nat):Bool:=Op.bytesLess (l.getD i gX).name.toList (l.getD (i+1) gX).name.toList
def kH (d:aX):Bool:=d.tables.all aZ&&((List.range (d.tables.length - 1)).all (hJ d.tables)&&decide ((d.tables.length:Int)<=6))
abbrev aFM (t:aX):Prop:=Cn 137 [.agg [.sl 142 3 (t.tables.map aS)]] (vB (kH t)) []
theorem aSE (t:aX):aFM t:=by
 refine cq Tryz.func137 (.len t.tables.length<| .loop Nat (Q1 Nat) ([3,4]++rg 8 25) [400] (fun k=>[(8,vI (k:Int))]) (fun k=>[]) (fun k=>k<=t.tables.length/\(t.tables.take k).all aZ=true/\(List.range (k - 1)).all (hJ t.tables)=true) (fun k=>t.tables.length - k) (fun k=> .br (.elem _ aS t.tables (fun e11=> .call (vB (aZ e11)) []<| .br (.fin []) (.lit<| .lit<| .br (.elem _ aS t.tables (fun e24=> .lit<| .lit<| .lit<| .lit<| .lit<| .lit<| .lit<| .lit<| .br (.fin []) (.back []))) (.back [])))) (.len t.tables.length<| .fin []))) (p:=Lx (t.tables.map aS)<| Lm aS t.tables/\((∃(k:Nat),0=(k:Int)/\k<=t.tables.length/\(t.tables.take k).all aZ=true/\(List.range (k - 1)).all (hJ t.tables)=true)/\ ∀(k:Nat),(k<=t.tables.length/\(t.tables.take k).all aZ=true/\(List.range (k - 1)).all (hJ t.tables)=true)->Br ((k:Int)<(t.tables.length:Int)) (0<=(k:Int)/\Em aS t.tables k fun e11=>tT e11/\Nr (aZ e11) ((false)=(kH t)/\True) (Br (0<(k:Int)) (bK ((k:Int) - 1)/\0<=((k:Int) - 1)/\Em aS t.tables (((k:Int) - 1).toNat) fun e24=>Nr (Op.bytesLess e24.name.toList e11.name.toList) ((false)=(kH t)/\True) (bK ((k:Int)+1)/\ ∃(k' :Nat),((k:Int)+1)=(k' :Int)/\(k' <=t.tables.length/\(t.tables.take k').all aZ=true/\(List.range (k' - 1)).all (hJ t.tables)=true)/\t.tables.length - k' <t.tables.length - k)) (bK ((k:Int)+1)/\ ∃(k' :Nat),((k:Int)+1)=(k' :Int)/\(k' <=t.tables.length/\(t.tables.take k').all aZ=true/\(List.range (k' - 1)).all (hJ t.tables)=true)/\t.tables.length - k' <t.tables.length - k))) (Lm aS t.tables/\(decide ((t.tables.length:Int)<=6))=(kH t)/\True))) (by kernel_rfl) ?_;refine lx fun n0=>?_;refine⟨aAH _,⟨0,rfl,aDB _,rfl,rfl⟩,fun k ⟨hk,ha,hs⟩=>?_⟩;refine dd (fun c0=>?_) fun c0=>?_
 ·refine⟨by omega,rfl,by omega,fun e11 h11=>?_⟩;refine⟨aAg e11,dm (fun g16=>?_) fun g16=>?_⟩
  ·apply et1
   ·(rw[kH,eX h11 g16];rfl)
  ·refine dd (fun g19=>?_) fun g19=>?_
   ·refine⟨⟨by omega,by omega⟩,by omega,rfl,by omega,fun e24 h24=>?_⟩;have i1:t.tables[k - 1]? =some e24:=by rw[<-h24];congr 1;omega
    refine dm (fun c1=>?_) fun c1=>?_
    ·have hp:hJ t.tables (k - 1)=false:=by rw[hJ,bO i1,show k - 1+1=k by omega,bO h11];simpa using c1
     have hz:(List.range (t.tables.length - 1)).all (hJ t.tables)=false:=iQ (by omega) hp;apply et1
     ·(rw[kH,hz];simp[*];done)
    ·have hp:hJ t.tables (k - 1)=true:=by rw[hJ,bO i1,show k - 1+1=k by omega,bO h11];simpa using c1
     have hs2:(List.range (k+1 - 1)).all (hJ t.tables)=true:=by rw[show k+1 - 1=(k - 1)+1 by omega];exact kR hs hp
     refine⟨⟨by omega,by omega⟩,?_⟩;exact⟨k+1,rfl,⟨by omega,cO h11 ha g16,hs2⟩,by omega⟩
   ·have hs2:(List.range (k+1 - 1)).all (hJ t.tables)=true:=by rw[show k=0 by omega];rfl
    refine⟨⟨by omega,by omega⟩,?_⟩;exact⟨k+1,rfl,⟨by omega,cO h11 ha g16,hs2⟩,by omega⟩
 ·have hall:=dJ (by omega) ha;have hz:(List.range (t.tables.length - 1)).all (hJ t.tables)=true:=by rw[show t.tables.length - 1=k - 1 by omega,hs]
  refine⟨aAH _,?_,trivial⟩
  ·(rw[kH,hz];simp[*];done)
abbrev aFN (t:aX):Prop:=Cn 177 [.agg [.sl 142 3 (t.tables.map aS)]] (vB (kH t)) []
theorem aSF (t:aX):aFN t:=by
 refine cq Tryz.func177 (.loop Nat (Q1 Nat) (rg 3 35) [] (fun k=>[(3,vI (k:Int))]) (fun k=>[]) (fun k=>k<=t.tables.length/\(t.tables.take k).all aZ=true/\(List.range (k - 1)).all (hJ t.tables)=true) (fun k=>t.tables.length - k) (fun k=> .len t.tables.length<| .br (.elem _ aS t.tables (fun e14=> .call (vB (aZ e14)) []<| .br (.fin []) (.lit<| .lit<| .br (.elem _ aS t.tables (fun e26=> .elem _ aS t.tables (fun e32=> .lit<| .lit<| .lit<| .lit<| .lit<| .lit<| .br (.fin []) (.back [])))) (.back [])))) (.len t.tables.length<| .fin []))) (p:=Lx (t.tables.map aS)<| (∃(k:Nat),0=(k:Int)/\k<=t.tables.length/\(t.tables.take k).all aZ=true/\(List.range (k - 1)).all (hJ t.tables)=true)/\ ∀(k:Nat),(k<=t.tables.length/\(t.tables.take k).all aZ=true/\(List.range (k - 1)).all (hJ t.tables)=true)->Lm aS t.tables/\Br ((k:Int)<(t.tables.length:Int)) (0<=(k:Int)/\Em aS t.tables k fun e14=>qG e14/\Nr (aZ e14) ((false)=(kH t)/\True) (Br (0<(k:Int)) (bK ((k:Int) - 1)/\0<=((k:Int) - 1)/\Em aS t.tables (((k:Int) - 1).toNat) fun e26=>0<=(k:Int)/\Em aS t.tables k fun e32=>Nr (Op.bytesLess e26.name.toList e32.name.toList) ((false)=(kH t)/\True) (bK ((k:Int)+1)/\ ∃(k' :Nat),((k:Int)+1)=(k' :Int)/\(k' <=t.tables.length/\(t.tables.take k').all aZ=true/\(List.range (k' - 1)).all (hJ t.tables)=true)/\t.tables.length - k' <t.tables.length - k)) (bK ((k:Int)+1)/\ ∃(k' :Nat),((k:Int)+1)=(k' :Int)/\(k' <=t.tables.length/\(t.tables.take k').all aZ=true/\(List.range (k' - 1)).all (hJ t.tables)=true)/\t.tables.length - k' <t.tables.length - k))) (Lm aS t.tables/\(decide ((t.tables.length:Int)<=6))=(kH t)/\True)) (by kernel_rfl) ?_;refine lx fun n0=>?_;refine⟨⟨0,rfl,aDB _,rfl,rfl⟩,fun k ⟨hk,ha,hs⟩=>?_⟩;refine⟨aAH _,dd (fun c0=>?_) fun c0=>?_⟩
 ·refine⟨by omega,rfl,by omega,fun e14 h14=>?_⟩;refine⟨aAh e14,dm (fun g18=>?_) fun g18=>?_⟩
  ·apply et1
   ·(rw[kH,eX h14 g18];rfl)
  ·refine dd (fun g21=>?_) fun g21=>?_
   ·refine⟨⟨by omega,by omega⟩,by omega,rfl,by omega,fun e26 h26=>?_⟩;have i1:t.tables[k - 1]? =some e26:=by rw[<-h26];congr 1;omega
    refine⟨by omega,rfl,by omega,fun e32 h32=>?_⟩;refine dm (fun c1=>?_) fun c1=>?_
    ·have hp:hJ t.tables (k - 1)=false:=by rw[hJ,bO i1,show k - 1+1=k by omega,bO h32];simpa using c1
     have hz:(List.range (t.tables.length - 1)).all (hJ t.tables)=false:=iQ (by omega) hp;apply et1
     ·(rw[kH,hz];simp[*];done)
    ·have hp:hJ t.tables (k - 1)=true:=by rw[hJ,bO i1,show k - 1+1=k by omega,bO h32];simpa using c1
     have hs2:(List.range (k+1 - 1)).all (hJ t.tables)=true:=by rw[show k+1 - 1=(k - 1)+1 by omega];exact kR hs hp
     refine⟨⟨by omega,by omega⟩,?_⟩;exact⟨k+1,rfl,⟨by omega,cO h14 ha g18,hs2⟩,by omega⟩
   ·have hs2:(List.range (k+1 - 1)).all (hJ t.tables)=true:=by rw[show k=0 by omega];rfl
    refine⟨⟨by omega,by omega⟩,?_⟩;exact⟨k+1,rfl,⟨by omega,cO h14 ha g18,hs2⟩,by omega⟩
 ·have hall:=dJ (by omega) ha;have hz:(List.range (t.tables.length - 1)).all (hJ t.tables)=true:=by rw[show t.tables.length - 1=k - 1 by omega,hs]
  refine⟨aAH _,?_,trivial⟩
  ·(rw[kH,hz];simp[*];done)
end Go.Proofs.YtlidmoeecphbmaaGreat
