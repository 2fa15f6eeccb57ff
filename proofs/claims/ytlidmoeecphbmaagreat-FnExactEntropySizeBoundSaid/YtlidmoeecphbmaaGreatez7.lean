/-
  Contracts and plain laws, joined: part 8.
-/
import Derived.Test.YtlidmoeecphbmaaGreatez6
import Derived.Test.YtlidmoeecphbmaaGreatez5
import Derived.Test.YtlidmoeecphbmaaGreatez3
import Derived.Test.YtlidmoeecphbmaaGreatez4
namespace Go.Proofs.YtlidmoeecphbmaaGreat
open Go.ChangeShapes Go.WideShapes Go.ChangeAt Go.RowKit
set_option linter.unusedVariables false
set_option linter.unusedSimpArgs false
set_option maxRecDepth 100000
set_option maxHeartbeats 4000000
def fE (s:Int)(v:Nat):Bool:=decide (cH .and .i64 (s/2^v) 1=1)
def lI (s:Int)(k:Nat):List Int:=((List.range k).filter (fE s)).map fun v:Nat=>(v:Int)
def eX (s:Int):List Int:=lI s 3
theorem aDo {s:Int}{k:Nat}(h:cH .and .i64 (s/2^k) 1=1):lI s (k+1)=lI s k++[(k:Int)]:=by
 rw[lI,List.range_succ,List.filter_append,aLt];simp[lI,fE,h]
theorem aGt {s:Int}{k:Nat}(h: ¬cH .and .i64 (s/2^k) 1=1):lI s (k+1)=lI s k:=by
 rw[lI,List.range_succ,List.filter_append,aLt];simp[lI,fE,h]
theorem aRa {s:Int}{k:Nat}(hs:0<=s/\s<=7)(hk:k<=3)(h:s/2^k=0):lI s k=eX s:=by
 have h1:s=0\/s=1\/s=2\/s=3\/s=4\/s=5\/s=6\/s=7:=by omega
 have h2:k=0\/k=1\/k=2\/k=3:=by omega
 rcases h2 with rfl|rfl|rfl|rfl<;>rcases h1 with rfl|rfl|rfl|rfl|rfl|rfl|rfl|rfl<;>first|rfl|(revert h;decide)
theorem aWw {s:Int}{k:Nat}(hs:0<=s/\s<=7)(hk:k<=3)(h: ¬s/2^k=0):k<3:=by
 by_cases q:k=3
 ·subst q;omega
 omega
theorem tY (s:Int)(k:Nat):(lI s k).length<=k:=by
 rw[lI,aAq];have:=(List.filter_sublist (l:=List.range k) (p:=fE s)).length_le;rw[List.length_range] at this;exact this
theorem qV {n:Int}(h:1<=n/\n<=3):2<=(2:Int)^n.toNat/\(2:Int)^n.toNat<=8:=by
 have:n=1\/n=2\/n=3:=by omega
 rcases this with rfl | rfl | rfl<;>decide
def rU (k:Nat):List (List Int):=(List.range k).map fun i=>eX ((i+1:Nat):Int)
def bU (n:Int):List (List Int):=rU ((2:Int)^n.toNat - 1).toNat
theorem aGu (k:Nat):rU (k+1)=rU k++[eX ((k+1:Nat):Int)]:=by rw[rU,List.range_succ,aLt];rfl
abbrev sW (s:Int):AV × List (Nat × Rs):=(.own 0,[(0,.arr 3 1 true ((eX s).map intD))])
abbrev yY (s:Int):Prop:=Cn 206 [.one (.int .i64 s)] (sW s).1 (sW s).2
theorem aKR (s:Int)(hs:0<=s/\s<=7):yY s:=by
 refine cq Tryz.func206 (.loop (Nat × (List Int)) (Q2 Nat (List Int)) (rg 3 18) [500,1900,2000] (fun yy0=>[(4,vI (yy0.1:Int)),(3,.own 500)]) (fun yy0=>[(500,some (.arr 3 1 true (yy0.2.map intD)))]) (fun yy0=>yy0.1<=3/\yy0.2=lI s yy0.1) (fun yy0=>3 - yy0.1) (fun yy0=> .br (.br (.app Int intD yy0.2 ([(yy0.1:Int)]:List Int)<| .back [(500,2000)]) (.back [(500,500)])) (.fin [(0,500)]))) (p:=(∃(k:Nat) (out:List Int),0=(k:Int)/\[]=out.map intD/\k<=3/\out=lI s k)/\ ∀(k:Nat) (out:List Int),(k<=3/\out=lI s k)->(0<=(k:Int)/\(k:Int)<=64)/\Nb ((s/2^k)=0) ((0<=(k:Int)/\(k:Int)<=64)/\Br ((cH .and .i64 (s/2^k) (1:Int))=1) (Ap intD out ([(k:Int)]:List Int) 8 (bJ ((k:Int)+1)/\ ∃(k' :Nat) (out' :List Int),((k:Int)+1)=(k' :Int)/\(out++[(k:Int)]).map intD=out'.map intD/\(k' <=3/\out' =lI s k')/\3 - k' <3 - k)) (bJ ((k:Int)+1)/\ ∃(k' :Nat) (out' :List Int),((k:Int)+1)=(k' :Int)/\out.map intD=out'.map intD/\(k' <=3/\out' =lI s k')/\3 - k' <3 - k)) (out.map intD=(eX s).map intD/\True)) (by kernel_rfl) ?_;refine⟨⟨0,([]:List Int),rfl,rfl,by omega,rfl⟩,fun k out ⟨hk,ho⟩=>?_⟩;refine⟨⟨by omega,by omega⟩,dn (fun c0=>?_) fun c0=>?_⟩
 ·have hk3:=aWw hs hk c0;have hln:=tY s k;refine⟨⟨by omega,by omega⟩,dd (fun c1=>?_) fun c1=>?_⟩
  ·refine ap ?_ (fun _=>rfl) (by (simp[ho];omega));refine⟨⟨by omega,by omega⟩,?_⟩;exact⟨k+1,_,rfl,rfl,⟨by omega,by (rw[ho,aDo c1];done)⟩,by omega⟩
  ·refine⟨⟨by omega,by omega⟩,?_⟩;exact⟨k+1,_,rfl,rfl,⟨by omega,by (rw[ho,aGt c1];done)⟩,by omega⟩
 ·apply et1
  ·(rw[ho];exact congrArg _ (aRa hs hk c0))
abbrev sX (s:Int):AV × List (Nat × Rs):=(.own 0,[(0,.arr 3 1 true ((eX s).map intD))])
abbrev yZ (s:Int):Prop:=Cn 200 [.one (.int .i64 s)] (sX s).1 (sX s).2
theorem aKS (s:Int)(hs:0<=s/\s<=7):yZ s:=by
 refine cq Tryz.func200 (.loop (Nat × (List Int)) (Q2 Nat (List Int)) (rg 3 16) [500,1700,1800] (fun yy0=>[(4,vI (yy0.1:Int)),(3,.own 500)]) (fun yy0=>[(500,some (.arr 3 1 true (yy0.2.map intD)))]) (fun yy0=>yy0.1<=3/\yy0.2=lI s yy0.1) (fun yy0=>3 - yy0.1) (fun yy0=> .br (.br (.app Int intD yy0.2 ([(yy0.1:Int)]:List Int)<| .back [(500,1800)]) (.back [(500,500)])) (.fin [(0,500)]))) (p:=(∃(k:Nat) (out:List Int),0=(k:Int)/\[]=out.map intD/\k<=3/\out=lI s k)/\ ∀(k:Nat) (out:List Int),(k<=3/\out=lI s k)->Br ((k:Int)<3) ((0<=(k:Int)/\(k:Int)<=64)/\Br ((cH .and .i64 (s/2^k) (1:Int))=1) (Ap intD out ([(k:Int)]:List Int) 8 (bJ ((k:Int)+1)/\ ∃(k' :Nat) (out' :List Int),((k:Int)+1)=(k' :Int)/\(out++[(k:Int)]).map intD=out'.map intD/\(k' <=3/\out' =lI s k')/\3 - k' <3 - k)) (bJ ((k:Int)+1)/\ ∃(k' :Nat) (out' :List Int),((k:Int)+1)=(k' :Int)/\out.map intD=out'.map intD/\(k' <=3/\out' =lI s k')/\3 - k' <3 - k)) (out.map intD=(eX s).map intD/\True)) (by kernel_rfl) ?_;refine⟨⟨0,([]:List Int),rfl,rfl,by omega,rfl⟩,fun k out ⟨hk,ho⟩=>?_⟩;refine dd (fun c0=>?_) fun c0=>?_
 ·skip
  have hln:=tY s k;refine⟨⟨by omega,by omega⟩,dd (fun c1=>?_) fun c1=>?_⟩
  ·refine ap ?_ (fun _=>rfl) (by (simp[ho];omega));refine⟨⟨by omega,by omega⟩,?_⟩;exact⟨k+1,_,rfl,rfl,⟨by omega,by (rw[ho,aDo c1];done)⟩,by omega⟩
  ·refine⟨⟨by omega,by omega⟩,?_⟩;exact⟨k+1,_,rfl,rfl,⟨by omega,by (rw[ho,aGt c1];done)⟩,by omega⟩
 ·apply et1
  ·(rw[ho];exact congrArg _ (by rw[eX,show 3=k by omega]))
abbrev zA (n:Int):AV × List (Nat × Rs):=(.own 0,[(0,.arr 91 1 true ((bU n).map aC))])
abbrev aEZ (n:Int):Prop:=Cn 227 [.one (.int .i64 n)] (zA n).1 (zA n).2
theorem aRb (n:Int)(hn:1<=n/\n<=3):aEZ n:=by
 refine cq Tryz.func227 (.call (vB (eB n (1:Int) (3:Int))) []<| .br (.fin []) (.loop (Nat × (List (List Int))) (Q2 Nat (List (List Int))) ([3,4]++rg 8 12) [800,1700,1800,1900] (fun yy0=>[(4,vI ((yy0.1+1:Nat):Int)),(3,.own 800)]) (fun yy0=>[(800,some (.arr 91 1 true (yy0.2.map aC)))]) (fun yy0=>yy0.1<=((2:Int)^n.toNat - 1).toNat/\yy0.2=rU yy0.1) (fun yy0=>((2:Int)^n.toNat - 1).toNat - yy0.1) (fun yy0=> .br (bI (sW ((yy0.1+1:Nat):Int))<| .appx (List Int) aC yy0.2 (eX ((yy0.1+1:Nat):Int))<| .back [(800,1900)]) (.fin [(0,800)])))) (p:=eK n (1:Int) (3:Int)/\Nr (eB n (1:Int) (3:Int)) ([]=(bU n).map aC/\True) ((∃(k:Nat) (out:List (List Int)),1=((k+1:Nat):Int)/\[]=out.map aC/\k<=((2:Int)^n.toNat - 1).toNat/\out=rU k)/\ ∀(k:Nat) (out:List (List Int)),(k<=((2:Int)^n.toNat - 1).toNat/\out=rU k)->(0<=n/\n<=64)/\bJ ((1:Int)*2^(Int.toNat n))/\Br (((k+1:Nat):Int)<((1:Int)*2^(Int.toNat n))) (yY ((k+1:Nat):Int)/\out.map aC=out.map aC/\(eX ((k+1:Nat):Int)).map intD=(eX ((k+1:Nat):Int)).map intD/\(out.length+1)*24<=140737488355328/\bJ (((k+1:Nat):Int)+1)/\ ∃(k' :Nat) (out' :List (List Int)),(((k+1:Nat):Int)+1)=((k' +1:Nat):Int)/\(out++[eX ((k+1:Nat):Int)]).map aC=out'.map aC/\(k' <=((2:Int)^n.toNat - 1).toNat/\out' =rU k')/\((2:Int)^n.toNat - 1).toNat - k' <((2:Int)^n.toNat - 1).toNat - k) (out.map aC=(bU n).map aC/\True))) (by kernel_rfl) ?_;have hb:=qV hn;have hin:eB n 1 3=true:=qA hn.1 hn.2;refine⟨iD _ _ _,dm (fun c0=>?_) fun c0=>?_⟩
 ·apply et1
  ·(exfalso;simp[hin] at c0;done)
 ·refine⟨⟨0,([]:List (List Int)),rfl,rfl,aBn _,rfl⟩,fun k out ⟨hk,ho⟩=>?_⟩;refine⟨⟨by omega,by omega⟩,⟨by omega,by omega⟩,dd (fun c1=>?_) fun c1=>?_⟩
  ·refine⟨aKR ((k+1:Nat):Int) (by omega),rfl,rfl,by (simp[ho,rU];omega),⟨by omega,by omega⟩,?_⟩;exact⟨(k+1),_,rfl,rfl,⟨by omega,by rw[ho,aGu]⟩,by omega⟩
  ·apply et1
   ·(rw[ho,bU];congr 2;omega)
abbrev zB (n:Int):AV × List (Nat × Rs):=(.own 0,[(0,.arr 91 1 true ((bU n).map aC))])
abbrev aE0 (n:Int):Prop:=Cn 219 [.one (.int .i64 n)] (zB n).1 (zB n).2
theorem aRc (n:Int)(hn:1<=n/\n<=3):aE0 n:=by
 refine cq Tryz.func219 (.loop (Nat × (List (List Int))) (Q2 Nat (List (List Int))) (rg 3 18) [500,1800,1900,2000] (fun yy0=>[(4,vI ((yy0.1+1:Nat):Int)),(3,.own 500)]) (fun yy0=>[(500,some (.arr 91 1 true (yy0.2.map aC)))]) (fun yy0=>yy0.1<=((2:Int)^n.toNat - 1).toNat/\yy0.2=rU yy0.1) (fun yy0=>((2:Int)^n.toNat - 1).toNat - yy0.1) (fun yy0=> .call (vB (eB n (1:Int) (3:Int))) []<| .br (.lit<| .lit<| .lit<| .lit<| .br (bI (sX ((yy0.1+1:Nat):Int))<| .appx (List Int) aC yy0.2 (eX ((yy0.1+1:Nat):Int))<| .back [(500,2000)]) (.fin [(0,500)])) (.fin [(0,500)]))) (p:=(∃(k:Nat) (out:List (List Int)),1=((k+1:Nat):Int)/\[]=out.map aC/\k<=((2:Int)^n.toNat - 1).toNat/\out=rU k)/\ ∀(k:Nat) (out:List (List Int)),(k<=((2:Int)^n.toNat - 1).toNat/\out=rU k)->eV n (1:Int) (3:Int)/\Bb (eB n (1:Int) (3:Int)) ((0<=n/\n<=64)/\bJ ((1:Int)*2^(Int.toNat n))/\Br (((k+1:Nat):Int)<((1:Int)*2^(Int.toNat n))) (yZ ((k+1:Nat):Int)/\out.map aC=out.map aC/\(eX ((k+1:Nat):Int)).map intD=(eX ((k+1:Nat):Int)).map intD/\(out.length+1)*24<=140737488355328/\bJ (((k+1:Nat):Int)+1)/\ ∃(k' :Nat) (out' :List (List Int)),(((k+1:Nat):Int)+1)=((k' +1:Nat):Int)/\(out++[eX ((k+1:Nat):Int)]).map aC=out'.map aC/\(k' <=((2:Int)^n.toNat - 1).toNat/\out' =rU k')/\((2:Int)^n.toNat - 1).toNat - k' <((2:Int)^n.toNat - 1).toNat - k) (out.map aC=(bU n).map aC/\True)) (out.map aC=(bU n).map aC/\True)) (by kernel_rfl) ?_;have hb:=qV hn;have hin:eB n 1 3=true:=qA hn.1 hn.2;refine⟨⟨0,([]:List (List Int)),rfl,rfl,aBn _,rfl⟩,fun k out ⟨hk,ho⟩=>?_⟩;refine⟨iV _ _ _,db (fun g8=>?_) fun g8=>?_⟩
 ·refine⟨⟨by omega,by omega⟩,⟨by omega,by omega⟩,dd (fun c0=>?_) fun c0=>?_⟩
  ·refine⟨aKS ((k+1:Nat):Int) (by omega),rfl,rfl,by (simp[ho,rU];omega),⟨by omega,by omega⟩,?_⟩;exact⟨(k+1),_,rfl,rfl,⟨by omega,by rw[ho,aGu]⟩,by omega⟩
  ·apply et1
   ·(rw[ho,bU];congr 2;omega)
 ·apply et1
  ·(exfalso;simp[hin] at*;done)
def tZ (t:aY)(cols:List Int):aR:=⟨cols,(dX t cols).1,(dX t cols).2⟩
def bD (t:aY):aM:=if aV t=true then ⟨t.name,t.arity,(t.rows.length:Nat),(bU t.arity).map (tZ t)⟩ else dO
theorem iE {t:aY}(h:aV t=true):bD t=⟨t.name,t.arity,(t.rows.length:Nat),(bU t.arity).map (tZ t)⟩:=by rw[bD,if_pos h]
theorem aBa {t:aY}(h:aV t=false):bD t=dO:=by rw[bD,if_neg (by rw[h];decide)]
theorem aQ5 {α:Type}{l:List α}{k:Nat}(h:k<l.length):l.drop k≠[]:=fun e=>by
 have:=congrArg List.length e;simp at this;omega
theorem aQ6 {α:Type}{l l2:List α}{k:Nat}{x:α}(h:l.drop k=x::l2):l2=l.drop (k+1):=by rw[<-List.tail_drop,h];rfl
theorem aQ7 {α:Type}{l l2:List α}{k:Nat}{x:α}(h:l.drop k=x::l2):l[k]? =some x:=by
 have:=congrArg List.head? h;simpa [List.head?_drop] using this
theorem aBb {n:Int}{k:Nat}{x:List Int}(h:(bU n)[k]? =some x):x.length<=3:=by
 obtain⟨i,_,rfl⟩:=aPy.1 (aCX h);exact tY _ 3
theorem zC {n:Int}(h:1<=n/\n<=3):(bU n).length<=7:=by
 have:=qV h;simp only[bU,rU,aAq,List.length_range];omega
abbrev aAk (t:aY):AV × List (Nat × Rs):=(.agg [.p none (.str ((bD t).name)),vI ((bD t).arity),vI ((bD t).rowCount),.own 0],[(0,.arr 220 3 true ((bD t).groups.map aD))])
abbrev aDp (t:aY):Prop:=Cn 186 [.agg [.str t.name,.int .i64 t.arity,.sl 91 1 (t.rows.map aC)]] (aAk t).1 (aAk t).2
theorem aLi (t:aY):aDp t:=by
 refine cq Tryz.func186 (.call (vB (aV t)) []<| .br (.fin []) (.len t.rows.length<| bI (zA t.arity)<| .len ((bU t.arity).length)<| .loop (Nat × (List (List Int)) × (List aR)) (Q3 Nat (List (List Int)) (List aR)) ([5,6,7]++rg 24 20) [300,2200,3100,3101,4000,4100,9000,50607] (fun yy0=>[(24,vI (yy0.1:Int))]) (fun yy0=>[(300,some (.box 88 [.p none (.str t.name),vI t.arity,vI (t.rows.length:Int),.own 9000])),(9000,some (.arr 220 3 true (yy0.2.2.map aD))),(2200,some (.arr 91 1 true (List.replicate yy0.1 [bP.gone]++yy0.2.1.map aC)))]) (fun yy0=>yy0.1<=(bU t.arity).length/\yy0.2.1=(bU t.arity).drop yy0.1/\yy0.2.2=((bU t.arity).take yy0.1).map (tZ t)) (fun yy0=>(bU t.arity).length - yy0.1) (fun yy0=> .br (.takeg 6 2200 yy0.1 50607 (List Int) aC yy0.2.1 (fun x6 l6=> .len (yy0.1+(l6.length+1))<| .leave 7 2200 yy0.1 50607 (List Int) aC x6 l6 (bI (vM t x6)<| .appx aR aD yy0.2.2 (⟨x6,(dX t x6).1,(dX t x6).2⟩:aR)<| .back [(300,300),(2200,2200),(9000,4100)]))) (.fin [(0,9000)])))) (p:=Lx (t.rows.map aC)<| rP t/\Nr (aV t) (ByteArray.empty=((bD t).name)/\0=((bD t).arity)/\0=((bD t).rowCount)/\[]=(bD t).groups.map aD/\True) (Lm aC t.rows/\(aEZ t.arity/\(Lm aC (bU t.arity)/\((∃(k:Nat) (l2:List (List Int)) (out:List aR),0=(k:Int)/\t.name=t.name/\t.arity=t.arity/\(t.rows.length:Int)=(t.rows.length:Int)/\[]=out.map aD/\(bU t.arity).map aC=List.replicate k [bP.gone]++l2.map aC/\k<=(bU t.arity).length/\l2=(bU t.arity).drop k/\out=((bU t.arity).take k).map (tZ t))/\ ∀(k:Nat) (l2:List (List Int)) (out:List aR),(k<=(bU t.arity).length/\l2=(bU t.arity).drop k/\out=((bU t.arity).take k).map (tZ t))->Br ((k:Int)<(((bU t.arity).length:Nat):Int)) (List.replicate k [bP.gone]++l2.map aC=List.replicate k [bP.gone]++l2.map aC/\l2≠[]/\ ∀x6 l6,l2=x6::l6->0<=(k:Int)/\(List.replicate k [bP.gone]++(x6::l6).map aC).length=k+(l6.length+1)/\(k:Int)<((k+(l6.length+1):Nat):Int)/\k=k/\List.replicate k [bP.gone]++(x6::l6).map aC=List.replicate k [bP.gone]++(x6::l6).map aC/\k=k/\aB7 t x6/\out.map aD=out.map aD/\x6.map intD=(⟨x6,(dX t x6).1,(dX t x6).2⟩:aR).columns.map intD/\(dX t x6).1.map aC=(⟨x6,(dX t x6).1,(dX t x6).2⟩:aR).values.map aC/\(dX t x6).2.map intD=(⟨x6,(dX t x6).1,(dX t x6).2⟩:aR).counts.map intD/\(out.length+1)*72<=140737488355328/\bJ ((k:Int)+1)/\ ∃(k' :Nat) (l2' :List (List Int)) (out' :List aR),((k:Int)+1)=(k' :Int)/\t.name=t.name/\t.arity=t.arity/\(t.rows.length:Int)=(t.rows.length:Int)/\(out++[(⟨x6,(dX t x6).1,(dX t x6).2⟩:aR)]).map aD=out'.map aD/\List.replicate (k+1) [bP.gone]++l6.map aC=List.replicate k' [bP.gone]++l2'.map aC/\(k' <=(bU t.arity).length/\l2' =(bU t.arity).drop k' /\out' =((bU t.arity).take k').map (tZ t))/\(bU t.arity).length - k' <(bU t.arity).length - k) (t.name=((bD t).name)/\t.arity=((bD t).arity)/\(t.rows.length:Int)=((bD t).rowCount)/\out.map aD=(bD t).groups.map aD/\True)))))) (by kernel_rfl) ?_;refine lx fun n0=>?_;refine⟨yT t,dm (fun c0=>?_) fun c0=>?_⟩
 ·have hbad:aV t=false:=by simpa using c0
  apply et4<;>((rw[aBa hbad]<;>rfl))
 ·have hok:aV t=true:=by simpa using c0
  have hT:=cA hok;have hn:=zC (n:=t.arity) ⟨hT.1,hT.2.1⟩;refine⟨aAq _,aRb t.arity (by omega),aAq _,⟨0,bU t.arity,([]:List aR),rfl,rfl,rfl,rfl,rfl,rfl,aBn _,rfl,rfl⟩,fun k l2 out ⟨hk,hl,ho⟩=>?_⟩;have hlen:l2.length=(bU t.arity).length - k:=by rw[hl,aXe]
  refine dd (fun c1=>?_) fun c1=>?_
  ·refine⟨rfl,(by rw[hl];exact aQ5 (by omega)),fun x6 l6 t6=>?_⟩;have hdx:=hl.symm.trans t6;have hx:=aQ7 hdx;have hx3:=aBb hx;refine⟨by omega,by simp,by omega,rfl,rfl,rfl,aNN t x6 (by omega),rfl,rfl,rfl,rfl,by (simp[ho];omega),⟨by omega,by omega⟩,?_⟩;exact⟨k+1,_,_,rfl,rfl,rfl,rfl,rfl,rfl,⟨by omega,aQ6 hdx,by rw[ho,bR hx,aLt];rfl⟩,by omega⟩
  ·apply et4<;>(first|(rw[iE hok]<;>rfl)|(rw[iE hok,ho,aIs (by omega)]))
abbrev aAl (t:aY):AV × List (Nat × Rs):=(.agg [.p none (.str ((bD t).name)),vI ((bD t).arity),vI ((bD t).rowCount),.own 0],[(0,.arr 220 3 true ((bD t).groups.map aD))])
abbrev aDq (t:aY):Prop:=Cn 178 [.agg [.str t.name,.int .i64 t.arity,.sl 91 1 (t.rows.map aC)]] (aAl t).1 (aAl t).2
theorem aQ8 (t:aY):aDq t:=by
 refine cq Tryz.func178 (.call (vB (aV t)) []<| .br (.fin []) (.len t.rows.length<| bI (zB t.arity)<| .loop (Nat × (List (List Int)) × (List aR)) (Q3 Nat (List (List Int)) (List aR)) ([5,6,7]++rg 23 27) [300,2200,3500,3501,4700,4800,9000,50807] (fun yy0=>[(5,vI (yy0.1:Int))]) (fun yy0=>[(300,some (.box 88 [.p none (.str t.name),vI t.arity,vI (t.rows.length:Int),.own 9000])),(9000,some (.arr 220 3 true (yy0.2.2.map aD))),(2200,some (.arr 91 1 true (List.replicate yy0.1 [bP.gone]++yy0.2.1.map aC)))]) (fun yy0=>yy0.1<=(bU t.arity).length/\yy0.2.1=(bU t.arity).drop yy0.1/\yy0.2.2=((bU t.arity).take yy0.1).map (tZ t)) (fun yy0=>(bU t.arity).length - yy0.1) (fun yy0=> .len (yy0.1+yy0.2.1.length)<| .br (.takeg 8 2200 yy0.1 50807 (List Int) aC yy0.2.1 (fun x8 l8=> .len (yy0.1+(l8.length+1))<| bI (aB9 t x8)<| .len (yy0.1+(l8.length+1))<| .appx aR aD yy0.2.2 (⟨x8,(dX t x8).1,(dX t x8).2⟩:aR)<| .leave 7 2200 yy0.1 50807 (List Int) aC x8 l8 (.back [(300,300),(2200,2200),(9000,4800)]))) (.fin [(0,9000)])))) (p:=Lx (t.rows.map aC)<| oL t/\Nr (aV t) (ByteArray.empty=((bD t).name)/\0=((bD t).arity)/\0=((bD t).rowCount)/\[]=(bD t).groups.map aD/\True) (Lm aC t.rows/\(aE0 t.arity/\((∃(k:Nat) (l2:List (List Int)) (out:List aR),0=(k:Int)/\t.name=t.name/\t.arity=t.arity/\(t.rows.length:Int)=(t.rows.length:Int)/\[]=out.map aD/\(bU t.arity).map aC=List.replicate k [bP.gone]++l2.map aC/\k<=(bU t.arity).length/\l2=(bU t.arity).drop k/\out=((bU t.arity).take k).map (tZ t))/\ ∀(k:Nat) (l2:List (List Int)) (out:List aR),(k<=(bU t.arity).length/\l2=(bU t.arity).drop k/\out=((bU t.arity).take k).map (tZ t))->(List.replicate k [bP.gone]++l2.map aC).length=k+l2.length/\Br ((k:Int)<((k+l2.length:Nat):Int)) (List.replicate k [bP.gone]++l2.map aC=List.replicate k [bP.gone]++l2.map aC/\l2≠[]/\ ∀x8 l8,l2=x8::l8->0<=(k:Int)/\(List.replicate k [bP.gone]++(x8::l8).map aC).length=k+(l8.length+1)/\(k:Int)<((k+(l8.length+1):Nat):Int)/\k=k/\aGs t x8/\0<=(k:Int)/\(List.replicate k [bP.gone]++(x8::l8).map aC).length=k+(l8.length+1)/\(k:Int)<((k+(l8.length+1):Nat):Int)/\k=k/\out.map aD=out.map aD/\x8.map intD=(⟨x8,(dX t x8).1,(dX t x8).2⟩:aR).columns.map intD/\(dX t x8).1.map aC=(⟨x8,(dX t x8).1,(dX t x8).2⟩:aR).values.map aC/\(dX t x8).2.map intD=(⟨x8,(dX t x8).1,(dX t x8).2⟩:aR).counts.map intD/\(out.length+1)*72<=140737488355328/\List.replicate k [bP.gone]++(x8::l8).map aC=List.replicate k [bP.gone]++(x8::l8).map aC/\k=k/\bJ ((k:Int)+1)/\ ∃(k' :Nat) (l2' :List (List Int)) (out' :List aR),((k:Int)+1)=(k' :Int)/\t.name=t.name/\t.arity=t.arity/\(t.rows.length:Int)=(t.rows.length:Int)/\(out++[(⟨x8,(dX t x8).1,(dX t x8).2⟩:aR)]).map aD=out'.map aD/\List.replicate (k+1) [bP.gone]++l8.map aC=List.replicate k' [bP.gone]++l2'.map aC/\(k' <=(bU t.arity).length/\l2' =(bU t.arity).drop k' /\out' =((bU t.arity).take k').map (tZ t))/\(bU t.arity).length - k' <(bU t.arity).length - k) (t.name=((bD t).name)/\t.arity=((bD t).arity)/\(t.rows.length:Int)=((bD t).rowCount)/\out.map aD=(bD t).groups.map aD/\True))))) (by kernel_rfl) ?_;refine lx fun n0=>?_;refine⟨yU t,dm (fun c0=>?_) fun c0=>?_⟩
 ·have hbad:aV t=false:=by simpa using c0
  apply et4<;>((rw[aBa hbad]<;>rfl))
 ·have hok:aV t=true:=by simpa using c0
  have hT:=cA hok;have hn:=zC (n:=t.arity) ⟨hT.1,hT.2.1⟩;refine⟨aAq _,aRc t.arity (by omega),⟨0,bU t.arity,([]:List aR),rfl,rfl,rfl,rfl,rfl,rfl,aBn _,rfl,rfl⟩,fun k l2 out ⟨hk,hl,ho⟩=>?_⟩;have hlen:l2.length=(bU t.arity).length - k:=by rw[hl,aXe]
  refine⟨by simp,dd (fun c1=>?_) fun c1=>?_⟩
  ·refine⟨rfl,(by rw[hl];exact aQ5 (by omega)),fun x8 l8 t8=>?_⟩;have hdx:=hl.symm.trans t8;have hx:=aQ7 hdx;have hx3:=aBb hx;refine⟨by omega,by simp,by omega,rfl,aUV t x8 (by omega),by omega,by simp,by omega,rfl,rfl,rfl,rfl,rfl,by (simp[ho];omega),rfl,rfl,⟨by omega,by omega⟩,?_⟩;exact⟨k+1,_,_,rfl,rfl,rfl,rfl,rfl,rfl,⟨by omega,aQ6 hdx,by rw[ho,bR hx,aLt];rfl⟩,by omega⟩
  ·apply et4<;>(first|(rw[iE hok]<;>rfl)|(rw[iE hok,ho,aIs (by omega)]))
abbrev aBc (x:aM):AV × List (Nat × Rs):=(.agg [.p none (.str x.name),vI x.arity,vI x.rowCount,.own 0],[(0,.arr 220 3 true (x.groups.map aD))])
abbrev aGv (x:aM):Prop:=Cn 205 [.agg [.str x.name,.int .i64 x.arity,.int .i64 x.rowCount,.sl 220 3 (x.groups.map aD)]] (aBc x).1 (aBc x).2
theorem aUW (x:aM)(hc:bH x<=1048576):aGv x:=by
 refine cq Tryz.func205 (.len x.groups.length<| .loop (Nat × (List aR)) (Q2 Nat (List aR)) ([3,5,6]++rg 10 18) [500,600,1700,2000,2300,2500,2600] (fun yy0=>[(3,.own 600),(10,vI (yy0.1:Int))]) (fun yy0=>[(600,some (.arr 220 3 true (yy0.2.map aD)))]) (fun yy0=>yy0.1<=x.groups.length/\yy0.2=x.groups.take yy0.1) (fun yy0=>x.groups.length - yy0.1) (fun yy0=> .br (.elem _ aD x.groups (fun e12=>bI (aEW e12.columns)<| bI (aKL e12.values)<| bI (aEW e12.counts)<| .appx aR aD yy0.2 e12<| .back [(600,2600)])) (.fin [(0,600)]))) (p:=Lx (x.groups.map aD)<| Lm aD x.groups/\((∃(k:Nat) (out:List aR),0=(k:Int)/\[]=out.map aD/\k<=x.groups.length/\out=x.groups.take k)/\ ∀(k:Nat) (out:List aR),(k<=x.groups.length/\out=x.groups.take k)->Br ((k:Int)<(x.groups.length:Int)) (0<=(k:Int)/\Em aD x.groups k fun e12=>aGj e12.columns/\aND e12.values/\aGj e12.counts/\out.map aD=out.map aD/\e12.columns.map intD=e12.columns.map intD/\e12.values.map aC=e12.values.map aC/\e12.counts.map intD=e12.counts.map intD/\(out.length+1)*72<=140737488355328/\bJ ((k:Int)+1)/\ ∃(k' :Nat) (out' :List aR),((k:Int)+1)=(k' :Int)/\(out++[e12]).map aD=out'.map aD/\(k' <=x.groups.length/\out' =x.groups.take k')/\x.groups.length - k' <x.groups.length - k) (x.name=x.name/\x.arity=x.arity/\x.rowCount=x.rowCount/\out.map aD=x.groups.map aD/\True))) (by kernel_rfl) ?_;refine lx fun n0=>?_;have q2:bH x=x.name.size+dN x.groups:=rfl;have q5:=gI x.groups;refine⟨aAq _,⟨0,([]:List aR),rfl,rfl,aBn _,rfl⟩,fun k out ⟨hk,ho⟩=>?_⟩;refine dd (fun c0=>?_) fun c0=>?_
 ·refine⟨by omega,rfl,by omega,fun e12 h12=>?_⟩;have q1:=gY h12;have q3:bW e12=cE e12.columns+cR e12.values+cE e12.counts:=rfl;have q6:cE e12.columns=e12.columns.length:=rfl;have q7:cE e12.counts=e12.counts.length:=rfl;have q8:=fH e12.values;refine⟨cpI _ (by omega),cpR _ (by omega),cpI _ (by omega),rfl,rfl,rfl,rfl,by simp[ho];omega,⟨by omega,by omega⟩,?_⟩;exact⟨k+1,out++[e12],rfl,rfl,⟨by omega,by rw[ho,bR h12]⟩,by omega⟩
 ·refine⟨rfl,rfl,rfl,?_,trivial⟩
  ·rw[ho,aIs (by omega)]
def lB (x:aM):List (List Int):=(x.groups.getD (x.groups.length - 1) eG).values
def dR (x:aM):aY:=⟨x.name,x.arity,lB x⟩
def cG (x:aM):Bool:=aV (dR x)&&decide (bD (dR x)=x)
theorem aNS {x:aM}{g:aR}(h:x.groups[x.groups.length - 1]? =some g):lB x=g.values:=by rw[lB,bM h]
theorem aRd {x:aM}(h:x.groups.length=0):lB x= []:=by
 rw[lB,List.length_eq_zero_iff.1 h];rfl
abbrev qO (x:aM):AV × List (Nat × Rs):=(.tup [.agg [.p none (.str ((dR x).name)),vI ((dR x).arity),.own 0],vB (cG x)],[(0,.arr 91 1 true ((dR x).rows.map aC))])
abbrev vO (x:aM):Prop:=Cn 240 [.agg [.str x.name,.int .i64 x.arity,.int .i64 x.rowCount,.sl 220 3 (x.groups.map aD)]] (qO x).1 (qO x).2
theorem aGw (x:aM)(hc:bH x<=1048576):vO x:=by
 refine cq Tryz.func240 (.len x.groups.length<| .br (.elem _ aD x.groups (fun e20=>bI (aKL e20.values)<| .call (vB (aV (⟨x.name,x.arity,e20.values⟩:aY))) []<| .br (bI (aAk (⟨x.name,x.arity,e20.values⟩:aY))<| .call (vB (decide ((bD (⟨x.name,x.arity,e20.values⟩:aY))=x))) []<| .fin [(0,2300)]) (.fin [(0,2300)]))) (.call (vB (aV (⟨x.name,x.arity,([]:List (List Int))⟩:aY))) []<| .br (.call (.agg [.p none (.str ((bD (⟨x.name,x.arity,([]:List (List Int))⟩:aY)).name)),vI ((bD (⟨x.name,x.arity,([]:List (List Int))⟩:aY)).arity),vI ((bD (⟨x.name,x.arity,([]:List (List Int))⟩:aY)).rowCount),.own 0]) [(0,.arr 220 3 true (((bD (⟨x.name,x.arity,([]:List (List Int))⟩:aY)).groups).map aD))]<| .call (vB (decide ((bD (⟨x.name,x.arity,([]:List (List Int))⟩:aY))=x))) []<| .fin []) (.fin []))) (p:=Lx (x.groups.map aD)<| Lm aD x.groups/\Br (0<(x.groups.length:Int)) (bJ ((x.groups.length:Int) - 1)/\0<=((x.groups.length:Int) - 1)/\Em aD x.groups (((x.groups.length:Int) - 1).toNat) fun e20=>aND e20.values/\rP (⟨x.name,x.arity,e20.values⟩:aY)/\Bb (aV (⟨x.name,x.arity,e20.values⟩:aY)) (aDp (⟨x.name,x.arity,e20.values⟩:aY)/\nM (bD (⟨x.name,x.arity,e20.values⟩:aY)) x/\x.name=((dR x).name)/\x.arity=((dR x).arity)/\(decide ((bD (⟨x.name,x.arity,e20.values⟩:aY))=x))=(cG x)/\e20.values.map aC=(dR x).rows.map aC/\True) (x.name=((dR x).name)/\x.arity=((dR x).arity)/\(false)=(cG x)/\e20.values.map aC=(dR x).rows.map aC/\True)) (qJ Tryz.prog 194 [.agg [.str x.name,.int .i64 x.arity,.sl 0 1 ([])]] (vB (aV (⟨x.name,x.arity,([]:List (List Int))⟩:aY))) []/\Bb (aV (⟨x.name,x.arity,([]:List (List Int))⟩:aY)) (qJ Tryz.prog 186 [.agg [.str x.name,.int .i64 x.arity,.sl 0 1 ([])]] (.agg [.p none (.str ((bD (⟨x.name,x.arity,([]:List (List Int))⟩:aY)).name)),vI ((bD (⟨x.name,x.arity,([]:List (List Int))⟩:aY)).arity),vI ((bD (⟨x.name,x.arity,([]:List (List Int))⟩:aY)).rowCount),.own 0]) [(0,.arr 220 3 true (((bD (⟨x.name,x.arity,([]:List (List Int))⟩:aY)).groups).map aD))]/\nM (bD (⟨x.name,x.arity,([]:List (List Int))⟩:aY)) x/\x.name=((dR x).name)/\x.arity=((dR x).arity)/\(decide ((bD (⟨x.name,x.arity,([]:List (List Int))⟩:aY))=x))=(cG x)/\[]=(dR x).rows.map aC/\True) (x.name=((dR x).name)/\x.arity=((dR x).arity)/\(false)=(cG x)/\[]=(dR x).rows.map aC/\True))) (by kernel_rfl) ?_;refine lx fun n0=>?_;have q2:bH x=x.name.size+dN x.groups:=rfl;have q5:=gI x.groups;refine⟨aAq _,dd (fun c0=>?_) fun c0=>?_⟩
 ·refine⟨⟨by omega,by omega⟩,by omega,rfl,by omega,fun e20 h20=>?_⟩;have i20:x.groups[x.groups.length - 1]? =some e20:=by rw[<-h20];congr 1;omega
  have hT:lB x=e20.values:=aNS i20;have q1:=gY i20;have q3:bW e20=cE e20.columns+cR e20.values+cE e20.counts:=rfl;have q6:cE e20.columns=e20.columns.length:=rfl;have q7:cE e20.counts=e20.counts.length:=rfl;have q8:=fH e20.values;refine⟨cpR _ (by omega),yT (⟨x.name,x.arity,e20.values⟩:aY),db (fun g28=>?_) fun g28=>?_⟩
  ·refine⟨aLi (⟨x.name,x.arity,e20.values⟩:aY),vL _ _,?_,?_,?_,?_,trivial⟩<;>(first|(rw[dR,hT]<;>rfl)|(simp[cG,dR,hT, *];done))
  ·apply et4<;>(first|(rw[dR,hT]<;>rfl)|(simp[cG,dR,hT, *];done))
 ·have hT:lB x= []:=aRd (by omega);refine⟨qJ.imp (fun A w vs h=>by simpa only [nZ,aM1,iU,aMa,List.map_nil] using h) (yT (⟨x.name,x.arity,([]:List (List Int))⟩:aY)),?_⟩;refine db (fun g28=>?_) fun g28=>?_
  ·refine⟨qJ.imp (fun A w vs h=>by simpa only [nZ,aM1,iU,aMa,List.map_nil] using h) (aLi (⟨x.name,x.arity,([]:List (List Int))⟩:aY)),?_⟩;refine⟨vL _ _,?_,?_,?_,?_,trivial⟩<;>(first|(rw[dR,hT]<;>rfl)|(simp[cG,dR,hT, *];done))
  ·apply et4<;>(first|(rw[dR,hT]<;>rfl)|(simp[cG,dR,hT, *];done))
abbrev aBd (x:aM):Prop:=Cn 204 [.agg [.str x.name,.int .i64 x.arity,.int .i64 x.rowCount,.sl 220 3 (x.groups.map aD)]] (vB (cG x)) []
theorem aNT (x:aM)(hc:bH x<=1048576):aBd x:=by
 refine cq Tryz.func204 (bI (qO x)<| .fin []) (p:=Lx (x.groups.map aD)<| vO x/\(cG x)=(cG x)/\True) (by kernel_rfl) ?_;refine lx fun n0=>?_;refine⟨aGw x (by omega),?_⟩;exact⟨rfl,trivial⟩
theorem lJ (a:List Int)(l:List (List Int)):cR (a::l)=cR l+1+a.length:=by
 simp only[cR,aCY,cE,aLL,List.sum_cons,aSt];omega
theorem aNU (l:List (List Int)): ∀k,cR (l.take k)<=cR l:=by
 induction l with
 | nil=>intro k;simp
 | cons a l ih=>
   intro k;cases k with
   | zero=>rw[List.take_zero];exact aBn _
   | succ k=>rw[List.take_succ_cons,lJ,lJ];have:=ih k;omega
theorem aNV {row:List Int}: ∀{xs:List (List Int)},cR (kV row xs)<=cR xs+1+row.length
 | []=>by rw[aCv,lJ];exact aSw _
 | x::xs=>by
   by_cases h:0<cD x row
   ·rw[aCw h,lJ];omega
   by_cases h' :cD x row=0
   ·rw[aCx h'];omega
   rw[aCy h h',lJ,lJ];have:=aNV (row:=row) (xs:=xs);omega
theorem aQ9 {row:List Int}: ∀{xs:List (List Int)},xs.length<=(kV row xs).length
 | []=>by simp
 | x::xs=>by
   by_cases h:0<cD x row
   ·rw[aCw h];simp
   by_cases h' :cD x row=0
   ·rw[aCx h'];simp
   rw[aCy h h'];have:=aQ9 (row:=row) (xs:=xs);simp only[aSt];omega
theorem aNW (l:List (List Int)): ∀acc,cR (l.foldl (fun acc x=>kV x acc) acc)<=cR acc+cR l/\acc.length<=(l.foldl (fun acc x=>kV x acc) acc).length:=by
 induction l with
 | nil=>intro acc;simp
 | cons x l ih=>
   intro acc;obtain⟨h1,h2⟩:=ih (kV x acc);have h3:=aNV (row:=x) (xs:=acc);have h4:=aQ9 (row:=x) (xs:=acc);rw[List.foldl_cons,lJ];exact⟨by omega,by omega⟩
theorem aNX (l:List (List Int))(k:Nat):cR (cK (l.take k))<=cR l:=by
 have h1:=(aNW (l.take k) []).1;have h2:=aNU l k;have h3:cR ([]:List (List Int))=0:=rfl;unfold cK;omega
theorem aLj (l:List (List Int))(k:Nat):(cK (l.take k)).length<=(cK l).length:=by
 have h:=(aNW (l.drop k) (cK (l.take k))).2
 have e:cK l=(l.drop k).foldl (fun acc x=>kV x acc) (cK (l.take k)):=by
  unfold cK;rw[<-List.foldl_append,List.take_append_drop]
 rw[e];exact h
def nH (name:ByteArray)(arity:Int)(rows:List (List Int)):aY × Bool:=if aV ⟨name,arity,cK rows⟩=true then (⟨name,arity,cK rows⟩,true) else (gH,false)
theorem uA {name:ByteArray}{arity:Int}{rows:List (List Int)}(h:aV ⟨name,arity,cK rows⟩=true):nH name arity rows=(⟨name,arity,cK rows⟩,true):=by rw[nH,if_pos h]
theorem aLk {name:ByteArray}{arity:Int}{rows:List (List Int)}(h:aV ⟨name,arity,cK rows⟩=false):nH name arity rows=(gH,false):=by rw[nH,if_neg (by rw[h];decide)]
theorem aE1 {t:aY}(h:8<t.rows.length):aV t=false:=by
 cases e:aV t with
 | false=>rfl
 | true=>have:=cA e;omega
theorem aNY {name:ByteArray}{arity:Int}{rows:List (List Int)}{k:Nat}{acc:List (List Int)}(ha:acc=cK (rows.take k))(h:rows.length<=k\/8<acc.length):aV ⟨name,arity,acc⟩=aV ⟨name,arity,cK rows⟩/\(aV ⟨name,arity,acc⟩=true->acc=cK rows):=by
 by_cases h1:8<acc.length
 ·have h2:=aLj rows k;rw[<-ha] at h2;have q1:=aE1 (t:=⟨name,arity,acc⟩) h1;rw[q1,aE1 (t:=⟨name,arity,cK rows⟩) (show 8<(cK rows).length by omega)];exact⟨rfl,fun q=>by cases q⟩
 have e:acc=cK rows:=by rw[ha,aIs (by omega)]
 rw[e];exact⟨rfl,fun _=>rfl⟩
theorem aUX: ∀{l:List (List Int)},(∀i,i+1<l.length->cD (l.getD i []) (l.getD (i+1) [])<0)->Asc l
 | [],_=>List.Pairwise.nil
 | [a],_=>List.pairwise_singleton _ _
 | a::b::l,h=>by
   have ih:=aUX (l:=b::l) fun i hi=>by
    have:=h (i+1) (by simpa using hi);simpa using this
   have h0:cD a b<0:=by
    have:=h 0 (by simp);simpa using this
   refine List.pairwise_cons.2 ⟨fun y hy=>?_,ih⟩;rcases aOn.1 hy with rfl | q
   ·exact h0
   exact mJ h0 ((List.pairwise_cons.1 ih).1 y q)
theorem aNZ {l:List (List Int)}(h:aDl l=true):Asc l:=aUX fun i hi=>by
 have:=aIt.1 h i (aSv.2 (by omega));simpa [mB] using this
theorem pC {t:aY}(h:aV t=true):t.rows.all (jY t.arity)=true/\gJ t.name=true/\aDl t.rows=true:=by
 simp only[aV,aBH] at h;exact⟨h.1,h.2.1,h.2.2.2.2⟩
theorem aE2 {l:List (List Int)}(h:Asc l):cK l=l:=by
 obtain⟨h1,h2,_⟩:=sU l [] List.Pairwise.nil;exact aFf h1 h fun x=>by have:=h2 x;simpa [cK] using this
theorem pD {t:aY}(h:aV t=true){r:List Int}(hr:r∈t.rows):(r.length:Int)=t.arity:=by
 have:=aIt.1 (pC h).1 r hr;simp only[jY,aBH,aWB] at this;exact this.2
def aPL (n:Int):List Int:=eX ((2:Int)^n.toNat - 1)
theorem aWx {n:Int}(hn:1<=n/\n<=3){r:List Int}(h:(r.length:Int)=n):(fL r (aPL n)).1=r:=by
 have h1:n=1\/n=2\/n=3:=by omega
 rcases h1 with rfl | rfl | rfl
 ·match r,h with
  | [a],_=>rfl
  | [],h=>simp at h
  | _::_::_,h=>simp at h;omega
 ·match r,h with
  | [a,b],_=>rfl
  | [],h=>simp at h
  | [_],h=>simp at h
  | _::_::_::_,h=>simp at h;omega
 match r,h with
 | [a,b,c],_=>rfl
 | [],h=>simp at h
 | [_],h=>simp at h
 | [_,_],h=>simp at h
 | _::_::_::_::_,h=>simp at h;omega
theorem aUY {n:Int}(hn:1<=n/\n<=3):dT (n - 1) (aPL n)=true:=by
 have h1:n=1\/n=2\/n=3:=by omega
 rcases h1 with rfl | rfl | rfl<;>decide
theorem aLl {n:Int}(hn:1<=n/\n<=3):0<(bU n).length/\(bU n)[(bU n).length - 1]? =some (aPL n):=by
 have h1:n=1\/n=2\/n=3:=by omega
 rcases h1 with rfl | rfl | rfl<;>decide
theorem aUZ {t:aY}(h:aV t=true):(dX t (aPL t.arity)).1=t.rows:=by
 have hT:=cA h;have hc:=aUY (n:=t.arity) ⟨hT.1,hT.2.1⟩;rw[rT (by rw[h,hc];rfl)]
 have e:kN t (aPL t.arity)=t.rows:=by
  rw[kN]
  conv=>rhs;rw[<-List.map_id t.rows]
  exact List.map_congr_left fun r hr=>aWx ⟨hT.1,hT.2.1⟩ (pD h hr)
 show fT (dF (kN t (aPL t.arity)))=t.rows;rw[e,<-sV,aE2 (aNZ (pC h).2.2)]
theorem zD {t:aY}(h:aV t=true):lB (bD t)=t.rows/\(bD t).groups≠[]:=by
 have hT:=cA h;obtain⟨h0,h1⟩:=aLl (n:=t.arity) ⟨hT.1,hT.2.1⟩;rw[iE h];constructor
 ·rw[lB];show (((bU t.arity).map (tZ t)).getD (((bU t.arity).map (tZ t)).length - 1) eG).values=t.rows;rw[aAq,bM (x:=tZ t (aPL t.arity)) (by rw[aZH,h1];rfl)];exact aUZ h
 intro e;have:((bU t.arity).map (tZ t)).length=0:=congrArg List.length e;rw[aAq] at this;omega
def nO (x:aM):aY × Bool:=if x.groups.length=0 then (gH,false) else nH x.name x.arity (lB x)
theorem aWy {x:aM}(h:cG x=true):nO x=(dR x,true):=by
 simp only[cG,aBH,aWB] at h;have h2:=(zD h.1).2;rw[h.2] at h2;rw[nO,if_neg (fun e=>h2 (aKD e))];have e:=aE2 (aNZ (pC h.1).2.2);rw[show (dR x).rows=lB x from rfl] at e;rw[uA (by rw[e];exact h.1),e];rfl
theorem aRe (x:aM):((nO x).2&&decide (bD (nO x).1=x))=cG x:=by
 cases h:cG x with
 | true=>
   rw[aWy h];simp only[cG,aBH,aWB] at h;simp[h.2]
 | false=>
   rw[nO];split
   ·rfl
   cases e:aV ⟨x.name,x.arity,cK (lB x)⟩ with
   | false=>rw[aLk e];rfl
   | true=>
     rw[uA e];simp only[Bool.true_and];by_cases q:bD ⟨x.name,x.arity,cK (lB x)⟩=x
     ·exfalso;have h3:=(zD e).1;rw[q] at h3
      have h4:dR x=⟨x.name,x.arity,cK (lB x)⟩:=by
       rw[dR]
       congr 1
      rw[cG,h4,e,q] at h;simp at h
     simp[q]
theorem uB {x:aM}(h:cG x=true):aV (dR x)=true/\bD (dR x)=x:=by
 simpa only [cG,aBH,aWB] using h
theorem aGx {x:aM}(h:cG x=true):x.groups=(bU x.arity).map (tZ (dR x)):=by
 obtain⟨h1,h2⟩:=uB h;rw[iE h1] at h2;exact(congrArg aM.groups h2).symm
theorem aRf {x:aM}(h:cG x=true):x.rowCount=((lB x).length:Nat):=by
 obtain⟨h1,h2⟩:=uB h;rw[iE h1] at h2;exact(congrArg aM.rowCount h2).symm
theorem aAm {x:aM}(h:cG x=true):1<=x.arity/\x.arity<=3:=by
 have:=cA (uB h).1;exact⟨this.1,this.2.1⟩
theorem aLm {α:Type}{p:α->Bool}{l:List α}{k:Nat}{x:α}(h:l[k]? =some x)(ha:(l.take k).all (fun y=> !p y)=true)(hx:p x=true):l.find? p=some x:=by
 rw[List.find?_eq_some_iff_getElem];obtain⟨hk,rfl⟩:=aHE.1 h;refine⟨hx,k,hk,rfl,fun j hj=>?_⟩;have:=aIt.1 ha l[j] (List.mem_iff_getElem.2 ⟨j,by simp;omega,by simp⟩);exact this
theorem aLn {α:Type}{p:α->Bool}{l:List α}(ha:l.all (fun y=> !p y)=true):l.find? p=none:=by
 rw[List.find?_eq_none];intro x hx;have:=aIt.1 ha x hx;simpa using this
def gK (l:List aY)(i:Nat):Bool:=Op.bytesLess (l.getD i gH).name.toList (l.getD (i+1) gH).name.toList
def iX (d:aU):Bool:=d.tables.all aV&&((List.range (d.tables.length - 1)).all (gK d.tables)&&decide ((d.tables.length:Int)<=6))
abbrev aDr (t:aU):Prop:=Cn 137 [.agg [.sl 142 3 (t.tables.map aS)]] (vB (iX t)) []
theorem aQa (t:aU):aDr t:=by
 refine cq Tryz.func137 (.len t.tables.length<| .loop Nat (Q1 Nat) ([3,4]++rg 8 25) [400] (fun k=>[(8,vI (k:Int))]) (fun k=>[]) (fun k=>k<=t.tables.length/\(t.tables.take k).all aV=true/\(List.range (k - 1)).all (gK t.tables)=true) (fun k=>t.tables.length - k) (fun k=> .br (.elem _ aS t.tables (fun e11=> .call (vB (aV e11)) []<| .br (.fin []) (.lit<| .lit<| .br (.elem _ aS t.tables (fun e24=> .lit<| .lit<| .lit<| .lit<| .lit<| .lit<| .lit<| .lit<| .br (.fin []) (.back []))) (.back [])))) (.len t.tables.length<| .fin []))) (p:=Lx (t.tables.map aS)<| Lm aS t.tables/\((∃(k:Nat),0=(k:Int)/\k<=t.tables.length/\(t.tables.take k).all aV=true/\(List.range (k - 1)).all (gK t.tables)=true)/\ ∀(k:Nat),(k<=t.tables.length/\(t.tables.take k).all aV=true/\(List.range (k - 1)).all (gK t.tables)=true)->Br ((k:Int)<(t.tables.length:Int)) (0<=(k:Int)/\Em aS t.tables k fun e11=>rP e11/\Nr (aV e11) ((false)=(iX t)/\True) (Br (0<(k:Int)) (bJ ((k:Int) - 1)/\0<=((k:Int) - 1)/\Em aS t.tables (((k:Int) - 1).toNat) fun e24=>Nr (Op.bytesLess e24.name.toList e11.name.toList) ((false)=(iX t)/\True) (bJ ((k:Int)+1)/\ ∃(k' :Nat),((k:Int)+1)=(k' :Int)/\(k' <=t.tables.length/\(t.tables.take k').all aV=true/\(List.range (k' - 1)).all (gK t.tables)=true)/\t.tables.length - k' <t.tables.length - k)) (bJ ((k:Int)+1)/\ ∃(k' :Nat),((k:Int)+1)=(k' :Int)/\(k' <=t.tables.length/\(t.tables.take k').all aV=true/\(List.range (k' - 1)).all (gK t.tables)=true)/\t.tables.length - k' <t.tables.length - k))) (Lm aS t.tables/\(decide ((t.tables.length:Int)<=6))=(iX t)/\True))) (by kernel_rfl) ?_;refine lx fun n0=>?_;refine⟨aAq _,⟨0,rfl,aBn _,rfl,rfl⟩,fun k ⟨hk,ha,hs⟩=>?_⟩;refine dd (fun c0=>?_) fun c0=>?_
 ·refine⟨by omega,rfl,by omega,fun e11 h11=>?_⟩;refine⟨yT e11,dm (fun g16=>?_) fun g16=>?_⟩
  ·apply et1
   ·(rw[iX,eL h11 g16];rfl)
  ·refine dd (fun g19=>?_) fun g19=>?_
   ·refine⟨⟨by omega,by omega⟩,by omega,rfl,by omega,fun e24 h24=>?_⟩;have i1:t.tables[k - 1]? =some e24:=by rw[<-h24];congr 1;omega
    refine dm (fun c1=>?_) fun c1=>?_
    ·have hp:gK t.tables (k - 1)=false:=by rw[gK,bM i1,show k - 1+1=k by omega,bM h11];simpa using c1
     have hz:(List.range (t.tables.length - 1)).all (gK t.tables)=false:=gZ (by omega) hp;apply et1
     ·(rw[iX,hz];simp[*];done)
    ·have hp:gK t.tables (k - 1)=true:=by rw[gK,bM i1,show k - 1+1=k by omega,bM h11];simpa using c1
     have hs2:(List.range (k+1 - 1)).all (gK t.tables)=true:=by rw[show k+1 - 1=(k - 1)+1 by omega];exact jP hs hp
     refine⟨⟨by omega,by omega⟩,?_⟩;exact⟨k+1,rfl,⟨by omega,cL h11 ha g16,hs2⟩,by omega⟩
   ·have hs2:(List.range (k+1 - 1)).all (gK t.tables)=true:=by rw[show k=0 by omega];rfl
    refine⟨⟨by omega,by omega⟩,?_⟩;exact⟨k+1,rfl,⟨by omega,cL h11 ha g16,hs2⟩,by omega⟩
 ·have hall:=cZ (by omega) ha;have hz:(List.range (t.tables.length - 1)).all (gK t.tables)=true:=by rw[show t.tables.length - 1=k - 1 by omega,hs]
  refine⟨aAq _,?_,trivial⟩
  ·(rw[iX,hz];simp[*];done)
abbrev aDs (t:aU):Prop:=Cn 177 [.agg [.sl 142 3 (t.tables.map aS)]] (vB (iX t)) []
theorem aQb (t:aU):aDs t:=by
 refine cq Tryz.func177 (.loop Nat (Q1 Nat) (rg 3 35) [] (fun k=>[(3,vI (k:Int))]) (fun k=>[]) (fun k=>k<=t.tables.length/\(t.tables.take k).all aV=true/\(List.range (k - 1)).all (gK t.tables)=true) (fun k=>t.tables.length - k) (fun k=> .len t.tables.length<| .br (.elem _ aS t.tables (fun e14=> .call (vB (aV e14)) []<| .br (.fin []) (.lit<| .lit<| .br (.elem _ aS t.tables (fun e26=> .elem _ aS t.tables (fun e32=> .lit<| .lit<| .lit<| .lit<| .lit<| .lit<| .br (.fin []) (.back [])))) (.back [])))) (.len t.tables.length<| .fin []))) (p:=Lx (t.tables.map aS)<| (∃(k:Nat),0=(k:Int)/\k<=t.tables.length/\(t.tables.take k).all aV=true/\(List.range (k - 1)).all (gK t.tables)=true)/\ ∀(k:Nat),(k<=t.tables.length/\(t.tables.take k).all aV=true/\(List.range (k - 1)).all (gK t.tables)=true)->Lm aS t.tables/\Br ((k:Int)<(t.tables.length:Int)) (0<=(k:Int)/\Em aS t.tables k fun e14=>oL e14/\Nr (aV e14) ((false)=(iX t)/\True) (Br (0<(k:Int)) (bJ ((k:Int) - 1)/\0<=((k:Int) - 1)/\Em aS t.tables (((k:Int) - 1).toNat) fun e26=>0<=(k:Int)/\Em aS t.tables k fun e32=>Nr (Op.bytesLess e26.name.toList e32.name.toList) ((false)=(iX t)/\True) (bJ ((k:Int)+1)/\ ∃(k' :Nat),((k:Int)+1)=(k' :Int)/\(k' <=t.tables.length/\(t.tables.take k').all aV=true/\(List.range (k' - 1)).all (gK t.tables)=true)/\t.tables.length - k' <t.tables.length - k)) (bJ ((k:Int)+1)/\ ∃(k' :Nat),((k:Int)+1)=(k' :Int)/\(k' <=t.tables.length/\(t.tables.take k').all aV=true/\(List.range (k' - 1)).all (gK t.tables)=true)/\t.tables.length - k' <t.tables.length - k))) (Lm aS t.tables/\(decide ((t.tables.length:Int)<=6))=(iX t)/\True)) (by kernel_rfl) ?_;refine lx fun n0=>?_;refine⟨⟨0,rfl,aBn _,rfl,rfl⟩,fun k ⟨hk,ha,hs⟩=>?_⟩;refine⟨aAq _,dd (fun c0=>?_) fun c0=>?_⟩
 ·refine⟨by omega,rfl,by omega,fun e14 h14=>?_⟩;refine⟨yU e14,dm (fun g18=>?_) fun g18=>?_⟩
  ·apply et1
   ·(rw[iX,eL h14 g18];rfl)
  ·refine dd (fun g21=>?_) fun g21=>?_
   ·refine⟨⟨by omega,by omega⟩,by omega,rfl,by omega,fun e26 h26=>?_⟩;have i1:t.tables[k - 1]? =some e26:=by rw[<-h26];congr 1;omega
    refine⟨by omega,rfl,by omega,fun e32 h32=>?_⟩;refine dm (fun c1=>?_) fun c1=>?_
    ·have hp:gK t.tables (k - 1)=false:=by rw[gK,bM i1,show k - 1+1=k by omega,bM h32];simpa using c1
     have hz:(List.range (t.tables.length - 1)).all (gK t.tables)=false:=gZ (by omega) hp;apply et1
     ·(rw[iX,hz];simp[*];done)
    ·have hp:gK t.tables (k - 1)=true:=by rw[gK,bM i1,show k - 1+1=k by omega,bM h32];simpa using c1
     have hs2:(List.range (k+1 - 1)).all (gK t.tables)=true:=by rw[show k+1 - 1=(k - 1)+1 by omega];exact jP hs hp
     refine⟨⟨by omega,by omega⟩,?_⟩;exact⟨k+1,rfl,⟨by omega,cL h14 ha g18,hs2⟩,by omega⟩
   ·have hs2:(List.range (k+1 - 1)).all (gK t.tables)=true:=by rw[show k=0 by omega];rfl
    refine⟨⟨by omega,by omega⟩,?_⟩;exact⟨k+1,rfl,⟨by omega,cL h14 ha g18,hs2⟩,by omega⟩
 ·have hall:=cZ (by omega) ha;have hz:(List.range (t.tables.length - 1)).all (gK t.tables)=true:=by rw[show t.tables.length - 1=k - 1 by omega,hs]
  refine⟨aAq _,?_,trivial⟩
  ·(rw[iX,hz];simp[*];done)
end Go.Proofs.YtlidmoeecphbmaaGreat
