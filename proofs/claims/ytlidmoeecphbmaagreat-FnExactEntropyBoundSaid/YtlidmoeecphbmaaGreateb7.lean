/-
  Contracts and plain laws, joined: part 8.
-/
import Derived.Test.YtlidmoeecphbmaaGreateb6
import Derived.Test.YtlidmoeecphbmaaGreateb5
import Derived.Test.YtlidmoeecphbmaaGreateb3
import Derived.Test.YtlidmoeecphbmaaGreateb4
namespace Go.Proofs.YtlidmoeecphbmaaGreat
open Go.ChangeShapes Go.WideShapes Go.ChangeAt Go.RowKit
set_option linter.unusedVariables false
set_option linter.unusedSimpArgs false
set_option maxRecDepth 100000
set_option maxHeartbeats 4000000
def fL (s:Int)(v:Nat):Bool:=decide (cD .and .i64 (s/2^v) 1=1)
def lE (s:Int)(k:Nat):List Int:=((List.range k).filter (fL s)).map fun v:Nat=>(v:Int)
def eS (s:Int):List Int:=lE s 3
theorem aD1 {s:Int}{k:Nat}(h:cD .and .i64 (s/2^k) 1=1):lE s (k+1)=lE s k++[(k:Int)]:=by
 rw[lE,List.range_succ,List.filter_append,aKc];simp[lE,fL,h]
theorem aG8 {s:Int}{k:Nat}(h: ¬cD .and .i64 (s/2^k) 1=1):lE s (k+1)=lE s k:=by
 rw[lE,List.range_succ,List.filter_append,aKc];simp[lE,fL,h]
theorem aQu {s:Int}{k:Nat}(hs:0<=s/\s<=7)(hk:k<=3)(h:s/2^k=0):lE s k=eS s:=by
 have h1:s=0\/s=1\/s=2\/s=3\/s=4\/s=5\/s=6\/s=7:=by omega
 have h2:k=0\/k=1\/k=2\/k=3:=by omega
 rcases h2 with rfl|rfl|rfl|rfl<;>rcases h1 with rfl|rfl|rfl|rfl|rfl|rfl|rfl|rfl<;>first|rfl|(revert h;decide)
theorem aWM {s:Int}{k:Nat}(hs:0<=s/\s<=7)(hk:k<=3)(h: ¬s/2^k=0):k<3:=by
 by_cases q:k=3
 ·subst q;omega
 omega
theorem tO (s:Int)(k:Nat):(lE s k).length<=k:=by
 rw[lE,aA8];have:=(List.filter_sublist (l:=List.range k) (p:=fL s)).length_le;rw[List.length_range] at this;exact this
theorem qM {n:Int}(h:1<=n/\n<=3):2<=(2:Int)^n.toNat/\(2:Int)^n.toNat<=8:=by
 have:n=1\/n=2\/n=3:=by omega
 rcases this with rfl | rfl | rfl<;>decide
def rJ (k:Nat):List (List Int):=(List.range k).map fun i=>eS ((i+1:Nat):Int)
def bT (n:Int):List (List Int):=rJ ((2:Int)^n.toNat - 1).toNat
theorem aG9 (k:Nat):rJ (k+1)=rJ k++[eS ((k+1:Nat):Int)]:=by rw[rJ,List.range_succ,aKc];rfl
abbrev sM (s:Int):AV × List (Nat × Rs):=(.own 0,[(0,.arr 3 1 true ((eS s).map intD))])
abbrev yK (s:Int):Prop:=Cn 206 [.one (.int .i64 s)] (sM s).1 (sM s).2
theorem aJo (s:Int)(hs:0<=s/\s<=7):yK s:=by
 refine cq Tryz.func206 (.loop (Nat × (List Int)) (Q2 Nat (List Int)) (rg 3 18) [500,1900,2000] (fun yy0=>[(4,vI (yy0.1:Int)),(3,.own 500)]) (fun yy0=>[(500,some (.arr 3 1 true (yy0.2.map intD)))]) (fun yy0=>yy0.1<=3/\yy0.2=lE s yy0.1) (fun yy0=>3 - yy0.1) (fun yy0=> .br (.br (.app Int intD yy0.2 ([(yy0.1:Int)]:List Int)<| .back [(500,2000)]) (.back [(500,500)])) (.fin [(0,500)]))) (p:=(∃(k:Nat) (out:List Int),0=(k:Int)/\[]=out.map intD/\k<=3/\out=lE s k)/\ ∀(k:Nat) (out:List Int),(k<=3/\out=lE s k)->(0<=(k:Int)/\(k:Int)<=64)/\Nb ((s/2^k)=0) ((0<=(k:Int)/\(k:Int)<=64)/\Br ((cD .and .i64 (s/2^k) (1:Int))=1) (Ap intD out ([(k:Int)]:List Int) 8 (bK ((k:Int)+1)/\ ∃(k' :Nat) (out' :List Int),((k:Int)+1)=(k' :Int)/\(out++[(k:Int)]).map intD=out'.map intD/\(k' <=3/\out' =lE s k')/\3 - k' <3 - k)) (bK ((k:Int)+1)/\ ∃(k' :Nat) (out' :List Int),((k:Int)+1)=(k' :Int)/\out.map intD=out'.map intD/\(k' <=3/\out' =lE s k')/\3 - k' <3 - k)) (out.map intD=(eS s).map intD/\True)) (by kernel_rfl) ?_;refine⟨⟨0,([]:List Int),rfl,rfl,by omega,rfl⟩,fun k out ⟨hk,ho⟩=>?_⟩;refine⟨⟨by omega,by omega⟩,dn (fun c0=>?_) fun c0=>?_⟩
 ·have hk3:=aWM hs hk c0;have hln:=tO s k;refine⟨⟨by omega,by omega⟩,dd (fun c1=>?_) fun c1=>?_⟩
  ·refine ap ?_ (fun _=>rfl) (by (simp[ho];omega));refine⟨⟨by omega,by omega⟩,?_⟩;exact⟨k+1,_,rfl,rfl,⟨by omega,by (rw[ho,aD1 c1];done)⟩,by omega⟩
  ·refine⟨⟨by omega,by omega⟩,?_⟩;exact⟨k+1,_,rfl,rfl,⟨by omega,by (rw[ho,aG8 c1];done)⟩,by omega⟩
 ·apply et1
  ·(rw[ho];exact congrArg _ (aQu hs hk c0))
abbrev sN (s:Int):AV × List (Nat × Rs):=(.own 0,[(0,.arr 3 1 true ((eS s).map intD))])
abbrev yL (s:Int):Prop:=Cn 200 [.one (.int .i64 s)] (sN s).1 (sN s).2
theorem aJp (s:Int)(hs:0<=s/\s<=7):yL s:=by
 refine cq Tryz.func200 (.loop (Nat × (List Int)) (Q2 Nat (List Int)) (rg 3 16) [500,1700,1800] (fun yy0=>[(4,vI (yy0.1:Int)),(3,.own 500)]) (fun yy0=>[(500,some (.arr 3 1 true (yy0.2.map intD)))]) (fun yy0=>yy0.1<=3/\yy0.2=lE s yy0.1) (fun yy0=>3 - yy0.1) (fun yy0=> .br (.br (.app Int intD yy0.2 ([(yy0.1:Int)]:List Int)<| .back [(500,1800)]) (.back [(500,500)])) (.fin [(0,500)]))) (p:=(∃(k:Nat) (out:List Int),0=(k:Int)/\[]=out.map intD/\k<=3/\out=lE s k)/\ ∀(k:Nat) (out:List Int),(k<=3/\out=lE s k)->Br ((k:Int)<3) ((0<=(k:Int)/\(k:Int)<=64)/\Br ((cD .and .i64 (s/2^k) (1:Int))=1) (Ap intD out ([(k:Int)]:List Int) 8 (bK ((k:Int)+1)/\ ∃(k' :Nat) (out' :List Int),((k:Int)+1)=(k' :Int)/\(out++[(k:Int)]).map intD=out'.map intD/\(k' <=3/\out' =lE s k')/\3 - k' <3 - k)) (bK ((k:Int)+1)/\ ∃(k' :Nat) (out' :List Int),((k:Int)+1)=(k' :Int)/\out.map intD=out'.map intD/\(k' <=3/\out' =lE s k')/\3 - k' <3 - k)) (out.map intD=(eS s).map intD/\True)) (by kernel_rfl) ?_;refine⟨⟨0,([]:List Int),rfl,rfl,by omega,rfl⟩,fun k out ⟨hk,ho⟩=>?_⟩;refine dd (fun c0=>?_) fun c0=>?_
 ·skip
  have hln:=tO s k;refine⟨⟨by omega,by omega⟩,dd (fun c1=>?_) fun c1=>?_⟩
  ·refine ap ?_ (fun _=>rfl) (by (simp[ho];omega));refine⟨⟨by omega,by omega⟩,?_⟩;exact⟨k+1,_,rfl,rfl,⟨by omega,by (rw[ho,aD1 c1];done)⟩,by omega⟩
  ·refine⟨⟨by omega,by omega⟩,?_⟩;exact⟨k+1,_,rfl,rfl,⟨by omega,by (rw[ho,aG8 c1];done)⟩,by omega⟩
 ·apply et1
  ·(rw[ho];exact congrArg _ (by rw[eS,show 3=k by omega]))
abbrev yM (n:Int):AV × List (Nat × Rs):=(.own 0,[(0,.arr 91 1 true ((bT n).map aC))])
abbrev aEB (n:Int):Prop:=Cn 227 [.one (.int .i64 n)] (yM n).1 (yM n).2
theorem aQv (n:Int)(hn:1<=n/\n<=3):aEB n:=by
 refine cq Tryz.func227 (.call (vB (eC n (1:Int) (3:Int))) []<| .br (.fin []) (.loop (Nat × (List (List Int))) (Q2 Nat (List (List Int))) ([3,4]++rg 8 12) [800,1700,1800,1900] (fun yy0=>[(4,vI ((yy0.1+1:Nat):Int)),(3,.own 800)]) (fun yy0=>[(800,some (.arr 91 1 true (yy0.2.map aC)))]) (fun yy0=>yy0.1<=((2:Int)^n.toNat - 1).toNat/\yy0.2=rJ yy0.1) (fun yy0=>((2:Int)^n.toNat - 1).toNat - yy0.1) (fun yy0=> .br (bH (sM ((yy0.1+1:Nat):Int))<| .appx (List Int) aC yy0.2 (eS ((yy0.1+1:Nat):Int))<| .back [(800,1900)]) (.fin [(0,800)])))) (p:=eQ n (1:Int) (3:Int)/\Nr (eC n (1:Int) (3:Int)) ([]=(bT n).map aC/\True) ((∃(k:Nat) (out:List (List Int)),1=((k+1:Nat):Int)/\[]=out.map aC/\k<=((2:Int)^n.toNat - 1).toNat/\out=rJ k)/\ ∀(k:Nat) (out:List (List Int)),(k<=((2:Int)^n.toNat - 1).toNat/\out=rJ k)->(0<=n/\n<=64)/\bK ((1:Int)*2^(Int.toNat n))/\Br (((k+1:Nat):Int)<((1:Int)*2^(Int.toNat n))) (yK ((k+1:Nat):Int)/\out.map aC=out.map aC/\(eS ((k+1:Nat):Int)).map intD=(eS ((k+1:Nat):Int)).map intD/\(out.length+1)*24<=140737488355328/\bK (((k+1:Nat):Int)+1)/\ ∃(k' :Nat) (out' :List (List Int)),(((k+1:Nat):Int)+1)=((k' +1:Nat):Int)/\(out++[eS ((k+1:Nat):Int)]).map aC=out'.map aC/\(k' <=((2:Int)^n.toNat - 1).toNat/\out' =rJ k')/\((2:Int)^n.toNat - 1).toNat - k' <((2:Int)^n.toNat - 1).toNat - k) (out.map aC=(bT n).map aC/\True))) (by kernel_rfl) ?_;have hb:=qM hn;have hin:eC n 1 3=true:=pU hn.1 hn.2;refine⟨iR _ _ _,dm (fun c0=>?_) fun c0=>?_⟩
 ·apply et1
  ·(exfalso;simp[hin] at c0;done)
 ·refine⟨⟨0,([]:List (List Int)),rfl,rfl,aCC _,rfl⟩,fun k out ⟨hk,ho⟩=>?_⟩;refine⟨⟨by omega,by omega⟩,⟨by omega,by omega⟩,dd (fun c1=>?_) fun c1=>?_⟩
  ·refine⟨aJo ((k+1:Nat):Int) (by omega),rfl,rfl,by (simp[ho,rJ];omega),⟨by omega,by omega⟩,?_⟩;exact⟨(k+1),_,rfl,rfl,⟨by omega,by rw[ho,aG9]⟩,by omega⟩
  ·apply et1
   ·(rw[ho,bT];congr 2;omega)
abbrev yN (n:Int):AV × List (Nat × Rs):=(.own 0,[(0,.arr 91 1 true ((bT n).map aC))])
abbrev aEC (n:Int):Prop:=Cn 219 [.one (.int .i64 n)] (yN n).1 (yN n).2
theorem aQw (n:Int)(hn:1<=n/\n<=3):aEC n:=by
 refine cq Tryz.func219 (.loop (Nat × (List (List Int))) (Q2 Nat (List (List Int))) (rg 3 18) [500,1800,1900,2000] (fun yy0=>[(4,vI ((yy0.1+1:Nat):Int)),(3,.own 500)]) (fun yy0=>[(500,some (.arr 91 1 true (yy0.2.map aC)))]) (fun yy0=>yy0.1<=((2:Int)^n.toNat - 1).toNat/\yy0.2=rJ yy0.1) (fun yy0=>((2:Int)^n.toNat - 1).toNat - yy0.1) (fun yy0=> .call (vB (eC n (1:Int) (3:Int))) []<| .br (.lit<| .lit<| .lit<| .lit<| .br (bH (sN ((yy0.1+1:Nat):Int))<| .appx (List Int) aC yy0.2 (eS ((yy0.1+1:Nat):Int))<| .back [(500,2000)]) (.fin [(0,500)])) (.fin [(0,500)]))) (p:=(∃(k:Nat) (out:List (List Int)),1=((k+1:Nat):Int)/\[]=out.map aC/\k<=((2:Int)^n.toNat - 1).toNat/\out=rJ k)/\ ∀(k:Nat) (out:List (List Int)),(k<=((2:Int)^n.toNat - 1).toNat/\out=rJ k)->eR n (1:Int) (3:Int)/\Bb (eC n (1:Int) (3:Int)) ((0<=n/\n<=64)/\bK ((1:Int)*2^(Int.toNat n))/\Br (((k+1:Nat):Int)<((1:Int)*2^(Int.toNat n))) (yL ((k+1:Nat):Int)/\out.map aC=out.map aC/\(eS ((k+1:Nat):Int)).map intD=(eS ((k+1:Nat):Int)).map intD/\(out.length+1)*24<=140737488355328/\bK (((k+1:Nat):Int)+1)/\ ∃(k' :Nat) (out' :List (List Int)),(((k+1:Nat):Int)+1)=((k' +1:Nat):Int)/\(out++[eS ((k+1:Nat):Int)]).map aC=out'.map aC/\(k' <=((2:Int)^n.toNat - 1).toNat/\out' =rJ k')/\((2:Int)^n.toNat - 1).toNat - k' <((2:Int)^n.toNat - 1).toNat - k) (out.map aC=(bT n).map aC/\True)) (out.map aC=(bT n).map aC/\True)) (by kernel_rfl) ?_;have hb:=qM hn;have hin:eC n 1 3=true:=pU hn.1 hn.2;refine⟨⟨0,([]:List (List Int)),rfl,rfl,aCC _,rfl⟩,fun k out ⟨hk,ho⟩=>?_⟩;refine⟨iS _ _ _,db (fun g8=>?_) fun g8=>?_⟩
 ·refine⟨⟨by omega,by omega⟩,⟨by omega,by omega⟩,dd (fun c0=>?_) fun c0=>?_⟩
  ·refine⟨aJp ((k+1:Nat):Int) (by omega),rfl,rfl,by (simp[ho,rJ];omega),⟨by omega,by omega⟩,?_⟩;exact⟨(k+1),_,rfl,rfl,⟨by omega,by rw[ho,aG9]⟩,by omega⟩
  ·apply et1
   ·(rw[ho,bT];congr 2;omega)
 ·apply et1
  ·(exfalso;simp[hin] at*;done)
def tP (t:aY)(cols:List Int):aQ:=⟨cols,(dV t cols).1,(dV t cols).2⟩
def bG (t:aY):aM:=if aV t=true then ⟨t.name,t.arity,(t.rows.length:Nat),(bT t.arity).map (tP t)⟩ else dL
theorem kB {t:aY}(h:aV t=true):bG t=⟨t.name,t.arity,(t.rows.length:Nat),(bT t.arity).map (tP t)⟩:=by rw[bG,if_pos h]
theorem aBS {t:aY}(h:aV t=false):bG t=dL:=by rw[bG,if_neg (by rw[h];decide)]
theorem aPp {α:Type}{l:List α}{k:Nat}(h:k<l.length):l.drop k≠[]:=fun e=>by
 have:=congrArg List.length e;simp at this;omega
theorem aPq {α:Type}{l l2:List α}{k:Nat}{x:α}(h:l.drop k=x::l2):l2=l.drop (k+1):=by rw[<-List.tail_drop,h];rfl
theorem aPr {α:Type}{l l2:List α}{k:Nat}{x:α}(h:l.drop k=x::l2):l[k]? =some x:=by
 have:=congrArg List.head? h;simpa [List.head?_drop] using this
theorem aBT {n:Int}{k:Nat}{x:List Int}(h:(bT n)[k]? =some x):x.length<=3:=by
 obtain⟨i,_,rfl⟩:=aON.1 (aCf h);exact tO _ 3
theorem yO {n:Int}(h:1<=n/\n<=3):(bT n).length<=7:=by
 have:=qM h;simp only[bT,rJ,aA8,List.length_range];omega
abbrev aA3 (t:aY):AV × List (Nat × Rs):=(.agg [.p none (.str ((bG t).name)),vI ((bG t).arity),vI ((bG t).rowCount),.own 0],[(0,.arr 220 3 true ((bG t).groups.map aD))])
abbrev aD2 (t:aY):Prop:=Cn 186 [.agg [.str t.name,.int .i64 t.arity,.sl 91 1 (t.rows.map aC)]] (aA3 t).1 (aA3 t).2
theorem aLJ (t:aY):aD2 t:=by
 refine cq Tryz.func186 (.call (vB (aV t)) []<| .br (.fin []) (.len t.rows.length<| bH (yM t.arity)<| .len ((bT t.arity).length)<| .loop (Nat × (List (List Int)) × (List aQ)) (Q3 Nat (List (List Int)) (List aQ)) ([5,6,7]++rg 24 20) [300,2200,3100,3101,4000,4100,9000,50607] (fun yy0=>[(24,vI (yy0.1:Int))]) (fun yy0=>[(300,some (.box 88 [.p none (.str t.name),vI t.arity,vI (t.rows.length:Int),.own 9000])),(9000,some (.arr 220 3 true (yy0.2.2.map aD))),(2200,some (.arr 91 1 true (List.replicate yy0.1 [bP.gone]++yy0.2.1.map aC)))]) (fun yy0=>yy0.1<=(bT t.arity).length/\yy0.2.1=(bT t.arity).drop yy0.1/\yy0.2.2=((bT t.arity).take yy0.1).map (tP t)) (fun yy0=>(bT t.arity).length - yy0.1) (fun yy0=> .br (.takeg 6 2200 yy0.1 50607 (List Int) aC yy0.2.1 (fun x6 l6=> .len (yy0.1+(l6.length+1))<| .leave 7 2200 yy0.1 50607 (List Int) aC x6 l6 (bH (uY t x6)<| .appx aQ aD yy0.2.2 (⟨x6,(dV t x6).1,(dV t x6).2⟩:aQ)<| .back [(300,300),(2200,2200),(9000,4100)]))) (.fin [(0,9000)])))) (p:=Lx (t.rows.map aC)<| rE t/\Nr (aV t) (ByteArray.empty=((bG t).name)/\0=((bG t).arity)/\0=((bG t).rowCount)/\[]=(bG t).groups.map aD/\True) (Lm aC t.rows/\(aEB t.arity/\(Lm aC (bT t.arity)/\((∃(k:Nat) (l2:List (List Int)) (out:List aQ),0=(k:Int)/\t.name=t.name/\t.arity=t.arity/\(t.rows.length:Int)=(t.rows.length:Int)/\[]=out.map aD/\(bT t.arity).map aC=List.replicate k [bP.gone]++l2.map aC/\k<=(bT t.arity).length/\l2=(bT t.arity).drop k/\out=((bT t.arity).take k).map (tP t))/\ ∀(k:Nat) (l2:List (List Int)) (out:List aQ),(k<=(bT t.arity).length/\l2=(bT t.arity).drop k/\out=((bT t.arity).take k).map (tP t))->Br ((k:Int)<(((bT t.arity).length:Nat):Int)) (List.replicate k [bP.gone]++l2.map aC=List.replicate k [bP.gone]++l2.map aC/\l2≠[]/\ ∀x6 l6,l2=x6::l6->0<=(k:Int)/\(List.replicate k [bP.gone]++(x6::l6).map aC).length=k+(l6.length+1)/\(k:Int)<((k+(l6.length+1):Nat):Int)/\k=k/\List.replicate k [bP.gone]++(x6::l6).map aC=List.replicate k [bP.gone]++(x6::l6).map aC/\k=k/\aBP t x6/\out.map aD=out.map aD/\x6.map intD=(⟨x6,(dV t x6).1,(dV t x6).2⟩:aQ).columns.map intD/\(dV t x6).1.map aC=(⟨x6,(dV t x6).1,(dV t x6).2⟩:aQ).values.map aC/\(dV t x6).2.map intD=(⟨x6,(dV t x6).1,(dV t x6).2⟩:aQ).counts.map intD/\(out.length+1)*72<=140737488355328/\bK ((k:Int)+1)/\ ∃(k' :Nat) (l2' :List (List Int)) (out' :List aQ),((k:Int)+1)=(k' :Int)/\t.name=t.name/\t.arity=t.arity/\(t.rows.length:Int)=(t.rows.length:Int)/\(out++[(⟨x6,(dV t x6).1,(dV t x6).2⟩:aQ)]).map aD=out'.map aD/\List.replicate (k+1) [bP.gone]++l6.map aC=List.replicate k' [bP.gone]++l2'.map aC/\(k' <=(bT t.arity).length/\l2' =(bT t.arity).drop k' /\out' =((bT t.arity).take k').map (tP t))/\(bT t.arity).length - k' <(bT t.arity).length - k) (t.name=((bG t).name)/\t.arity=((bG t).arity)/\(t.rows.length:Int)=((bG t).rowCount)/\out.map aD=(bG t).groups.map aD/\True)))))) (by kernel_rfl) ?_;refine lx fun n0=>?_;refine⟨yF t,dm (fun c0=>?_) fun c0=>?_⟩
 ·have hbad:aV t=false:=by simpa using c0
  apply et4<;>((rw[aBS hbad]<;>rfl))
 ·have hok:aV t=true:=by simpa using c0
  have hT:=cA hok;have hn:=yO (n:=t.arity) ⟨hT.1,hT.2.1⟩;refine⟨aA8 _,aQv t.arity (by omega),aA8 _,⟨0,bT t.arity,([]:List aQ),rfl,rfl,rfl,rfl,rfl,rfl,aCC _,rfl,rfl⟩,fun k l2 out ⟨hk,hl,ho⟩=>?_⟩;have hlen:l2.length=(bT t.arity).length - k:=by rw[hl,aWq]
  refine dd (fun c1=>?_) fun c1=>?_
  ·refine⟨rfl,(by rw[hl];exact aPp (by omega)),fun x6 l6 t6=>?_⟩;have hdx:=hl.symm.trans t6;have hx:=aPr hdx;have hx3:=aBT hx;refine⟨by omega,by simp,by omega,rfl,rfl,rfl,aMf t x6 (by omega),rfl,rfl,rfl,rfl,by (simp[ho];omega),⟨by omega,by omega⟩,?_⟩;exact⟨k+1,_,_,rfl,rfl,rfl,rfl,rfl,rfl,⟨by omega,aPq hdx,by rw[ho,bQ hx,aKc];rfl⟩,by omega⟩
  ·apply et4<;>(first|(rw[kB hok]<;>rfl)|(rw[kB hok,ho,aGj (by omega)]))
abbrev aA4 (t:aY):AV × List (Nat × Rs):=(.agg [.p none (.str ((bG t).name)),vI ((bG t).arity),vI ((bG t).rowCount),.own 0],[(0,.arr 220 3 true ((bG t).groups.map aD))])
abbrev aD3 (t:aY):Prop:=Cn 178 [.agg [.str t.name,.int .i64 t.arity,.sl 91 1 (t.rows.map aC)]] (aA4 t).1 (aA4 t).2
theorem aPs (t:aY):aD3 t:=by
 refine cq Tryz.func178 (.call (vB (aV t)) []<| .br (.fin []) (.len t.rows.length<| bH (yN t.arity)<| .loop (Nat × (List (List Int)) × (List aQ)) (Q3 Nat (List (List Int)) (List aQ)) ([5,6,7]++rg 23 27) [300,2200,3500,3501,4700,4800,9000,50807] (fun yy0=>[(5,vI (yy0.1:Int))]) (fun yy0=>[(300,some (.box 88 [.p none (.str t.name),vI t.arity,vI (t.rows.length:Int),.own 9000])),(9000,some (.arr 220 3 true (yy0.2.2.map aD))),(2200,some (.arr 91 1 true (List.replicate yy0.1 [bP.gone]++yy0.2.1.map aC)))]) (fun yy0=>yy0.1<=(bT t.arity).length/\yy0.2.1=(bT t.arity).drop yy0.1/\yy0.2.2=((bT t.arity).take yy0.1).map (tP t)) (fun yy0=>(bT t.arity).length - yy0.1) (fun yy0=> .len (yy0.1+yy0.2.1.length)<| .br (.takeg 8 2200 yy0.1 50807 (List Int) aC yy0.2.1 (fun x8 l8=> .len (yy0.1+(l8.length+1))<| bH (aBR t x8)<| .len (yy0.1+(l8.length+1))<| .appx aQ aD yy0.2.2 (⟨x8,(dV t x8).1,(dV t x8).2⟩:aQ)<| .leave 7 2200 yy0.1 50807 (List Int) aC x8 l8 (.back [(300,300),(2200,2200),(9000,4800)]))) (.fin [(0,9000)])))) (p:=Lx (t.rows.map aC)<| oG t/\Nr (aV t) (ByteArray.empty=((bG t).name)/\0=((bG t).arity)/\0=((bG t).rowCount)/\[]=(bG t).groups.map aD/\True) (Lm aC t.rows/\(aEC t.arity/\((∃(k:Nat) (l2:List (List Int)) (out:List aQ),0=(k:Int)/\t.name=t.name/\t.arity=t.arity/\(t.rows.length:Int)=(t.rows.length:Int)/\[]=out.map aD/\(bT t.arity).map aC=List.replicate k [bP.gone]++l2.map aC/\k<=(bT t.arity).length/\l2=(bT t.arity).drop k/\out=((bT t.arity).take k).map (tP t))/\ ∀(k:Nat) (l2:List (List Int)) (out:List aQ),(k<=(bT t.arity).length/\l2=(bT t.arity).drop k/\out=((bT t.arity).take k).map (tP t))->(List.replicate k [bP.gone]++l2.map aC).length=k+l2.length/\Br ((k:Int)<((k+l2.length:Nat):Int)) (List.replicate k [bP.gone]++l2.map aC=List.replicate k [bP.gone]++l2.map aC/\l2≠[]/\ ∀x8 l8,l2=x8::l8->0<=(k:Int)/\(List.replicate k [bP.gone]++(x8::l8).map aC).length=k+(l8.length+1)/\(k:Int)<((k+(l8.length+1):Nat):Int)/\k=k/\aG7 t x8/\0<=(k:Int)/\(List.replicate k [bP.gone]++(x8::l8).map aC).length=k+(l8.length+1)/\(k:Int)<((k+(l8.length+1):Nat):Int)/\k=k/\out.map aD=out.map aD/\x8.map intD=(⟨x8,(dV t x8).1,(dV t x8).2⟩:aQ).columns.map intD/\(dV t x8).1.map aC=(⟨x8,(dV t x8).1,(dV t x8).2⟩:aQ).values.map aC/\(dV t x8).2.map intD=(⟨x8,(dV t x8).1,(dV t x8).2⟩:aQ).counts.map intD/\(out.length+1)*72<=140737488355328/\List.replicate k [bP.gone]++(x8::l8).map aC=List.replicate k [bP.gone]++(x8::l8).map aC/\k=k/\bK ((k:Int)+1)/\ ∃(k' :Nat) (l2' :List (List Int)) (out' :List aQ),((k:Int)+1)=(k' :Int)/\t.name=t.name/\t.arity=t.arity/\(t.rows.length:Int)=(t.rows.length:Int)/\(out++[(⟨x8,(dV t x8).1,(dV t x8).2⟩:aQ)]).map aD=out'.map aD/\List.replicate (k+1) [bP.gone]++l8.map aC=List.replicate k' [bP.gone]++l2'.map aC/\(k' <=(bT t.arity).length/\l2' =(bT t.arity).drop k' /\out' =((bT t.arity).take k').map (tP t))/\(bT t.arity).length - k' <(bT t.arity).length - k) (t.name=((bG t).name)/\t.arity=((bG t).arity)/\(t.rows.length:Int)=((bG t).rowCount)/\out.map aD=(bG t).groups.map aD/\True))))) (by kernel_rfl) ?_;refine lx fun n0=>?_;refine⟨yG t,dm (fun c0=>?_) fun c0=>?_⟩
 ·have hbad:aV t=false:=by simpa using c0
  apply et4<;>((rw[aBS hbad]<;>rfl))
 ·have hok:aV t=true:=by simpa using c0
  have hT:=cA hok;have hn:=yO (n:=t.arity) ⟨hT.1,hT.2.1⟩;refine⟨aA8 _,aQw t.arity (by omega),⟨0,bT t.arity,([]:List aQ),rfl,rfl,rfl,rfl,rfl,rfl,aCC _,rfl,rfl⟩,fun k l2 out ⟨hk,hl,ho⟩=>?_⟩;have hlen:l2.length=(bT t.arity).length - k:=by rw[hl,aWq]
  refine⟨by simp,dd (fun c1=>?_) fun c1=>?_⟩
  ·refine⟨rfl,(by rw[hl];exact aPp (by omega)),fun x8 l8 t8=>?_⟩;have hdx:=hl.symm.trans t8;have hx:=aPr hdx;have hx3:=aBT hx;refine⟨by omega,by simp,by omega,rfl,aTe t x8 (by omega),by omega,by simp,by omega,rfl,rfl,rfl,rfl,rfl,by (simp[ho];omega),rfl,rfl,⟨by omega,by omega⟩,?_⟩;exact⟨k+1,_,_,rfl,rfl,rfl,rfl,rfl,rfl,⟨by omega,aPq hdx,by rw[ho,bQ hx,aKc];rfl⟩,by omega⟩
  ·apply et4<;>(first|(rw[kB hok]<;>rfl)|(rw[kB hok,ho,aGj (by omega)]))
abbrev aBU (x:aM):AV × List (Nat × Rs):=(.agg [.p none (.str x.name),vI x.arity,vI x.rowCount,.own 0],[(0,.arr 220 3 true (x.groups.map aD))])
abbrev aGa (x:aM):Prop:=Cn 205 [.agg [.str x.name,.int .i64 x.arity,.int .i64 x.rowCount,.sl 220 3 (x.groups.map aD)]] (aBU x).1 (aBU x).2
theorem aTf (x:aM)(hc:bF x<=1048576):aGa x:=by
 refine cq Tryz.func205 (.len x.groups.length<| .loop (Nat × (List aQ)) (Q2 Nat (List aQ)) ([3,5,6]++rg 10 18) [500,600,1700,2000,2300,2500,2600] (fun yy0=>[(3,.own 600),(10,vI (yy0.1:Int))]) (fun yy0=>[(600,some (.arr 220 3 true (yy0.2.map aD)))]) (fun yy0=>yy0.1<=x.groups.length/\yy0.2=x.groups.take yy0.1) (fun yy0=>x.groups.length - yy0.1) (fun yy0=> .br (.elem _ aD x.groups (fun e12=>bH (aDy e12.columns)<| bH (aJi e12.values)<| bH (aDy e12.counts)<| .appx aQ aD yy0.2 e12<| .back [(600,2600)])) (.fin [(0,600)]))) (p:=Lx (x.groups.map aD)<| Lm aD x.groups/\((∃(k:Nat) (out:List aQ),0=(k:Int)/\[]=out.map aD/\k<=x.groups.length/\out=x.groups.take k)/\ ∀(k:Nat) (out:List aQ),(k<=x.groups.length/\out=x.groups.take k)->Br ((k:Int)<(x.groups.length:Int)) (0<=(k:Int)/\Em aD x.groups k fun e12=>aGY e12.columns/\aM5 e12.values/\aGY e12.counts/\out.map aD=out.map aD/\e12.columns.map intD=e12.columns.map intD/\e12.values.map aC=e12.values.map aC/\e12.counts.map intD=e12.counts.map intD/\(out.length+1)*72<=140737488355328/\bK ((k:Int)+1)/\ ∃(k' :Nat) (out' :List aQ),((k:Int)+1)=(k' :Int)/\(out++[e12]).map aD=out'.map aD/\(k' <=x.groups.length/\out' =x.groups.take k')/\x.groups.length - k' <x.groups.length - k) (x.name=x.name/\x.arity=x.arity/\x.rowCount=x.rowCount/\out.map aD=x.groups.map aD/\True))) (by kernel_rfl) ?_;refine lx fun n0=>?_;have q2:bF x=x.name.size+dK x.groups:=rfl;have q5:=gC x.groups;refine⟨aA8 _,⟨0,([]:List aQ),rfl,rfl,aCC _,rfl⟩,fun k out ⟨hk,ho⟩=>?_⟩;refine dd (fun c0=>?_) fun c0=>?_
 ·refine⟨by omega,rfl,by omega,fun e12 h12=>?_⟩;have q1:=gY h12;have q3:bV e12=cC e12.columns+cO e12.values+cC e12.counts:=rfl;have q6:cC e12.columns=e12.columns.length:=rfl;have q7:cC e12.counts=e12.counts.length:=rfl;have q8:=fD e12.values;refine⟨cpI _ (by omega),cpR _ (by omega),cpI _ (by omega),rfl,rfl,rfl,rfl,by simp[ho];omega,⟨by omega,by omega⟩,?_⟩;exact⟨k+1,out++[e12],rfl,rfl,⟨by omega,by rw[ho,bQ h12]⟩,by omega⟩
 ·refine⟨rfl,rfl,rfl,?_,trivial⟩
  ·rw[ho,aGj (by omega)]
def kY (x:aM):List (List Int):=(x.groups.getD (x.groups.length - 1) eE).values
def dP (x:aM):aY:=⟨x.name,x.arity,kY x⟩
def cJ (x:aM):Bool:=aV (dP x)&&decide (bG (dP x)=x)
theorem aMk {x:aM}{g:aQ}(h:x.groups[x.groups.length - 1]? =some g):kY x=g.values:=by rw[kY,bM h]
theorem aQx {x:aM}(h:x.groups.length=0):kY x= []:=by
 rw[kY,List.length_eq_zero_iff.1 h];rfl
abbrev qG (x:aM):AV × List (Nat × Rs):=(.tup [.agg [.p none (.str ((dP x).name)),vI ((dP x).arity),.own 0],vB (cJ x)],[(0,.arr 91 1 true ((dP x).rows.map aC))])
abbrev vA (x:aM):Prop:=Cn 240 [.agg [.str x.name,.int .i64 x.arity,.int .i64 x.rowCount,.sl 220 3 (x.groups.map aD)]] (qG x).1 (qG x).2
theorem aGb (x:aM)(hc:bF x<=1048576):vA x:=by
 refine cq Tryz.func240 (.len x.groups.length<| .br (.elem _ aD x.groups (fun e20=>bH (aJi e20.values)<| .call (vB (aV (⟨x.name,x.arity,e20.values⟩:aY))) []<| .br (bH (aA3 (⟨x.name,x.arity,e20.values⟩:aY))<| .call (vB (decide ((bG (⟨x.name,x.arity,e20.values⟩:aY))=x))) []<| .fin [(0,2300)]) (.fin [(0,2300)]))) (.call (vB (aV (⟨x.name,x.arity,([]:List (List Int))⟩:aY))) []<| .br (.call (.agg [.p none (.str ((bG (⟨x.name,x.arity,([]:List (List Int))⟩:aY)).name)),vI ((bG (⟨x.name,x.arity,([]:List (List Int))⟩:aY)).arity),vI ((bG (⟨x.name,x.arity,([]:List (List Int))⟩:aY)).rowCount),.own 0]) [(0,.arr 220 3 true (((bG (⟨x.name,x.arity,([]:List (List Int))⟩:aY)).groups).map aD))]<| .call (vB (decide ((bG (⟨x.name,x.arity,([]:List (List Int))⟩:aY))=x))) []<| .fin []) (.fin []))) (p:=Lx (x.groups.map aD)<| Lm aD x.groups/\Br (0<(x.groups.length:Int)) (bK ((x.groups.length:Int) - 1)/\0<=((x.groups.length:Int) - 1)/\Em aD x.groups (((x.groups.length:Int) - 1).toNat) fun e20=>aM5 e20.values/\rE (⟨x.name,x.arity,e20.values⟩:aY)/\Bb (aV (⟨x.name,x.arity,e20.values⟩:aY)) (aD2 (⟨x.name,x.arity,e20.values⟩:aY)/\nG (bG (⟨x.name,x.arity,e20.values⟩:aY)) x/\x.name=((dP x).name)/\x.arity=((dP x).arity)/\(decide ((bG (⟨x.name,x.arity,e20.values⟩:aY))=x))=(cJ x)/\e20.values.map aC=(dP x).rows.map aC/\True) (x.name=((dP x).name)/\x.arity=((dP x).arity)/\(false)=(cJ x)/\e20.values.map aC=(dP x).rows.map aC/\True)) (qI Tryz.prog 194 [.agg [.str x.name,.int .i64 x.arity,.sl 0 1 ([])]] (vB (aV (⟨x.name,x.arity,([]:List (List Int))⟩:aY))) []/\Bb (aV (⟨x.name,x.arity,([]:List (List Int))⟩:aY)) (qI Tryz.prog 186 [.agg [.str x.name,.int .i64 x.arity,.sl 0 1 ([])]] (.agg [.p none (.str ((bG (⟨x.name,x.arity,([]:List (List Int))⟩:aY)).name)),vI ((bG (⟨x.name,x.arity,([]:List (List Int))⟩:aY)).arity),vI ((bG (⟨x.name,x.arity,([]:List (List Int))⟩:aY)).rowCount),.own 0]) [(0,.arr 220 3 true (((bG (⟨x.name,x.arity,([]:List (List Int))⟩:aY)).groups).map aD))]/\nG (bG (⟨x.name,x.arity,([]:List (List Int))⟩:aY)) x/\x.name=((dP x).name)/\x.arity=((dP x).arity)/\(decide ((bG (⟨x.name,x.arity,([]:List (List Int))⟩:aY))=x))=(cJ x)/\[]=(dP x).rows.map aC/\True) (x.name=((dP x).name)/\x.arity=((dP x).arity)/\(false)=(cJ x)/\[]=(dP x).rows.map aC/\True))) (by kernel_rfl) ?_;refine lx fun n0=>?_;have q2:bF x=x.name.size+dK x.groups:=rfl;have q5:=gC x.groups;refine⟨aA8 _,dd (fun c0=>?_) fun c0=>?_⟩
 ·refine⟨⟨by omega,by omega⟩,by omega,rfl,by omega,fun e20 h20=>?_⟩;have i20:x.groups[x.groups.length - 1]? =some e20:=by rw[<-h20];congr 1;omega
  have hT:kY x=e20.values:=aMk i20;have q1:=gY i20;have q3:bV e20=cC e20.columns+cO e20.values+cC e20.counts:=rfl;have q6:cC e20.columns=e20.columns.length:=rfl;have q7:cC e20.counts=e20.counts.length:=rfl;have q8:=fD e20.values;refine⟨cpR _ (by omega),yF (⟨x.name,x.arity,e20.values⟩:aY),db (fun g28=>?_) fun g28=>?_⟩
  ·refine⟨aLJ (⟨x.name,x.arity,e20.values⟩:aY),uX _ _,?_,?_,?_,?_,trivial⟩<;>(first|(rw[dP,hT]<;>rfl)|(simp[cJ,dP,hT, *];done))
  ·apply et4<;>(first|(rw[dP,hT]<;>rfl)|(simp[cJ,dP,hT, *];done))
 ·have hT:kY x= []:=aQx (by omega);refine⟨qI.imp (fun A w vs h=>by simpa only [nU,aLt,iQ,aMC,List.map_nil] using h) (yF (⟨x.name,x.arity,([]:List (List Int))⟩:aY)),?_⟩;refine db (fun g28=>?_) fun g28=>?_
  ·refine⟨qI.imp (fun A w vs h=>by simpa only [nU,aLt,iQ,aMC,List.map_nil] using h) (aLJ (⟨x.name,x.arity,([]:List (List Int))⟩:aY)),?_⟩;refine⟨uX _ _,?_,?_,?_,?_,trivial⟩<;>(first|(rw[dP,hT]<;>rfl)|(simp[cJ,dP,hT, *];done))
  ·apply et4<;>(first|(rw[dP,hT]<;>rfl)|(simp[cJ,dP,hT, *];done))
abbrev aBV (x:aM):Prop:=Cn 204 [.agg [.str x.name,.int .i64 x.arity,.int .i64 x.rowCount,.sl 220 3 (x.groups.map aD)]] (vB (cJ x)) []
theorem aMl (x:aM)(hc:bF x<=1048576):aBV x:=by
 refine cq Tryz.func204 (bH (qG x)<| .fin []) (p:=Lx (x.groups.map aD)<| vA x/\(cJ x)=(cJ x)/\True) (by kernel_rfl) ?_;refine lx fun n0=>?_;refine⟨aGb x (by omega),?_⟩;exact⟨rfl,trivial⟩
theorem lG (a:List Int)(l:List (List Int)):cO (a::l)=cO l+1+a.length:=by
 simp only[cO,aCD,cC,aKT,List.sum_cons,aPS];omega
theorem aMm (l:List (List Int)): ∀k,cO (l.take k)<=cO l:=by
 induction l with
 | nil=>intro k;simp
 | cons a l ih=>
   intro k;cases k with
   | zero=>rw[List.take_zero];exact aCC _
   | succ k=>rw[List.take_succ_cons,lG,lG];have:=ih k;omega
theorem aMn {row:List Int}: ∀{xs:List (List Int)},cO (kT row xs)<=cO xs+1+row.length
 | []=>by rw[aCa,lG];exact aSO _
 | x::xs=>by
   by_cases h:0<cB x row
   ·rw[aCb h,lG];omega
   by_cases h' :cB x row=0
   ·rw[aCc h'];omega
   rw[aCd h h',lG,lG];have:=aMn (row:=row) (xs:=xs);omega
theorem aPt {row:List Int}: ∀{xs:List (List Int)},xs.length<=(kT row xs).length
 | []=>by simp
 | x::xs=>by
   by_cases h:0<cB x row
   ·rw[aCb h];simp
   by_cases h' :cB x row=0
   ·rw[aCc h'];simp
   rw[aCd h h'];have:=aPt (row:=row) (xs:=xs);simp only[aPS];omega
theorem aMo (l:List (List Int)): ∀acc,cO (l.foldl (fun acc x=>kT x acc) acc)<=cO acc+cO l/\acc.length<=(l.foldl (fun acc x=>kT x acc) acc).length:=by
 induction l with
 | nil=>intro acc;simp
 | cons x l ih=>
   intro acc;obtain⟨h1,h2⟩:=ih (kT x acc);have h3:=aMn (row:=x) (xs:=acc);have h4:=aPt (row:=x) (xs:=acc);rw[List.foldl_cons,lG];exact⟨by omega,by omega⟩
theorem aMp (l:List (List Int))(k:Nat):cO (cF (l.take k))<=cO l:=by
 have h1:=(aMo (l.take k) []).1;have h2:=aMm l k;have h3:cO ([]:List (List Int))=0:=rfl;unfold cF;omega
theorem aLK (l:List (List Int))(k:Nat):(cF (l.take k)).length<=(cF l).length:=by
 have h:=(aMo (l.drop k) (cF (l.take k))).2
 have e:cF l=(l.drop k).foldl (fun acc x=>kT x acc) (cF (l.take k)):=by
  unfold cF;rw[<-List.foldl_append,List.take_append_drop]
 rw[e];exact h
def nB (name:ByteArray)(arity:Int)(rows:List (List Int)):aY × Bool:=if aV ⟨name,arity,cF rows⟩=true then (⟨name,arity,cF rows⟩,true) else (gB,false)
theorem tQ {name:ByteArray}{arity:Int}{rows:List (List Int)}(h:aV ⟨name,arity,cF rows⟩=true):nB name arity rows=(⟨name,arity,cF rows⟩,true):=by rw[nB,if_pos h]
theorem aLL {name:ByteArray}{arity:Int}{rows:List (List Int)}(h:aV ⟨name,arity,cF rows⟩=false):nB name arity rows=(gB,false):=by rw[nB,if_neg (by rw[h];decide)]
theorem aED {t:aY}(h:8<t.rows.length):aV t=false:=by
 cases e:aV t with
 | false=>rfl
 | true=>have:=cA e;omega
theorem aMq {name:ByteArray}{arity:Int}{rows:List (List Int)}{k:Nat}{acc:List (List Int)}(ha:acc=cF (rows.take k))(h:rows.length<=k\/8<acc.length):aV ⟨name,arity,acc⟩=aV ⟨name,arity,cF rows⟩/\(aV ⟨name,arity,acc⟩=true->acc=cF rows):=by
 by_cases h1:8<acc.length
 ·have h2:=aLK rows k;rw[<-ha] at h2;have q1:=aED (t:=⟨name,arity,acc⟩) h1;rw[q1,aED (t:=⟨name,arity,cF rows⟩) (show 8<(cF rows).length by omega)];exact⟨rfl,fun q=>by cases q⟩
 have e:acc=cF rows:=by rw[ha,aGj (by omega)]
 rw[e];exact⟨rfl,fun _=>rfl⟩
theorem aTg: ∀{l:List (List Int)},(∀i,i+1<l.length->cB (l.getD i []) (l.getD (i+1) [])<0)->Asc l
 | [],_=>List.Pairwise.nil
 | [a],_=>List.pairwise_singleton _ _
 | a::b::l,h=>by
   have ih:=aTg (l:=b::l) fun i hi=>by
    have:=h (i+1) (by simpa using hi);simpa using this
   have h0:cB a b<0:=by
    have:=h 0 (by simp);simpa using this
   refine List.pairwise_cons.2 ⟨fun y hy=>?_,ih⟩;rcases aOI.1 hy with rfl | q
   ·exact h0
   exact mD h0 ((List.pairwise_cons.1 ih).1 y q)
theorem aMr {l:List (List Int)}(h:aDY l=true):Asc l:=aTg fun i hi=>by
 have:=aIZ.1 h i (aSN.2 (by omega));simpa [lV] using this
theorem oX {t:aY}(h:aV t=true):t.rows.all (jU t.arity)=true/\gD t.name=true/\aDY t.rows=true:=by
 simp only[aV,aB4] at h;exact⟨h.1,h.2.1,h.2.2.2.2⟩
theorem aEE {l:List (List Int)}(h:Asc l):cF l=l:=by
 obtain⟨h1,h2,_⟩:=sK l [] List.Pairwise.nil;exact aFT h1 h fun x=>by have:=h2 x;simpa [cF] using this
theorem oY {t:aY}(h:aV t=true){r:List Int}(hr:r∈t.rows):(r.length:Int)=t.arity:=by
 have:=aIZ.1 (oX h).1 r hr;simp only[jU,aB4,aTb] at this;exact this.2
def aO7 (n:Int):List Int:=eS ((2:Int)^n.toNat - 1)
theorem aWN {n:Int}(hn:1<=n/\n<=3){r:List Int}(h:(r.length:Int)=n):(fH r (aO7 n)).1=r:=by
 have h1:n=1\/n=2\/n=3:=by omega
 rcases h1 with rfl | rfl | rfl
 ·match r,h with
  | [a],_=>rfl
  | [],h=>simp at h
  | _::_::_,h=>simp at h;omega
 ·match r,h with
  | [a,b],_=>rfl
  | [],h=>simp at h
  | [_],h=>simp at h
  | _::_::_::_,h=>simp at h;omega
 match r,h with
 | [a,b,c],_=>rfl
 | [],h=>simp at h
 | [_],h=>simp at h
 | [_,_],h=>simp at h
 | _::_::_::_::_,h=>simp at h;omega
theorem aTh {n:Int}(hn:1<=n/\n<=3):dR (n - 1) (aO7 n)=true:=by
 have h1:n=1\/n=2\/n=3:=by omega
 rcases h1 with rfl | rfl | rfl<;>decide
theorem aLM {n:Int}(hn:1<=n/\n<=3):0<(bT n).length/\(bT n)[(bT n).length - 1]? =some (aO7 n):=by
 have h1:n=1\/n=2\/n=3:=by omega
 rcases h1 with rfl | rfl | rfl<;>decide
theorem aTi {t:aY}(h:aV t=true):(dV t (aO7 t.arity)).1=t.rows:=by
 have hT:=cA h;have hc:=aTh (n:=t.arity) ⟨hT.1,hT.2.1⟩;rw[rI (by rw[h,hc];rfl)]
 have e:kK t (aO7 t.arity)=t.rows:=by
  rw[kK]
  conv=>rhs;rw[<-List.map_id t.rows]
  exact List.map_congr_left fun r hr=>aWN ⟨hT.1,hT.2.1⟩ (oY h hr)
 show fO (dD (kK t (aO7 t.arity)))=t.rows;rw[e,<-sL,aEE (aMr (oX h).2.2)]
theorem aEF {t:aY}(h:aV t=true):kY (bG t)=t.rows/\(bG t).groups≠[]:=by
 have hT:=cA h;obtain⟨h0,h1⟩:=aLM (n:=t.arity) ⟨hT.1,hT.2.1⟩;rw[kB h];constructor
 ·rw[kY];show (((bT t.arity).map (tP t)).getD (((bT t.arity).map (tP t)).length - 1) eE).values=t.rows;rw[aA8,bM (x:=tP t (aO7 t.arity)) (by rw[aXY,h1];rfl)];exact aTi h
 intro e;have:((bT t.arity).map (tP t)).length=0:=congrArg List.length e;rw[aA8] at this;omega
def nI (x:aM):aY × Bool:=if x.groups.length=0 then (gB,false) else nB x.name x.arity (kY x)
theorem aWO {x:aM}(h:cJ x=true):nI x=(dP x,true):=by
 simp only[cJ,aB4,aTb] at h;have h2:=(aEF h.1).2;rw[h.2] at h2;rw[nI,if_neg (fun e=>h2 (aIi e))];have e:=aEE (aMr (oX h.1).2.2);rw[show (dP x).rows=kY x from rfl] at e;rw[tQ (by rw[e];exact h.1),e];rfl
theorem aQy (x:aM):((nI x).2&&decide (bG (nI x).1=x))=cJ x:=by
 cases h:cJ x with
 | true=>
   rw[aWO h];simp only[cJ,aB4,aTb] at h;simp[h.2]
 | false=>
   rw[nI];split
   ·rfl
   cases e:aV ⟨x.name,x.arity,cF (kY x)⟩ with
   | false=>rw[aLL e];rfl
   | true=>
     rw[tQ e];simp only[Bool.true_and];by_cases q:bG ⟨x.name,x.arity,cF (kY x)⟩=x
     ·exfalso;have h3:=(aEF e).1;rw[q] at h3
      have h4:dP x=⟨x.name,x.arity,cF (kY x)⟩:=by
       rw[dP]
       congr 1
      rw[cJ,h4,e,q] at h;simp at h
     simp[q]
theorem tR {x:aM}(h:cJ x=true):aV (dP x)=true/\bG (dP x)=x:=by
 simpa only [cJ,aB4,aTb] using h
theorem aGc {x:aM}(h:cJ x=true):x.groups=(bT x.arity).map (tP (dP x)):=by
 obtain⟨h1,h2⟩:=tR h;rw[kB h1] at h2;exact(congrArg aM.groups h2).symm
theorem aQz {x:aM}(h:cJ x=true):x.rowCount=((kY x).length:Nat):=by
 obtain⟨h1,h2⟩:=tR h;rw[kB h1] at h2;exact(congrArg aM.rowCount h2).symm
theorem aA5 {x:aM}(h:cJ x=true):1<=x.arity/\x.arity<=3:=by
 have:=cA (tR h).1;exact⟨this.1,this.2.1⟩
theorem aLN {α:Type}{p:α->Bool}{l:List α}{k:Nat}{x:α}(h:l[k]? =some x)(ha:(l.take k).all (fun y=> !p y)=true)(hx:p x=true):l.find? p=some x:=by
 rw[List.find?_eq_some_iff_getElem];obtain⟨hk,rfl⟩:=aEa.1 h;refine⟨hx,k,hk,rfl,fun j hj=>?_⟩;have:=aIZ.1 ha l[j] (List.mem_iff_getElem.2 ⟨j,by simp;omega,by simp⟩);exact this
theorem aLO {α:Type}{p:α->Bool}{l:List α}(ha:l.all (fun y=> !p y)=true):l.find? p=none:=by
 rw[List.find?_eq_none];intro x hx;have:=aIZ.1 ha x hx;simpa using this
def gE (l:List aY)(i:Nat):Bool:=Op.bytesLess (l.getD i gB).name.toList (l.getD (i+1) gB).name.toList
def jB (d:aU):Bool:=d.tables.all aV&&((List.range (d.tables.length - 1)).all (gE d.tables)&&decide ((d.tables.length:Int)<=6))
abbrev aD4 (t:aU):Prop:=Cn 137 [.agg [.sl 142 3 (t.tables.map aS)]] (vB (jB t)) []
theorem aPu (t:aU):aD4 t:=by
 refine cq Tryz.func137 (.len t.tables.length<| .loop Nat (Q1 Nat) ([3,4]++rg 8 25) [400] (fun k=>[(8,vI (k:Int))]) (fun k=>[]) (fun k=>k<=t.tables.length/\(t.tables.take k).all aV=true/\(List.range (k - 1)).all (gE t.tables)=true) (fun k=>t.tables.length - k) (fun k=> .br (.elem _ aS t.tables (fun e11=> .call (vB (aV e11)) []<| .br (.fin []) (.lit<| .lit<| .br (.elem _ aS t.tables (fun e24=> .lit<| .lit<| .lit<| .lit<| .lit<| .lit<| .lit<| .lit<| .br (.fin []) (.back []))) (.back [])))) (.len t.tables.length<| .fin []))) (p:=Lx (t.tables.map aS)<| Lm aS t.tables/\((∃(k:Nat),0=(k:Int)/\k<=t.tables.length/\(t.tables.take k).all aV=true/\(List.range (k - 1)).all (gE t.tables)=true)/\ ∀(k:Nat),(k<=t.tables.length/\(t.tables.take k).all aV=true/\(List.range (k - 1)).all (gE t.tables)=true)->Br ((k:Int)<(t.tables.length:Int)) (0<=(k:Int)/\Em aS t.tables k fun e11=>rE e11/\Nr (aV e11) ((false)=(jB t)/\True) (Br (0<(k:Int)) (bK ((k:Int) - 1)/\0<=((k:Int) - 1)/\Em aS t.tables (((k:Int) - 1).toNat) fun e24=>Nr (Op.bytesLess e24.name.toList e11.name.toList) ((false)=(jB t)/\True) (bK ((k:Int)+1)/\ ∃(k' :Nat),((k:Int)+1)=(k' :Int)/\(k' <=t.tables.length/\(t.tables.take k').all aV=true/\(List.range (k' - 1)).all (gE t.tables)=true)/\t.tables.length - k' <t.tables.length - k)) (bK ((k:Int)+1)/\ ∃(k' :Nat),((k:Int)+1)=(k' :Int)/\(k' <=t.tables.length/\(t.tables.take k').all aV=true/\(List.range (k' - 1)).all (gE t.tables)=true)/\t.tables.length - k' <t.tables.length - k))) (Lm aS t.tables/\(decide ((t.tables.length:Int)<=6))=(jB t)/\True))) (by kernel_rfl) ?_;refine lx fun n0=>?_;refine⟨aA8 _,⟨0,rfl,aCC _,rfl,rfl⟩,fun k ⟨hk,ha,hs⟩=>?_⟩;refine dd (fun c0=>?_) fun c0=>?_
 ·refine⟨by omega,rfl,by omega,fun e11 h11=>?_⟩;refine⟨yF e11,dm (fun g16=>?_) fun g16=>?_⟩
  ·apply et1
   ·(rw[jB,eJ h11 g16];rfl)
  ·refine dd (fun g19=>?_) fun g19=>?_
   ·refine⟨⟨by omega,by omega⟩,by omega,rfl,by omega,fun e24 h24=>?_⟩;have i1:t.tables[k - 1]? =some e24:=by rw[<-h24];congr 1;omega
    refine dm (fun c1=>?_) fun c1=>?_
    ·have hp:gE t.tables (k - 1)=false:=by rw[gE,bM i1,show k - 1+1=k by omega,bM h11];simpa using c1
     have hz:(List.range (t.tables.length - 1)).all (gE t.tables)=false:=gZ (by omega) hp;apply et1
     ·(rw[jB,hz];simp[*];done)
    ·have hp:gE t.tables (k - 1)=true:=by rw[gE,bM i1,show k - 1+1=k by omega,bM h11];simpa using c1
     have hs2:(List.range (k+1 - 1)).all (gE t.tables)=true:=by rw[show k+1 - 1=(k - 1)+1 by omega];exact jJ hs hp
     refine⟨⟨by omega,by omega⟩,?_⟩;exact⟨k+1,rfl,⟨by omega,cG h11 ha g16,hs2⟩,by omega⟩
   ·have hs2:(List.range (k+1 - 1)).all (gE t.tables)=true:=by rw[show k=0 by omega];rfl
    refine⟨⟨by omega,by omega⟩,?_⟩;exact⟨k+1,rfl,⟨by omega,cG h11 ha g16,hs2⟩,by omega⟩
 ·have hall:=cY (by omega) ha;have hz:(List.range (t.tables.length - 1)).all (gE t.tables)=true:=by rw[show t.tables.length - 1=k - 1 by omega,hs]
  refine⟨aA8 _,?_,trivial⟩
  ·(rw[jB,hz];simp[*];done)
abbrev aD5 (t:aU):Prop:=Cn 177 [.agg [.sl 142 3 (t.tables.map aS)]] (vB (jB t)) []
theorem aPv (t:aU):aD5 t:=by
 refine cq Tryz.func177 (.loop Nat (Q1 Nat) (rg 3 35) [] (fun k=>[(3,vI (k:Int))]) (fun k=>[]) (fun k=>k<=t.tables.length/\(t.tables.take k).all aV=true/\(List.range (k - 1)).all (gE t.tables)=true) (fun k=>t.tables.length - k) (fun k=> .len t.tables.length<| .br (.elem _ aS t.tables (fun e14=> .call (vB (aV e14)) []<| .br (.fin []) (.lit<| .lit<| .br (.elem _ aS t.tables (fun e26=> .elem _ aS t.tables (fun e32=> .lit<| .lit<| .lit<| .lit<| .lit<| .lit<| .br (.fin []) (.back [])))) (.back [])))) (.len t.tables.length<| .fin []))) (p:=Lx (t.tables.map aS)<| (∃(k:Nat),0=(k:Int)/\k<=t.tables.length/\(t.tables.take k).all aV=true/\(List.range (k - 1)).all (gE t.tables)=true)/\ ∀(k:Nat),(k<=t.tables.length/\(t.tables.take k).all aV=true/\(List.range (k - 1)).all (gE t.tables)=true)->Lm aS t.tables/\Br ((k:Int)<(t.tables.length:Int)) (0<=(k:Int)/\Em aS t.tables k fun e14=>oG e14/\Nr (aV e14) ((false)=(jB t)/\True) (Br (0<(k:Int)) (bK ((k:Int) - 1)/\0<=((k:Int) - 1)/\Em aS t.tables (((k:Int) - 1).toNat) fun e26=>0<=(k:Int)/\Em aS t.tables k fun e32=>Nr (Op.bytesLess e26.name.toList e32.name.toList) ((false)=(jB t)/\True) (bK ((k:Int)+1)/\ ∃(k' :Nat),((k:Int)+1)=(k' :Int)/\(k' <=t.tables.length/\(t.tables.take k').all aV=true/\(List.range (k' - 1)).all (gE t.tables)=true)/\t.tables.length - k' <t.tables.length - k)) (bK ((k:Int)+1)/\ ∃(k' :Nat),((k:Int)+1)=(k' :Int)/\(k' <=t.tables.length/\(t.tables.take k').all aV=true/\(List.range (k' - 1)).all (gE t.tables)=true)/\t.tables.length - k' <t.tables.length - k))) (Lm aS t.tables/\(decide ((t.tables.length:Int)<=6))=(jB t)/\True)) (by kernel_rfl) ?_;refine lx fun n0=>?_;refine⟨⟨0,rfl,aCC _,rfl,rfl⟩,fun k ⟨hk,ha,hs⟩=>?_⟩;refine⟨aA8 _,dd (fun c0=>?_) fun c0=>?_⟩
 ·refine⟨by omega,rfl,by omega,fun e14 h14=>?_⟩;refine⟨yG e14,dm (fun g18=>?_) fun g18=>?_⟩
  ·apply et1
   ·(rw[jB,eJ h14 g18];rfl)
  ·refine dd (fun g21=>?_) fun g21=>?_
   ·refine⟨⟨by omega,by omega⟩,by omega,rfl,by omega,fun e26 h26=>?_⟩;have i1:t.tables[k - 1]? =some e26:=by rw[<-h26];congr 1;omega
    refine⟨by omega,rfl,by omega,fun e32 h32=>?_⟩;refine dm (fun c1=>?_) fun c1=>?_
    ·have hp:gE t.tables (k - 1)=false:=by rw[gE,bM i1,show k - 1+1=k by omega,bM h32];simpa using c1
     have hz:(List.range (t.tables.length - 1)).all (gE t.tables)=false:=gZ (by omega) hp;apply et1
     ·(rw[jB,hz];simp[*];done)
    ·have hp:gE t.tables (k - 1)=true:=by rw[gE,bM i1,show k - 1+1=k by omega,bM h32];simpa using c1
     have hs2:(List.range (k+1 - 1)).all (gE t.tables)=true:=by rw[show k+1 - 1=(k - 1)+1 by omega];exact jJ hs hp
     refine⟨⟨by omega,by omega⟩,?_⟩;exact⟨k+1,rfl,⟨by omega,cG h14 ha g18,hs2⟩,by omega⟩
   ·have hs2:(List.range (k+1 - 1)).all (gE t.tables)=true:=by rw[show k=0 by omega];rfl
    refine⟨⟨by omega,by omega⟩,?_⟩;exact⟨k+1,rfl,⟨by omega,cG h14 ha g18,hs2⟩,by omega⟩
 ·have hall:=cY (by omega) ha;have hz:(List.range (t.tables.length - 1)).all (gE t.tables)=true:=by rw[show t.tables.length - 1=k - 1 by omega,hs]
  refine⟨aA8 _,?_,trivial⟩
  ·(rw[jB,hz];simp[*];done)
end Go.Proofs.YtlidmoeecphbmaaGreat
