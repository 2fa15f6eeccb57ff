/-
  Contracts and plain laws, joined: part 25.
-/
import Derived.Test.YtdfebigfnjfgpaaGreatQP3
namespace Go.Proofs.YtdfebigfnjfgpaaGreat
open Go.ChangeShapes Go.WideShapes Go.ChangeAt Go.RowKit
set_option linter.unusedVariables false
set_option linter.unusedSimpArgs false
set_option maxRecDepth 100000
set_option maxHeartbeats 4000000
abbrev rX (x:List Int) (m:Int):Prop:=cX Tryz.prog 103 [.one (.sl 3 1 (x.map intD)),.one (.int .i64 m)] (vI (aQ (bS x) m)) []
theorem aDV (x:List Int) (m:Int) (hf:aEN x) (h0:0≤m) (h1:m≤1048576):rX x m:=by
 refine aX bG aR Tryz.func103 (by kernel_rfl) (.len x.length<| .br (.fin []) (.fin [])) (p:=(x.map intD).length≤9223372036854775807→Lm intD x∧(cC (m - ((x.length:Nat):Int))∧(((decide ((m - ((x.length:Nat):Int))<(0:Int)))=true→(-1:Int)=(aQ (bS x) m)∧True)∧((decide ((m - ((x.length:Nat):Int))<(0:Int)))=false→(m - ((x.length:Nat):Int))=(aQ (bS x) m)∧True)))) (by kernel_rfl) ?_
 intro n0
 simp only [List.length_map] at n0
 refine ⟨List.length_map _,⟨by omega,by omega⟩,fun c0=>?_,fun c0=>?_⟩
 ·replace c0:=yq c0
  refine ⟨?_,trivial⟩
  ·unfold bS;first | (rw [bM (by omega)];done) | (rw [aO (by omega)];done)
 ·replace c0:=nq c0
  refine ⟨?_,trivial⟩
  ·unfold bS;first | (rw [bM (by omega)];done) | (rw [aO (by omega)];done)
abbrev aCN (x:List (List Int)) (m:Int):Prop:=cX Tryz.prog 130 [.one (.sl 39 1 (x.map aC)),.one (.int .i64 m)] (vI (aQ (cM x) m)) []
theorem aM2 (x:List (List Int)) (m:Int) (hf:aGU x) (h0:0≤m) (h1:m≤1048576):aCN x m:=by
 refine aX bG aR Tryz.func130 (by kernel_rfl) (.len x.length<| .br (.fin []) (.loop (Nat × Int) (Q2 Nat Int) [1,5,12,13,14,15,16,17,18,19,20,21,22,23,24,25] [] (fun yy0=>[(5,vI (yy0.1:Int)),(1,vI yy0.2)]) (fun yy0=>[]) (fun yy0=>yy0.1≤x.length∧yy0.2=m - x.length - (bR bS (x.take yy0.1):Nat)∧0≤yy0.2) (fun yy0=>x.length - yy0.1) (fun yy0=> .len x.length<| .br (.elem _ aC x (fun e20=> .call (vI (aQ (bS e20) yy0.2)) []<| .br (.fin []) (.back []))) (.fin [])))) (p:=(x.map aC).length≤9223372036854775807→Lm aC x∧(cC (m - ((x.length:Nat):Int))∧(((decide ((m - ((x.length:Nat):Int))<(0:Int)))=true→(-1:Int)=(aQ (cM x) m)∧True)∧((decide ((m - ((x.length:Nat):Int))<(0:Int)))=false→(∃(k:Nat) (z:Int),(0:Int)=(k:Int)∧(m - ((x.length:Nat):Int))=z∧k≤x.length∧z=m - x.length - (bR bS (x.take k):Nat)∧0≤z)∧ ∀(k:Nat) (z:Int),(k≤x.length∧z=m - x.length - (bR bS (x.take k):Nat)∧0≤z)→Lm aC x∧(((decide ((k:Int)<((x.length:Nat):Int)))=true→0≤(k:Int)∧Em aC x k fun e20=>rX e20 z∧(((decide ((aQ (bS e20) z)<(0:Int)))=true→(-1:Int)=(aQ (cM x) m)∧True)∧((decide ((aQ (bS e20) z)<(0:Int)))=false→cC ((k:Int)+(1:Int))∧ ∃(k' :Nat) (z' :Int),((k:Int)+(1:Int))=(k' :Int)∧(aQ (bS e20) z)=z' ∧(k' ≤x.length∧z' =m - x.length - (bR bS (x.take k'):Nat)∧0≤z')∧x.length - k' <x.length - k)))∧((decide ((k:Int)<((x.length:Nat):Int)))=false→z=(aQ (cM x) m)∧True)))))) (by kernel_rfl) ?_
 intro n0
 simp only [List.length_map] at n0
 have hS:cM x=x.length+bR bS x:=rfl
 refine ⟨List.length_map _,⟨by omega,by omega⟩,fun c0=>?_,fun c0=>?_⟩
 ·replace c0:=yq c0
  refine ⟨?_,trivial⟩
  ·first | (rw [bM (by omega)];done) | (rw [aO (by omega)];done) | (rw [aO (by omega)];omega)
 ·replace c0:=nq c0
  refine ⟨⟨0,m - ((x.length:Nat):Int),rfl,rfl,Nat.zero_le _,by simp [bR],by omega⟩,fun k z ⟨hk,hz,hz0⟩=>?_⟩
  refine ⟨List.length_map _,fun c1=>?_,fun c1=>?_⟩
  ·replace c1:=yq c1
   obtain ⟨y,hy⟩:=cK (l:=x) (k:=k) (by omega)
   have hfy:=hf y (List.mem_of_getElem? hy)
   refine ⟨by omega,rfl,by omega,fun e20 h20=>?_⟩
   obtain rfl:=aY hy h20
   refine ⟨aDV e20 _ (by first | assumption | exact hf) (by omega) (by omega),fun c2=>?_,fun c2=>?_⟩
   ·replace c2:=yq c2
    have y3:=kB c2
    have y4:=dJ bS ‹x[k]? =some _›
    have y5:=gD bS x (k+1)
    refine ⟨?_,trivial⟩
    ·first | (rw [bM (by omega)];done) | (rw [aO (by omega)];done) | (rw [aO (by omega)];omega)
   ·replace c2:=nq c2
    have y2:=aO (iY c2)
    have y3:=iY c2
    have y4:=dJ bS ‹x[k]? =some _›
    refine ⟨⟨by omega,by omega⟩,?_⟩
    exact ⟨k+1,aQ (bS e20) z,rfl,rfl,⟨by omega,by rw [y2,y4,hz];omega,by rw [y2];omega⟩,by omega⟩
  ·replace c1:=nq c1
   have y6:k=x.length:=by omega
   rw [y6,List.take_length] at hz
   refine ⟨?_,trivial⟩
   ·first | (rw [bM (by omega)];done) | (rw [aO (by omega)];done) | (rw [aO (by omega)];omega)
abbrev aIA (x:aS) (m:Int):Prop:=cX Tryz.prog 101 [.agg [.str x.name,.int .i64 x.arity,.sl 39 1 (x.rows.map aC)],.one (.int .i64 m)] (vI (aQ (fE x) m)) []
theorem aS0 (x:aS) (m:Int) (hf:aMv x) (h0:0≤m) (h1:m≤1048576):aIA x m:=by
 refine aX bG aR Tryz.func101 (by kernel_rfl) (.br (.fin []) (.call (vI (aQ (cM x.rows) (m - ((x.name.size:Nat):Int)))) []<| .br (.fin []) (.fin []))) (p:=(x.rows.map aC).length≤9223372036854775807→cC (m - ((x.name.size:Nat):Int))∧(((decide ((m - ((x.name.size:Nat):Int))<(0:Int)))=true→(-1:Int)=(aQ (fE x) m)∧True)∧((decide ((m - ((x.name.size:Nat):Int))<(0:Int)))=false→aCN x.rows (m - ((x.name.size:Nat):Int))∧(((decide ((aQ (cM x.rows) (m - ((x.name.size:Nat):Int)))<(0:Int)))=true→(-1:Int)=(aQ (fE x) m)∧True)∧((decide ((aQ (cM x.rows) (m - ((x.name.size:Nat):Int)))<(0:Int)))=false→(aQ (cM x.rows) (m - ((x.name.size:Nat):Int)))=(aQ (fE x) m)∧True))))) (by kernel_rfl) ?_
 intro n0
 simp only [List.length_map] at n0
 obtain ⟨f_name,f_arity,f_rows⟩:=hf
 have hmx:maxLen=9223372036854775807:=rfl
 have g_name:x.name.size≤maxLen:=f_name
 refine ⟨⟨by omega,by omega⟩,fun c0=>?_,fun c0=>?_⟩
 ·replace c0:=yq c0
  refine ⟨?_,trivial⟩
  ·unfold fE;first | (rw [bM (by omega)];done) | (rw [aO (by omega)];done) | (rw [aO (by omega)];omega)
 ·replace c0:=nq c0
  refine ⟨aM2 x.rows _ (by first | assumption | exact hf) (by omega) (by omega),fun c1=>?_,fun c1=>?_⟩
  ·replace c1:=yq c1
   have y1:=kB c1
   refine ⟨?_,trivial⟩
   ·unfold fE;first | (rw [bM (by omega)];done) | (rw [aO (by omega)];done) | (rw [aO (by omega)];omega)
  ·replace c1:=nq c1
   have y1:=iY c1
   rw [aO y1] at*
   refine ⟨?_,trivial⟩
   ·unfold fE;first | (rw [bM (by omega)];done) | (rw [aO (by omega)];done) | (rw [aO (by omega)];omega)
abbrev aFF (x:List aS) (m:Int):Prop:=cX Tryz.prog 60 [.one (.sl 167 3 (x.map aP)),.one (.int .i64 m)] (vI (aQ (iQ x) m)) []
theorem aPx (x:List aS) (m:Int) (hf:aF5 x) (h0:0≤m) (h1:m≤1048576):aFF x m:=by
 refine aX bG aR Tryz.func60 (by kernel_rfl) (.len x.length<| .br (.fin []) (.loop (Nat × Int) (Q2 Nat Int) [1,5,12,13,14,15,16,17,18,19,20,21,22,23,24,25] [] (fun yy0=>[(5,vI (yy0.1:Int)),(1,vI yy0.2)]) (fun yy0=>[]) (fun yy0=>yy0.1≤x.length∧yy0.2=m - x.length - (bR fE (x.take yy0.1):Nat)∧0≤yy0.2) (fun yy0=>x.length - yy0.1) (fun yy0=> .len x.length<| .br (.elem _ aP x (fun e20=> .call (vI (aQ (fE e20) yy0.2)) []<| .br (.fin []) (.back []))) (.fin [])))) (p:=(x.map aP).length≤9223372036854775807→Lm aP x∧(cC (m - ((x.length:Nat):Int))∧(((decide ((m - ((x.length:Nat):Int))<(0:Int)))=true→(-1:Int)=(aQ (iQ x) m)∧True)∧((decide ((m - ((x.length:Nat):Int))<(0:Int)))=false→(∃(k:Nat) (z:Int),(0:Int)=(k:Int)∧(m - ((x.length:Nat):Int))=z∧k≤x.length∧z=m - x.length - (bR fE (x.take k):Nat)∧0≤z)∧ ∀(k:Nat) (z:Int),(k≤x.length∧z=m - x.length - (bR fE (x.take k):Nat)∧0≤z)→Lm aP x∧(((decide ((k:Int)<((x.length:Nat):Int)))=true→0≤(k:Int)∧Em aP x k fun e20=>aIA e20 z∧(((decide ((aQ (fE e20) z)<(0:Int)))=true→(-1:Int)=(aQ (iQ x) m)∧True)∧((decide ((aQ (fE e20) z)<(0:Int)))=false→cC ((k:Int)+(1:Int))∧ ∃(k' :Nat) (z' :Int),((k:Int)+(1:Int))=(k' :Int)∧(aQ (fE e20) z)=z' ∧(k' ≤x.length∧z' =m - x.length - (bR fE (x.take k'):Nat)∧0≤z')∧x.length - k' <x.length - k)))∧((decide ((k:Int)<((x.length:Nat):Int)))=false→z=(aQ (iQ x) m)∧True)))))) (by kernel_rfl) ?_
 intro n0
 simp only [List.length_map] at n0
 have hS:iQ x=x.length+bR fE x:=rfl
 refine ⟨List.length_map _,⟨by omega,by omega⟩,fun c0=>?_,fun c0=>?_⟩
 ·replace c0:=yq c0
  refine ⟨?_,trivial⟩
  ·first | (rw [bM (by omega)];done) | (rw [aO (by omega)];done) | (rw [aO (by omega)];omega)
 ·replace c0:=nq c0
  refine ⟨⟨0,m - ((x.length:Nat):Int),rfl,rfl,Nat.zero_le _,by simp [bR],by omega⟩,fun k z ⟨hk,hz,hz0⟩=>?_⟩
  refine ⟨List.length_map _,fun c1=>?_,fun c1=>?_⟩
  ·replace c1:=yq c1
   obtain ⟨y,hy⟩:=cK (l:=x) (k:=k) (by omega)
   have hfy:=hf y (List.mem_of_getElem? hy)
   refine ⟨by omega,rfl,by omega,fun e20 h20=>?_⟩
   obtain rfl:=aY hy h20
   refine ⟨aS0 e20 _ (by first | assumption | exact hf) (by omega) (by omega),fun c2=>?_,fun c2=>?_⟩
   ·replace c2:=yq c2
    have y3:=kB c2
    have y4:=dJ fE ‹x[k]? =some _›
    have y5:=gD fE x (k+1)
    refine ⟨?_,trivial⟩
    ·first | (rw [bM (by omega)];done) | (rw [aO (by omega)];done) | (rw [aO (by omega)];omega)
   ·replace c2:=nq c2
    have y2:=aO (iY c2)
    have y3:=iY c2
    have y4:=dJ fE ‹x[k]? =some _›
    refine ⟨⟨by omega,by omega⟩,?_⟩
    exact ⟨k+1,aQ (fE e20) z,rfl,rfl,⟨by omega,by rw [y2,y4,hz];omega,by rw [y2];omega⟩,by omega⟩
  ·replace c1:=nq c1
   have y6:k=x.length:=by omega
   rw [y6,List.take_length] at hz
   refine ⟨?_,trivial⟩
   ·first | (rw [bM (by omega)];done) | (rw [aO (by omega)];done) | (rw [aO (by omega)];omega)
abbrev aBW (x:aV) (m:Int):Prop:=cX Tryz.prog 25 [.agg [.sl 167 3 (x.tables.map aP)],.one (.int .i64 m)] (vI (aQ (bH x) m)) []
theorem aM3 (x:aV) (m:Int) (hf:aDg x) (h0:0≤m) (h1:m≤1048576):aBW x m:=by
 refine aX bG aR Tryz.func25 (by kernel_rfl) (.call (vI (aQ (iQ x.tables) m)) []<| .br (.fin []) (.fin [])) (p:=(x.tables.map aP).length≤9223372036854775807→aFF x.tables m∧(((decide ((aQ (iQ x.tables) m)<(0:Int)))=true→(-1:Int)=(aQ (bH x) m)∧True)∧((decide ((aQ (iQ x.tables) m)<(0:Int)))=false→(aQ (iQ x.tables) m)=(aQ (bH x) m)∧True))) (by kernel_rfl) ?_
 intro n0
 simp only [List.length_map] at n0
 have f_tables:=hf
 have hmx:maxLen=9223372036854775807:=rfl
 refine ⟨aPx x.tables _ (by first | assumption | exact hf) (by omega) (by omega),fun c0=>?_,fun c0=>?_⟩
 ·replace c0:=yq c0
  have y0:=kB c0
  refine ⟨?_,trivial⟩
  ·unfold bH;first | (rw [bM (by omega)];done) | (rw [aO (by omega)];done) | (rw [aO (by omega)];omega)
 ·replace c0:=nq c0
  have y0:=iY c0
  rw [aO y0] at*
  refine ⟨?_,trivial⟩
  ·unfold bH;first | (rw [bM (by omega)];done) | (rw [aO (by omega)];done) | (rw [aO (by omega)];omega)
abbrev aJq (x:bZ) (m:Int):Prop:=cX Tryz.prog 64 [.agg [.str x.name,.sl 3 1 (x.vars.map intD)],.one (.int .i64 m)] (vI (aQ (hZ x) m)) []
theorem aTg (x:bZ) (m:Int) (hf:aRK x) (h0:0≤m) (h1:m≤1048576):aJq x m:=by
 refine aX bG aR Tryz.func64 (by kernel_rfl) (.br (.fin []) (.call (vI (aQ (bS x.vars) (m - ((x.name.size:Nat):Int)))) []<| .br (.fin []) (.fin []))) (p:=(x.vars.map intD).length≤9223372036854775807→cC (m - ((x.name.size:Nat):Int))∧(((decide ((m - ((x.name.size:Nat):Int))<(0:Int)))=true→(-1:Int)=(aQ (hZ x) m)∧True)∧((decide ((m - ((x.name.size:Nat):Int))<(0:Int)))=false→rX x.vars (m - ((x.name.size:Nat):Int))∧(((decide ((aQ (bS x.vars) (m - ((x.name.size:Nat):Int)))<(0:Int)))=true→(-1:Int)=(aQ (hZ x) m)∧True)∧((decide ((aQ (bS x.vars) (m - ((x.name.size:Nat):Int)))<(0:Int)))=false→(aQ (bS x.vars) (m - ((x.name.size:Nat):Int)))=(aQ (hZ x) m)∧True))))) (by kernel_rfl) ?_
 intro n0
 simp only [List.length_map] at n0
 obtain ⟨f_name,f_vars⟩:=hf
 have hmx:maxLen=9223372036854775807:=rfl
 have g_name:x.name.size≤maxLen:=f_name
 refine ⟨⟨by omega,by omega⟩,fun c0=>?_,fun c0=>?_⟩
 ·replace c0:=yq c0
  refine ⟨?_,trivial⟩
  ·unfold hZ;first | (rw [bM (by omega)];done) | (rw [aO (by omega)];done) | (rw [aO (by omega)];omega)
 ·replace c0:=nq c0
  refine ⟨aDV x.vars _ (by first | assumption | exact hf) (by omega) (by omega),fun c1=>?_,fun c1=>?_⟩
  ·replace c1:=yq c1
   have y1:=kB c1
   refine ⟨?_,trivial⟩
   ·unfold hZ;first | (rw [bM (by omega)];done) | (rw [aO (by omega)];done) | (rw [aO (by omega)];omega)
  ·replace c1:=nq c1
   have y1:=iY c1
   rw [aO y1] at*
   refine ⟨?_,trivial⟩
   ·unfold hZ;first | (rw [bM (by omega)];done) | (rw [aO (by omega)];done) | (rw [aO (by omega)];omega)
abbrev aIB (x:List bZ) (m:Int):Prop:=cX Tryz.prog 29 [.one (.sl 135 2 (x.map aZ)),.one (.int .i64 m)] (vI (aQ (jA x) m)) []
theorem aS1 (x:List bZ) (m:Int) (hf:aKO x) (h0:0≤m) (h1:m≤1048576):aIB x m:=by
 refine aX bG aR Tryz.func29 (by kernel_rfl) (.len x.length<| .br (.fin []) (.loop (Nat × Int) (Q2 Nat Int) [1,5,12,13,14,15,16,17,18,19,20,21,22,23,24,25] [] (fun yy0=>[(5,vI (yy0.1:Int)),(1,vI yy0.2)]) (fun yy0=>[]) (fun yy0=>yy0.1≤x.length∧yy0.2=m - x.length - (bR hZ (x.take yy0.1):Nat)∧0≤yy0.2) (fun yy0=>x.length - yy0.1) (fun yy0=> .len x.length<| .br (.elem _ aZ x (fun e20=> .call (vI (aQ (hZ e20) yy0.2)) []<| .br (.fin []) (.back []))) (.fin [])))) (p:=(x.map aZ).length≤9223372036854775807→Lm aZ x∧(cC (m - ((x.length:Nat):Int))∧(((decide ((m - ((x.length:Nat):Int))<(0:Int)))=true→(-1:Int)=(aQ (jA x) m)∧True)∧((decide ((m - ((x.length:Nat):Int))<(0:Int)))=false→(∃(k:Nat) (z:Int),(0:Int)=(k:Int)∧(m - ((x.length:Nat):Int))=z∧k≤x.length∧z=m - x.length - (bR hZ (x.take k):Nat)∧0≤z)∧ ∀(k:Nat) (z:Int),(k≤x.length∧z=m - x.length - (bR hZ (x.take k):Nat)∧0≤z)→Lm aZ x∧(((decide ((k:Int)<((x.length:Nat):Int)))=true→0≤(k:Int)∧Em aZ x k fun e20=>aJq e20 z∧(((decide ((aQ (hZ e20) z)<(0:Int)))=true→(-1:Int)=(aQ (jA x) m)∧True)∧((decide ((aQ (hZ e20) z)<(0:Int)))=false→cC ((k:Int)+(1:Int))∧ ∃(k' :Nat) (z' :Int),((k:Int)+(1:Int))=(k' :Int)∧(aQ (hZ e20) z)=z' ∧(k' ≤x.length∧z' =m - x.length - (bR hZ (x.take k'):Nat)∧0≤z')∧x.length - k' <x.length - k)))∧((decide ((k:Int)<((x.length:Nat):Int)))=false→z=(aQ (jA x) m)∧True)))))) (by kernel_rfl) ?_
 intro n0
 simp only [List.length_map] at n0
 have hS:jA x=x.length+bR hZ x:=rfl
 refine ⟨List.length_map _,⟨by omega,by omega⟩,fun c0=>?_,fun c0=>?_⟩
 ·replace c0:=yq c0
  refine ⟨?_,trivial⟩
  ·first | (rw [bM (by omega)];done) | (rw [aO (by omega)];done) | (rw [aO (by omega)];omega)
 ·replace c0:=nq c0
  refine ⟨⟨0,m - ((x.length:Nat):Int),rfl,rfl,Nat.zero_le _,by simp [bR],by omega⟩,fun k z ⟨hk,hz,hz0⟩=>?_⟩
  refine ⟨List.length_map _,fun c1=>?_,fun c1=>?_⟩
  ·replace c1:=yq c1
   obtain ⟨y,hy⟩:=cK (l:=x) (k:=k) (by omega)
   have hfy:=hf y (List.mem_of_getElem? hy)
   refine ⟨by omega,rfl,by omega,fun e20 h20=>?_⟩
   obtain rfl:=aY hy h20
   refine ⟨aTg e20 _ (by first | assumption | exact hf) (by omega) (by omega),fun c2=>?_,fun c2=>?_⟩
   ·replace c2:=yq c2
    have y3:=kB c2
    have y4:=dJ hZ ‹x[k]? =some _›
    have y5:=gD hZ x (k+1)
    refine ⟨?_,trivial⟩
    ·first | (rw [bM (by omega)];done) | (rw [aO (by omega)];done) | (rw [aO (by omega)];omega)
   ·replace c2:=nq c2
    have y2:=aO (iY c2)
    have y3:=iY c2
    have y4:=dJ hZ ‹x[k]? =some _›
    refine ⟨⟨by omega,by omega⟩,?_⟩
    exact ⟨k+1,aQ (hZ e20) z,rfl,rfl,⟨by omega,by rw [y2,y4,hz];omega,by rw [y2];omega⟩,by omega⟩
  ·replace c1:=nq c1
   have y6:k=x.length:=by omega
   rw [y6,List.take_length] at hz
   refine ⟨?_,trivial⟩
   ·first | (rw [bM (by omega)];done) | (rw [aO (by omega)];done) | (rw [aO (by omega)];omega)
abbrev aIC (x:QueryD) (m:Int):Prop:=cX Tryz.prog 6 [.agg [.int .i64 x.variableCount,.sl 135 2 (x.atoms.map aZ)],.one (.int .i64 m)] (vI (aQ (gF x) m)) []
theorem aS2 (x:QueryD) (m:Int) (hf:aMw x) (h0:0≤m) (h1:m≤1048576):aIC x m:=by
 refine aX bG aR Tryz.func6 (by kernel_rfl) (.call (vI (aQ (jA x.atoms) m)) []<| .br (.fin []) (.fin [])) (p:=(x.atoms.map aZ).length≤9223372036854775807→aIB x.atoms m∧(((decide ((aQ (jA x.atoms) m)<(0:Int)))=true→(-1:Int)=(aQ (gF x) m)∧True)∧((decide ((aQ (jA x.atoms) m)<(0:Int)))=false→(aQ (jA x.atoms) m)=(aQ (gF x) m)∧True))) (by kernel_rfl) ?_
 intro n0
 simp only [List.length_map] at n0
 obtain ⟨f_variableCount,f_atoms⟩:=hf
 have hmx:maxLen=9223372036854775807:=rfl
 refine ⟨aS1 x.atoms _ (by first | assumption | exact hf) (by omega) (by omega),fun c0=>?_,fun c0=>?_⟩
 ·replace c0:=yq c0
  have y0:=kB c0
  refine ⟨?_,trivial⟩
  ·unfold gF;first | (rw [bM (by omega)];done) | (rw [aO (by omega)];done) | (rw [aO (by omega)];omega)
 ·replace c0:=nq c0
  have y0:=iY c0
  rw [aO y0] at*
  refine ⟨?_,trivial⟩
  ·unfold gF;first | (rw [bM (by omega)];done) | (rw [aO (by omega)];done) | (rw [aO (by omega)];omega)
abbrev xX (x:aG) (m:Int):Prop:=cX Tryz.prog 164 [.agg [.sl 3 1 (x.columns.map intD),.sl 39 1 (x.values.map aC),.sl 3 1 (x.counts.map intD)],.one (.int .i64 m)] (vI (aQ (bN x) m)) []
theorem aI8 (x:aG) (m:Int) (hf:zB x) (h0:0≤m) (h1:m≤1048576):xX x m:=by
 refine aX bG aR Tryz.func164 (by kernel_rfl) (.call (vI (aQ (bS x.columns) m)) []<| .br (.fin []) (.call (vI (aQ (cM x.values) (aQ (bS x.columns) m))) []<| .br (.fin []) (.call (vI (aQ (bS x.counts) (aQ (cM x.values) (aQ (bS x.columns) m)))) []<| .br (.fin []) (.fin [])))) (p:=(x.columns.map intD).length≤9223372036854775807→(x.values.map aC).length≤9223372036854775807→(x.counts.map intD).length≤9223372036854775807→rX x.columns m∧(((decide ((aQ (bS x.columns) m)<(0:Int)))=true→(-1:Int)=(aQ (bN x) m)∧True)∧((decide ((aQ (bS x.columns) m)<(0:Int)))=false→aCN x.values (aQ (bS x.columns) m)∧(((decide ((aQ (cM x.values) (aQ (bS x.columns) m))<(0:Int)))=true→(-1:Int)=(aQ (bN x) m)∧True)∧((decide ((aQ (cM x.values) (aQ (bS x.columns) m))<(0:Int)))=false→rX x.counts (aQ (cM x.values) (aQ (bS x.columns) m))∧(((decide ((aQ (bS x.counts) (aQ (cM x.values) (aQ (bS x.columns) m)))<(0:Int)))=true→(-1:Int)=(aQ (bN x) m)∧True)∧((decide ((aQ (bS x.counts) (aQ (cM x.values) (aQ (bS x.columns) m)))<(0:Int)))=false→(aQ (bS x.counts) (aQ (cM x.values) (aQ (bS x.columns) m)))=(aQ (bN x) m)∧True))))))) (by kernel_rfl) ?_
 intro n0 n1 n2
 simp only [List.length_map] at n0 n1 n2
 obtain ⟨f_columns,f_values,f_counts⟩:=hf
 have hmx:maxLen=9223372036854775807:=rfl
 refine ⟨aDV x.columns _ (by first | assumption | exact hf) (by omega) (by omega),fun c0=>?_,fun c0=>?_⟩
 ·replace c0:=yq c0
  have y0:=kB c0
  refine ⟨?_,trivial⟩
  ·unfold bN;first | (rw [bM (by omega)];done) | (rw [aO (by omega)];done) | (rw [aO (by omega)];omega)
 ·replace c0:=nq c0
  have y0:=iY c0
  rw [aO y0] at*
  refine ⟨aM2 x.values _ (by first | assumption | exact hf) (by omega) (by omega),fun c1=>?_,fun c1=>?_⟩
  ·replace c1:=yq c1
   have y1:=kB c1
   refine ⟨?_,trivial⟩
   ·unfold bN;first | (rw [bM (by omega)];done) | (rw [aO (by omega)];done) | (rw [aO (by omega)];omega)
  ·replace c1:=nq c1
   have y1:=iY c1
   rw [aO y1] at*
   refine ⟨aDV x.counts _ (by first | assumption | exact hf) (by omega) (by omega),fun c2=>?_,fun c2=>?_⟩
   ·replace c2:=yq c2
    have y2:=kB c2
    refine ⟨?_,trivial⟩
    ·unfold bN;first | (rw [bM (by omega)];done) | (rw [aO (by omega)];done) | (rw [aO (by omega)];omega)
   ·replace c2:=nq c2
    have y2:=iY c2
    rw [aO y2] at*
    refine ⟨?_,trivial⟩
    ·unfold bN;first | (rw [bM (by omega)];done) | (rw [aO (by omega)];done) | (rw [aO (by omega)];omega)
abbrev vW (x:List aG) (m:Int):Prop:=cX Tryz.prog 131 [.one (.sl 203 3 (x.map aA)),.one (.int .i64 m)] (vI (aQ (dD x) m)) []
theorem aID (x:List aG) (m:Int) (hf:rG x) (h0:0≤m) (h1:m≤1048576):vW x m:=by
 refine aX bG aR Tryz.func131 (by kernel_rfl) (.len x.length<| .br (.fin []) (.loop (Nat × Int) (Q2 Nat Int) [1,5,12,13,14,15,16,17,18,19,20,21,22,23,24,25] [] (fun yy0=>[(5,vI (yy0.1:Int)),(1,vI yy0.2)]) (fun yy0=>[]) (fun yy0=>yy0.1≤x.length∧yy0.2=m - x.length - (bR bN (x.take yy0.1):Nat)∧0≤yy0.2) (fun yy0=>x.length - yy0.1) (fun yy0=> .len x.length<| .br (.elem _ aA x (fun e20=> .call (vI (aQ (bN e20) yy0.2)) []<| .br (.fin []) (.back []))) (.fin [])))) (p:=(x.map aA).length≤9223372036854775807→Lm aA x∧(cC (m - ((x.length:Nat):Int))∧(((decide ((m - ((x.length:Nat):Int))<(0:Int)))=true→(-1:Int)=(aQ (dD x) m)∧True)∧((decide ((m - ((x.length:Nat):Int))<(0:Int)))=false→(∃(k:Nat) (z:Int),(0:Int)=(k:Int)∧(m - ((x.length:Nat):Int))=z∧k≤x.length∧z=m - x.length - (bR bN (x.take k):Nat)∧0≤z)∧ ∀(k:Nat) (z:Int),(k≤x.length∧z=m - x.length - (bR bN (x.take k):Nat)∧0≤z)→Lm aA x∧(((decide ((k:Int)<((x.length:Nat):Int)))=true→0≤(k:Int)∧Em aA x k fun e20=>xX e20 z∧(((decide ((aQ (bN e20) z)<(0:Int)))=true→(-1:Int)=(aQ (dD x) m)∧True)∧((decide ((aQ (bN e20) z)<(0:Int)))=false→cC ((k:Int)+(1:Int))∧ ∃(k' :Nat) (z' :Int),((k:Int)+(1:Int))=(k' :Int)∧(aQ (bN e20) z)=z' ∧(k' ≤x.length∧z' =m - x.length - (bR bN (x.take k'):Nat)∧0≤z')∧x.length - k' <x.length - k)))∧((decide ((k:Int)<((x.length:Nat):Int)))=false→z=(aQ (dD x) m)∧True)))))) (by kernel_rfl) ?_
 intro n0
 simp only [List.length_map] at n0
 have hS:dD x=x.length+bR bN x:=rfl
 refine ⟨List.length_map _,⟨by omega,by omega⟩,fun c0=>?_,fun c0=>?_⟩
 ·replace c0:=yq c0
  refine ⟨?_,trivial⟩
  ·first | (rw [bM (by omega)];done) | (rw [aO (by omega)];done) | (rw [aO (by omega)];omega)
 ·replace c0:=nq c0
  refine ⟨⟨0,m - ((x.length:Nat):Int),rfl,rfl,Nat.zero_le _,by simp [bR],by omega⟩,fun k z ⟨hk,hz,hz0⟩=>?_⟩
  refine ⟨List.length_map _,fun c1=>?_,fun c1=>?_⟩
  ·replace c1:=yq c1
   obtain ⟨y,hy⟩:=cK (l:=x) (k:=k) (by omega)
   have hfy:=hf y (List.mem_of_getElem? hy)
   refine ⟨by omega,rfl,by omega,fun e20 h20=>?_⟩
   obtain rfl:=aY hy h20
   refine ⟨aI8 e20 _ (by first | assumption | exact hf) (by omega) (by omega),fun c2=>?_,fun c2=>?_⟩
   ·replace c2:=yq c2
    have y3:=kB c2
    have y4:=dJ bN ‹x[k]? =some _›
    have y5:=gD bN x (k+1)
    refine ⟨?_,trivial⟩
    ·first | (rw [bM (by omega)];done) | (rw [aO (by omega)];done) | (rw [aO (by omega)];omega)
   ·replace c2:=nq c2
    have y2:=aO (iY c2)
    have y3:=iY c2
    have y4:=dJ bN ‹x[k]? =some _›
    refine ⟨⟨by omega,by omega⟩,?_⟩
    exact ⟨k+1,aQ (bN e20) z,rfl,rfl,⟨by omega,by rw [y2,y4,hz];omega,by rw [y2];omega⟩,by omega⟩
  ·replace c1:=nq c1
   have y6:k=x.length:=by omega
   rw [y6,List.take_length] at hz
   refine ⟨?_,trivial⟩
   ·first | (rw [bM (by omega)];done) | (rw [aO (by omega)];done) | (rw [aO (by omega)];omega)
abbrev xY (x:aB) (m:Int):Prop:=cX Tryz.prog 102 [.agg [.str x.name,.int .i64 x.arity,.int .i64 x.rowCount,.sl 203 3 (x.groups.map aA)],.one (.int .i64 m)] (vI (aQ (bA x) m)) []
theorem aI9 (x:aB) (m:Int) (hf:zC x) (h0:0≤m) (h1:m≤1048576):xY x m:=by
 refine aX bG aR Tryz.func102 (by kernel_rfl) (.br (.fin []) (.call (vI (aQ (dD x.groups) (m - ((x.name.size:Nat):Int)))) []<| .br (.fin []) (.fin []))) (p:=(x.groups.map aA).length≤9223372036854775807→cC (m - ((x.name.size:Nat):Int))∧(((decide ((m - ((x.name.size:Nat):Int))<(0:Int)))=true→(-1:Int)=(aQ (bA x) m)∧True)∧((decide ((m - ((x.name.size:Nat):Int))<(0:Int)))=false→vW x.groups (m - ((x.name.size:Nat):Int))∧(((decide ((aQ (dD x.groups) (m - ((x.name.size:Nat):Int)))<(0:Int)))=true→(-1:Int)=(aQ (bA x) m)∧True)∧((decide ((aQ (dD x.groups) (m - ((x.name.size:Nat):Int)))<(0:Int)))=false→(aQ (dD x.groups) (m - ((x.name.size:Nat):Int)))=(aQ (bA x) m)∧True))))) (by kernel_rfl) ?_
 intro n0
 simp only [List.length_map] at n0
 obtain ⟨f_name,f_arity,f_rowCount,f_groups⟩:=hf
 have hmx:maxLen=9223372036854775807:=rfl
 have g_name:x.name.size≤maxLen:=f_name
 refine ⟨⟨by omega,by omega⟩,fun c0=>?_,fun c0=>?_⟩
 ·replace c0:=yq c0
  refine ⟨?_,trivial⟩
  ·unfold bA;first | (rw [bM (by omega)];done) | (rw [aO (by omega)];done) | (rw [aO (by omega)];omega)
 ·replace c0:=nq c0
  refine ⟨aID x.groups _ (by first | assumption | exact hf) (by omega) (by omega),fun c1=>?_,fun c1=>?_⟩
  ·replace c1:=yq c1
   have y1:=kB c1
   refine ⟨?_,trivial⟩
   ·unfold bA;first | (rw [bM (by omega)];done) | (rw [aO (by omega)];done) | (rw [aO (by omega)];omega)
  ·replace c1:=nq c1
   have y1:=iY c1
   rw [aO y1] at*
   refine ⟨?_,trivial⟩
   ·unfold bA;first | (rw [bM (by omega)];done) | (rw [aO (by omega)];done) | (rw [aO (by omega)];omega)
abbrev vX (x:List aB) (m:Int):Prop:=cX Tryz.prog 61 [.one (.sl 161 4 (x.map aD)),.one (.int .i64 m)] (vI (aQ (dK x) m)) []
theorem aIE (x:List aB) (m:Int) (hf:rH x) (h0:0≤m) (h1:m≤1048576):vX x m:=by
 refine aX bG aR Tryz.func61 (by kernel_rfl) (.len x.length<| .br (.fin []) (.loop (Nat × Int) (Q2 Nat Int) [1,5,12,13,14,15,16,17,18,19,20,21,22,23,24,25] [] (fun yy0=>[(5,vI (yy0.1:Int)),(1,vI yy0.2)]) (fun yy0=>[]) (fun yy0=>yy0.1≤x.length∧yy0.2=m - x.length - (bR bA (x.take yy0.1):Nat)∧0≤yy0.2) (fun yy0=>x.length - yy0.1) (fun yy0=> .len x.length<| .br (.elem _ aD x (fun e20=> .call (vI (aQ (bA e20) yy0.2)) []<| .br (.fin []) (.back []))) (.fin [])))) (p:=(x.map aD).length≤9223372036854775807→Lm aD x∧(cC (m - ((x.length:Nat):Int))∧(((decide ((m - ((x.length:Nat):Int))<(0:Int)))=true→(-1:Int)=(aQ (dK x) m)∧True)∧((decide ((m - ((x.length:Nat):Int))<(0:Int)))=false→(∃(k:Nat) (z:Int),(0:Int)=(k:Int)∧(m - ((x.length:Nat):Int))=z∧k≤x.length∧z=m - x.length - (bR bA (x.take k):Nat)∧0≤z)∧ ∀(k:Nat) (z:Int),(k≤x.length∧z=m - x.length - (bR bA (x.take k):Nat)∧0≤z)→Lm aD x∧(((decide ((k:Int)<((x.length:Nat):Int)))=true→0≤(k:Int)∧Em aD x k fun e20=>xY e20 z∧(((decide ((aQ (bA e20) z)<(0:Int)))=true→(-1:Int)=(aQ (dK x) m)∧True)∧((decide ((aQ (bA e20) z)<(0:Int)))=false→cC ((k:Int)+(1:Int))∧ ∃(k' :Nat) (z' :Int),((k:Int)+(1:Int))=(k' :Int)∧(aQ (bA e20) z)=z' ∧(k' ≤x.length∧z' =m - x.length - (bR bA (x.take k'):Nat)∧0≤z')∧x.length - k' <x.length - k)))∧((decide ((k:Int)<((x.length:Nat):Int)))=false→z=(aQ (dK x) m)∧True)))))) (by kernel_rfl) ?_
 intro n0
 simp only [List.length_map] at n0
 have hS:dK x=x.length+bR bA x:=rfl
 refine ⟨List.length_map _,⟨by omega,by omega⟩,fun c0=>?_,fun c0=>?_⟩
 ·replace c0:=yq c0
  refine ⟨?_,trivial⟩
  ·first | (rw [bM (by omega)];done) | (rw [aO (by omega)];done) | (rw [aO (by omega)];omega)
 ·replace c0:=nq c0
  refine ⟨⟨0,m - ((x.length:Nat):Int),rfl,rfl,Nat.zero_le _,by simp [bR],by omega⟩,fun k z ⟨hk,hz,hz0⟩=>?_⟩
  refine ⟨List.length_map _,fun c1=>?_,fun c1=>?_⟩
  ·replace c1:=yq c1
   obtain ⟨y,hy⟩:=cK (l:=x) (k:=k) (by omega)
   have hfy:=hf y (List.mem_of_getElem? hy)
   refine ⟨by omega,rfl,by omega,fun e20 h20=>?_⟩
   obtain rfl:=aY hy h20
   refine ⟨aI9 e20 _ (by first | assumption | exact hf) (by omega) (by omega),fun c2=>?_,fun c2=>?_⟩
   ·replace c2:=yq c2
    have y3:=kB c2
    have y4:=dJ bA ‹x[k]? =some _›
    have y5:=gD bA x (k+1)
    refine ⟨?_,trivial⟩
    ·first | (rw [bM (by omega)];done) | (rw [aO (by omega)];done) | (rw [aO (by omega)];omega)
   ·replace c2:=nq c2
    have y2:=aO (iY c2)
    have y3:=iY c2
    have y4:=dJ bA ‹x[k]? =some _›
    refine ⟨⟨by omega,by omega⟩,?_⟩
    exact ⟨k+1,aQ (bA e20) z,rfl,rfl,⟨by omega,by rw [y2,y4,hz];omega,by rw [y2];omega⟩,by omega⟩
  ·replace c1:=nq c1
   have y6:k=x.length:=by omega
   rw [y6,List.take_length] at hz
   refine ⟨?_,trivial⟩
   ·first | (rw [bM (by omega)];done) | (rw [aO (by omega)];done) | (rw [aO (by omega)];omega)
abbrev aA1 (x:cD) (m:Int):Prop:=cX Tryz.prog 26 [.agg [.int .i64 x.version,.sl 161 4 (x.tables.map aD)],.one (.int .i64 m)] (vI (aQ (bO x) m)) []
theorem aKe (x:cD) (m:Int) (hf:aB9 x) (h0:0≤m) (h1:m≤1048576):aA1 x m:=by
 refine aX bG aR Tryz.func26 (by kernel_rfl) (.call (vI (aQ (dK x.tables) m)) []<| .br (.fin []) (.fin [])) (p:=(x.tables.map aD).length≤9223372036854775807→vX x.tables m∧(((decide ((aQ (dK x.tables) m)<(0:Int)))=true→(-1:Int)=(aQ (bO x) m)∧True)∧((decide ((aQ (dK x.tables) m)<(0:Int)))=false→(aQ (dK x.tables) m)=(aQ (bO x) m)∧True))) (by kernel_rfl) ?_
 intro n0
 simp only [List.length_map] at n0
 obtain ⟨f_version,f_tables⟩:=hf
 have hmx:maxLen=9223372036854775807:=rfl
 refine ⟨aIE x.tables _ (by first | assumption | exact hf) (by omega) (by omega),fun c0=>?_,fun c0=>?_⟩
 ·replace c0:=yq c0
  have y0:=kB c0
  refine ⟨?_,trivial⟩
  ·unfold bO;first | (rw [bM (by omega)];done) | (rw [aO (by omega)];done) | (rw [aO (by omega)];omega)
 ·replace c0:=nq c0
  have y0:=iY c0
  rw [aO y0] at*
  refine ⟨?_,trivial⟩
  ·unfold bO;first | (rw [bM (by omega)];done) | (rw [aO (by omega)];done) | (rw [aO (by omega)];omega)
abbrev xZ (x:aN) (m:Int):Prop:=cX Tryz.prog 62 [.agg [.str x.name,.sl 3 1 (x.src.map intD),.int .i64 x.dst],.one (.int .i64 m)] (vI (aQ (cI x) m)) []
theorem aIa (x:aN) (m:Int) (hf:zD x) (h0:0≤m) (h1:m≤1048576):xZ x m:=by
 refine aX bG aR Tryz.func62 (by kernel_rfl) (.br (.fin []) (.call (vI (aQ (bS x.src) (m - ((x.name.size:Nat):Int)))) []<| .br (.fin []) (.fin []))) (p:=(x.src.map intD).length≤9223372036854775807→cC (m - ((x.name.size:Nat):Int))∧(((decide ((m - ((x.name.size:Nat):Int))<(0:Int)))=true→(-1:Int)=(aQ (cI x) m)∧True)∧((decide ((m - ((x.name.size:Nat):Int))<(0:Int)))=false→rX x.src (m - ((x.name.size:Nat):Int))∧(((decide ((aQ (bS x.src) (m - ((x.name.size:Nat):Int)))<(0:Int)))=true→(-1:Int)=(aQ (cI x) m)∧True)∧((decide ((aQ (bS x.src) (m - ((x.name.size:Nat):Int)))<(0:Int)))=false→(aQ (bS x.src) (m - ((x.name.size:Nat):Int)))=(aQ (cI x) m)∧True))))) (by kernel_rfl) ?_
 intro n0
 simp only [List.length_map] at n0
 obtain ⟨f_name,f_src,f_dst⟩:=hf
 have hmx:maxLen=9223372036854775807:=rfl
 have g_name:x.name.size≤maxLen:=f_name
 refine ⟨⟨by omega,by omega⟩,fun c0=>?_,fun c0=>?_⟩
 ·replace c0:=yq c0
  refine ⟨?_,trivial⟩
  ·unfold cI;first | (rw [bM (by omega)];done) | (rw [aO (by omega)];done) | (rw [aO (by omega)];omega)
 ·replace c0:=nq c0
  refine ⟨aDV x.src _ (by first | assumption | exact hf) (by omega) (by omega),fun c1=>?_,fun c1=>?_⟩
  ·replace c1:=yq c1
   have y1:=kB c1
   refine ⟨?_,trivial⟩
   ·unfold cI;first | (rw [bM (by omega)];done) | (rw [aO (by omega)];done) | (rw [aO (by omega)];omega)
  ·replace c1:=nq c1
   have y1:=iY c1
   rw [aO y1] at*
   refine ⟨?_,trivial⟩
   ·unfold cI;first | (rw [bM (by omega)];done) | (rw [aO (by omega)];done) | (rw [aO (by omega)];omega)
abbrev vY (x:List aN) (m:Int):Prop:=cX Tryz.prog 27 [.one (.sl 131 3 (x.map aJ)),.one (.int .i64 m)] (vI (aQ (bY x) m)) []
theorem aIF (x:List aN) (m:Int) (hf:rI x) (h0:0≤m) (h1:m≤1048576):vY x m:=by
 refine aX bG aR Tryz.func27 (by kernel_rfl) (.len x.length<| .br (.fin []) (.loop (Nat × Int) (Q2 Nat Int) [1,5,12,13,14,15,16,17,18,19,20,21,22,23,24,25] [] (fun yy0=>[(5,vI (yy0.1:Int)),(1,vI yy0.2)]) (fun yy0=>[]) (fun yy0=>yy0.1≤x.length∧yy0.2=m - x.length - (bR cI (x.take yy0.1):Nat)∧0≤yy0.2) (fun yy0=>x.length - yy0.1) (fun yy0=> .len x.length<| .br (.elem _ aJ x (fun e20=> .call (vI (aQ (cI e20) yy0.2)) []<| .br (.fin []) (.back []))) (.fin [])))) (p:=(x.map aJ).length≤9223372036854775807→Lm aJ x∧(cC (m - ((x.length:Nat):Int))∧(((decide ((m - ((x.length:Nat):Int))<(0:Int)))=true→(-1:Int)=(aQ (bY x) m)∧True)∧((decide ((m - ((x.length:Nat):Int))<(0:Int)))=false→(∃(k:Nat) (z:Int),(0:Int)=(k:Int)∧(m - ((x.length:Nat):Int))=z∧k≤x.length∧z=m - x.length - (bR cI (x.take k):Nat)∧0≤z)∧ ∀(k:Nat) (z:Int),(k≤x.length∧z=m - x.length - (bR cI (x.take k):Nat)∧0≤z)→Lm aJ x∧(((decide ((k:Int)<((x.length:Nat):Int)))=true→0≤(k:Int)∧Em aJ x k fun e20=>xZ e20 z∧(((decide ((aQ (cI e20) z)<(0:Int)))=true→(-1:Int)=(aQ (bY x) m)∧True)∧((decide ((aQ (cI e20) z)<(0:Int)))=false→cC ((k:Int)+(1:Int))∧ ∃(k' :Nat) (z' :Int),((k:Int)+(1:Int))=(k' :Int)∧(aQ (cI e20) z)=z' ∧(k' ≤x.length∧z' =m - x.length - (bR cI (x.take k'):Nat)∧0≤z')∧x.length - k' <x.length - k)))∧((decide ((k:Int)<((x.length:Nat):Int)))=false→z=(aQ (bY x) m)∧True)))))) (by kernel_rfl) ?_
 intro n0
 simp only [List.length_map] at n0
 have hS:bY x=x.length+bR cI x:=rfl
 refine ⟨List.length_map _,⟨by omega,by omega⟩,fun c0=>?_,fun c0=>?_⟩
 ·replace c0:=yq c0
  refine ⟨?_,trivial⟩
  ·first | (rw [bM (by omega)];done) | (rw [aO (by omega)];done) | (rw [aO (by omega)];omega)
 ·replace c0:=nq c0
  refine ⟨⟨0,m - ((x.length:Nat):Int),rfl,rfl,Nat.zero_le _,by simp [bR],by omega⟩,fun k z ⟨hk,hz,hz0⟩=>?_⟩
  refine ⟨List.length_map _,fun c1=>?_,fun c1=>?_⟩
  ·replace c1:=yq c1
   obtain ⟨y,hy⟩:=cK (l:=x) (k:=k) (by omega)
   have hfy:=hf y (List.mem_of_getElem? hy)
   refine ⟨by omega,rfl,by omega,fun e20 h20=>?_⟩
   obtain rfl:=aY hy h20
   refine ⟨aIa e20 _ (by first | assumption | exact hf) (by omega) (by omega),fun c2=>?_,fun c2=>?_⟩
   ·replace c2:=yq c2
    have y3:=kB c2
    have y4:=dJ cI ‹x[k]? =some _›
    have y5:=gD cI x (k+1)
    refine ⟨?_,trivial⟩
    ·first | (rw [bM (by omega)];done) | (rw [aO (by omega)];done) | (rw [aO (by omega)];omega)
   ·replace c2:=nq c2
    have y2:=aO (iY c2)
    have y3:=iY c2
    have y4:=dJ cI ‹x[k]? =some _›
    refine ⟨⟨by omega,by omega⟩,?_⟩
    exact ⟨k+1,aQ (cI e20) z,rfl,rfl,⟨by omega,by rw [y2,y4,hz];omega,by rw [y2];omega⟩,by omega⟩
  ·replace c1:=nq c1
   have y6:k=x.length:=by omega
   rw [y6,List.take_length] at hz
   refine ⟨?_,trivial⟩
   ·first | (rw [bM (by omega)];done) | (rw [aO (by omega)];done) | (rw [aO (by omega)];omega)
abbrev aA2 (x:aL) (m:Int):Prop:=cX Tryz.prog 63 [.agg [.str x.name,.int .i64 x.column,.str x.into,.int .i64 x.intoColumn],.one (.int .i64 m)] (vI (aQ (cU x) m)) []
theorem aKf (x:aL) (m:Int) (hf:aBa x) (h0:0≤m) (h1:m≤1048576):aA2 x m:=by
 refine aX bG aR Tryz.func63 (by kernel_rfl) (.br (.fin []) (.br (.fin []) (.fin []))) (p:=cC (m - ((x.name.size:Nat):Int))∧(((decide ((m - ((x.name.size:Nat):Int))<(0:Int)))=true→(-1:Int)=(aQ (cU x) m)∧True)∧((decide ((m - ((x.name.size:Nat):Int))<(0:Int)))=false→cC ((m - ((x.name.size:Nat):Int)) - ((x.into.size:Nat):Int))∧(((decide (((m - ((x.name.size:Nat):Int)) - ((x.into.size:Nat):Int))<(0:Int)))=true→(-1:Int)=(aQ (cU x) m)∧True)∧((decide (((m - ((x.name.size:Nat):Int)) - ((x.into.size:Nat):Int))<(0:Int)))=false→((m - ((x.name.size:Nat):Int)) - ((x.into.size:Nat):Int))=(aQ (cU x) m)∧True))))) (by kernel_rfl) ?_
 obtain ⟨f_name,f_column,f_into,f_intoColumn⟩:=hf
 have hmx:maxLen=9223372036854775807:=rfl
 have g_name:x.name.size≤maxLen:=f_name
 have g_into:x.into.size≤maxLen:=f_into
 refine ⟨⟨by omega,by omega⟩,fun c0=>?_,fun c0=>?_⟩
 ·replace c0:=yq c0
  refine ⟨?_,trivial⟩
  ·unfold cU;first | (rw [bM (by omega)];done) | (rw [aO (by omega)];done) | (rw [aO (by omega)];omega)
 ·replace c0:=nq c0
  refine ⟨⟨by omega,by omega⟩,fun c1=>?_,fun c1=>?_⟩
  ·replace c1:=yq c1
   refine ⟨?_,trivial⟩
   ·unfold cU;first | (rw [bM (by omega)];done) | (rw [aO (by omega)];done) | (rw [aO (by omega)];omega)
  ·replace c1:=nq c1
   refine ⟨?_,trivial⟩
   ·unfold cU;first | (rw [bM (by omega)];done) | (rw [aO (by omega)];done) | (rw [aO (by omega)];omega)
abbrev yA (x:List aL) (m:Int):Prop:=cX Tryz.prog 28 [.one (.sl 133 4 (x.map aM)),.one (.int .i64 m)] (vI (aQ (cR x) m)) []
theorem aIb (x:List aL) (m:Int) (hf:tQ x) (h0:0≤m) (h1:m≤1048576):yA x m:=by
 refine aX bG aR Tryz.func28 (by kernel_rfl) (.len x.length<| .br (.fin []) (.loop (Nat × Int) (Q2 Nat Int) [1,5,12,13,14,15,16,17,18,19,20,21,22,23,24,25] [] (fun yy0=>[(5,vI (yy0.1:Int)),(1,vI yy0.2)]) (fun yy0=>[]) (fun yy0=>yy0.1≤x.length∧yy0.2=m - x.length - (bR cU (x.take yy0.1):Nat)∧0≤yy0.2) (fun yy0=>x.length - yy0.1) (fun yy0=> .len x.length<| .br (.elem _ aM x (fun e20=> .call (vI (aQ (cU e20) yy0.2)) []<| .br (.fin []) (.back []))) (.fin [])))) (p:=(x.map aM).length≤9223372036854775807→Lm aM x∧(cC (m - ((x.length:Nat):Int))∧(((decide ((m - ((x.length:Nat):Int))<(0:Int)))=true→(-1:Int)=(aQ (cR x) m)∧True)∧((decide ((m - ((x.length:Nat):Int))<(0:Int)))=false→(∃(k:Nat) (z:Int),(0:Int)=(k:Int)∧(m - ((x.length:Nat):Int))=z∧k≤x.length∧z=m - x.length - (bR cU (x.take k):Nat)∧0≤z)∧ ∀(k:Nat) (z:Int),(k≤x.length∧z=m - x.length - (bR cU (x.take k):Nat)∧0≤z)→Lm aM x∧(((decide ((k:Int)<((x.length:Nat):Int)))=true→0≤(k:Int)∧Em aM x k fun e20=>aA2 e20 z∧(((decide ((aQ (cU e20) z)<(0:Int)))=true→(-1:Int)=(aQ (cR x) m)∧True)∧((decide ((aQ (cU e20) z)<(0:Int)))=false→cC ((k:Int)+(1:Int))∧ ∃(k' :Nat) (z' :Int),((k:Int)+(1:Int))=(k' :Int)∧(aQ (cU e20) z)=z' ∧(k' ≤x.length∧z' =m - x.length - (bR cU (x.take k'):Nat)∧0≤z')∧x.length - k' <x.length - k)))∧((decide ((k:Int)<((x.length:Nat):Int)))=false→z=(aQ (cR x) m)∧True)))))) (by kernel_rfl) ?_
 intro n0
 simp only [List.length_map] at n0
 have hS:cR x=x.length+bR cU x:=rfl
 refine ⟨List.length_map _,⟨by omega,by omega⟩,fun c0=>?_,fun c0=>?_⟩
 ·replace c0:=yq c0
  refine ⟨?_,trivial⟩
  ·first | (rw [bM (by omega)];done) | (rw [aO (by omega)];done) | (rw [aO (by omega)];omega)
 ·replace c0:=nq c0
  refine ⟨⟨0,m - ((x.length:Nat):Int),rfl,rfl,Nat.zero_le _,by simp [bR],by omega⟩,fun k z ⟨hk,hz,hz0⟩=>?_⟩
  refine ⟨List.length_map _,fun c1=>?_,fun c1=>?_⟩
  ·replace c1:=yq c1
   obtain ⟨y,hy⟩:=cK (l:=x) (k:=k) (by omega)
   have hfy:=hf y (List.mem_of_getElem? hy)
   refine ⟨by omega,rfl,by omega,fun e20 h20=>?_⟩
   obtain rfl:=aY hy h20
   refine ⟨aKf e20 _ (by first | assumption | exact hf) (by omega) (by omega),fun c2=>?_,fun c2=>?_⟩
   ·replace c2:=yq c2
    have y3:=kB c2
    have y4:=dJ cU ‹x[k]? =some _›
    have y5:=gD cU x (k+1)
    refine ⟨?_,trivial⟩
    ·first | (rw [bM (by omega)];done) | (rw [aO (by omega)];done) | (rw [aO (by omega)];omega)
   ·replace c2:=nq c2
    have y2:=aO (iY c2)
    have y3:=iY c2
    have y4:=dJ cU ‹x[k]? =some _›
    refine ⟨⟨by omega,by omega⟩,?_⟩
    exact ⟨k+1,aQ (cU e20) z,rfl,rfl,⟨by omega,by rw [y2,y4,hz];omega,by rw [y2];omega⟩,by omega⟩
  ·replace c1:=nq c1
   have y6:k=x.length:=by omega
   rw [y6,List.take_length] at hz
   refine ⟨?_,trivial⟩
   ·first | (rw [bM (by omega)];done) | (rw [aO (by omega)];done) | (rw [aO (by omega)];omega)
abbrev aIG (x:StoreD) (m:Int):Prop:=cX Tryz.prog 5 [.agg [.sl 167 3 (x.database.tables.map aP),.int .i64 x.catalogue.version,.sl 161 4 (x.catalogue.tables.map aD),.sl 131 3 (x.dependencies.map aJ),.sl 133 4 (x.inclusions.map aM)],.one (.int .i64 m)] (vI (aQ (dU x) m)) []
theorem aS3 (x:StoreD) (m:Int) (hf:aMy x) (h0:0≤m) (h1:m≤1048576):aIG x m:=by
 refine aX bG aR Tryz.func5 (by kernel_rfl) (.call (vI (aQ (bH x.database) m)) []<| .br (.fin []) (.call (vI (aQ (bO x.catalogue) (aQ (bH x.database) m))) []<| .br (.fin []) (.call (vI (aQ (bY x.dependencies) (aQ (bO x.catalogue) (aQ (bH x.database) m)))) []<| .br (.fin []) (.call (vI (aQ (cR x.inclusions) (aQ (bY x.dependencies) (aQ (bO x.catalogue) (aQ (bH x.database) m))))) []<| .br (.fin []) (.fin []))))) (p:=(x.database.tables.map aP).length≤9223372036854775807→(x.catalogue.tables.map aD).length≤9223372036854775807→(x.dependencies.map aJ).length≤9223372036854775807→(x.inclusions.map aM).length≤9223372036854775807→aBW x.database m∧(((decide ((aQ (bH x.database) m)<(0:Int)))=true→(-1:Int)=(aQ (dU x) m)∧True)∧((decide ((aQ (bH x.database) m)<(0:Int)))=false→aA1 x.catalogue (aQ (bH x.database) m)∧(((decide ((aQ (bO x.catalogue) (aQ (bH x.database) m))<(0:Int)))=true→(-1:Int)=(aQ (dU x) m)∧True)∧((decide ((aQ (bO x.catalogue) (aQ (bH x.database) m))<(0:Int)))=false→vY x.dependencies (aQ (bO x.catalogue) (aQ (bH x.database) m))∧(((decide ((aQ (bY x.dependencies) (aQ (bO x.catalogue) (aQ (bH x.database) m)))<(0:Int)))=true→(-1:Int)=(aQ (dU x) m)∧True)∧((decide ((aQ (bY x.dependencies) (aQ (bO x.catalogue) (aQ (bH x.database) m)))<(0:Int)))=false→yA x.inclusions (aQ (bY x.dependencies) (aQ (bO x.catalogue) (aQ (bH x.database) m)))∧(((decide ((aQ (cR x.inclusions) (aQ (bY x.dependencies) (aQ (bO x.catalogue) (aQ (bH x.database) m))))<(0:Int)))=true→(-1:Int)=(aQ (dU x) m)∧True)∧((decide ((aQ (cR x.inclusions) (aQ (bY x.dependencies) (aQ (bO x.catalogue) (aQ (bH x.database) m))))<(0:Int)))=false→(aQ (cR x.inclusions) (aQ (bY x.dependencies) (aQ (bO x.catalogue) (aQ (bH x.database) m))))=(aQ (dU x) m)∧True))))))))) (by kernel_rfl) ?_
 intro n0 n1 n2 n3
 simp only [List.length_map] at n0 n1 n2 n3
 obtain ⟨f_database,f_catalogue,f_dependencies,f_inclusions⟩:=hf
 have hmx:maxLen=9223372036854775807:=rfl
 refine ⟨aM3 x.database _ (by first | assumption | exact hf) (by omega) (by omega),fun c0=>?_,fun c0=>?_⟩
 ·replace c0:=yq c0
  have y0:=kB c0
  refine ⟨?_,trivial⟩
  ·unfold dU;first | (rw [bM (by omega)];done) | (rw [aO (by omega)];done) | (rw [aO (by omega)];omega)
 ·replace c0:=nq c0
  have y0:=iY c0
  rw [aO y0] at*
  refine ⟨aKe x.catalogue _ (by first | assumption | exact hf) (by omega) (by omega),fun c1=>?_,fun c1=>?_⟩
  ·replace c1:=yq c1
   have y1:=kB c1
   refine ⟨?_,trivial⟩
   ·unfold dU;first | (rw [bM (by omega)];done) | (rw [aO (by omega)];done) | (rw [aO (by omega)];omega)
  ·replace c1:=nq c1
   have y1:=iY c1
   rw [aO y1] at*
   refine ⟨aIF x.dependencies _ (by first | assumption | exact hf) (by omega) (by omega),fun c2=>?_,fun c2=>?_⟩
   ·replace c2:=yq c2
    have y2:=kB c2
    refine ⟨?_,trivial⟩
    ·unfold dU;first | (rw [bM (by omega)];done) | (rw [aO (by omega)];done) | (rw [aO (by omega)];omega)
   ·replace c2:=nq c2
    have y2:=iY c2
    rw [aO y2] at*
    refine ⟨aIb x.inclusions _ (by first | assumption | exact hf) (by omega) (by omega),fun c3=>?_,fun c3=>?_⟩
    ·replace c3:=yq c3
     have y3:=kB c3
     refine ⟨?_,trivial⟩
     ·unfold dU;first | (rw [bM (by omega)];done) | (rw [aO (by omega)];done) | (rw [aO (by omega)];omega)
    ·replace c3:=nq c3
     have y3:=iY c3
     rw [aO y3] at*
     refine ⟨?_,trivial⟩
     ·unfold dU;first | (rw [bM (by omega)];done) | (rw [aO (by omega)];done) | (rw [aO (by omega)];omega)
abbrev aA3 (x:List RationalD) (m:Int):Prop:=cX Tryz.prog 7 [.one (.sl 70 2 (x.map aW)),.one (.int .i64 m)] (vI (aQ (gK x) m)) []
theorem aKg (x:List RationalD) (m:Int) (hf:wF x) (h0:0≤m) (h1:m≤1048576):aA3 x m:=by
 refine aX bG aR Tryz.func7 (by kernel_rfl) (.len x.length<| .br (.fin []) (.fin [])) (p:=(x.map aW).length≤9223372036854775807→Lm aW x∧(cC (m - ((x.length:Nat):Int))∧(((decide ((m - ((x.length:Nat):Int))<(0:Int)))=true→(-1:Int)=(aQ (gK x) m)∧True)∧((decide ((m - ((x.length:Nat):Int))<(0:Int)))=false→(m - ((x.length:Nat):Int))=(aQ (gK x) m)∧True)))) (by kernel_rfl) ?_
 intro n0
 simp only [List.length_map] at n0
 refine ⟨List.length_map _,⟨by omega,by omega⟩,fun c0=>?_,fun c0=>?_⟩
 ·replace c0:=yq c0
  refine ⟨?_,trivial⟩
  ·unfold gK;first | (rw [bM (by omega)];done) | (rw [aO (by omega)];done)
 ·replace c0:=nq c0
  refine ⟨?_,trivial⟩
  ·unfold gK;first | (rw [bM (by omega)];done) | (rw [aO (by omega)];done)
end Go.Proofs.YtdfebigfnjfgpaaGreat
