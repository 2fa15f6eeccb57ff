/-
  Contracts and plain laws, joined: part 25.
-/
import Derived.Test.YtdfebigfnjfgpaaGreatQI3
import Derived.Test.YtdfebigfnjfgpaaGreatQI21
import Derived.Test.YtdfebigfnjfgpaaGreatQI22
import Derived.Test.YtdfebigfnjfgpaaGreatQI23
namespace Go.Proofs.YtdfebigfnjfgpaaGreat
open Go.ChangeShapes Go.WideShapes Go.ChangeAt Go.RowKit
set_option linter.unusedVariables false
set_option linter.unusedSimpArgs false
set_option maxRecDepth 100000
set_option maxHeartbeats 4000000
abbrev rB (x:List Int) (m:Int):Prop:=cT Tryz.prog 103 [.one (.sl 3 1 (x.map intD)),.one (.int .i64 m)] (vI (aJ (cG x) m)) []
theorem aCg (x:List Int) (m:Int) (hf:aDb x) (h0:0≤m) (h1:m≤1048576):rB x m:=by
 refine aT bE aL Tryz.func103 (by kernel_rfl) (.len x.length<| .br (.fin []) (.fin [])) (p:=(x.map intD).length≤9223372036854775807→Lm intD x∧(cC (m - ((x.length:Nat):Int))∧(((decide ((m - ((x.length:Nat):Int))<(0:Int)))=true→(-1:Int)=(aJ (cG x) m)∧True)∧((decide ((m - ((x.length:Nat):Int))<(0:Int)))=false→(m - ((x.length:Nat):Int))=(aJ (cG x) m)∧True)))) (by kernel_rfl) ?_
 intro n0
 simp only [List.length_map] at n0
 refine ⟨List.length_map _,⟨by omega,by omega⟩,fun c0=>?_,fun c0=>?_⟩
 ·replace c0:=yq c0
  refine ⟨?_,trivial⟩
  ·unfold cG;first | (rw [bM (by omega)];done) | (rw [aI (by omega)];done)
 ·replace c0:=nq c0
  refine ⟨?_,trivial⟩
  ·unfold cG;first | (rw [bM (by omega)];done) | (rw [aI (by omega)];done)
abbrev aBb (x:List (List Int)) (m:Int):Prop:=cT Tryz.prog 130 [.one (.sl 39 1 (x.map aA)),.one (.int .i64 m)] (vI (aJ (cX x) m)) []
theorem aLg (x:List (List Int)) (m:Int) (hf:aFj x) (h0:0≤m) (h1:m≤1048576):aBb x m:=by
 refine aT bE aL Tryz.func130 (by kernel_rfl) (.len x.length<| .br (.fin []) (.loop (Nat × Int) (Q2 Nat Int) [1,5,12,13,14,15,16,17,18,19,20,21,22,23,24,25] [] (fun yy0=>[(5,vI (yy0.1:Int)),(1,vI yy0.2)]) (fun yy0=>[]) (fun yy0=>yy0.1≤x.length∧yy0.2=m - x.length - (fZ cG (x.take yy0.1):Nat)∧0≤yy0.2) (fun yy0=>x.length - yy0.1) (fun yy0=> .len x.length<| .br (.elem _ aA x (fun e20=> .call (vI (aJ (cG e20) yy0.2)) []<| .br (.fin []) (.back []))) (.fin [])))) (p:=(x.map aA).length≤9223372036854775807→Lm aA x∧(cC (m - ((x.length:Nat):Int))∧(((decide ((m - ((x.length:Nat):Int))<(0:Int)))=true→(-1:Int)=(aJ (cX x) m)∧True)∧((decide ((m - ((x.length:Nat):Int))<(0:Int)))=false→(∃(k:Nat) (z:Int),(0:Int)=(k:Int)∧(m - ((x.length:Nat):Int))=z∧k≤x.length∧z=m - x.length - (fZ cG (x.take k):Nat)∧0≤z)∧ ∀(k:Nat) (z:Int),(k≤x.length∧z=m - x.length - (fZ cG (x.take k):Nat)∧0≤z)→Lm aA x∧(((decide ((k:Int)<((x.length:Nat):Int)))=true→0≤(k:Int)∧Em aA x k fun e20=>rB e20 z∧(((decide ((aJ (cG e20) z)<(0:Int)))=true→(-1:Int)=(aJ (cX x) m)∧True)∧((decide ((aJ (cG e20) z)<(0:Int)))=false→cC ((k:Int)+(1:Int))∧ ∃(k' :Nat) (z' :Int),((k:Int)+(1:Int))=(k' :Int)∧(aJ (cG e20) z)=z' ∧(k' ≤x.length∧z' =m - x.length - (fZ cG (x.take k'):Nat)∧0≤z')∧x.length - k' <x.length - k)))∧((decide ((k:Int)<((x.length:Nat):Int)))=false→z=(aJ (cX x) m)∧True)))))) (by kernel_rfl) ?_
 intro n0
 simp only [List.length_map] at n0
 have hS:cX x=x.length+fZ cG x:=rfl
 refine ⟨List.length_map _,⟨by omega,by omega⟩,fun c0=>?_,fun c0=>?_⟩
 ·replace c0:=yq c0
  refine ⟨?_,trivial⟩
  ·first | (rw [bM (by omega)];done) | (rw [aI (by omega)];done) | (rw [aI (by omega)];omega)
 ·replace c0:=nq c0
  refine ⟨⟨0,m - ((x.length:Nat):Int),rfl,rfl,Nat.zero_le _,by simp [fZ],by omega⟩,fun k z ⟨hk,hz,hz0⟩=>?_⟩
  refine ⟨List.length_map _,fun c1=>?_,fun c1=>?_⟩
  ·replace c1:=yq c1
   obtain ⟨y,hy⟩:=dG (l:=x) (k:=k) (by omega)
   have hfy:=hf y (List.mem_of_getElem? hy)
   refine ⟨by omega,rfl,by omega,fun e20 h20=>?_⟩
   obtain rfl:=aY hy h20
   refine ⟨aCg e20 _ (by first | assumption | exact hf) (by omega) (by omega),fun c2=>?_,fun c2=>?_⟩
   ·replace c2:=yq c2
    have y3:=kG c2
    have y4:=iP cG ‹x[k]? =some _›
    have y5:=uO cG x (k+1)
    refine ⟨?_,trivial⟩
    ·first | (rw [bM (by omega)];done) | (rw [aI (by omega)];done) | (rw [aI (by omega)];omega)
   ·replace c2:=nq c2
    have y2:=aI (jH c2)
    have y3:=jH c2
    have y4:=iP cG ‹x[k]? =some _›
    refine ⟨⟨by omega,by omega⟩,?_⟩
    exact ⟨k+1,aJ (cG e20) z,rfl,rfl,⟨by omega,by rw [y2,y4,hz];omega,by rw [y2];omega⟩,by omega⟩
  ·replace c1:=nq c1
   have y6:k=x.length:=by omega
   rw [y6,List.take_length] at hz
   refine ⟨?_,trivial⟩
   ·first | (rw [bM (by omega)];done) | (rw [aI (by omega)];done) | (rw [aI (by omega)];omega)
abbrev aHU (x:aV) (m:Int):Prop:=cT Tryz.prog 101 [.agg [.str x.name,.int .i64 x.arity,.sl 39 1 (x.rows.map aA)],.one (.int .i64 m)] (vI (aJ (gW x) m)) []
theorem aRj (x:aV) (m:Int) (hf:aMJ x) (h0:0≤m) (h1:m≤1048576):aHU x m:=by
 refine aT bE aL Tryz.func101 (by kernel_rfl) (.br (.fin []) (.call (vI (aJ (cX x.rows) (m - ((x.name.size:Nat):Int)))) []<| .br (.fin []) (.fin []))) (p:=(x.rows.map aA).length≤9223372036854775807→cC (m - ((x.name.size:Nat):Int))∧(((decide ((m - ((x.name.size:Nat):Int))<(0:Int)))=true→(-1:Int)=(aJ (gW x) m)∧True)∧((decide ((m - ((x.name.size:Nat):Int))<(0:Int)))=false→aBb x.rows (m - ((x.name.size:Nat):Int))∧(((decide ((aJ (cX x.rows) (m - ((x.name.size:Nat):Int)))<(0:Int)))=true→(-1:Int)=(aJ (gW x) m)∧True)∧((decide ((aJ (cX x.rows) (m - ((x.name.size:Nat):Int)))<(0:Int)))=false→(aJ (cX x.rows) (m - ((x.name.size:Nat):Int)))=(aJ (gW x) m)∧True))))) (by kernel_rfl) ?_
 intro n0
 simp only [List.length_map] at n0
 obtain ⟨f_name,f_arity,f_rows⟩:=hf
 have hmx:maxLen=9223372036854775807:=rfl
 have g_name:x.name.size≤maxLen:=f_name
 refine ⟨⟨by omega,by omega⟩,fun c0=>?_,fun c0=>?_⟩
 ·replace c0:=yq c0
  refine ⟨?_,trivial⟩
  ·unfold gW;first | (rw [bM (by omega)];done) | (rw [aI (by omega)];done) | (rw [aI (by omega)];omega)
 ·replace c0:=nq c0
  refine ⟨aLg x.rows _ (by first | assumption | exact hf) (by omega) (by omega),fun c1=>?_,fun c1=>?_⟩
  ·replace c1:=yq c1
   have y1:=kG c1
   refine ⟨?_,trivial⟩
   ·unfold gW;first | (rw [bM (by omega)];done) | (rw [aI (by omega)];done) | (rw [aI (by omega)];omega)
  ·replace c1:=nq c1
   have y1:=jH c1
   rw [aI y1] at*
   refine ⟨?_,trivial⟩
   ·unfold gW;first | (rw [bM (by omega)];done) | (rw [aI (by omega)];done) | (rw [aI (by omega)];omega)
abbrev aE6 (x:List aV) (m:Int):Prop:=cT Tryz.prog 60 [.one (.sl 167 3 (x.map aR)),.one (.int .i64 m)] (vI (aJ (kX x) m)) []
theorem aPN (x:List aV) (m:Int) (hf:aEw x) (h0:0≤m) (h1:m≤1048576):aE6 x m:=by
 refine aT bE aL Tryz.func60 (by kernel_rfl) (.len x.length<| .br (.fin []) (.loop (Nat × Int) (Q2 Nat Int) [1,5,12,13,14,15,16,17,18,19,20,21,22,23,24,25] [] (fun yy0=>[(5,vI (yy0.1:Int)),(1,vI yy0.2)]) (fun yy0=>[]) (fun yy0=>yy0.1≤x.length∧yy0.2=m - x.length - (fZ gW (x.take yy0.1):Nat)∧0≤yy0.2) (fun yy0=>x.length - yy0.1) (fun yy0=> .len x.length<| .br (.elem _ aR x (fun e20=> .call (vI (aJ (gW e20) yy0.2)) []<| .br (.fin []) (.back []))) (.fin [])))) (p:=(x.map aR).length≤9223372036854775807→Lm aR x∧(cC (m - ((x.length:Nat):Int))∧(((decide ((m - ((x.length:Nat):Int))<(0:Int)))=true→(-1:Int)=(aJ (kX x) m)∧True)∧((decide ((m - ((x.length:Nat):Int))<(0:Int)))=false→(∃(k:Nat) (z:Int),(0:Int)=(k:Int)∧(m - ((x.length:Nat):Int))=z∧k≤x.length∧z=m - x.length - (fZ gW (x.take k):Nat)∧0≤z)∧ ∀(k:Nat) (z:Int),(k≤x.length∧z=m - x.length - (fZ gW (x.take k):Nat)∧0≤z)→Lm aR x∧(((decide ((k:Int)<((x.length:Nat):Int)))=true→0≤(k:Int)∧Em aR x k fun e20=>aHU e20 z∧(((decide ((aJ (gW e20) z)<(0:Int)))=true→(-1:Int)=(aJ (kX x) m)∧True)∧((decide ((aJ (gW e20) z)<(0:Int)))=false→cC ((k:Int)+(1:Int))∧ ∃(k' :Nat) (z' :Int),((k:Int)+(1:Int))=(k' :Int)∧(aJ (gW e20) z)=z' ∧(k' ≤x.length∧z' =m - x.length - (fZ gW (x.take k'):Nat)∧0≤z')∧x.length - k' <x.length - k)))∧((decide ((k:Int)<((x.length:Nat):Int)))=false→z=(aJ (kX x) m)∧True)))))) (by kernel_rfl) ?_
 intro n0
 simp only [List.length_map] at n0
 have hS:kX x=x.length+fZ gW x:=rfl
 refine ⟨List.length_map _,⟨by omega,by omega⟩,fun c0=>?_,fun c0=>?_⟩
 ·replace c0:=yq c0
  refine ⟨?_,trivial⟩
  ·first | (rw [bM (by omega)];done) | (rw [aI (by omega)];done) | (rw [aI (by omega)];omega)
 ·replace c0:=nq c0
  refine ⟨⟨0,m - ((x.length:Nat):Int),rfl,rfl,Nat.zero_le _,by simp [fZ],by omega⟩,fun k z ⟨hk,hz,hz0⟩=>?_⟩
  refine ⟨List.length_map _,fun c1=>?_,fun c1=>?_⟩
  ·replace c1:=yq c1
   obtain ⟨y,hy⟩:=dG (l:=x) (k:=k) (by omega)
   have hfy:=hf y (List.mem_of_getElem? hy)
   refine ⟨by omega,rfl,by omega,fun e20 h20=>?_⟩
   obtain rfl:=aY hy h20
   refine ⟨aRj e20 _ (by first | assumption | exact hf) (by omega) (by omega),fun c2=>?_,fun c2=>?_⟩
   ·replace c2:=yq c2
    have y3:=kG c2
    have y4:=iP gW ‹x[k]? =some _›
    have y5:=uO gW x (k+1)
    refine ⟨?_,trivial⟩
    ·first | (rw [bM (by omega)];done) | (rw [aI (by omega)];done) | (rw [aI (by omega)];omega)
   ·replace c2:=nq c2
    have y2:=aI (jH c2)
    have y3:=jH c2
    have y4:=iP gW ‹x[k]? =some _›
    refine ⟨⟨by omega,by omega⟩,?_⟩
    exact ⟨k+1,aJ (gW e20) z,rfl,rfl,⟨by omega,by rw [y2,y4,hz];omega,by rw [y2];omega⟩,by omega⟩
  ·replace c1:=nq c1
   have y6:k=x.length:=by omega
   rw [y6,List.take_length] at hz
   refine ⟨?_,trivial⟩
   ·first | (rw [bM (by omega)];done) | (rw [aI (by omega)];done) | (rw [aI (by omega)];omega)
abbrev aAg (x:aS) (m:Int):Prop:=cT Tryz.prog 25 [.agg [.sl 167 3 (x.tables.map aR)],.one (.int .i64 m)] (vI (aJ (bN x) m)) []
theorem aLh (x:aS) (m:Int) (hf:aDB x) (h0:0≤m) (h1:m≤1048576):aAg x m:=by
 refine aT bE aL Tryz.func25 (by kernel_rfl) (.call (vI (aJ (kX x.tables) m)) []<| .br (.fin []) (.fin [])) (p:=(x.tables.map aR).length≤9223372036854775807→aE6 x.tables m∧(((decide ((aJ (kX x.tables) m)<(0:Int)))=true→(-1:Int)=(aJ (bN x) m)∧True)∧((decide ((aJ (kX x.tables) m)<(0:Int)))=false→(aJ (kX x.tables) m)=(aJ (bN x) m)∧True))) (by kernel_rfl) ?_
 intro n0
 simp only [List.length_map] at n0
 have f_tables:=hf
 have hmx:maxLen=9223372036854775807:=rfl
 refine ⟨aPN x.tables _ (by first | assumption | exact hf) (by omega) (by omega),fun c0=>?_,fun c0=>?_⟩
 ·replace c0:=yq c0
  have y0:=kG c0
  refine ⟨?_,trivial⟩
  ·unfold bN;first | (rw [bM (by omega)];done) | (rw [aI (by omega)];done) | (rw [aI (by omega)];omega)
 ·replace c0:=nq c0
  have y0:=jH c0
  rw [aI y0] at*
  refine ⟨?_,trivial⟩
  ·unfold bN;first | (rw [bM (by omega)];done) | (rw [aI (by omega)];done) | (rw [aI (by omega)];omega)
abbrev aJF (x:dS) (m:Int):Prop:=cT Tryz.prog 64 [.agg [.str x.name,.sl 3 1 (x.vars.map intD)],.one (.int .i64 m)] (vI (aJ (kK x) m)) []
theorem aSz (x:dS) (m:Int) (hf:aQ1 x) (h0:0≤m) (h1:m≤1048576):aJF x m:=by
 refine aT bE aL Tryz.func64 (by kernel_rfl) (.br (.fin []) (.call (vI (aJ (cG x.vars) (m - ((x.name.size:Nat):Int)))) []<| .br (.fin []) (.fin []))) (p:=(x.vars.map intD).length≤9223372036854775807→cC (m - ((x.name.size:Nat):Int))∧(((decide ((m - ((x.name.size:Nat):Int))<(0:Int)))=true→(-1:Int)=(aJ (kK x) m)∧True)∧((decide ((m - ((x.name.size:Nat):Int))<(0:Int)))=false→rB x.vars (m - ((x.name.size:Nat):Int))∧(((decide ((aJ (cG x.vars) (m - ((x.name.size:Nat):Int)))<(0:Int)))=true→(-1:Int)=(aJ (kK x) m)∧True)∧((decide ((aJ (cG x.vars) (m - ((x.name.size:Nat):Int)))<(0:Int)))=false→(aJ (cG x.vars) (m - ((x.name.size:Nat):Int)))=(aJ (kK x) m)∧True))))) (by kernel_rfl) ?_
 intro n0
 simp only [List.length_map] at n0
 obtain ⟨f_name,f_vars⟩:=hf
 have hmx:maxLen=9223372036854775807:=rfl
 have g_name:x.name.size≤maxLen:=f_name
 refine ⟨⟨by omega,by omega⟩,fun c0=>?_,fun c0=>?_⟩
 ·replace c0:=yq c0
  refine ⟨?_,trivial⟩
  ·unfold kK;first | (rw [bM (by omega)];done) | (rw [aI (by omega)];done) | (rw [aI (by omega)];omega)
 ·replace c0:=nq c0
  refine ⟨aCg x.vars _ (by first | assumption | exact hf) (by omega) (by omega),fun c1=>?_,fun c1=>?_⟩
  ·replace c1:=yq c1
   have y1:=kG c1
   refine ⟨?_,trivial⟩
   ·unfold kK;first | (rw [bM (by omega)];done) | (rw [aI (by omega)];done) | (rw [aI (by omega)];omega)
  ·replace c1:=nq c1
   have y1:=jH c1
   rw [aI y1] at*
   refine ⟨?_,trivial⟩
   ·unfold kK;first | (rw [bM (by omega)];done) | (rw [aI (by omega)];done) | (rw [aI (by omega)];omega)
abbrev aHV (x:List dS) (m:Int):Prop:=cT Tryz.prog 29 [.one (.sl 135 2 (x.map bH)),.one (.int .i64 m)] (vI (aJ (kY x) m)) []
theorem aRk (x:List dS) (m:Int) (hf:aJ2 x) (h0:0≤m) (h1:m≤1048576):aHV x m:=by
 refine aT bE aL Tryz.func29 (by kernel_rfl) (.len x.length<| .br (.fin []) (.loop (Nat × Int) (Q2 Nat Int) [1,5,12,13,14,15,16,17,18,19,20,21,22,23,24,25] [] (fun yy0=>[(5,vI (yy0.1:Int)),(1,vI yy0.2)]) (fun yy0=>[]) (fun yy0=>yy0.1≤x.length∧yy0.2=m - x.length - (fZ kK (x.take yy0.1):Nat)∧0≤yy0.2) (fun yy0=>x.length - yy0.1) (fun yy0=> .len x.length<| .br (.elem _ bH x (fun e20=> .call (vI (aJ (kK e20) yy0.2)) []<| .br (.fin []) (.back []))) (.fin [])))) (p:=(x.map bH).length≤9223372036854775807→Lm bH x∧(cC (m - ((x.length:Nat):Int))∧(((decide ((m - ((x.length:Nat):Int))<(0:Int)))=true→(-1:Int)=(aJ (kY x) m)∧True)∧((decide ((m - ((x.length:Nat):Int))<(0:Int)))=false→(∃(k:Nat) (z:Int),(0:Int)=(k:Int)∧(m - ((x.length:Nat):Int))=z∧k≤x.length∧z=m - x.length - (fZ kK (x.take k):Nat)∧0≤z)∧ ∀(k:Nat) (z:Int),(k≤x.length∧z=m - x.length - (fZ kK (x.take k):Nat)∧0≤z)→Lm bH x∧(((decide ((k:Int)<((x.length:Nat):Int)))=true→0≤(k:Int)∧Em bH x k fun e20=>aJF e20 z∧(((decide ((aJ (kK e20) z)<(0:Int)))=true→(-1:Int)=(aJ (kY x) m)∧True)∧((decide ((aJ (kK e20) z)<(0:Int)))=false→cC ((k:Int)+(1:Int))∧ ∃(k' :Nat) (z' :Int),((k:Int)+(1:Int))=(k' :Int)∧(aJ (kK e20) z)=z' ∧(k' ≤x.length∧z' =m - x.length - (fZ kK (x.take k'):Nat)∧0≤z')∧x.length - k' <x.length - k)))∧((decide ((k:Int)<((x.length:Nat):Int)))=false→z=(aJ (kY x) m)∧True)))))) (by kernel_rfl) ?_
 intro n0
 simp only [List.length_map] at n0
 have hS:kY x=x.length+fZ kK x:=rfl
 refine ⟨List.length_map _,⟨by omega,by omega⟩,fun c0=>?_,fun c0=>?_⟩
 ·replace c0:=yq c0
  refine ⟨?_,trivial⟩
  ·first | (rw [bM (by omega)];done) | (rw [aI (by omega)];done) | (rw [aI (by omega)];omega)
 ·replace c0:=nq c0
  refine ⟨⟨0,m - ((x.length:Nat):Int),rfl,rfl,Nat.zero_le _,by simp [fZ],by omega⟩,fun k z ⟨hk,hz,hz0⟩=>?_⟩
  refine ⟨List.length_map _,fun c1=>?_,fun c1=>?_⟩
  ·replace c1:=yq c1
   obtain ⟨y,hy⟩:=dG (l:=x) (k:=k) (by omega)
   have hfy:=hf y (List.mem_of_getElem? hy)
   refine ⟨by omega,rfl,by omega,fun e20 h20=>?_⟩
   obtain rfl:=aY hy h20
   refine ⟨aSz e20 _ (by first | assumption | exact hf) (by omega) (by omega),fun c2=>?_,fun c2=>?_⟩
   ·replace c2:=yq c2
    have y3:=kG c2
    have y4:=iP kK ‹x[k]? =some _›
    have y5:=uO kK x (k+1)
    refine ⟨?_,trivial⟩
    ·first | (rw [bM (by omega)];done) | (rw [aI (by omega)];done) | (rw [aI (by omega)];omega)
   ·replace c2:=nq c2
    have y2:=aI (jH c2)
    have y3:=jH c2
    have y4:=iP kK ‹x[k]? =some _›
    refine ⟨⟨by omega,by omega⟩,?_⟩
    exact ⟨k+1,aJ (kK e20) z,rfl,rfl,⟨by omega,by rw [y2,y4,hz];omega,by rw [y2];omega⟩,by omega⟩
  ·replace c1:=nq c1
   have y6:k=x.length:=by omega
   rw [y6,List.take_length] at hz
   refine ⟨?_,trivial⟩
   ·first | (rw [bM (by omega)];done) | (rw [aI (by omega)];done) | (rw [aI (by omega)];omega)
abbrev aHW (x:QueryD) (m:Int):Prop:=cT Tryz.prog 6 [.agg [.int .i64 x.variableCount,.sl 135 2 (x.atoms.map bH)],.one (.int .i64 m)] (vI (aJ (iJ x) m)) []
theorem aRl (x:QueryD) (m:Int) (hf:aMK x) (h0:0≤m) (h1:m≤1048576):aHW x m:=by
 refine aT bE aL Tryz.func6 (by kernel_rfl) (.call (vI (aJ (kY x.atoms) m)) []<| .br (.fin []) (.fin [])) (p:=(x.atoms.map bH).length≤9223372036854775807→aHV x.atoms m∧(((decide ((aJ (kY x.atoms) m)<(0:Int)))=true→(-1:Int)=(aJ (iJ x) m)∧True)∧((decide ((aJ (kY x.atoms) m)<(0:Int)))=false→(aJ (kY x.atoms) m)=(aJ (iJ x) m)∧True))) (by kernel_rfl) ?_
 intro n0
 simp only [List.length_map] at n0
 obtain ⟨f_variableCount,f_atoms⟩:=hf
 have hmx:maxLen=9223372036854775807:=rfl
 refine ⟨aRk x.atoms _ (by first | assumption | exact hf) (by omega) (by omega),fun c0=>?_,fun c0=>?_⟩
 ·replace c0:=yq c0
  have y0:=kG c0
  refine ⟨?_,trivial⟩
  ·unfold iJ;first | (rw [bM (by omega)];done) | (rw [aI (by omega)];done) | (rw [aI (by omega)];omega)
 ·replace c0:=nq c0
  have y0:=jH c0
  rw [aI y0] at*
  refine ⟨?_,trivial⟩
  ·unfold iJ;first | (rw [bM (by omega)];done) | (rw [aI (by omega)];done) | (rw [aI (by omega)];omega)
abbrev wM (x:aP) (m:Int):Prop:=cT Tryz.prog 164 [.agg [.sl 3 1 (x.columns.map intD),.sl 39 1 (x.values.map aA),.sl 3 1 (x.counts.map intD)],.one (.int .i64 m)] (vI (aJ (cA x) m)) []
theorem aHr (x:aP) (m:Int) (hf:xP x) (h0:0≤m) (h1:m≤1048576):wM x m:=by
 refine aT bE aL Tryz.func164 (by kernel_rfl) (.call (vI (aJ (cG x.columns) m)) []<| .br (.fin []) (.call (vI (aJ (cX x.values) (aJ (cG x.columns) m))) []<| .br (.fin []) (.call (vI (aJ (cG x.counts) (aJ (cX x.values) (aJ (cG x.columns) m)))) []<| .br (.fin []) (.fin [])))) (p:=(x.columns.map intD).length≤9223372036854775807→(x.values.map aA).length≤9223372036854775807→(x.counts.map intD).length≤9223372036854775807→rB x.columns m∧(((decide ((aJ (cG x.columns) m)<(0:Int)))=true→(-1:Int)=(aJ (cA x) m)∧True)∧((decide ((aJ (cG x.columns) m)<(0:Int)))=false→aBb x.values (aJ (cG x.columns) m)∧(((decide ((aJ (cX x.values) (aJ (cG x.columns) m))<(0:Int)))=true→(-1:Int)=(aJ (cA x) m)∧True)∧((decide ((aJ (cX x.values) (aJ (cG x.columns) m))<(0:Int)))=false→rB x.counts (aJ (cX x.values) (aJ (cG x.columns) m))∧(((decide ((aJ (cG x.counts) (aJ (cX x.values) (aJ (cG x.columns) m)))<(0:Int)))=true→(-1:Int)=(aJ (cA x) m)∧True)∧((decide ((aJ (cG x.counts) (aJ (cX x.values) (aJ (cG x.columns) m)))<(0:Int)))=false→(aJ (cG x.counts) (aJ (cX x.values) (aJ (cG x.columns) m)))=(aJ (cA x) m)∧True))))))) (by kernel_rfl) ?_
 intro n0 n1 n2
 simp only [List.length_map] at n0 n1 n2
 obtain ⟨f_columns,f_values,f_counts⟩:=hf
 have hmx:maxLen=9223372036854775807:=rfl
 refine ⟨aCg x.columns _ (by first | assumption | exact hf) (by omega) (by omega),fun c0=>?_,fun c0=>?_⟩
 ·replace c0:=yq c0
  have y0:=kG c0
  refine ⟨?_,trivial⟩
  ·unfold cA;first | (rw [bM (by omega)];done) | (rw [aI (by omega)];done) | (rw [aI (by omega)];omega)
 ·replace c0:=nq c0
  have y0:=jH c0
  rw [aI y0] at*
  refine ⟨aLg x.values _ (by first | assumption | exact hf) (by omega) (by omega),fun c1=>?_,fun c1=>?_⟩
  ·replace c1:=yq c1
   have y1:=kG c1
   refine ⟨?_,trivial⟩
   ·unfold cA;first | (rw [bM (by omega)];done) | (rw [aI (by omega)];done) | (rw [aI (by omega)];omega)
  ·replace c1:=nq c1
   have y1:=jH c1
   rw [aI y1] at*
   refine ⟨aCg x.counts _ (by first | assumption | exact hf) (by omega) (by omega),fun c2=>?_,fun c2=>?_⟩
   ·replace c2:=yq c2
    have y2:=kG c2
    refine ⟨?_,trivial⟩
    ·unfold cA;first | (rw [bM (by omega)];done) | (rw [aI (by omega)];done) | (rw [aI (by omega)];omega)
   ·replace c2:=nq c2
    have y2:=jH c2
    rw [aI y2] at*
    refine ⟨?_,trivial⟩
    ·unfold cA;first | (rw [bM (by omega)];done) | (rw [aI (by omega)];done) | (rw [aI (by omega)];omega)
abbrev uK (x:List aP) (m:Int):Prop:=cT Tryz.prog 131 [.one (.sl 203 3 (x.map aB)),.one (.int .i64 m)] (vI (aJ (dY x) m)) []
theorem aHX (x:List aP) (m:Int) (hf:qM x) (h0:0≤m) (h1:m≤1048576):uK x m:=by
 refine aT bE aL Tryz.func131 (by kernel_rfl) (.len x.length<| .br (.fin []) (.loop (Nat × Int) (Q2 Nat Int) [1,5,12,13,14,15,16,17,18,19,20,21,22,23,24,25] [] (fun yy0=>[(5,vI (yy0.1:Int)),(1,vI yy0.2)]) (fun yy0=>[]) (fun yy0=>yy0.1≤x.length∧yy0.2=m - x.length - (fZ cA (x.take yy0.1):Nat)∧0≤yy0.2) (fun yy0=>x.length - yy0.1) (fun yy0=> .len x.length<| .br (.elem _ aB x (fun e20=> .call (vI (aJ (cA e20) yy0.2)) []<| .br (.fin []) (.back []))) (.fin [])))) (p:=(x.map aB).length≤9223372036854775807→Lm aB x∧(cC (m - ((x.length:Nat):Int))∧(((decide ((m - ((x.length:Nat):Int))<(0:Int)))=true→(-1:Int)=(aJ (dY x) m)∧True)∧((decide ((m - ((x.length:Nat):Int))<(0:Int)))=false→(∃(k:Nat) (z:Int),(0:Int)=(k:Int)∧(m - ((x.length:Nat):Int))=z∧k≤x.length∧z=m - x.length - (fZ cA (x.take k):Nat)∧0≤z)∧ ∀(k:Nat) (z:Int),(k≤x.length∧z=m - x.length - (fZ cA (x.take k):Nat)∧0≤z)→Lm aB x∧(((decide ((k:Int)<((x.length:Nat):Int)))=true→0≤(k:Int)∧Em aB x k fun e20=>wM e20 z∧(((decide ((aJ (cA e20) z)<(0:Int)))=true→(-1:Int)=(aJ (dY x) m)∧True)∧((decide ((aJ (cA e20) z)<(0:Int)))=false→cC ((k:Int)+(1:Int))∧ ∃(k' :Nat) (z' :Int),((k:Int)+(1:Int))=(k' :Int)∧(aJ (cA e20) z)=z' ∧(k' ≤x.length∧z' =m - x.length - (fZ cA (x.take k'):Nat)∧0≤z')∧x.length - k' <x.length - k)))∧((decide ((k:Int)<((x.length:Nat):Int)))=false→z=(aJ (dY x) m)∧True)))))) (by kernel_rfl) ?_
 intro n0
 simp only [List.length_map] at n0
 have hS:dY x=x.length+fZ cA x:=rfl
 refine ⟨List.length_map _,⟨by omega,by omega⟩,fun c0=>?_,fun c0=>?_⟩
 ·replace c0:=yq c0
  refine ⟨?_,trivial⟩
  ·first | (rw [bM (by omega)];done) | (rw [aI (by omega)];done) | (rw [aI (by omega)];omega)
 ·replace c0:=nq c0
  refine ⟨⟨0,m - ((x.length:Nat):Int),rfl,rfl,Nat.zero_le _,by simp [fZ],by omega⟩,fun k z ⟨hk,hz,hz0⟩=>?_⟩
  refine ⟨List.length_map _,fun c1=>?_,fun c1=>?_⟩
  ·replace c1:=yq c1
   obtain ⟨y,hy⟩:=dG (l:=x) (k:=k) (by omega)
   have hfy:=hf y (List.mem_of_getElem? hy)
   refine ⟨by omega,rfl,by omega,fun e20 h20=>?_⟩
   obtain rfl:=aY hy h20
   refine ⟨aHr e20 _ (by first | assumption | exact hf) (by omega) (by omega),fun c2=>?_,fun c2=>?_⟩
   ·replace c2:=yq c2
    have y3:=kG c2
    have y4:=iP cA ‹x[k]? =some _›
    have y5:=uO cA x (k+1)
    refine ⟨?_,trivial⟩
    ·first | (rw [bM (by omega)];done) | (rw [aI (by omega)];done) | (rw [aI (by omega)];omega)
   ·replace c2:=nq c2
    have y2:=aI (jH c2)
    have y3:=jH c2
    have y4:=iP cA ‹x[k]? =some _›
    refine ⟨⟨by omega,by omega⟩,?_⟩
    exact ⟨k+1,aJ (cA e20) z,rfl,rfl,⟨by omega,by rw [y2,y4,hz];omega,by rw [y2];omega⟩,by omega⟩
  ·replace c1:=nq c1
   have y6:k=x.length:=by omega
   rw [y6,List.take_length] at hz
   refine ⟨?_,trivial⟩
   ·first | (rw [bM (by omega)];done) | (rw [aI (by omega)];done) | (rw [aI (by omega)];omega)
abbrev wN (x:aH) (m:Int):Prop:=cT Tryz.prog 102 [.agg [.str x.name,.int .i64 x.arity,.int .i64 x.rowCount,.sl 203 3 (x.groups.map aB)],.one (.int .i64 m)] (vI (aJ (bA x) m)) []
theorem aHs (x:aH) (m:Int) (hf:xQ x) (h0:0≤m) (h1:m≤1048576):wN x m:=by
 refine aT bE aL Tryz.func102 (by kernel_rfl) (.br (.fin []) (.call (vI (aJ (dY x.groups) (m - ((x.name.size:Nat):Int)))) []<| .br (.fin []) (.fin []))) (p:=(x.groups.map aB).length≤9223372036854775807→cC (m - ((x.name.size:Nat):Int))∧(((decide ((m - ((x.name.size:Nat):Int))<(0:Int)))=true→(-1:Int)=(aJ (bA x) m)∧True)∧((decide ((m - ((x.name.size:Nat):Int))<(0:Int)))=false→uK x.groups (m - ((x.name.size:Nat):Int))∧(((decide ((aJ (dY x.groups) (m - ((x.name.size:Nat):Int)))<(0:Int)))=true→(-1:Int)=(aJ (bA x) m)∧True)∧((decide ((aJ (dY x.groups) (m - ((x.name.size:Nat):Int)))<(0:Int)))=false→(aJ (dY x.groups) (m - ((x.name.size:Nat):Int)))=(aJ (bA x) m)∧True))))) (by kernel_rfl) ?_
 intro n0
 simp only [List.length_map] at n0
 obtain ⟨f_name,f_arity,f_rowCount,f_groups⟩:=hf
 have hmx:maxLen=9223372036854775807:=rfl
 have g_name:x.name.size≤maxLen:=f_name
 refine ⟨⟨by omega,by omega⟩,fun c0=>?_,fun c0=>?_⟩
 ·replace c0:=yq c0
  refine ⟨?_,trivial⟩
  ·unfold bA;first | (rw [bM (by omega)];done) | (rw [aI (by omega)];done) | (rw [aI (by omega)];omega)
 ·replace c0:=nq c0
  refine ⟨aHX x.groups _ (by first | assumption | exact hf) (by omega) (by omega),fun c1=>?_,fun c1=>?_⟩
  ·replace c1:=yq c1
   have y1:=kG c1
   refine ⟨?_,trivial⟩
   ·unfold bA;first | (rw [bM (by omega)];done) | (rw [aI (by omega)];done) | (rw [aI (by omega)];omega)
  ·replace c1:=nq c1
   have y1:=jH c1
   rw [aI y1] at*
   refine ⟨?_,trivial⟩
   ·unfold bA;first | (rw [bM (by omega)];done) | (rw [aI (by omega)];done) | (rw [aI (by omega)];omega)
abbrev uL (x:List aH) (m:Int):Prop:=cT Tryz.prog 61 [.one (.sl 161 4 (x.map aE)),.one (.int .i64 m)] (vI (aJ (eM x) m)) []
theorem aHY (x:List aH) (m:Int) (hf:qN x) (h0:0≤m) (h1:m≤1048576):uL x m:=by
 refine aT bE aL Tryz.func61 (by kernel_rfl) (.len x.length<| .br (.fin []) (.loop (Nat × Int) (Q2 Nat Int) [1,5,12,13,14,15,16,17,18,19,20,21,22,23,24,25] [] (fun yy0=>[(5,vI (yy0.1:Int)),(1,vI yy0.2)]) (fun yy0=>[]) (fun yy0=>yy0.1≤x.length∧yy0.2=m - x.length - (fZ bA (x.take yy0.1):Nat)∧0≤yy0.2) (fun yy0=>x.length - yy0.1) (fun yy0=> .len x.length<| .br (.elem _ aE x (fun e20=> .call (vI (aJ (bA e20) yy0.2)) []<| .br (.fin []) (.back []))) (.fin [])))) (p:=(x.map aE).length≤9223372036854775807→Lm aE x∧(cC (m - ((x.length:Nat):Int))∧(((decide ((m - ((x.length:Nat):Int))<(0:Int)))=true→(-1:Int)=(aJ (eM x) m)∧True)∧((decide ((m - ((x.length:Nat):Int))<(0:Int)))=false→(∃(k:Nat) (z:Int),(0:Int)=(k:Int)∧(m - ((x.length:Nat):Int))=z∧k≤x.length∧z=m - x.length - (fZ bA (x.take k):Nat)∧0≤z)∧ ∀(k:Nat) (z:Int),(k≤x.length∧z=m - x.length - (fZ bA (x.take k):Nat)∧0≤z)→Lm aE x∧(((decide ((k:Int)<((x.length:Nat):Int)))=true→0≤(k:Int)∧Em aE x k fun e20=>wN e20 z∧(((decide ((aJ (bA e20) z)<(0:Int)))=true→(-1:Int)=(aJ (eM x) m)∧True)∧((decide ((aJ (bA e20) z)<(0:Int)))=false→cC ((k:Int)+(1:Int))∧ ∃(k' :Nat) (z' :Int),((k:Int)+(1:Int))=(k' :Int)∧(aJ (bA e20) z)=z' ∧(k' ≤x.length∧z' =m - x.length - (fZ bA (x.take k'):Nat)∧0≤z')∧x.length - k' <x.length - k)))∧((decide ((k:Int)<((x.length:Nat):Int)))=false→z=(aJ (eM x) m)∧True)))))) (by kernel_rfl) ?_
 intro n0
 simp only [List.length_map] at n0
 have hS:eM x=x.length+fZ bA x:=rfl
 refine ⟨List.length_map _,⟨by omega,by omega⟩,fun c0=>?_,fun c0=>?_⟩
 ·replace c0:=yq c0
  refine ⟨?_,trivial⟩
  ·first | (rw [bM (by omega)];done) | (rw [aI (by omega)];done) | (rw [aI (by omega)];omega)
 ·replace c0:=nq c0
  refine ⟨⟨0,m - ((x.length:Nat):Int),rfl,rfl,Nat.zero_le _,by simp [fZ],by omega⟩,fun k z ⟨hk,hz,hz0⟩=>?_⟩
  refine ⟨List.length_map _,fun c1=>?_,fun c1=>?_⟩
  ·replace c1:=yq c1
   obtain ⟨y,hy⟩:=dG (l:=x) (k:=k) (by omega)
   have hfy:=hf y (List.mem_of_getElem? hy)
   refine ⟨by omega,rfl,by omega,fun e20 h20=>?_⟩
   obtain rfl:=aY hy h20
   refine ⟨aHs e20 _ (by first | assumption | exact hf) (by omega) (by omega),fun c2=>?_,fun c2=>?_⟩
   ·replace c2:=yq c2
    have y3:=kG c2
    have y4:=iP bA ‹x[k]? =some _›
    have y5:=uO bA x (k+1)
    refine ⟨?_,trivial⟩
    ·first | (rw [bM (by omega)];done) | (rw [aI (by omega)];done) | (rw [aI (by omega)];omega)
   ·replace c2:=nq c2
    have y2:=aI (jH c2)
    have y3:=jH c2
    have y4:=iP bA ‹x[k]? =some _›
    refine ⟨⟨by omega,by omega⟩,?_⟩
    exact ⟨k+1,aJ (bA e20) z,rfl,rfl,⟨by omega,by rw [y2,y4,hz];omega,by rw [y2];omega⟩,by omega⟩
  ·replace c1:=nq c1
   have y6:k=x.length:=by omega
   rw [y6,List.take_length] at hz
   refine ⟨?_,trivial⟩
   ·first | (rw [bM (by omega)];done) | (rw [aI (by omega)];done) | (rw [aI (by omega)];omega)
abbrev zO (x:cU) (m:Int):Prop:=cT Tryz.prog 26 [.agg [.int .i64 x.version,.sl 161 4 (x.tables.map aE)],.one (.int .i64 m)] (vI (aJ (bT x) m)) []
theorem aJr (x:cU) (m:Int) (hf:aAt x) (h0:0≤m) (h1:m≤1048576):zO x m:=by
 refine aT bE aL Tryz.func26 (by kernel_rfl) (.call (vI (aJ (eM x.tables) m)) []<| .br (.fin []) (.fin [])) (p:=(x.tables.map aE).length≤9223372036854775807→uL x.tables m∧(((decide ((aJ (eM x.tables) m)<(0:Int)))=true→(-1:Int)=(aJ (bT x) m)∧True)∧((decide ((aJ (eM x.tables) m)<(0:Int)))=false→(aJ (eM x.tables) m)=(aJ (bT x) m)∧True))) (by kernel_rfl) ?_
 intro n0
 simp only [List.length_map] at n0
 obtain ⟨f_version,f_tables⟩:=hf
 have hmx:maxLen=9223372036854775807:=rfl
 refine ⟨aHY x.tables _ (by first | assumption | exact hf) (by omega) (by omega),fun c0=>?_,fun c0=>?_⟩
 ·replace c0:=yq c0
  have y0:=kG c0
  refine ⟨?_,trivial⟩
  ·unfold bT;first | (rw [bM (by omega)];done) | (rw [aI (by omega)];done) | (rw [aI (by omega)];omega)
 ·replace c0:=nq c0
  have y0:=jH c0
  rw [aI y0] at*
  refine ⟨?_,trivial⟩
  ·unfold bT;first | (rw [bM (by omega)];done) | (rw [aI (by omega)];done) | (rw [aI (by omega)];omega)
abbrev wO (x:aX) (m:Int):Prop:=cT Tryz.prog 62 [.agg [.str x.name,.sl 3 1 (x.src.map intD),.int .i64 x.dst],.one (.int .i64 m)] (vI (aJ (dK x) m)) []
theorem aHt (x:aX) (m:Int) (hf:xR x) (h0:0≤m) (h1:m≤1048576):wO x m:=by
 refine aT bE aL Tryz.func62 (by kernel_rfl) (.br (.fin []) (.call (vI (aJ (cG x.src) (m - ((x.name.size:Nat):Int)))) []<| .br (.fin []) (.fin []))) (p:=(x.src.map intD).length≤9223372036854775807→cC (m - ((x.name.size:Nat):Int))∧(((decide ((m - ((x.name.size:Nat):Int))<(0:Int)))=true→(-1:Int)=(aJ (dK x) m)∧True)∧((decide ((m - ((x.name.size:Nat):Int))<(0:Int)))=false→rB x.src (m - ((x.name.size:Nat):Int))∧(((decide ((aJ (cG x.src) (m - ((x.name.size:Nat):Int)))<(0:Int)))=true→(-1:Int)=(aJ (dK x) m)∧True)∧((decide ((aJ (cG x.src) (m - ((x.name.size:Nat):Int)))<(0:Int)))=false→(aJ (cG x.src) (m - ((x.name.size:Nat):Int)))=(aJ (dK x) m)∧True))))) (by kernel_rfl) ?_
 intro n0
 simp only [List.length_map] at n0
 obtain ⟨f_name,f_src,f_dst⟩:=hf
 have hmx:maxLen=9223372036854775807:=rfl
 have g_name:x.name.size≤maxLen:=f_name
 refine ⟨⟨by omega,by omega⟩,fun c0=>?_,fun c0=>?_⟩
 ·replace c0:=yq c0
  refine ⟨?_,trivial⟩
  ·unfold dK;first | (rw [bM (by omega)];done) | (rw [aI (by omega)];done) | (rw [aI (by omega)];omega)
 ·replace c0:=nq c0
  refine ⟨aCg x.src _ (by first | assumption | exact hf) (by omega) (by omega),fun c1=>?_,fun c1=>?_⟩
  ·replace c1:=yq c1
   have y1:=kG c1
   refine ⟨?_,trivial⟩
   ·unfold dK;first | (rw [bM (by omega)];done) | (rw [aI (by omega)];done) | (rw [aI (by omega)];omega)
  ·replace c1:=nq c1
   have y1:=jH c1
   rw [aI y1] at*
   refine ⟨?_,trivial⟩
   ·unfold dK;first | (rw [bM (by omega)];done) | (rw [aI (by omega)];done) | (rw [aI (by omega)];omega)
abbrev uM (x:List aX) (m:Int):Prop:=cT Tryz.prog 27 [.one (.sl 131 3 (x.map aM)),.one (.int .i64 m)] (vI (aJ (cH x) m)) []
theorem aHZ (x:List aX) (m:Int) (hf:qO x) (h0:0≤m) (h1:m≤1048576):uM x m:=by
 refine aT bE aL Tryz.func27 (by kernel_rfl) (.len x.length<| .br (.fin []) (.loop (Nat × Int) (Q2 Nat Int) [1,5,12,13,14,15,16,17,18,19,20,21,22,23,24,25] [] (fun yy0=>[(5,vI (yy0.1:Int)),(1,vI yy0.2)]) (fun yy0=>[]) (fun yy0=>yy0.1≤x.length∧yy0.2=m - x.length - (fZ dK (x.take yy0.1):Nat)∧0≤yy0.2) (fun yy0=>x.length - yy0.1) (fun yy0=> .len x.length<| .br (.elem _ aM x (fun e20=> .call (vI (aJ (dK e20) yy0.2)) []<| .br (.fin []) (.back []))) (.fin [])))) (p:=(x.map aM).length≤9223372036854775807→Lm aM x∧(cC (m - ((x.length:Nat):Int))∧(((decide ((m - ((x.length:Nat):Int))<(0:Int)))=true→(-1:Int)=(aJ (cH x) m)∧True)∧((decide ((m - ((x.length:Nat):Int))<(0:Int)))=false→(∃(k:Nat) (z:Int),(0:Int)=(k:Int)∧(m - ((x.length:Nat):Int))=z∧k≤x.length∧z=m - x.length - (fZ dK (x.take k):Nat)∧0≤z)∧ ∀(k:Nat) (z:Int),(k≤x.length∧z=m - x.length - (fZ dK (x.take k):Nat)∧0≤z)→Lm aM x∧(((decide ((k:Int)<((x.length:Nat):Int)))=true→0≤(k:Int)∧Em aM x k fun e20=>wO e20 z∧(((decide ((aJ (dK e20) z)<(0:Int)))=true→(-1:Int)=(aJ (cH x) m)∧True)∧((decide ((aJ (dK e20) z)<(0:Int)))=false→cC ((k:Int)+(1:Int))∧ ∃(k' :Nat) (z' :Int),((k:Int)+(1:Int))=(k' :Int)∧(aJ (dK e20) z)=z' ∧(k' ≤x.length∧z' =m - x.length - (fZ dK (x.take k'):Nat)∧0≤z')∧x.length - k' <x.length - k)))∧((decide ((k:Int)<((x.length:Nat):Int)))=false→z=(aJ (cH x) m)∧True)))))) (by kernel_rfl) ?_
 intro n0
 simp only [List.length_map] at n0
 have hS:cH x=x.length+fZ dK x:=rfl
 refine ⟨List.length_map _,⟨by omega,by omega⟩,fun c0=>?_,fun c0=>?_⟩
 ·replace c0:=yq c0
  refine ⟨?_,trivial⟩
  ·first | (rw [bM (by omega)];done) | (rw [aI (by omega)];done) | (rw [aI (by omega)];omega)
 ·replace c0:=nq c0
  refine ⟨⟨0,m - ((x.length:Nat):Int),rfl,rfl,Nat.zero_le _,by simp [fZ],by omega⟩,fun k z ⟨hk,hz,hz0⟩=>?_⟩
  refine ⟨List.length_map _,fun c1=>?_,fun c1=>?_⟩
  ·replace c1:=yq c1
   obtain ⟨y,hy⟩:=dG (l:=x) (k:=k) (by omega)
   have hfy:=hf y (List.mem_of_getElem? hy)
   refine ⟨by omega,rfl,by omega,fun e20 h20=>?_⟩
   obtain rfl:=aY hy h20
   refine ⟨aHt e20 _ (by first | assumption | exact hf) (by omega) (by omega),fun c2=>?_,fun c2=>?_⟩
   ·replace c2:=yq c2
    have y3:=kG c2
    have y4:=iP dK ‹x[k]? =some _›
    have y5:=uO dK x (k+1)
    refine ⟨?_,trivial⟩
    ·first | (rw [bM (by omega)];done) | (rw [aI (by omega)];done) | (rw [aI (by omega)];omega)
   ·replace c2:=nq c2
    have y2:=aI (jH c2)
    have y3:=jH c2
    have y4:=iP dK ‹x[k]? =some _›
    refine ⟨⟨by omega,by omega⟩,?_⟩
    exact ⟨k+1,aJ (dK e20) z,rfl,rfl,⟨by omega,by rw [y2,y4,hz];omega,by rw [y2];omega⟩,by omega⟩
  ·replace c1:=nq c1
   have y6:k=x.length:=by omega
   rw [y6,List.take_length] at hz
   refine ⟨?_,trivial⟩
   ·first | (rw [bM (by omega)];done) | (rw [aI (by omega)];done) | (rw [aI (by omega)];omega)
abbrev zP (x:aW) (m:Int):Prop:=cT Tryz.prog 63 [.agg [.str x.name,.int .i64 x.column,.str x.into,.int .i64 x.intoColumn],.one (.int .i64 m)] (vI (aJ (dZ x) m)) []
theorem aJs (x:aW) (m:Int) (hf:aAu x) (h0:0≤m) (h1:m≤1048576):zP x m:=by
 refine aT bE aL Tryz.func63 (by kernel_rfl) (.br (.fin []) (.br (.fin []) (.fin []))) (p:=cC (m - ((x.name.size:Nat):Int))∧(((decide ((m - ((x.name.size:Nat):Int))<(0:Int)))=true→(-1:Int)=(aJ (dZ x) m)∧True)∧((decide ((m - ((x.name.size:Nat):Int))<(0:Int)))=false→cC ((m - ((x.name.size:Nat):Int)) - ((x.into.size:Nat):Int))∧(((decide (((m - ((x.name.size:Nat):Int)) - ((x.into.size:Nat):Int))<(0:Int)))=true→(-1:Int)=(aJ (dZ x) m)∧True)∧((decide (((m - ((x.name.size:Nat):Int)) - ((x.into.size:Nat):Int))<(0:Int)))=false→((m - ((x.name.size:Nat):Int)) - ((x.into.size:Nat):Int))=(aJ (dZ x) m)∧True))))) (by kernel_rfl) ?_
 obtain ⟨f_name,f_column,f_into,f_intoColumn⟩:=hf
 have hmx:maxLen=9223372036854775807:=rfl
 have g_name:x.name.size≤maxLen:=f_name
 have g_into:x.into.size≤maxLen:=f_into
 refine ⟨⟨by omega,by omega⟩,fun c0=>?_,fun c0=>?_⟩
 ·replace c0:=yq c0
  refine ⟨?_,trivial⟩
  ·unfold dZ;first | (rw [bM (by omega)];done) | (rw [aI (by omega)];done) | (rw [aI (by omega)];omega)
 ·replace c0:=nq c0
  refine ⟨⟨by omega,by omega⟩,fun c1=>?_,fun c1=>?_⟩
  ·replace c1:=yq c1
   refine ⟨?_,trivial⟩
   ·unfold dZ;first | (rw [bM (by omega)];done) | (rw [aI (by omega)];done) | (rw [aI (by omega)];omega)
  ·replace c1:=nq c1
   refine ⟨?_,trivial⟩
   ·unfold dZ;first | (rw [bM (by omega)];done) | (rw [aI (by omega)];done) | (rw [aI (by omega)];omega)
abbrev wP (x:List aW) (m:Int):Prop:=cT Tryz.prog 28 [.one (.sl 133 4 (x.map aQ)),.one (.int .i64 m)] (vI (aJ (dL x) m)) []
theorem aHu (x:List aW) (m:Int) (hf:sM x) (h0:0≤m) (h1:m≤1048576):wP x m:=by
 refine aT bE aL Tryz.func28 (by kernel_rfl) (.len x.length<| .br (.fin []) (.loop (Nat × Int) (Q2 Nat Int) [1,5,12,13,14,15,16,17,18,19,20,21,22,23,24,25] [] (fun yy0=>[(5,vI (yy0.1:Int)),(1,vI yy0.2)]) (fun yy0=>[]) (fun yy0=>yy0.1≤x.length∧yy0.2=m - x.length - (fZ dZ (x.take yy0.1):Nat)∧0≤yy0.2) (fun yy0=>x.length - yy0.1) (fun yy0=> .len x.length<| .br (.elem _ aQ x (fun e20=> .call (vI (aJ (dZ e20) yy0.2)) []<| .br (.fin []) (.back []))) (.fin [])))) (p:=(x.map aQ).length≤9223372036854775807→Lm aQ x∧(cC (m - ((x.length:Nat):Int))∧(((decide ((m - ((x.length:Nat):Int))<(0:Int)))=true→(-1:Int)=(aJ (dL x) m)∧True)∧((decide ((m - ((x.length:Nat):Int))<(0:Int)))=false→(∃(k:Nat) (z:Int),(0:Int)=(k:Int)∧(m - ((x.length:Nat):Int))=z∧k≤x.length∧z=m - x.length - (fZ dZ (x.take k):Nat)∧0≤z)∧ ∀(k:Nat) (z:Int),(k≤x.length∧z=m - x.length - (fZ dZ (x.take k):Nat)∧0≤z)→Lm aQ x∧(((decide ((k:Int)<((x.length:Nat):Int)))=true→0≤(k:Int)∧Em aQ x k fun e20=>zP e20 z∧(((decide ((aJ (dZ e20) z)<(0:Int)))=true→(-1:Int)=(aJ (dL x) m)∧True)∧((decide ((aJ (dZ e20) z)<(0:Int)))=false→cC ((k:Int)+(1:Int))∧ ∃(k' :Nat) (z' :Int),((k:Int)+(1:Int))=(k' :Int)∧(aJ (dZ e20) z)=z' ∧(k' ≤x.length∧z' =m - x.length - (fZ dZ (x.take k'):Nat)∧0≤z')∧x.length - k' <x.length - k)))∧((decide ((k:Int)<((x.length:Nat):Int)))=false→z=(aJ (dL x) m)∧True)))))) (by kernel_rfl) ?_
 intro n0
 simp only [List.length_map] at n0
 have hS:dL x=x.length+fZ dZ x:=rfl
 refine ⟨List.length_map _,⟨by omega,by omega⟩,fun c0=>?_,fun c0=>?_⟩
 ·replace c0:=yq c0
  refine ⟨?_,trivial⟩
  ·first | (rw [bM (by omega)];done) | (rw [aI (by omega)];done) | (rw [aI (by omega)];omega)
 ·replace c0:=nq c0
  refine ⟨⟨0,m - ((x.length:Nat):Int),rfl,rfl,Nat.zero_le _,by simp [fZ],by omega⟩,fun k z ⟨hk,hz,hz0⟩=>?_⟩
  refine ⟨List.length_map _,fun c1=>?_,fun c1=>?_⟩
  ·replace c1:=yq c1
   obtain ⟨y,hy⟩:=dG (l:=x) (k:=k) (by omega)
   have hfy:=hf y (List.mem_of_getElem? hy)
   refine ⟨by omega,rfl,by omega,fun e20 h20=>?_⟩
   obtain rfl:=aY hy h20
   refine ⟨aJs e20 _ (by first | assumption | exact hf) (by omega) (by omega),fun c2=>?_,fun c2=>?_⟩
   ·replace c2:=yq c2
    have y3:=kG c2
    have y4:=iP dZ ‹x[k]? =some _›
    have y5:=uO dZ x (k+1)
    refine ⟨?_,trivial⟩
    ·first | (rw [bM (by omega)];done) | (rw [aI (by omega)];done) | (rw [aI (by omega)];omega)
   ·replace c2:=nq c2
    have y2:=aI (jH c2)
    have y3:=jH c2
    have y4:=iP dZ ‹x[k]? =some _›
    refine ⟨⟨by omega,by omega⟩,?_⟩
    exact ⟨k+1,aJ (dZ e20) z,rfl,rfl,⟨by omega,by rw [y2,y4,hz];omega,by rw [y2];omega⟩,by omega⟩
  ·replace c1:=nq c1
   have y6:k=x.length:=by omega
   rw [y6,List.take_length] at hz
   refine ⟨?_,trivial⟩
   ·first | (rw [bM (by omega)];done) | (rw [aI (by omega)];done) | (rw [aI (by omega)];omega)
abbrev aH0 (x:StoreD) (m:Int):Prop:=cT Tryz.prog 5 [.agg [.sl 167 3 (x.database.tables.map aR),.int .i64 x.catalogue.version,.sl 161 4 (x.catalogue.tables.map aE),.sl 131 3 (x.dependencies.map aM),.sl 133 4 (x.inclusions.map aQ)],.one (.int .i64 m)] (vI (aJ (eG x) m)) []
theorem aRm (x:StoreD) (m:Int) (hf:aMM x) (h0:0≤m) (h1:m≤1048576):aH0 x m:=by
 refine aT bE aL Tryz.func5 (by kernel_rfl) (.call (vI (aJ (bN x.database) m)) []<| .br (.fin []) (.call (vI (aJ (bT x.catalogue) (aJ (bN x.database) m))) []<| .br (.fin []) (.call (vI (aJ (cH x.dependencies) (aJ (bT x.catalogue) (aJ (bN x.database) m)))) []<| .br (.fin []) (.call (vI (aJ (dL x.inclusions) (aJ (cH x.dependencies) (aJ (bT x.catalogue) (aJ (bN x.database) m))))) []<| .br (.fin []) (.fin []))))) (p:=(x.database.tables.map aR).length≤9223372036854775807→(x.catalogue.tables.map aE).length≤9223372036854775807→(x.dependencies.map aM).length≤9223372036854775807→(x.inclusions.map aQ).length≤9223372036854775807→aAg x.database m∧(((decide ((aJ (bN x.database) m)<(0:Int)))=true→(-1:Int)=(aJ (eG x) m)∧True)∧((decide ((aJ (bN x.database) m)<(0:Int)))=false→zO x.catalogue (aJ (bN x.database) m)∧(((decide ((aJ (bT x.catalogue) (aJ (bN x.database) m))<(0:Int)))=true→(-1:Int)=(aJ (eG x) m)∧True)∧((decide ((aJ (bT x.catalogue) (aJ (bN x.database) m))<(0:Int)))=false→uM x.dependencies (aJ (bT x.catalogue) (aJ (bN x.database) m))∧(((decide ((aJ (cH x.dependencies) (aJ (bT x.catalogue) (aJ (bN x.database) m)))<(0:Int)))=true→(-1:Int)=(aJ (eG x) m)∧True)∧((decide ((aJ (cH x.dependencies) (aJ (bT x.catalogue) (aJ (bN x.database) m)))<(0:Int)))=false→wP x.inclusions (aJ (cH x.dependencies) (aJ (bT x.catalogue) (aJ (bN x.database) m)))∧(((decide ((aJ (dL x.inclusions) (aJ (cH x.dependencies) (aJ (bT x.catalogue) (aJ (bN x.database) m))))<(0:Int)))=true→(-1:Int)=(aJ (eG x) m)∧True)∧((decide ((aJ (dL x.inclusions) (aJ (cH x.dependencies) (aJ (bT x.catalogue) (aJ (bN x.database) m))))<(0:Int)))=false→(aJ (dL x.inclusions) (aJ (cH x.dependencies) (aJ (bT x.catalogue) (aJ (bN x.database) m))))=(aJ (eG x) m)∧True))))))))) (by kernel_rfl) ?_
 intro n0 n1 n2 n3
 simp only [List.length_map] at n0 n1 n2 n3
 obtain ⟨f_database,f_catalogue,f_dependencies,f_inclusions⟩:=hf
 have hmx:maxLen=9223372036854775807:=rfl
 refine ⟨aLh x.database _ (by first | assumption | exact hf) (by omega) (by omega),fun c0=>?_,fun c0=>?_⟩
 ·replace c0:=yq c0
  have y0:=kG c0
  refine ⟨?_,trivial⟩
  ·unfold eG;first | (rw [bM (by omega)];done) | (rw [aI (by omega)];done) | (rw [aI (by omega)];omega)
 ·replace c0:=nq c0
  have y0:=jH c0
  rw [aI y0] at*
  refine ⟨aJr x.catalogue _ (by first | assumption | exact hf) (by omega) (by omega),fun c1=>?_,fun c1=>?_⟩
  ·replace c1:=yq c1
   have y1:=kG c1
   refine ⟨?_,trivial⟩
   ·unfold eG;first | (rw [bM (by omega)];done) | (rw [aI (by omega)];done) | (rw [aI (by omega)];omega)
  ·replace c1:=nq c1
   have y1:=jH c1
   rw [aI y1] at*
   refine ⟨aHZ x.dependencies _ (by first | assumption | exact hf) (by omega) (by omega),fun c2=>?_,fun c2=>?_⟩
   ·replace c2:=yq c2
    have y2:=kG c2
    refine ⟨?_,trivial⟩
    ·unfold eG;first | (rw [bM (by omega)];done) | (rw [aI (by omega)];done) | (rw [aI (by omega)];omega)
   ·replace c2:=nq c2
    have y2:=jH c2
    rw [aI y2] at*
    refine ⟨aHu x.inclusions _ (by first | assumption | exact hf) (by omega) (by omega),fun c3=>?_,fun c3=>?_⟩
    ·replace c3:=yq c3
     have y3:=kG c3
     refine ⟨?_,trivial⟩
     ·unfold eG;first | (rw [bM (by omega)];done) | (rw [aI (by omega)];done) | (rw [aI (by omega)];omega)
    ·replace c3:=nq c3
     have y3:=jH c3
     rw [aI y3] at*
     refine ⟨?_,trivial⟩
     ·unfold eG;first | (rw [bM (by omega)];done) | (rw [aI (by omega)];done) | (rw [aI (by omega)];omega)
abbrev zQ (x:List RationalD) (m:Int):Prop:=cT Tryz.prog 7 [.one (.sl 70 2 (x.map aU)),.one (.int .i64 m)] (vI (aJ (jJ x) m)) []
theorem aJt (x:List RationalD) (m:Int) (hf:uU x) (h0:0≤m) (h1:m≤1048576):zQ x m:=by
 refine aT bE aL Tryz.func7 (by kernel_rfl) (.len x.length<| .br (.fin []) (.fin [])) (p:=(x.map aU).length≤9223372036854775807→Lm aU x∧(cC (m - ((x.length:Nat):Int))∧(((decide ((m - ((x.length:Nat):Int))<(0:Int)))=true→(-1:Int)=(aJ (jJ x) m)∧True)∧((decide ((m - ((x.length:Nat):Int))<(0:Int)))=false→(m - ((x.length:Nat):Int))=(aJ (jJ x) m)∧True)))) (by kernel_rfl) ?_
 intro n0
 simp only [List.length_map] at n0
 refine ⟨List.length_map _,⟨by omega,by omega⟩,fun c0=>?_,fun c0=>?_⟩
 ·replace c0:=yq c0
  refine ⟨?_,trivial⟩
  ·unfold jJ;first | (rw [bM (by omega)];done) | (rw [aI (by omega)];done)
 ·replace c0:=nq c0
  refine ⟨?_,trivial⟩
  ·unfold jJ;first | (rw [bM (by omega)];done) | (rw [aI (by omega)];done)
theorem lawIsEntropyProof (a0:StoreD) (a1:QueryD) (a2:Int) (a3:RationalD) (a4:List RationalD) (h0:aMM a0) (h1:aMK a1) (h2:Fits a2) (h3:aDD a3) (h4:uU a4):cT Tryz.prog 4 [.agg [.sl 167 3 (a0.database.tables.map aR),.int .i64 a0.catalogue.version,.sl 161 4 (a0.catalogue.tables.map aE),.sl 131 3 (a0.dependencies.map aM),.sl 133 4 (a0.inclusions.map aQ)],.agg [.int .i64 a1.variableCount,.sl 135 2 (a1.atoms.map bH)],.one (.int .i64 a2),.agg [.int .i64 a3.num,.int .i64 a3.den],.one (.sl 70 2 (a4.map aU))] (vB true) []:=by
 refine aT bE aL Tryz.func4 (by kernel_rfl) (.call (vI (aJ (eG a0) (1048576:Int))) []<| .br (.fin []) (.call (vI (aJ (iJ a1) (aJ (eG a0) (1048576:Int)))) []<| .br (.fin []) (.call (vI (aJ (jJ a4) (aJ (iJ a1) (aJ (eG a0) (1048576:Int))))) []<| .br (.fin []) (bV (sC a0)<| bV (rZ a1)<| .call (.agg [vI a3.num,vI a3.den]) []<| bV (lZ a4)<| .call (vB (gZ a0 a1 a2 a3 a4)) []<| bV (sC a0)<| bV (rZ a1)<| bV (lZ a4)<| .call (.agg [vI a3.num,vI a3.den]) []<| .call (vB (gZ a0 a1 a2 a3 a4)) []<| .no<| bV (sC a0)<| .call (vB true) []<| bV (rZ a1)<| .call (vB true) []<| bV (lZ a4)<| .call (vB true) []<| .fin [])))) (p:=(a0.database.tables.map aR).length≤9223372036854775807→(a0.catalogue.tables.map aE).length≤9223372036854775807→(a0.dependencies.map aM).length≤9223372036854775807→(a0.inclusions.map aQ).length≤9223372036854775807→(a1.atoms.map bH).length≤9223372036854775807→(a4.map aU).length≤9223372036854775807→aH0 a0 (1048576:Int)∧(((decide ((aJ (eG a0) (1048576:Int))<(0:Int)))=true→(true)=true∧True)∧((decide ((aJ (eG a0) (1048576:Int))<(0:Int)))=false→aHW a1 (aJ (eG a0) (1048576:Int))∧(((decide ((aJ (iJ a1) (aJ (eG a0) (1048576:Int)))<(0:Int)))=true→(true)=true∧True)∧((decide ((aJ (iJ a1) (aJ (eG a0) (1048576:Int)))<(0:Int)))=false→zQ a4 (aJ (iJ a1) (aJ (eG a0) (1048576:Int)))∧(((decide ((aJ (jJ a4) (aJ (iJ a1) (aJ (eG a0) (1048576:Int))))<(0:Int)))=true→(true)=true∧True)∧((decide ((aJ (jJ a4) (aJ (iJ a1) (aJ (eG a0) (1048576:Int))))<(0:Int)))=false→vV a0∧vU a1∧pI a3∧oF a4∧aE1 a0 a1 a2 a3 a4∧vV a0∧vU a1∧oF a4∧pI a3∧aE0 a0 a1 a2 a3 a4∧(!((gZ a0 a1 a2 a3 a4)==(gZ a0 a1 a2 a3 a4)))=false∧vV a0∧aHT a0∧vU a1∧aHR a1∧oF a4∧zN a4∧(true)=true∧True))))))) (by kernel_rfl) ?_
 intro n0 n1 n2 n3 n4 n5
 simp only [List.length_map] at n0 n1 n2 n3 n4 n5
 have z4:jJ a4=a4.length:=rfl
 refine ⟨aRm a0 _ (by first | assumption | exact hf) (by omega) (by omega),fun c0=>?_,fun c0=>?_⟩
 ·replace c0:=yq c0
  refine ⟨?_,trivial⟩
  ·rfl
 ·replace c0:=nq c0
  try (have y0:=jH c0;try rw [aI y0] at*)
  refine ⟨aRl a1 _ (by first | assumption | exact hf) (by omega) (by omega),fun c1=>?_,fun c1=>?_⟩
  ·replace c1:=yq c1
   refine ⟨?_,trivial⟩
   ·rfl
  ·replace c1:=nq c1
   try (have y1:=jH c1;try rw [aI y1] at*)
   refine ⟨aJt a4 _ (by first | assumption | exact hf) (by omega) (by omega),fun c2=>?_,fun c2=>?_⟩
   ·replace c2:=yq c2
    refine ⟨?_,trivial⟩
    ·rfl
   ·replace c2:=nq c2
    try (have y2:=jH c2;try rw [aI y2] at*)
    refine ⟨aHP a0 (by first | omega | (have:=cStoreS_el ‹x[k]? =some _›;omega)),aHL a1 (by first | omega | (have:=cQueryS_el ‹x[k]? =some _›;omega)),zI a3,vW a4 (by first | omega | (have:=cRationalSS_el ‹x[k]? =some _›;omega)),aPK a0 a1 a2 a3 a4 (by omega) (by omega),aHP a0 (by first | omega | (have:=cStoreS_el ‹x[k]? =some _›;omega)),aHL a1 (by first | omega | (have:=cQueryS_el ‹x[k]? =some _›;omega)),vW a4 (by first | omega | (have:=cRationalSS_el ‹x[k]? =some _›;omega)),zI a3,aPJ a0 a1 a2 a3 a4 (by omega) (by omega),by first | (simp;done) | (simp;omega) | (simp [*];done),aHP a0 (by first | omega | (have:=cStoreS_el ‹x[k]? =some _›;omega)),by first | exact aLf a0 | exact aLf _,aHL a1 (by first | omega | (have:=cQueryS_el ‹x[k]? =some _›;omega)),by first | exact aLe a1 | exact aLe _,vW a4 (by first | omega | (have:=cRationalSS_el ‹x[k]? =some _›;omega)),by first | exact aCf a4 | exact aCf _,?_,trivial⟩
    ·rfl
end Go.Proofs.YtdfebigfnjfgpaaGreat
