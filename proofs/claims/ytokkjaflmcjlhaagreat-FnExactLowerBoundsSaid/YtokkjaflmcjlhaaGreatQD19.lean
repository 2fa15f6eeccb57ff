/-
  Contracts and plain laws, joined: part 20.
-/
import Derived.Test.YtokkjaflmcjlhaaGreatQD3
import Derived.Test.YtokkjaflmcjlhaaGreatQD15
import Derived.Test.YtokkjaflmcjlhaaGreatQD16
import Derived.Test.YtokkjaflmcjlhaaGreatQD17
import Derived.Test.YtokkjaflmcjlhaaGreatQD18
namespace Go.Proofs.YtokkjaflmcjlhaaGreat
open Go.ChangeShapes Go.WideShapes Go.ChangeAt Go.RowKit
set_option linter.unusedVariables false
set_option linter.unusedSimpArgs false
set_option maxRecDepth 100000
set_option maxHeartbeats 4000000
abbrev qX (x:List Int) (m:Int):Prop:=cU Tryz.prog 61 [.one (.sl 3 1 (x.map intD)),.one (.int .i64 m)] (vI (aO (bZ x) m)) []
theorem aC6 (x:List Int) (m:Int) (hf:aD4 x) (h0:0≤m) (h1:m≤1048576):qX x m:=by
 refine aV bF aS Tryz.func61 (by kernel_rfl) (.len x.length<| .br (.fin []) (.fin [])) (p:=(x.map intD).length≤9223372036854775807→Lm intD x∧(cG (m - ((x.length:Nat):Int))∧(((decide ((m - ((x.length:Nat):Int))<(0:Int)))=true→(-1:Int)=(aO (bZ x) m)∧True)∧((decide ((m - ((x.length:Nat):Int))<(0:Int)))=false→(m - ((x.length:Nat):Int))=(aO (bZ x) m)∧True)))) (by kernel_rfl) ?_
 intro n0
 simp only [List.length_map] at n0
 refine ⟨List.length_map _,⟨by omega,by omega⟩,fun c0=>?_,fun c0=>?_⟩
 ·replace c0:=yq c0
  refine ⟨?_,trivial⟩
  ·unfold bZ;first | (rw [bG (by omega)];done) | (rw [aN (by omega)];done)
 ·replace c0:=nq c0
  refine ⟨?_,trivial⟩
  ·unfold bZ;first | (rw [bG (by omega)];done) | (rw [aN (by omega)];done)
abbrev aBR (x:List (List Int)) (m:Int):Prop:=cU Tryz.prog 256 [.one (.sl 32 1 (x.map aF)),.one (.int .i64 m)] (vI (aO (cI x) m)) []
theorem aKk (x:List (List Int)) (m:Int) (hf:aFQ x) (h0:0≤m) (h1:m≤1048576):aBR x m:=by
 refine aV bF aS Tryz.func256 (by kernel_rfl) (.len x.length<| .br (.fin []) (.loop (Nat × Int) (Q2 Nat Int) [1,5,12,13,14,15,16,17,18,19,20,21,22,23,24,25] [] (fun yy0=>[(5,vI (yy0.1:Int)),(1,vI yy0.2)]) (fun yy0=>[]) (fun yy0=>yy0.1≤x.length∧yy0.2=m - x.length - (bO bZ (x.take yy0.1):Nat)∧0≤yy0.2) (fun yy0=>x.length - yy0.1) (fun yy0=> .len x.length<| .br (.elem _ aF x (fun e20=> .call (vI (aO (bZ e20) yy0.2)) []<| .br (.fin []) (.back []))) (.fin [])))) (p:=(x.map aF).length≤9223372036854775807→Lm aF x∧(cG (m - ((x.length:Nat):Int))∧(((decide ((m - ((x.length:Nat):Int))<(0:Int)))=true→(-1:Int)=(aO (cI x) m)∧True)∧((decide ((m - ((x.length:Nat):Int))<(0:Int)))=false→(∃(k:Nat) (z:Int),(0:Int)=(k:Int)∧(m - ((x.length:Nat):Int))=z∧k≤x.length∧z=m - x.length - (bO bZ (x.take k):Nat)∧0≤z)∧ ∀(k:Nat) (z:Int),(k≤x.length∧z=m - x.length - (bO bZ (x.take k):Nat)∧0≤z)→Lm aF x∧(((decide ((k:Int)<((x.length:Nat):Int)))=true→0≤(k:Int)∧Em aF x k fun e20=>qX e20 z∧(((decide ((aO (bZ e20) z)<(0:Int)))=true→(-1:Int)=(aO (cI x) m)∧True)∧((decide ((aO (bZ e20) z)<(0:Int)))=false→cG ((k:Int)+(1:Int))∧ ∃(k' :Nat) (z' :Int),((k:Int)+(1:Int))=(k' :Int)∧(aO (bZ e20) z)=z' ∧(k' ≤x.length∧z' =m - x.length - (bO bZ (x.take k'):Nat)∧0≤z')∧x.length - k' <x.length - k)))∧((decide ((k:Int)<((x.length:Nat):Int)))=false→z=(aO (cI x) m)∧True)))))) (by kernel_rfl) ?_
 intro n0
 simp only [List.length_map] at n0
 have hS:cI x=x.length+bO bZ x:=rfl
 refine ⟨List.length_map _,⟨by omega,by omega⟩,fun c0=>?_,fun c0=>?_⟩
 ·replace c0:=yq c0
  refine ⟨?_,trivial⟩
  ·first | (rw [bG (by omega)];done) | (rw [aN (by omega)];done) | (rw [aN (by omega)];omega)
 ·replace c0:=nq c0
  refine ⟨⟨0,m - ((x.length:Nat):Int),rfl,rfl,Nat.zero_le _,by simp [bO],by omega⟩,fun k z ⟨hk,hz,hz0⟩=>?_⟩
  refine ⟨List.length_map _,fun c1=>?_,fun c1=>?_⟩
  ·replace c1:=yq c1
   obtain ⟨y,hy⟩:=bY (l:=x) (k:=k) (by omega)
   have hfy:=hf y (List.mem_of_getElem? hy)
   refine ⟨by omega,rfl,by omega,fun e20 h20=>?_⟩
   obtain rfl:=aX hy h20
   refine ⟨aC6 e20 _ (by first | assumption | exact hf) (by omega) (by omega),fun c2=>?_,fun c2=>?_⟩
   ·replace c2:=yq c2
    have y3:=jF c2
    have y4:=cW bZ ‹x[k]? =some _›
    have y5:=fN bZ x (k+1)
    refine ⟨?_,trivial⟩
    ·first | (rw [bG (by omega)];done) | (rw [aN (by omega)];done) | (rw [aN (by omega)];omega)
   ·replace c2:=nq c2
    have y2:=aN (gL c2)
    have y3:=gL c2
    have y4:=cW bZ ‹x[k]? =some _›
    refine ⟨⟨by omega,by omega⟩,?_⟩
    exact ⟨k+1,aO (bZ e20) z,rfl,rfl,⟨by omega,by rw [y2,y4,hz];omega,by rw [y2];omega⟩,by omega⟩
  ·replace c1:=nq c1
   have y6:k=x.length:=by omega
   rw [y6,List.take_length] at hz
   refine ⟨?_,trivial⟩
   ·first | (rw [bG (by omega)];done) | (rw [aN (by omega)];done) | (rw [aN (by omega)];omega)
abbrev aG0 (x:aR) (m:Int):Prop:=cU Tryz.prog 202 [.agg [.str x.name,.int .i64 x.arity,.sl 32 1 (x.rows.map aF)],.one (.int .i64 m)] (vI (aO (eQ x) m)) []
theorem aQ3 (x:aR) (m:Int) (hf:aL0 x) (h0:0≤m) (h1:m≤1048576):aG0 x m:=by
 refine aV bF aS Tryz.func202 (by kernel_rfl) (.br (.fin []) (.call (vI (aO (cI x.rows) (m - ((x.name.size:Nat):Int)))) []<| .br (.fin []) (.fin []))) (p:=(x.rows.map aF).length≤9223372036854775807→cG (m - ((x.name.size:Nat):Int))∧(((decide ((m - ((x.name.size:Nat):Int))<(0:Int)))=true→(-1:Int)=(aO (eQ x) m)∧True)∧((decide ((m - ((x.name.size:Nat):Int))<(0:Int)))=false→aBR x.rows (m - ((x.name.size:Nat):Int))∧(((decide ((aO (cI x.rows) (m - ((x.name.size:Nat):Int)))<(0:Int)))=true→(-1:Int)=(aO (eQ x) m)∧True)∧((decide ((aO (cI x.rows) (m - ((x.name.size:Nat):Int)))<(0:Int)))=false→(aO (cI x.rows) (m - ((x.name.size:Nat):Int)))=(aO (eQ x) m)∧True))))) (by kernel_rfl) ?_
 intro n0
 simp only [List.length_map] at n0
 obtain ⟨f_name,f_arity,f_rows⟩:=hf
 have hmx:maxLen=9223372036854775807:=rfl
 have g_name:x.name.size≤maxLen:=f_name
 refine ⟨⟨by omega,by omega⟩,fun c0=>?_,fun c0=>?_⟩
 ·replace c0:=yq c0
  refine ⟨?_,trivial⟩
  ·unfold eQ;first | (rw [bG (by omega)];done) | (rw [aN (by omega)];done) | (rw [aN (by omega)];omega)
 ·replace c0:=nq c0
  refine ⟨aKk x.rows _ (by first | assumption | exact hf) (by omega) (by omega),fun c1=>?_,fun c1=>?_⟩
  ·replace c1:=yq c1
   have y1:=jF c1
   refine ⟨?_,trivial⟩
   ·unfold eQ;first | (rw [bG (by omega)];done) | (rw [aN (by omega)];done) | (rw [aN (by omega)];omega)
  ·replace c1:=nq c1
   have y1:=gL c1
   rw [aN y1] at*
   refine ⟨?_,trivial⟩
   ·unfold eQ;first | (rw [bG (by omega)];done) | (rw [aN (by omega)];done) | (rw [aN (by omega)];omega)
abbrev aDz (x:List aR) (m:Int):Prop:=cU Tryz.prog 125 [.one (.sl 162 3 (x.map aL)),.one (.int .i64 m)] (vI (aO (hJ x) m)) []
theorem aON (x:List aR) (m:Int) (hf:aEX x) (h0:0≤m) (h1:m≤1048576):aDz x m:=by
 refine aV bF aS Tryz.func125 (by kernel_rfl) (.len x.length<| .br (.fin []) (.loop (Nat × Int) (Q2 Nat Int) [1,5,12,13,14,15,16,17,18,19,20,21,22,23,24,25] [] (fun yy0=>[(5,vI (yy0.1:Int)),(1,vI yy0.2)]) (fun yy0=>[]) (fun yy0=>yy0.1≤x.length∧yy0.2=m - x.length - (bO eQ (x.take yy0.1):Nat)∧0≤yy0.2) (fun yy0=>x.length - yy0.1) (fun yy0=> .len x.length<| .br (.elem _ aL x (fun e20=> .call (vI (aO (eQ e20) yy0.2)) []<| .br (.fin []) (.back []))) (.fin [])))) (p:=(x.map aL).length≤9223372036854775807→Lm aL x∧(cG (m - ((x.length:Nat):Int))∧(((decide ((m - ((x.length:Nat):Int))<(0:Int)))=true→(-1:Int)=(aO (hJ x) m)∧True)∧((decide ((m - ((x.length:Nat):Int))<(0:Int)))=false→(∃(k:Nat) (z:Int),(0:Int)=(k:Int)∧(m - ((x.length:Nat):Int))=z∧k≤x.length∧z=m - x.length - (bO eQ (x.take k):Nat)∧0≤z)∧ ∀(k:Nat) (z:Int),(k≤x.length∧z=m - x.length - (bO eQ (x.take k):Nat)∧0≤z)→Lm aL x∧(((decide ((k:Int)<((x.length:Nat):Int)))=true→0≤(k:Int)∧Em aL x k fun e20=>aG0 e20 z∧(((decide ((aO (eQ e20) z)<(0:Int)))=true→(-1:Int)=(aO (hJ x) m)∧True)∧((decide ((aO (eQ e20) z)<(0:Int)))=false→cG ((k:Int)+(1:Int))∧ ∃(k' :Nat) (z' :Int),((k:Int)+(1:Int))=(k' :Int)∧(aO (eQ e20) z)=z' ∧(k' ≤x.length∧z' =m - x.length - (bO eQ (x.take k'):Nat)∧0≤z')∧x.length - k' <x.length - k)))∧((decide ((k:Int)<((x.length:Nat):Int)))=false→z=(aO (hJ x) m)∧True)))))) (by kernel_rfl) ?_
 intro n0
 simp only [List.length_map] at n0
 have hS:hJ x=x.length+bO eQ x:=rfl
 refine ⟨List.length_map _,⟨by omega,by omega⟩,fun c0=>?_,fun c0=>?_⟩
 ·replace c0:=yq c0
  refine ⟨?_,trivial⟩
  ·first | (rw [bG (by omega)];done) | (rw [aN (by omega)];done) | (rw [aN (by omega)];omega)
 ·replace c0:=nq c0
  refine ⟨⟨0,m - ((x.length:Nat):Int),rfl,rfl,Nat.zero_le _,by simp [bO],by omega⟩,fun k z ⟨hk,hz,hz0⟩=>?_⟩
  refine ⟨List.length_map _,fun c1=>?_,fun c1=>?_⟩
  ·replace c1:=yq c1
   obtain ⟨y,hy⟩:=bY (l:=x) (k:=k) (by omega)
   have hfy:=hf y (List.mem_of_getElem? hy)
   refine ⟨by omega,rfl,by omega,fun e20 h20=>?_⟩
   obtain rfl:=aX hy h20
   refine ⟨aQ3 e20 _ (by first | assumption | exact hf) (by omega) (by omega),fun c2=>?_,fun c2=>?_⟩
   ·replace c2:=yq c2
    have y3:=jF c2
    have y4:=cW eQ ‹x[k]? =some _›
    have y5:=fN eQ x (k+1)
    refine ⟨?_,trivial⟩
    ·first | (rw [bG (by omega)];done) | (rw [aN (by omega)];done) | (rw [aN (by omega)];omega)
   ·replace c2:=nq c2
    have y2:=aN (gL c2)
    have y3:=gL c2
    have y4:=cW eQ ‹x[k]? =some _›
    refine ⟨⟨by omega,by omega⟩,?_⟩
    exact ⟨k+1,aO (eQ e20) z,rfl,rfl,⟨by omega,by rw [y2,y4,hz];omega,by rw [y2];omega⟩,by omega⟩
  ·replace c1:=nq c1
   have y6:k=x.length:=by omega
   rw [y6,List.take_length] at hz
   refine ⟨?_,trivial⟩
   ·first | (rw [bG (by omega)];done) | (rw [aN (by omega)];done) | (rw [aN (by omega)];omega)
abbrev aAd (x:aT) (m:Int):Prop:=cU Tryz.prog 57 [.agg [.sl 162 3 (x.tables.map aL)],.one (.int .i64 m)] (vI (aO (bD x) m)) []
theorem aKl (x:aT) (m:Int) (hf:aCv x) (h0:0≤m) (h1:m≤1048576):aAd x m:=by
 refine aV bF aS Tryz.func57 (by kernel_rfl) (.call (vI (aO (hJ x.tables) m)) []<| .br (.fin []) (.fin [])) (p:=(x.tables.map aL).length≤9223372036854775807→aDz x.tables m∧(((decide ((aO (hJ x.tables) m)<(0:Int)))=true→(-1:Int)=(aO (bD x) m)∧True)∧((decide ((aO (hJ x.tables) m)<(0:Int)))=false→(aO (hJ x.tables) m)=(aO (bD x) m)∧True))) (by kernel_rfl) ?_
 intro n0
 simp only [List.length_map] at n0
 have f_tables:=hf
 have hmx:maxLen=9223372036854775807:=rfl
 refine ⟨aON x.tables _ (by first | assumption | exact hf) (by omega) (by omega),fun c0=>?_,fun c0=>?_⟩
 ·replace c0:=yq c0
  have y0:=jF c0
  refine ⟨?_,trivial⟩
  ·unfold bD;first | (rw [bG (by omega)];done) | (rw [aN (by omega)];done) | (rw [aN (by omega)];omega)
 ·replace c0:=nq c0
  have y0:=gL c0
  rw [aN y0] at*
  refine ⟨?_,trivial⟩
  ·unfold bD;first | (rw [bG (by omega)];done) | (rw [aN (by omega)];done) | (rw [aN (by omega)];omega)
abbrev wT (x:aH) (m:Int):Prop:=cU Tryz.prog 281 [.agg [.sl 3 1 (x.columns.map intD),.sl 32 1 (x.values.map aF),.sl 3 1 (x.counts.map intD)],.one (.int .i64 m)] (vI (aO (bH x) m)) []
theorem aHI (x:aH) (m:Int) (hf:yC x) (h0:0≤m) (h1:m≤1048576):wT x m:=by
 refine aV bF aS Tryz.func281 (by kernel_rfl) (.call (vI (aO (bZ x.columns) m)) []<| .br (.fin []) (.call (vI (aO (cI x.values) (aO (bZ x.columns) m))) []<| .br (.fin []) (.call (vI (aO (bZ x.counts) (aO (cI x.values) (aO (bZ x.columns) m)))) []<| .br (.fin []) (.fin [])))) (p:=(x.columns.map intD).length≤9223372036854775807→(x.values.map aF).length≤9223372036854775807→(x.counts.map intD).length≤9223372036854775807→qX x.columns m∧(((decide ((aO (bZ x.columns) m)<(0:Int)))=true→(-1:Int)=(aO (bH x) m)∧True)∧((decide ((aO (bZ x.columns) m)<(0:Int)))=false→aBR x.values (aO (bZ x.columns) m)∧(((decide ((aO (cI x.values) (aO (bZ x.columns) m))<(0:Int)))=true→(-1:Int)=(aO (bH x) m)∧True)∧((decide ((aO (cI x.values) (aO (bZ x.columns) m))<(0:Int)))=false→qX x.counts (aO (cI x.values) (aO (bZ x.columns) m))∧(((decide ((aO (bZ x.counts) (aO (cI x.values) (aO (bZ x.columns) m)))<(0:Int)))=true→(-1:Int)=(aO (bH x) m)∧True)∧((decide ((aO (bZ x.counts) (aO (cI x.values) (aO (bZ x.columns) m)))<(0:Int)))=false→(aO (bZ x.counts) (aO (cI x.values) (aO (bZ x.columns) m)))=(aO (bH x) m)∧True))))))) (by kernel_rfl) ?_
 intro n0 n1 n2
 simp only [List.length_map] at n0 n1 n2
 obtain ⟨f_columns,f_values,f_counts⟩:=hf
 have hmx:maxLen=9223372036854775807:=rfl
 refine ⟨aC6 x.columns _ (by first | assumption | exact hf) (by omega) (by omega),fun c0=>?_,fun c0=>?_⟩
 ·replace c0:=yq c0
  have y0:=jF c0
  refine ⟨?_,trivial⟩
  ·unfold bH;first | (rw [bG (by omega)];done) | (rw [aN (by omega)];done) | (rw [aN (by omega)];omega)
 ·replace c0:=nq c0
  have y0:=gL c0
  rw [aN y0] at*
  refine ⟨aKk x.values _ (by first | assumption | exact hf) (by omega) (by omega),fun c1=>?_,fun c1=>?_⟩
  ·replace c1:=yq c1
   have y1:=jF c1
   refine ⟨?_,trivial⟩
   ·unfold bH;first | (rw [bG (by omega)];done) | (rw [aN (by omega)];done) | (rw [aN (by omega)];omega)
  ·replace c1:=nq c1
   have y1:=gL c1
   rw [aN y1] at*
   refine ⟨aC6 x.counts _ (by first | assumption | exact hf) (by omega) (by omega),fun c2=>?_,fun c2=>?_⟩
   ·replace c2:=yq c2
    have y2:=jF c2
    refine ⟨?_,trivial⟩
    ·unfold bH;first | (rw [bG (by omega)];done) | (rw [aN (by omega)];done) | (rw [aN (by omega)];omega)
   ·replace c2:=nq c2
    have y2:=gL c2
    rw [aN y2] at*
    refine ⟨?_,trivial⟩
    ·unfold bH;first | (rw [bG (by omega)];done) | (rw [aN (by omega)];done) | (rw [aN (by omega)];omega)
abbrev uH (x:List aH) (m:Int):Prop:=cU Tryz.prog 257 [.one (.sl 218 3 (x.map aB)),.one (.int .i64 m)] (vI (aO (cR x) m)) []
theorem aG1 (x:List aH) (m:Int) (hf:qG x) (h0:0≤m) (h1:m≤1048576):uH x m:=by
 refine aV bF aS Tryz.func257 (by kernel_rfl) (.len x.length<| .br (.fin []) (.loop (Nat × Int) (Q2 Nat Int) [1,5,12,13,14,15,16,17,18,19,20,21,22,23,24,25] [] (fun yy0=>[(5,vI (yy0.1:Int)),(1,vI yy0.2)]) (fun yy0=>[]) (fun yy0=>yy0.1≤x.length∧yy0.2=m - x.length - (bO bH (x.take yy0.1):Nat)∧0≤yy0.2) (fun yy0=>x.length - yy0.1) (fun yy0=> .len x.length<| .br (.elem _ aB x (fun e20=> .call (vI (aO (bH e20) yy0.2)) []<| .br (.fin []) (.back []))) (.fin [])))) (p:=(x.map aB).length≤9223372036854775807→Lm aB x∧(cG (m - ((x.length:Nat):Int))∧(((decide ((m - ((x.length:Nat):Int))<(0:Int)))=true→(-1:Int)=(aO (cR x) m)∧True)∧((decide ((m - ((x.length:Nat):Int))<(0:Int)))=false→(∃(k:Nat) (z:Int),(0:Int)=(k:Int)∧(m - ((x.length:Nat):Int))=z∧k≤x.length∧z=m - x.length - (bO bH (x.take k):Nat)∧0≤z)∧ ∀(k:Nat) (z:Int),(k≤x.length∧z=m - x.length - (bO bH (x.take k):Nat)∧0≤z)→Lm aB x∧(((decide ((k:Int)<((x.length:Nat):Int)))=true→0≤(k:Int)∧Em aB x k fun e20=>wT e20 z∧(((decide ((aO (bH e20) z)<(0:Int)))=true→(-1:Int)=(aO (cR x) m)∧True)∧((decide ((aO (bH e20) z)<(0:Int)))=false→cG ((k:Int)+(1:Int))∧ ∃(k' :Nat) (z' :Int),((k:Int)+(1:Int))=(k' :Int)∧(aO (bH e20) z)=z' ∧(k' ≤x.length∧z' =m - x.length - (bO bH (x.take k'):Nat)∧0≤z')∧x.length - k' <x.length - k)))∧((decide ((k:Int)<((x.length:Nat):Int)))=false→z=(aO (cR x) m)∧True)))))) (by kernel_rfl) ?_
 intro n0
 simp only [List.length_map] at n0
 have hS:cR x=x.length+bO bH x:=rfl
 refine ⟨List.length_map _,⟨by omega,by omega⟩,fun c0=>?_,fun c0=>?_⟩
 ·replace c0:=yq c0
  refine ⟨?_,trivial⟩
  ·first | (rw [bG (by omega)];done) | (rw [aN (by omega)];done) | (rw [aN (by omega)];omega)
 ·replace c0:=nq c0
  refine ⟨⟨0,m - ((x.length:Nat):Int),rfl,rfl,Nat.zero_le _,by simp [bO],by omega⟩,fun k z ⟨hk,hz,hz0⟩=>?_⟩
  refine ⟨List.length_map _,fun c1=>?_,fun c1=>?_⟩
  ·replace c1:=yq c1
   obtain ⟨y,hy⟩:=bY (l:=x) (k:=k) (by omega)
   have hfy:=hf y (List.mem_of_getElem? hy)
   refine ⟨by omega,rfl,by omega,fun e20 h20=>?_⟩
   obtain rfl:=aX hy h20
   refine ⟨aHI e20 _ (by first | assumption | exact hf) (by omega) (by omega),fun c2=>?_,fun c2=>?_⟩
   ·replace c2:=yq c2
    have y3:=jF c2
    have y4:=cW bH ‹x[k]? =some _›
    have y5:=fN bH x (k+1)
    refine ⟨?_,trivial⟩
    ·first | (rw [bG (by omega)];done) | (rw [aN (by omega)];done) | (rw [aN (by omega)];omega)
   ·replace c2:=nq c2
    have y2:=aN (gL c2)
    have y3:=gL c2
    have y4:=cW bH ‹x[k]? =some _›
    refine ⟨⟨by omega,by omega⟩,?_⟩
    exact ⟨k+1,aO (bH e20) z,rfl,rfl,⟨by omega,by rw [y2,y4,hz];omega,by rw [y2];omega⟩,by omega⟩
  ·replace c1:=nq c1
   have y6:k=x.length:=by omega
   rw [y6,List.take_length] at hz
   refine ⟨?_,trivial⟩
   ·first | (rw [bG (by omega)];done) | (rw [aN (by omega)];done) | (rw [aN (by omega)];omega)
abbrev wU (x:aC) (m:Int):Prop:=cU Tryz.prog 203 [.agg [.str x.name,.int .i64 x.arity,.int .i64 x.rowCount,.sl 218 3 (x.groups.map aB)],.one (.int .i64 m)] (vI (aO (bA x) m)) []
theorem aHJ (x:aC) (m:Int) (hf:yD x) (h0:0≤m) (h1:m≤1048576):wU x m:=by
 refine aV bF aS Tryz.func203 (by kernel_rfl) (.br (.fin []) (.call (vI (aO (cR x.groups) (m - ((x.name.size:Nat):Int)))) []<| .br (.fin []) (.fin []))) (p:=(x.groups.map aB).length≤9223372036854775807→cG (m - ((x.name.size:Nat):Int))∧(((decide ((m - ((x.name.size:Nat):Int))<(0:Int)))=true→(-1:Int)=(aO (bA x) m)∧True)∧((decide ((m - ((x.name.size:Nat):Int))<(0:Int)))=false→uH x.groups (m - ((x.name.size:Nat):Int))∧(((decide ((aO (cR x.groups) (m - ((x.name.size:Nat):Int)))<(0:Int)))=true→(-1:Int)=(aO (bA x) m)∧True)∧((decide ((aO (cR x.groups) (m - ((x.name.size:Nat):Int)))<(0:Int)))=false→(aO (cR x.groups) (m - ((x.name.size:Nat):Int)))=(aO (bA x) m)∧True))))) (by kernel_rfl) ?_
 intro n0
 simp only [List.length_map] at n0
 obtain ⟨f_name,f_arity,f_rowCount,f_groups⟩:=hf
 have hmx:maxLen=9223372036854775807:=rfl
 have g_name:x.name.size≤maxLen:=f_name
 refine ⟨⟨by omega,by omega⟩,fun c0=>?_,fun c0=>?_⟩
 ·replace c0:=yq c0
  refine ⟨?_,trivial⟩
  ·unfold bA;first | (rw [bG (by omega)];done) | (rw [aN (by omega)];done) | (rw [aN (by omega)];omega)
 ·replace c0:=nq c0
  refine ⟨aG1 x.groups _ (by first | assumption | exact hf) (by omega) (by omega),fun c1=>?_,fun c1=>?_⟩
  ·replace c1:=yq c1
   have y1:=jF c1
   refine ⟨?_,trivial⟩
   ·unfold bA;first | (rw [bG (by omega)];done) | (rw [aN (by omega)];done) | (rw [aN (by omega)];omega)
  ·replace c1:=nq c1
   have y1:=gL c1
   rw [aN y1] at*
   refine ⟨?_,trivial⟩
   ·unfold bA;first | (rw [bG (by omega)];done) | (rw [aN (by omega)];done) | (rw [aN (by omega)];omega)
abbrev uI (x:List aC) (m:Int):Prop:=cU Tryz.prog 126 [.one (.sl 121 4 (x.map aA)),.one (.int .i64 m)] (vI (aO (dE x) m)) []
theorem aG2 (x:List aC) (m:Int) (hf:qH x) (h0:0≤m) (h1:m≤1048576):uI x m:=by
 refine aV bF aS Tryz.func126 (by kernel_rfl) (.len x.length<| .br (.fin []) (.loop (Nat × Int) (Q2 Nat Int) [1,5,12,13,14,15,16,17,18,19,20,21,22,23,24,25] [] (fun yy0=>[(5,vI (yy0.1:Int)),(1,vI yy0.2)]) (fun yy0=>[]) (fun yy0=>yy0.1≤x.length∧yy0.2=m - x.length - (bO bA (x.take yy0.1):Nat)∧0≤yy0.2) (fun yy0=>x.length - yy0.1) (fun yy0=> .len x.length<| .br (.elem _ aA x (fun e20=> .call (vI (aO (bA e20) yy0.2)) []<| .br (.fin []) (.back []))) (.fin [])))) (p:=(x.map aA).length≤9223372036854775807→Lm aA x∧(cG (m - ((x.length:Nat):Int))∧(((decide ((m - ((x.length:Nat):Int))<(0:Int)))=true→(-1:Int)=(aO (dE x) m)∧True)∧((decide ((m - ((x.length:Nat):Int))<(0:Int)))=false→(∃(k:Nat) (z:Int),(0:Int)=(k:Int)∧(m - ((x.length:Nat):Int))=z∧k≤x.length∧z=m - x.length - (bO bA (x.take k):Nat)∧0≤z)∧ ∀(k:Nat) (z:Int),(k≤x.length∧z=m - x.length - (bO bA (x.take k):Nat)∧0≤z)→Lm aA x∧(((decide ((k:Int)<((x.length:Nat):Int)))=true→0≤(k:Int)∧Em aA x k fun e20=>wU e20 z∧(((decide ((aO (bA e20) z)<(0:Int)))=true→(-1:Int)=(aO (dE x) m)∧True)∧((decide ((aO (bA e20) z)<(0:Int)))=false→cG ((k:Int)+(1:Int))∧ ∃(k' :Nat) (z' :Int),((k:Int)+(1:Int))=(k' :Int)∧(aO (bA e20) z)=z' ∧(k' ≤x.length∧z' =m - x.length - (bO bA (x.take k'):Nat)∧0≤z')∧x.length - k' <x.length - k)))∧((decide ((k:Int)<((x.length:Nat):Int)))=false→z=(aO (dE x) m)∧True)))))) (by kernel_rfl) ?_
 intro n0
 simp only [List.length_map] at n0
 have hS:dE x=x.length+bO bA x:=rfl
 refine ⟨List.length_map _,⟨by omega,by omega⟩,fun c0=>?_,fun c0=>?_⟩
 ·replace c0:=yq c0
  refine ⟨?_,trivial⟩
  ·first | (rw [bG (by omega)];done) | (rw [aN (by omega)];done) | (rw [aN (by omega)];omega)
 ·replace c0:=nq c0
  refine ⟨⟨0,m - ((x.length:Nat):Int),rfl,rfl,Nat.zero_le _,by simp [bO],by omega⟩,fun k z ⟨hk,hz,hz0⟩=>?_⟩
  refine ⟨List.length_map _,fun c1=>?_,fun c1=>?_⟩
  ·replace c1:=yq c1
   obtain ⟨y,hy⟩:=bY (l:=x) (k:=k) (by omega)
   have hfy:=hf y (List.mem_of_getElem? hy)
   refine ⟨by omega,rfl,by omega,fun e20 h20=>?_⟩
   obtain rfl:=aX hy h20
   refine ⟨aHJ e20 _ (by first | assumption | exact hf) (by omega) (by omega),fun c2=>?_,fun c2=>?_⟩
   ·replace c2:=yq c2
    have y3:=jF c2
    have y4:=cW bA ‹x[k]? =some _›
    have y5:=fN bA x (k+1)
    refine ⟨?_,trivial⟩
    ·first | (rw [bG (by omega)];done) | (rw [aN (by omega)];done) | (rw [aN (by omega)];omega)
   ·replace c2:=nq c2
    have y2:=aN (gL c2)
    have y3:=gL c2
    have y4:=cW bA ‹x[k]? =some _›
    refine ⟨⟨by omega,by omega⟩,?_⟩
    exact ⟨k+1,aO (bA e20) z,rfl,rfl,⟨by omega,by rw [y2,y4,hz];omega,by rw [y2];omega⟩,by omega⟩
  ·replace c1:=nq c1
   have y6:k=x.length:=by omega
   rw [y6,List.take_length] at hz
   refine ⟨?_,trivial⟩
   ·first | (rw [bG (by omega)];done) | (rw [aN (by omega)];done) | (rw [aN (by omega)];omega)
abbrev zQ (x:bS) (m:Int):Prop:=cU Tryz.prog 58 [.agg [.int .i64 x.version,.sl 121 4 (x.tables.map aA)],.one (.int .i64 m)] (vI (aO (bL x) m)) []
theorem aJJ (x:bS) (m:Int) (hf:aAr x) (h0:0≤m) (h1:m≤1048576):zQ x m:=by
 refine aV bF aS Tryz.func58 (by kernel_rfl) (.call (vI (aO (dE x.tables) m)) []<| .br (.fin []) (.fin [])) (p:=(x.tables.map aA).length≤9223372036854775807→uI x.tables m∧(((decide ((aO (dE x.tables) m)<(0:Int)))=true→(-1:Int)=(aO (bL x) m)∧True)∧((decide ((aO (dE x.tables) m)<(0:Int)))=false→(aO (dE x.tables) m)=(aO (bL x) m)∧True))) (by kernel_rfl) ?_
 intro n0
 simp only [List.length_map] at n0
 obtain ⟨f_version,f_tables⟩:=hf
 have hmx:maxLen=9223372036854775807:=rfl
 refine ⟨aG2 x.tables _ (by first | assumption | exact hf) (by omega) (by omega),fun c0=>?_,fun c0=>?_⟩
 ·replace c0:=yq c0
  have y0:=jF c0
  refine ⟨?_,trivial⟩
  ·unfold bL;first | (rw [bG (by omega)];done) | (rw [aN (by omega)];done) | (rw [aN (by omega)];omega)
 ·replace c0:=nq c0
  have y0:=gL c0
  rw [aN y0] at*
  refine ⟨?_,trivial⟩
  ·unfold bL;first | (rw [bG (by omega)];done) | (rw [aN (by omega)];done) | (rw [aN (by omega)];omega)
abbrev wV (x:aM) (m:Int):Prop:=cU Tryz.prog 127 [.agg [.str x.name,.sl 3 1 (x.src.map intD),.int .i64 x.dst],.one (.int .i64 m)] (vI (aO (bV x) m)) []
theorem aHK (x:aM) (m:Int) (hf:yE x) (h0:0≤m) (h1:m≤1048576):wV x m:=by
 refine aV bF aS Tryz.func127 (by kernel_rfl) (.br (.fin []) (.call (vI (aO (bZ x.src) (m - ((x.name.size:Nat):Int)))) []<| .br (.fin []) (.fin []))) (p:=(x.src.map intD).length≤9223372036854775807→cG (m - ((x.name.size:Nat):Int))∧(((decide ((m - ((x.name.size:Nat):Int))<(0:Int)))=true→(-1:Int)=(aO (bV x) m)∧True)∧((decide ((m - ((x.name.size:Nat):Int))<(0:Int)))=false→qX x.src (m - ((x.name.size:Nat):Int))∧(((decide ((aO (bZ x.src) (m - ((x.name.size:Nat):Int)))<(0:Int)))=true→(-1:Int)=(aO (bV x) m)∧True)∧((decide ((aO (bZ x.src) (m - ((x.name.size:Nat):Int)))<(0:Int)))=false→(aO (bZ x.src) (m - ((x.name.size:Nat):Int)))=(aO (bV x) m)∧True))))) (by kernel_rfl) ?_
 intro n0
 simp only [List.length_map] at n0
 obtain ⟨f_name,f_src,f_dst⟩:=hf
 have hmx:maxLen=9223372036854775807:=rfl
 have g_name:x.name.size≤maxLen:=f_name
 refine ⟨⟨by omega,by omega⟩,fun c0=>?_,fun c0=>?_⟩
 ·replace c0:=yq c0
  refine ⟨?_,trivial⟩
  ·unfold bV;first | (rw [bG (by omega)];done) | (rw [aN (by omega)];done) | (rw [aN (by omega)];omega)
 ·replace c0:=nq c0
  refine ⟨aC6 x.src _ (by first | assumption | exact hf) (by omega) (by omega),fun c1=>?_,fun c1=>?_⟩
  ·replace c1:=yq c1
   have y1:=jF c1
   refine ⟨?_,trivial⟩
   ·unfold bV;first | (rw [bG (by omega)];done) | (rw [aN (by omega)];done) | (rw [aN (by omega)];omega)
  ·replace c1:=nq c1
   have y1:=gL c1
   rw [aN y1] at*
   refine ⟨?_,trivial⟩
   ·unfold bV;first | (rw [bG (by omega)];done) | (rw [aN (by omega)];done) | (rw [aN (by omega)];omega)
abbrev uJ (x:List aM) (m:Int):Prop:=cU Tryz.prog 59 [.one (.sl 168 3 (x.map aD)),.one (.int .i64 m)] (vI (aO (bU x) m)) []
theorem aG3 (x:List aM) (m:Int) (hf:qI x) (h0:0≤m) (h1:m≤1048576):uJ x m:=by
 refine aV bF aS Tryz.func59 (by kernel_rfl) (.len x.length<| .br (.fin []) (.loop (Nat × Int) (Q2 Nat Int) [1,5,12,13,14,15,16,17,18,19,20,21,22,23,24,25] [] (fun yy0=>[(5,vI (yy0.1:Int)),(1,vI yy0.2)]) (fun yy0=>[]) (fun yy0=>yy0.1≤x.length∧yy0.2=m - x.length - (bO bV (x.take yy0.1):Nat)∧0≤yy0.2) (fun yy0=>x.length - yy0.1) (fun yy0=> .len x.length<| .br (.elem _ aD x (fun e20=> .call (vI (aO (bV e20) yy0.2)) []<| .br (.fin []) (.back []))) (.fin [])))) (p:=(x.map aD).length≤9223372036854775807→Lm aD x∧(cG (m - ((x.length:Nat):Int))∧(((decide ((m - ((x.length:Nat):Int))<(0:Int)))=true→(-1:Int)=(aO (bU x) m)∧True)∧((decide ((m - ((x.length:Nat):Int))<(0:Int)))=false→(∃(k:Nat) (z:Int),(0:Int)=(k:Int)∧(m - ((x.length:Nat):Int))=z∧k≤x.length∧z=m - x.length - (bO bV (x.take k):Nat)∧0≤z)∧ ∀(k:Nat) (z:Int),(k≤x.length∧z=m - x.length - (bO bV (x.take k):Nat)∧0≤z)→Lm aD x∧(((decide ((k:Int)<((x.length:Nat):Int)))=true→0≤(k:Int)∧Em aD x k fun e20=>wV e20 z∧(((decide ((aO (bV e20) z)<(0:Int)))=true→(-1:Int)=(aO (bU x) m)∧True)∧((decide ((aO (bV e20) z)<(0:Int)))=false→cG ((k:Int)+(1:Int))∧ ∃(k' :Nat) (z' :Int),((k:Int)+(1:Int))=(k' :Int)∧(aO (bV e20) z)=z' ∧(k' ≤x.length∧z' =m - x.length - (bO bV (x.take k'):Nat)∧0≤z')∧x.length - k' <x.length - k)))∧((decide ((k:Int)<((x.length:Nat):Int)))=false→z=(aO (bU x) m)∧True)))))) (by kernel_rfl) ?_
 intro n0
 simp only [List.length_map] at n0
 have hS:bU x=x.length+bO bV x:=rfl
 refine ⟨List.length_map _,⟨by omega,by omega⟩,fun c0=>?_,fun c0=>?_⟩
 ·replace c0:=yq c0
  refine ⟨?_,trivial⟩
  ·first | (rw [bG (by omega)];done) | (rw [aN (by omega)];done) | (rw [aN (by omega)];omega)
 ·replace c0:=nq c0
  refine ⟨⟨0,m - ((x.length:Nat):Int),rfl,rfl,Nat.zero_le _,by simp [bO],by omega⟩,fun k z ⟨hk,hz,hz0⟩=>?_⟩
  refine ⟨List.length_map _,fun c1=>?_,fun c1=>?_⟩
  ·replace c1:=yq c1
   obtain ⟨y,hy⟩:=bY (l:=x) (k:=k) (by omega)
   have hfy:=hf y (List.mem_of_getElem? hy)
   refine ⟨by omega,rfl,by omega,fun e20 h20=>?_⟩
   obtain rfl:=aX hy h20
   refine ⟨aHK e20 _ (by first | assumption | exact hf) (by omega) (by omega),fun c2=>?_,fun c2=>?_⟩
   ·replace c2:=yq c2
    have y3:=jF c2
    have y4:=cW bV ‹x[k]? =some _›
    have y5:=fN bV x (k+1)
    refine ⟨?_,trivial⟩
    ·first | (rw [bG (by omega)];done) | (rw [aN (by omega)];done) | (rw [aN (by omega)];omega)
   ·replace c2:=nq c2
    have y2:=aN (gL c2)
    have y3:=gL c2
    have y4:=cW bV ‹x[k]? =some _›
    refine ⟨⟨by omega,by omega⟩,?_⟩
    exact ⟨k+1,aO (bV e20) z,rfl,rfl,⟨by omega,by rw [y2,y4,hz];omega,by rw [y2];omega⟩,by omega⟩
  ·replace c1:=nq c1
   have y6:k=x.length:=by omega
   rw [y6,List.take_length] at hz
   refine ⟨?_,trivial⟩
   ·first | (rw [bG (by omega)];done) | (rw [aN (by omega)];done) | (rw [aN (by omega)];omega)
abbrev zR (x:aG) (m:Int):Prop:=cU Tryz.prog 128 [.agg [.str x.name,.int .i64 x.column,.str x.into,.int .i64 x.intoColumn],.one (.int .i64 m)] (vI (aO (cF x) m)) []
theorem aJK (x:aG) (m:Int) (hf:aAs x) (h0:0≤m) (h1:m≤1048576):zR x m:=by
 refine aV bF aS Tryz.func128 (by kernel_rfl) (.br (.fin []) (.br (.fin []) (.fin []))) (p:=cG (m - ((x.name.size:Nat):Int))∧(((decide ((m - ((x.name.size:Nat):Int))<(0:Int)))=true→(-1:Int)=(aO (cF x) m)∧True)∧((decide ((m - ((x.name.size:Nat):Int))<(0:Int)))=false→cG ((m - ((x.name.size:Nat):Int)) - ((x.into.size:Nat):Int))∧(((decide (((m - ((x.name.size:Nat):Int)) - ((x.into.size:Nat):Int))<(0:Int)))=true→(-1:Int)=(aO (cF x) m)∧True)∧((decide (((m - ((x.name.size:Nat):Int)) - ((x.into.size:Nat):Int))<(0:Int)))=false→((m - ((x.name.size:Nat):Int)) - ((x.into.size:Nat):Int))=(aO (cF x) m)∧True))))) (by kernel_rfl) ?_
 obtain ⟨f_name,f_column,f_into,f_intoColumn⟩:=hf
 have hmx:maxLen=9223372036854775807:=rfl
 have g_name:x.name.size≤maxLen:=f_name
 have g_into:x.into.size≤maxLen:=f_into
 refine ⟨⟨by omega,by omega⟩,fun c0=>?_,fun c0=>?_⟩
 ·replace c0:=yq c0
  refine ⟨?_,trivial⟩
  ·unfold cF;first | (rw [bG (by omega)];done) | (rw [aN (by omega)];done) | (rw [aN (by omega)];omega)
 ·replace c0:=nq c0
  refine ⟨⟨by omega,by omega⟩,fun c1=>?_,fun c1=>?_⟩
  ·replace c1:=yq c1
   refine ⟨?_,trivial⟩
   ·unfold cF;first | (rw [bG (by omega)];done) | (rw [aN (by omega)];done) | (rw [aN (by omega)];omega)
  ·replace c1:=nq c1
   refine ⟨?_,trivial⟩
   ·unfold cF;first | (rw [bG (by omega)];done) | (rw [aN (by omega)];done) | (rw [aN (by omega)];omega)
abbrev wW (x:List aG) (m:Int):Prop:=cU Tryz.prog 60 [.one (.sl 170 4 (x.map aE)),.one (.int .i64 m)] (vI (aO (cT x) m)) []
theorem aHL (x:List aG) (m:Int) (hf:sL x) (h0:0≤m) (h1:m≤1048576):wW x m:=by
 refine aV bF aS Tryz.func60 (by kernel_rfl) (.len x.length<| .br (.fin []) (.loop (Nat × Int) (Q2 Nat Int) [1,5,12,13,14,15,16,17,18,19,20,21,22,23,24,25] [] (fun yy0=>[(5,vI (yy0.1:Int)),(1,vI yy0.2)]) (fun yy0=>[]) (fun yy0=>yy0.1≤x.length∧yy0.2=m - x.length - (bO cF (x.take yy0.1):Nat)∧0≤yy0.2) (fun yy0=>x.length - yy0.1) (fun yy0=> .len x.length<| .br (.elem _ aE x (fun e20=> .call (vI (aO (cF e20) yy0.2)) []<| .br (.fin []) (.back []))) (.fin [])))) (p:=(x.map aE).length≤9223372036854775807→Lm aE x∧(cG (m - ((x.length:Nat):Int))∧(((decide ((m - ((x.length:Nat):Int))<(0:Int)))=true→(-1:Int)=(aO (cT x) m)∧True)∧((decide ((m - ((x.length:Nat):Int))<(0:Int)))=false→(∃(k:Nat) (z:Int),(0:Int)=(k:Int)∧(m - ((x.length:Nat):Int))=z∧k≤x.length∧z=m - x.length - (bO cF (x.take k):Nat)∧0≤z)∧ ∀(k:Nat) (z:Int),(k≤x.length∧z=m - x.length - (bO cF (x.take k):Nat)∧0≤z)→Lm aE x∧(((decide ((k:Int)<((x.length:Nat):Int)))=true→0≤(k:Int)∧Em aE x k fun e20=>zR e20 z∧(((decide ((aO (cF e20) z)<(0:Int)))=true→(-1:Int)=(aO (cT x) m)∧True)∧((decide ((aO (cF e20) z)<(0:Int)))=false→cG ((k:Int)+(1:Int))∧ ∃(k' :Nat) (z' :Int),((k:Int)+(1:Int))=(k' :Int)∧(aO (cF e20) z)=z' ∧(k' ≤x.length∧z' =m - x.length - (bO cF (x.take k'):Nat)∧0≤z')∧x.length - k' <x.length - k)))∧((decide ((k:Int)<((x.length:Nat):Int)))=false→z=(aO (cT x) m)∧True)))))) (by kernel_rfl) ?_
 intro n0
 simp only [List.length_map] at n0
 have hS:cT x=x.length+bO cF x:=rfl
 refine ⟨List.length_map _,⟨by omega,by omega⟩,fun c0=>?_,fun c0=>?_⟩
 ·replace c0:=yq c0
  refine ⟨?_,trivial⟩
  ·first | (rw [bG (by omega)];done) | (rw [aN (by omega)];done) | (rw [aN (by omega)];omega)
 ·replace c0:=nq c0
  refine ⟨⟨0,m - ((x.length:Nat):Int),rfl,rfl,Nat.zero_le _,by simp [bO],by omega⟩,fun k z ⟨hk,hz,hz0⟩=>?_⟩
  refine ⟨List.length_map _,fun c1=>?_,fun c1=>?_⟩
  ·replace c1:=yq c1
   obtain ⟨y,hy⟩:=bY (l:=x) (k:=k) (by omega)
   have hfy:=hf y (List.mem_of_getElem? hy)
   refine ⟨by omega,rfl,by omega,fun e20 h20=>?_⟩
   obtain rfl:=aX hy h20
   refine ⟨aJK e20 _ (by first | assumption | exact hf) (by omega) (by omega),fun c2=>?_,fun c2=>?_⟩
   ·replace c2:=yq c2
    have y3:=jF c2
    have y4:=cW cF ‹x[k]? =some _›
    have y5:=fN cF x (k+1)
    refine ⟨?_,trivial⟩
    ·first | (rw [bG (by omega)];done) | (rw [aN (by omega)];done) | (rw [aN (by omega)];omega)
   ·replace c2:=nq c2
    have y2:=aN (gL c2)
    have y3:=gL c2
    have y4:=cW cF ‹x[k]? =some _›
    refine ⟨⟨by omega,by omega⟩,?_⟩
    exact ⟨k+1,aO (cF e20) z,rfl,rfl,⟨by omega,by rw [y2,y4,hz];omega,by rw [y2];omega⟩,by omega⟩
  ·replace c1:=nq c1
   have y6:k=x.length:=by omega
   rw [y6,List.take_length] at hz
   refine ⟨?_,trivial⟩
   ·first | (rw [bG (by omega)];done) | (rw [aN (by omega)];done) | (rw [aN (by omega)];omega)
abbrev vW (x:StoreD) (m:Int):Prop:=cU Tryz.prog 13 [.agg [.sl 162 3 (x.database.tables.map aL),.int .i64 x.catalogue.version,.sl 121 4 (x.catalogue.tables.map aA),.sl 168 3 (x.dependencies.map aD),.sl 170 4 (x.inclusions.map aE)],.one (.int .i64 m)] (vI (aO (cJ x) m)) []
theorem aG4 (x:StoreD) (m:Int) (hf:aFV x) (h0:0≤m) (h1:m≤1048576):vW x m:=by
 refine aV bF aS Tryz.func13 (by kernel_rfl) (.call (vI (aO (bD x.database) m)) []<| .br (.fin []) (.call (vI (aO (bL x.catalogue) (aO (bD x.database) m))) []<| .br (.fin []) (.call (vI (aO (bU x.dependencies) (aO (bL x.catalogue) (aO (bD x.database) m)))) []<| .br (.fin []) (.call (vI (aO (cT x.inclusions) (aO (bU x.dependencies) (aO (bL x.catalogue) (aO (bD x.database) m))))) []<| .br (.fin []) (.fin []))))) (p:=(x.database.tables.map aL).length≤9223372036854775807→(x.catalogue.tables.map aA).length≤9223372036854775807→(x.dependencies.map aD).length≤9223372036854775807→(x.inclusions.map aE).length≤9223372036854775807→aAd x.database m∧(((decide ((aO (bD x.database) m)<(0:Int)))=true→(-1:Int)=(aO (cJ x) m)∧True)∧((decide ((aO (bD x.database) m)<(0:Int)))=false→zQ x.catalogue (aO (bD x.database) m)∧(((decide ((aO (bL x.catalogue) (aO (bD x.database) m))<(0:Int)))=true→(-1:Int)=(aO (cJ x) m)∧True)∧((decide ((aO (bL x.catalogue) (aO (bD x.database) m))<(0:Int)))=false→uJ x.dependencies (aO (bL x.catalogue) (aO (bD x.database) m))∧(((decide ((aO (bU x.dependencies) (aO (bL x.catalogue) (aO (bD x.database) m)))<(0:Int)))=true→(-1:Int)=(aO (cJ x) m)∧True)∧((decide ((aO (bU x.dependencies) (aO (bL x.catalogue) (aO (bD x.database) m)))<(0:Int)))=false→wW x.inclusions (aO (bU x.dependencies) (aO (bL x.catalogue) (aO (bD x.database) m)))∧(((decide ((aO (cT x.inclusions) (aO (bU x.dependencies) (aO (bL x.catalogue) (aO (bD x.database) m))))<(0:Int)))=true→(-1:Int)=(aO (cJ x) m)∧True)∧((decide ((aO (cT x.inclusions) (aO (bU x.dependencies) (aO (bL x.catalogue) (aO (bD x.database) m))))<(0:Int)))=false→(aO (cT x.inclusions) (aO (bU x.dependencies) (aO (bL x.catalogue) (aO (bD x.database) m))))=(aO (cJ x) m)∧True))))))))) (by kernel_rfl) ?_
 intro n0 n1 n2 n3
 simp only [List.length_map] at n0 n1 n2 n3
 obtain ⟨f_database,f_catalogue,f_dependencies,f_inclusions⟩:=hf
 have hmx:maxLen=9223372036854775807:=rfl
 refine ⟨aKl x.database _ (by first | assumption | exact hf) (by omega) (by omega),fun c0=>?_,fun c0=>?_⟩
 ·replace c0:=yq c0
  have y0:=jF c0
  refine ⟨?_,trivial⟩
  ·unfold cJ;first | (rw [bG (by omega)];done) | (rw [aN (by omega)];done) | (rw [aN (by omega)];omega)
 ·replace c0:=nq c0
  have y0:=gL c0
  rw [aN y0] at*
  refine ⟨aJJ x.catalogue _ (by first | assumption | exact hf) (by omega) (by omega),fun c1=>?_,fun c1=>?_⟩
  ·replace c1:=yq c1
   have y1:=jF c1
   refine ⟨?_,trivial⟩
   ·unfold cJ;first | (rw [bG (by omega)];done) | (rw [aN (by omega)];done) | (rw [aN (by omega)];omega)
  ·replace c1:=nq c1
   have y1:=gL c1
   rw [aN y1] at*
   refine ⟨aG3 x.dependencies _ (by first | assumption | exact hf) (by omega) (by omega),fun c2=>?_,fun c2=>?_⟩
   ·replace c2:=yq c2
    have y2:=jF c2
    refine ⟨?_,trivial⟩
    ·unfold cJ;first | (rw [bG (by omega)];done) | (rw [aN (by omega)];done) | (rw [aN (by omega)];omega)
   ·replace c2:=nq c2
    have y2:=gL c2
    rw [aN y2] at*
    refine ⟨aHL x.inclusions _ (by first | assumption | exact hf) (by omega) (by omega),fun c3=>?_,fun c3=>?_⟩
    ·replace c3:=yq c3
     have y3:=jF c3
     refine ⟨?_,trivial⟩
     ·unfold cJ;first | (rw [bG (by omega)];done) | (rw [aN (by omega)];done) | (rw [aN (by omega)];omega)
    ·replace c3:=nq c3
     have y3:=gL c3
     rw [aN y3] at*
     refine ⟨?_,trivial⟩
     ·unfold cJ;first | (rw [bG (by omega)];done) | (rw [aN (by omega)];done) | (rw [aN (by omega)];omega)
abbrev aIS (x:bK) (m:Int):Prop:=cU Tryz.prog 164 [.agg [.str x.name,.sl 3 1 (x.vars.map intD)],.one (.int .i64 m)] (vI (aO (iJ x) m)) []
theorem aRs (x:bK) (m:Int) (hf:aP5 x) (h0:0≤m) (h1:m≤1048576):aIS x m:=by
 refine aV bF aS Tryz.func164 (by kernel_rfl) (.br (.fin []) (.call (vI (aO (bZ x.vars) (m - ((x.name.size:Nat):Int)))) []<| .br (.fin []) (.fin []))) (p:=(x.vars.map intD).length≤9223372036854775807→cG (m - ((x.name.size:Nat):Int))∧(((decide ((m - ((x.name.size:Nat):Int))<(0:Int)))=true→(-1:Int)=(aO (iJ x) m)∧True)∧((decide ((m - ((x.name.size:Nat):Int))<(0:Int)))=false→qX x.vars (m - ((x.name.size:Nat):Int))∧(((decide ((aO (bZ x.vars) (m - ((x.name.size:Nat):Int)))<(0:Int)))=true→(-1:Int)=(aO (iJ x) m)∧True)∧((decide ((aO (bZ x.vars) (m - ((x.name.size:Nat):Int)))<(0:Int)))=false→(aO (bZ x.vars) (m - ((x.name.size:Nat):Int)))=(aO (iJ x) m)∧True))))) (by kernel_rfl) ?_
 intro n0
 simp only [List.length_map] at n0
 obtain ⟨f_name,f_vars⟩:=hf
 have hmx:maxLen=9223372036854775807:=rfl
 have g_name:x.name.size≤maxLen:=f_name
 refine ⟨⟨by omega,by omega⟩,fun c0=>?_,fun c0=>?_⟩
 ·replace c0:=yq c0
  refine ⟨?_,trivial⟩
  ·unfold iJ;first | (rw [bG (by omega)];done) | (rw [aN (by omega)];done) | (rw [aN (by omega)];omega)
 ·replace c0:=nq c0
  refine ⟨aC6 x.vars _ (by first | assumption | exact hf) (by omega) (by omega),fun c1=>?_,fun c1=>?_⟩
  ·replace c1:=yq c1
   have y1:=jF c1
   refine ⟨?_,trivial⟩
   ·unfold iJ;first | (rw [bG (by omega)];done) | (rw [aN (by omega)];done) | (rw [aN (by omega)];omega)
  ·replace c1:=nq c1
   have y1:=gL c1
   rw [aN y1] at*
   refine ⟨?_,trivial⟩
   ·unfold iJ;first | (rw [bG (by omega)];done) | (rw [aN (by omega)];done) | (rw [aN (by omega)];omega)
abbrev aG5 (x:List bK) (m:Int):Prop:=cU Tryz.prog 90 [.one (.sl 131 2 (x.map aU)),.one (.int .i64 m)] (vI (aO (lG x) m)) []
theorem aQ4 (x:List bK) (m:Int) (hf:aIn x) (h0:0≤m) (h1:m≤1048576):aG5 x m:=by
 refine aV bF aS Tryz.func90 (by kernel_rfl) (.len x.length<| .br (.fin []) (.loop (Nat × Int) (Q2 Nat Int) [1,5,12,13,14,15,16,17,18,19,20,21,22,23,24,25] [] (fun yy0=>[(5,vI (yy0.1:Int)),(1,vI yy0.2)]) (fun yy0=>[]) (fun yy0=>yy0.1≤x.length∧yy0.2=m - x.length - (bO iJ (x.take yy0.1):Nat)∧0≤yy0.2) (fun yy0=>x.length - yy0.1) (fun yy0=> .len x.length<| .br (.elem _ aU x (fun e20=> .call (vI (aO (iJ e20) yy0.2)) []<| .br (.fin []) (.back []))) (.fin [])))) (p:=(x.map aU).length≤9223372036854775807→Lm aU x∧(cG (m - ((x.length:Nat):Int))∧(((decide ((m - ((x.length:Nat):Int))<(0:Int)))=true→(-1:Int)=(aO (lG x) m)∧True)∧((decide ((m - ((x.length:Nat):Int))<(0:Int)))=false→(∃(k:Nat) (z:Int),(0:Int)=(k:Int)∧(m - ((x.length:Nat):Int))=z∧k≤x.length∧z=m - x.length - (bO iJ (x.take k):Nat)∧0≤z)∧ ∀(k:Nat) (z:Int),(k≤x.length∧z=m - x.length - (bO iJ (x.take k):Nat)∧0≤z)→Lm aU x∧(((decide ((k:Int)<((x.length:Nat):Int)))=true→0≤(k:Int)∧Em aU x k fun e20=>aIS e20 z∧(((decide ((aO (iJ e20) z)<(0:Int)))=true→(-1:Int)=(aO (lG x) m)∧True)∧((decide ((aO (iJ e20) z)<(0:Int)))=false→cG ((k:Int)+(1:Int))∧ ∃(k' :Nat) (z' :Int),((k:Int)+(1:Int))=(k' :Int)∧(aO (iJ e20) z)=z' ∧(k' ≤x.length∧z' =m - x.length - (bO iJ (x.take k'):Nat)∧0≤z')∧x.length - k' <x.length - k)))∧((decide ((k:Int)<((x.length:Nat):Int)))=false→z=(aO (lG x) m)∧True)))))) (by kernel_rfl) ?_
 intro n0
 simp only [List.length_map] at n0
 have hS:lG x=x.length+bO iJ x:=rfl
 refine ⟨List.length_map _,⟨by omega,by omega⟩,fun c0=>?_,fun c0=>?_⟩
 ·replace c0:=yq c0
  refine ⟨?_,trivial⟩
  ·first | (rw [bG (by omega)];done) | (rw [aN (by omega)];done) | (rw [aN (by omega)];omega)
 ·replace c0:=nq c0
  refine ⟨⟨0,m - ((x.length:Nat):Int),rfl,rfl,Nat.zero_le _,by simp [bO],by omega⟩,fun k z ⟨hk,hz,hz0⟩=>?_⟩
  refine ⟨List.length_map _,fun c1=>?_,fun c1=>?_⟩
  ·replace c1:=yq c1
   obtain ⟨y,hy⟩:=bY (l:=x) (k:=k) (by omega)
   have hfy:=hf y (List.mem_of_getElem? hy)
   refine ⟨by omega,rfl,by omega,fun e20 h20=>?_⟩
   obtain rfl:=aX hy h20
   refine ⟨aRs e20 _ (by first | assumption | exact hf) (by omega) (by omega),fun c2=>?_,fun c2=>?_⟩
   ·replace c2:=yq c2
    have y3:=jF c2
    have y4:=cW iJ ‹x[k]? =some _›
    have y5:=fN iJ x (k+1)
    refine ⟨?_,trivial⟩
    ·first | (rw [bG (by omega)];done) | (rw [aN (by omega)];done) | (rw [aN (by omega)];omega)
   ·replace c2:=nq c2
    have y2:=aN (gL c2)
    have y3:=gL c2
    have y4:=cW iJ ‹x[k]? =some _›
    refine ⟨⟨by omega,by omega⟩,?_⟩
    exact ⟨k+1,aO (iJ e20) z,rfl,rfl,⟨by omega,by rw [y2,y4,hz];omega,by rw [y2];omega⟩,by omega⟩
  ·replace c1:=nq c1
   have y6:k=x.length:=by omega
   rw [y6,List.take_length] at hz
   refine ⟨?_,trivial⟩
   ·first | (rw [bG (by omega)];done) | (rw [aN (by omega)];done) | (rw [aN (by omega)];omega)
abbrev vX (x:QueryD) (m:Int):Prop:=cU Tryz.prog 30 [.agg [.int .i64 x.variableCount,.sl 131 2 (x.atoms.map aU)],.one (.int .i64 m)] (vI (aO (jL x) m)) []
theorem aG6 (x:QueryD) (m:Int) (hf:aFS x) (h0:0≤m) (h1:m≤1048576):vX x m:=by
 refine aV bF aS Tryz.func30 (by kernel_rfl) (.call (vI (aO (lG x.atoms) m)) []<| .br (.fin []) (.fin [])) (p:=(x.atoms.map aU).length≤9223372036854775807→aG5 x.atoms m∧(((decide ((aO (lG x.atoms) m)<(0:Int)))=true→(-1:Int)=(aO (jL x) m)∧True)∧((decide ((aO (lG x.atoms) m)<(0:Int)))=false→(aO (lG x.atoms) m)=(aO (jL x) m)∧True))) (by kernel_rfl) ?_
 intro n0
 simp only [List.length_map] at n0
 obtain ⟨f_variableCount,f_atoms⟩:=hf
 have hmx:maxLen=9223372036854775807:=rfl
 refine ⟨aQ4 x.atoms _ (by first | assumption | exact hf) (by omega) (by omega),fun c0=>?_,fun c0=>?_⟩
 ·replace c0:=yq c0
  have y0:=jF c0
  refine ⟨?_,trivial⟩
  ·unfold jL;first | (rw [bG (by omega)];done) | (rw [aN (by omega)];done) | (rw [aN (by omega)];omega)
 ·replace c0:=nq c0
  have y0:=gL c0
  rw [aN y0] at*
  refine ⟨?_,trivial⟩
  ·unfold jL;first | (rw [bG (by omega)];done) | (rw [aN (by omega)];done) | (rw [aN (by omega)];omega)
theorem lawLowerBound (a0:StoreD) (a1:QueryD) (a2:Int) (h0:aFV a0) (h1:aFS a1) (h2:Fits a2):cU Tryz.prog 9 [.agg [.sl 162 3 (a0.database.tables.map aL),.int .i64 a0.catalogue.version,.sl 121 4 (a0.catalogue.tables.map aA),.sl 168 3 (a0.dependencies.map aD),.sl 170 4 (a0.inclusions.map aE)],.agg [.int .i64 a1.variableCount,.sl 131 2 (a1.atoms.map aU)],.one (.int .i64 a2)] (vB true) []:=by
 refine aV bF aS Tryz.func9 (by kernel_rfl) (.call (vI (aO (cJ a0) (1048576:Int))) []<| .br (.fin []) (.call (vI (aO (jL a1) (aO (cJ a0) (1048576:Int)))) []<| .br (.fin []) (bP (gD a0)<| bP (gE a1)<| .call (vI (nG a0 a1 a2)) []<| bP (gD a0)<| bP (gE a1)<| .call (vI (nG a0 a1 a2)) []<| .no<| bP (gD a0)<| .call (vB true) []<| bP (gE a1)<| .call (vB true) []<| .fin []))) (p:=(a0.database.tables.map aL).length≤9223372036854775807→(a0.catalogue.tables.map aA).length≤9223372036854775807→(a0.dependencies.map aD).length≤9223372036854775807→(a0.inclusions.map aE).length≤9223372036854775807→(a1.atoms.map aU).length≤9223372036854775807→vW a0 (1048576:Int)∧(((decide ((aO (cJ a0) (1048576:Int))<(0:Int)))=true→(true)=true∧True)∧((decide ((aO (cJ a0) (1048576:Int))<(0:Int)))=false→vX a1 (aO (cJ a0) (1048576:Int))∧(((decide ((aO (jL a1) (aO (cJ a0) (1048576:Int)))<(0:Int)))=true→(true)=true∧True)∧((decide ((aO (jL a1) (aO (cJ a0) (1048576:Int)))<(0:Int)))=false→gQ a0∧gR a1∧zI a0 a1 a2∧gQ a0∧gR a1∧zH a0 a1 a2∧(!(decide ((nG a0 a1 a2)=(nG a0 a1 a2))))=false∧gQ a0∧vU a0∧gR a1∧vV a1∧(true)=true∧True))))) (by kernel_rfl) ?_
 intro n0 n1 n2 n3 n4
 simp only [List.length_map] at n0 n1 n2 n3 n4
 refine ⟨aG4 a0 _ (by first | assumption | exact hf) (by omega) (by omega),fun c0=>?_,fun c0=>?_⟩
 ·replace c0:=yq c0
  refine ⟨?_,trivial⟩
  ·rfl
 ·replace c0:=nq c0
  try (have y0:=gL c0;try rw [aN y0] at*)
  refine ⟨aG6 a1 _ (by first | assumption | exact hf) (by omega) (by omega),fun c1=>?_,fun c1=>?_⟩
  ·replace c1:=yq c1
   refine ⟨?_,trivial⟩
   ·rfl
  ·replace c1:=nq c1
   try (have y1:=gL c1;try rw [aN y1] at*)
   refine ⟨lI a0 (by first | omega | (have:=cStoreS_el ‹x[k]? =some _›;omega)),lJ a1 (by first | omega | (have:=cQueryS_el ‹x[k]? =some _›;omega)),aIP a0 a1 a2 (by omega),lI a0 (by first | omega | (have:=cStoreS_el ‹x[k]? =some _›;omega)),lJ a1 (by first | omega | (have:=cQueryS_el ‹x[k]? =some _›;omega)),aIO a0 a1 a2 (by omega),by first | (simp;done) | (simp;omega) | (simp [*];done),lI a0 (by first | omega | (have:=cStoreS_el ‹x[k]? =some _›;omega)),by first | exact uF a0 | exact uF _,lJ a1 (by first | omega | (have:=cQueryS_el ‹x[k]? =some _›;omega)),by first | exact uG a1 | exact uG _,?_,trivial⟩
   ·rfl
end Go.Proofs.YtokkjaflmcjlhaaGreat
