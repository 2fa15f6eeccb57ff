/-
  Contracts and plain laws, joined: part 18.
-/
import Derived.Test.YtokkjaflmcjlhaaGreatQA3
import Derived.Test.YtokkjaflmcjlhaaGreatQA14
import Derived.Test.YtokkjaflmcjlhaaGreatQA15
import Derived.Test.YtokkjaflmcjlhaaGreatQA16
namespace Go.Proofs.YtokkjaflmcjlhaaGreat
open Go.ChangeShapes Go.WideShapes Go.ChangeAt Go.RowKit
set_option linter.unusedVariables false
set_option linter.unusedSimpArgs false
set_option maxRecDepth 100000
set_option maxHeartbeats 4000000
abbrev oL (x:List Int) (m:Int):Prop:=cO Tryz.prog 61 [.one (.sl 3 1 (x.map intD)),.one (.int .i64 m)] (vI (aI (cG x) m)) []
theorem aBH (x:List Int) (m:Int) (hf:aCC x) (h0:0≤m) (h1:m≤1048576):oL x m:=by
 refine aT bF aQ Tryz.func61 (by kernel_rfl) (.len x.length<| .br (.fin []) (.fin [])) (p:=(x.map intD).length≤9223372036854775807→Lm intD x∧(cL (m - ((x.length:Nat):Int))∧(((decide ((m - ((x.length:Nat):Int))<(0:Int)))=true→(-1:Int)=(aI (cG x) m)∧True)∧((decide ((m - ((x.length:Nat):Int))<(0:Int)))=false→(m - ((x.length:Nat):Int))=(aI (cG x) m)∧True)))) (by kernel_rfl) ?_
 intro n0
 simp only [List.length_map] at n0
 refine ⟨List.length_map _,⟨by omega,by omega⟩,fun c0=>?_,fun c0=>?_⟩
 ·replace c0:=yq c0
  refine ⟨?_,trivial⟩
  ·unfold cG;first | (rw [bE (by omega)];done) | (rw [aG (by omega)];done)
 ·replace c0:=nq c0
  refine ⟨?_,trivial⟩
  ·unfold cG;first | (rw [bE (by omega)];done) | (rw [aG (by omega)];done)
abbrev aAF (x:List (List Int)) (m:Int):Prop:=cO Tryz.prog 256 [.one (.sl 32 1 (x.map aC)),.one (.int .i64 m)] (vI (aI (cK x) m)) []
theorem aIy (x:List (List Int)) (m:Int) (hf:aDj x) (h0:0≤m) (h1:m≤1048576):aAF x m:=by
 refine aT bF aQ Tryz.func256 (by kernel_rfl) (.len x.length<| .br (.fin []) (.loop (Nat × Int) (Q2 Nat Int) [1,5,12,13,14,15,16,17,18,19,20,21,22,23,24,25] [] (fun yy0=>[(5,vI (yy0.1:Int)),(1,vI yy0.2)]) (fun yy0=>[]) (fun yy0=>yy0.1≤x.length∧yy0.2=m - x.length - (eX cG (x.take yy0.1):Nat)∧0≤yy0.2) (fun yy0=>x.length - yy0.1) (fun yy0=> .len x.length<| .br (.elem _ aC x (fun e20=> .call (vI (aI (cG e20) yy0.2)) []<| .br (.fin []) (.back []))) (.fin [])))) (p:=(x.map aC).length≤9223372036854775807→Lm aC x∧(cL (m - ((x.length:Nat):Int))∧(((decide ((m - ((x.length:Nat):Int))<(0:Int)))=true→(-1:Int)=(aI (cK x) m)∧True)∧((decide ((m - ((x.length:Nat):Int))<(0:Int)))=false→(∃(k:Nat) (z:Int),(0:Int)=(k:Int)∧(m - ((x.length:Nat):Int))=z∧k≤x.length∧z=m - x.length - (eX cG (x.take k):Nat)∧0≤z)∧ ∀(k:Nat) (z:Int),(k≤x.length∧z=m - x.length - (eX cG (x.take k):Nat)∧0≤z)→Lm aC x∧(((decide ((k:Int)<((x.length:Nat):Int)))=true→0≤(k:Int)∧Em aC x k fun e20=>oL e20 z∧(((decide ((aI (cG e20) z)<(0:Int)))=true→(-1:Int)=(aI (cK x) m)∧True)∧((decide ((aI (cG e20) z)<(0:Int)))=false→cL ((k:Int)+(1:Int))∧ ∃(k' :Nat) (z' :Int),((k:Int)+(1:Int))=(k' :Int)∧(aI (cG e20) z)=z' ∧(k' ≤x.length∧z' =m - x.length - (eX cG (x.take k'):Nat)∧0≤z')∧x.length - k' <x.length - k)))∧((decide ((k:Int)<((x.length:Nat):Int)))=false→z=(aI (cK x) m)∧True)))))) (by kernel_rfl) ?_
 intro n0
 simp only [List.length_map] at n0
 have hS:cK x=x.length+eX cG x:=rfl
 refine ⟨List.length_map _,⟨by omega,by omega⟩,fun c0=>?_,fun c0=>?_⟩
 ·replace c0:=yq c0
  refine ⟨?_,trivial⟩
  ·first | (rw [bE (by omega)];done) | (rw [aG (by omega)];done) | (rw [aG (by omega)];omega)
 ·replace c0:=nq c0
  refine ⟨⟨0,m - ((x.length:Nat):Int),rfl,rfl,Nat.zero_le _,by simp [eX],by omega⟩,fun k z ⟨hk,hz,hz0⟩=>?_⟩
  refine ⟨List.length_map _,fun c1=>?_,fun c1=>?_⟩
  ·replace c1:=yq c1
   obtain ⟨y,hy⟩:=cJ (l:=x) (k:=k) (by omega)
   have hfy:=hf y (List.mem_of_getElem? hy)
   refine ⟨by omega,rfl,by omega,fun e20 h20=>?_⟩
   obtain rfl:=bA hy h20
   refine ⟨aBH e20 _ (by first | assumption | exact hf) (by omega) (by omega),fun c2=>?_,fun c2=>?_⟩
   ·replace c2:=yq c2
    have y3:=hZ c2
    have y4:=fO cG ‹x[k]? =some _›
    have y5:=sG cG x (k+1)
    refine ⟨?_,trivial⟩
    ·first | (rw [bE (by omega)];done) | (rw [aG (by omega)];done) | (rw [aG (by omega)];omega)
   ·replace c2:=nq c2
    have y2:=aG (fQ c2)
    have y3:=fQ c2
    have y4:=fO cG ‹x[k]? =some _›
    refine ⟨⟨by omega,by omega⟩,?_⟩
    exact ⟨k+1,aI (cG e20) z,rfl,rfl,⟨by omega,by rw [y2,y4,hz];omega,by rw [y2];omega⟩,by omega⟩
  ·replace c1:=nq c1
   have y6:k=x.length:=by omega
   rw [y6,List.take_length] at hz
   refine ⟨?_,trivial⟩
   ·first | (rw [bE (by omega)];done) | (rw [aG (by omega)];done) | (rw [aG (by omega)];omega)
abbrev aEx (x:aS) (m:Int):Prop:=cO Tryz.prog 202 [.agg [.str x.name,.int .i64 x.arity,.sl 32 1 (x.rows.map aC)],.one (.int .i64 m)] (vI (aI (fF x) m)) []
theorem aOW (x:aS) (m:Int) (hf:aJ9 x) (h0:0≤m) (h1:m≤1048576):aEx x m:=by
 refine aT bF aQ Tryz.func202 (by kernel_rfl) (.br (.fin []) (.call (vI (aI (cK x.rows) (m - ((x.name.size:Nat):Int)))) []<| .br (.fin []) (.fin []))) (p:=(x.rows.map aC).length≤9223372036854775807→cL (m - ((x.name.size:Nat):Int))∧(((decide ((m - ((x.name.size:Nat):Int))<(0:Int)))=true→(-1:Int)=(aI (fF x) m)∧True)∧((decide ((m - ((x.name.size:Nat):Int))<(0:Int)))=false→aAF x.rows (m - ((x.name.size:Nat):Int))∧(((decide ((aI (cK x.rows) (m - ((x.name.size:Nat):Int)))<(0:Int)))=true→(-1:Int)=(aI (fF x) m)∧True)∧((decide ((aI (cK x.rows) (m - ((x.name.size:Nat):Int)))<(0:Int)))=false→(aI (cK x.rows) (m - ((x.name.size:Nat):Int)))=(aI (fF x) m)∧True))))) (by kernel_rfl) ?_
 intro n0
 simp only [List.length_map] at n0
 obtain ⟨f_name,f_arity,f_rows⟩:=hf
 have hmx:maxLen=9223372036854775807:=rfl
 have g_name:x.name.size≤maxLen:=f_name
 refine ⟨⟨by omega,by omega⟩,fun c0=>?_,fun c0=>?_⟩
 ·replace c0:=yq c0
  refine ⟨?_,trivial⟩
  ·unfold fF;first | (rw [bE (by omega)];done) | (rw [aG (by omega)];done) | (rw [aG (by omega)];omega)
 ·replace c0:=nq c0
  refine ⟨aIy x.rows _ (by first | assumption | exact hf) (by omega) (by omega),fun c1=>?_,fun c1=>?_⟩
  ·replace c1:=yq c1
   have y1:=hZ c1
   refine ⟨?_,trivial⟩
   ·unfold fF;first | (rw [bE (by omega)];done) | (rw [aG (by omega)];done) | (rw [aG (by omega)];omega)
  ·replace c1:=nq c1
   have y1:=fQ c1
   rw [aG y1] at*
   refine ⟨?_,trivial⟩
   ·unfold fF;first | (rw [bE (by omega)];done) | (rw [aG (by omega)];done) | (rw [aG (by omega)];omega)
abbrev aC9 (x:List aS) (m:Int):Prop:=cO Tryz.prog 125 [.one (.sl 162 3 (x.map aO)),.one (.int .i64 m)] (vI (aI (iN x) m)) []
theorem aML (x:List aS) (m:Int) (hf:aCx x) (h0:0≤m) (h1:m≤1048576):aC9 x m:=by
 refine aT bF aQ Tryz.func125 (by kernel_rfl) (.len x.length<| .br (.fin []) (.loop (Nat × Int) (Q2 Nat Int) [1,5,12,13,14,15,16,17,18,19,20,21,22,23,24,25] [] (fun yy0=>[(5,vI (yy0.1:Int)),(1,vI yy0.2)]) (fun yy0=>[]) (fun yy0=>yy0.1≤x.length∧yy0.2=m - x.length - (eX fF (x.take yy0.1):Nat)∧0≤yy0.2) (fun yy0=>x.length - yy0.1) (fun yy0=> .len x.length<| .br (.elem _ aO x (fun e20=> .call (vI (aI (fF e20) yy0.2)) []<| .br (.fin []) (.back []))) (.fin [])))) (p:=(x.map aO).length≤9223372036854775807→Lm aO x∧(cL (m - ((x.length:Nat):Int))∧(((decide ((m - ((x.length:Nat):Int))<(0:Int)))=true→(-1:Int)=(aI (iN x) m)∧True)∧((decide ((m - ((x.length:Nat):Int))<(0:Int)))=false→(∃(k:Nat) (z:Int),(0:Int)=(k:Int)∧(m - ((x.length:Nat):Int))=z∧k≤x.length∧z=m - x.length - (eX fF (x.take k):Nat)∧0≤z)∧ ∀(k:Nat) (z:Int),(k≤x.length∧z=m - x.length - (eX fF (x.take k):Nat)∧0≤z)→Lm aO x∧(((decide ((k:Int)<((x.length:Nat):Int)))=true→0≤(k:Int)∧Em aO x k fun e20=>aEx e20 z∧(((decide ((aI (fF e20) z)<(0:Int)))=true→(-1:Int)=(aI (iN x) m)∧True)∧((decide ((aI (fF e20) z)<(0:Int)))=false→cL ((k:Int)+(1:Int))∧ ∃(k' :Nat) (z' :Int),((k:Int)+(1:Int))=(k' :Int)∧(aI (fF e20) z)=z' ∧(k' ≤x.length∧z' =m - x.length - (eX fF (x.take k'):Nat)∧0≤z')∧x.length - k' <x.length - k)))∧((decide ((k:Int)<((x.length:Nat):Int)))=false→z=(aI (iN x) m)∧True)))))) (by kernel_rfl) ?_
 intro n0
 simp only [List.length_map] at n0
 have hS:iN x=x.length+eX fF x:=rfl
 refine ⟨List.length_map _,⟨by omega,by omega⟩,fun c0=>?_,fun c0=>?_⟩
 ·replace c0:=yq c0
  refine ⟨?_,trivial⟩
  ·first | (rw [bE (by omega)];done) | (rw [aG (by omega)];done) | (rw [aG (by omega)];omega)
 ·replace c0:=nq c0
  refine ⟨⟨0,m - ((x.length:Nat):Int),rfl,rfl,Nat.zero_le _,by simp [eX],by omega⟩,fun k z ⟨hk,hz,hz0⟩=>?_⟩
  refine ⟨List.length_map _,fun c1=>?_,fun c1=>?_⟩
  ·replace c1:=yq c1
   obtain ⟨y,hy⟩:=cJ (l:=x) (k:=k) (by omega)
   have hfy:=hf y (List.mem_of_getElem? hy)
   refine ⟨by omega,rfl,by omega,fun e20 h20=>?_⟩
   obtain rfl:=bA hy h20
   refine ⟨aOW e20 _ (by first | assumption | exact hf) (by omega) (by omega),fun c2=>?_,fun c2=>?_⟩
   ·replace c2:=yq c2
    have y3:=hZ c2
    have y4:=fO fF ‹x[k]? =some _›
    have y5:=sG fF x (k+1)
    refine ⟨?_,trivial⟩
    ·first | (rw [bE (by omega)];done) | (rw [aG (by omega)];done) | (rw [aG (by omega)];omega)
   ·replace c2:=nq c2
    have y2:=aG (fQ c2)
    have y3:=fQ c2
    have y4:=fO fF ‹x[k]? =some _›
    refine ⟨⟨by omega,by omega⟩,?_⟩
    exact ⟨k+1,aI (fF e20) z,rfl,rfl,⟨by omega,by rw [y2,y4,hz];omega,by rw [y2];omega⟩,by omega⟩
  ·replace c1:=nq c1
   have y6:k=x.length:=by omega
   rw [y6,List.take_length] at hz
   refine ⟨?_,trivial⟩
   ·first | (rw [bE (by omega)];done) | (rw [aG (by omega)];done) | (rw [aG (by omega)];omega)
abbrev yQ (x:aR) (m:Int):Prop:=cO Tryz.prog 57 [.agg [.sl 162 3 (x.tables.map aO)],.one (.int .i64 m)] (vI (aI (bD x) m)) []
theorem aIz (x:aR) (m:Int) (hf:aB4 x) (h0:0≤m) (h1:m≤1048576):yQ x m:=by
 refine aT bF aQ Tryz.func57 (by kernel_rfl) (.call (vI (aI (iN x.tables) m)) []<| .br (.fin []) (.fin [])) (p:=(x.tables.map aO).length≤9223372036854775807→aC9 x.tables m∧(((decide ((aI (iN x.tables) m)<(0:Int)))=true→(-1:Int)=(aI (bD x) m)∧True)∧((decide ((aI (iN x.tables) m)<(0:Int)))=false→(aI (iN x.tables) m)=(aI (bD x) m)∧True))) (by kernel_rfl) ?_
 intro n0
 simp only [List.length_map] at n0
 have f_tables:=hf
 have hmx:maxLen=9223372036854775807:=rfl
 refine ⟨aML x.tables _ (by first | assumption | exact hf) (by omega) (by omega),fun c0=>?_,fun c0=>?_⟩
 ·replace c0:=yq c0
  have y0:=hZ c0
  refine ⟨?_,trivial⟩
  ·unfold bD;first | (rw [bE (by omega)];done) | (rw [aG (by omega)];done) | (rw [aG (by omega)];omega)
 ·replace c0:=nq c0
  have y0:=fQ c0
  rw [aG y0] at*
  refine ⟨?_,trivial⟩
  ·unfold bD;first | (rw [bE (by omega)];done) | (rw [aG (by omega)];done) | (rw [aG (by omega)];omega)
abbrev uE (x:aN) (m:Int):Prop:=cO Tryz.prog 281 [.agg [.sl 3 1 (x.columns.map intD),.sl 32 1 (x.values.map aC),.sl 3 1 (x.counts.map intD)],.one (.int .i64 m)] (vI (aI (bN x) m)) []
theorem aF6 (x:aN) (m:Int) (hf:vG x) (h0:0≤m) (h1:m≤1048576):uE x m:=by
 refine aT bF aQ Tryz.func281 (by kernel_rfl) (.call (vI (aI (cG x.columns) m)) []<| .br (.fin []) (.call (vI (aI (cK x.values) (aI (cG x.columns) m))) []<| .br (.fin []) (.call (vI (aI (cG x.counts) (aI (cK x.values) (aI (cG x.columns) m)))) []<| .br (.fin []) (.fin [])))) (p:=(x.columns.map intD).length≤9223372036854775807→(x.values.map aC).length≤9223372036854775807→(x.counts.map intD).length≤9223372036854775807→oL x.columns m∧(((decide ((aI (cG x.columns) m)<(0:Int)))=true→(-1:Int)=(aI (bN x) m)∧True)∧((decide ((aI (cG x.columns) m)<(0:Int)))=false→aAF x.values (aI (cG x.columns) m)∧(((decide ((aI (cK x.values) (aI (cG x.columns) m))<(0:Int)))=true→(-1:Int)=(aI (bN x) m)∧True)∧((decide ((aI (cK x.values) (aI (cG x.columns) m))<(0:Int)))=false→oL x.counts (aI (cK x.values) (aI (cG x.columns) m))∧(((decide ((aI (cG x.counts) (aI (cK x.values) (aI (cG x.columns) m)))<(0:Int)))=true→(-1:Int)=(aI (bN x) m)∧True)∧((decide ((aI (cG x.counts) (aI (cK x.values) (aI (cG x.columns) m)))<(0:Int)))=false→(aI (cG x.counts) (aI (cK x.values) (aI (cG x.columns) m)))=(aI (bN x) m)∧True))))))) (by kernel_rfl) ?_
 intro n0 n1 n2
 simp only [List.length_map] at n0 n1 n2
 obtain ⟨f_columns,f_values,f_counts⟩:=hf
 have hmx:maxLen=9223372036854775807:=rfl
 refine ⟨aBH x.columns _ (by first | assumption | exact hf) (by omega) (by omega),fun c0=>?_,fun c0=>?_⟩
 ·replace c0:=yq c0
  have y0:=hZ c0
  refine ⟨?_,trivial⟩
  ·unfold bN;first | (rw [bE (by omega)];done) | (rw [aG (by omega)];done) | (rw [aG (by omega)];omega)
 ·replace c0:=nq c0
  have y0:=fQ c0
  rw [aG y0] at*
  refine ⟨aIy x.values _ (by first | assumption | exact hf) (by omega) (by omega),fun c1=>?_,fun c1=>?_⟩
  ·replace c1:=yq c1
   have y1:=hZ c1
   refine ⟨?_,trivial⟩
   ·unfold bN;first | (rw [bE (by omega)];done) | (rw [aG (by omega)];done) | (rw [aG (by omega)];omega)
  ·replace c1:=nq c1
   have y1:=fQ c1
   rw [aG y1] at*
   refine ⟨aBH x.counts _ (by first | assumption | exact hf) (by omega) (by omega),fun c2=>?_,fun c2=>?_⟩
   ·replace c2:=yq c2
    have y2:=hZ c2
    refine ⟨?_,trivial⟩
    ·unfold bN;first | (rw [bE (by omega)];done) | (rw [aG (by omega)];done) | (rw [aG (by omega)];omega)
   ·replace c2:=nq c2
    have y2:=fQ c2
    rw [aG y2] at*
    refine ⟨?_,trivial⟩
    ·unfold bN;first | (rw [bE (by omega)];done) | (rw [aG (by omega)];done) | (rw [aG (by omega)];omega)
abbrev sB (x:List aN) (m:Int):Prop:=cO Tryz.prog 257 [.one (.sl 218 3 (x.map aA)),.one (.int .i64 m)] (vI (aI (dB x) m)) []
theorem aEy (x:List aN) (m:Int) (hf:nW x) (h0:0≤m) (h1:m≤1048576):sB x m:=by
 refine aT bF aQ Tryz.func257 (by kernel_rfl) (.len x.length<| .br (.fin []) (.loop (Nat × Int) (Q2 Nat Int) [1,5,12,13,14,15,16,17,18,19,20,21,22,23,24,25] [] (fun yy0=>[(5,vI (yy0.1:Int)),(1,vI yy0.2)]) (fun yy0=>[]) (fun yy0=>yy0.1≤x.length∧yy0.2=m - x.length - (eX bN (x.take yy0.1):Nat)∧0≤yy0.2) (fun yy0=>x.length - yy0.1) (fun yy0=> .len x.length<| .br (.elem _ aA x (fun e20=> .call (vI (aI (bN e20) yy0.2)) []<| .br (.fin []) (.back []))) (.fin [])))) (p:=(x.map aA).length≤9223372036854775807→Lm aA x∧(cL (m - ((x.length:Nat):Int))∧(((decide ((m - ((x.length:Nat):Int))<(0:Int)))=true→(-1:Int)=(aI (dB x) m)∧True)∧((decide ((m - ((x.length:Nat):Int))<(0:Int)))=false→(∃(k:Nat) (z:Int),(0:Int)=(k:Int)∧(m - ((x.length:Nat):Int))=z∧k≤x.length∧z=m - x.length - (eX bN (x.take k):Nat)∧0≤z)∧ ∀(k:Nat) (z:Int),(k≤x.length∧z=m - x.length - (eX bN (x.take k):Nat)∧0≤z)→Lm aA x∧(((decide ((k:Int)<((x.length:Nat):Int)))=true→0≤(k:Int)∧Em aA x k fun e20=>uE e20 z∧(((decide ((aI (bN e20) z)<(0:Int)))=true→(-1:Int)=(aI (dB x) m)∧True)∧((decide ((aI (bN e20) z)<(0:Int)))=false→cL ((k:Int)+(1:Int))∧ ∃(k' :Nat) (z' :Int),((k:Int)+(1:Int))=(k' :Int)∧(aI (bN e20) z)=z' ∧(k' ≤x.length∧z' =m - x.length - (eX bN (x.take k'):Nat)∧0≤z')∧x.length - k' <x.length - k)))∧((decide ((k:Int)<((x.length:Nat):Int)))=false→z=(aI (dB x) m)∧True)))))) (by kernel_rfl) ?_
 intro n0
 simp only [List.length_map] at n0
 have hS:dB x=x.length+eX bN x:=rfl
 refine ⟨List.length_map _,⟨by omega,by omega⟩,fun c0=>?_,fun c0=>?_⟩
 ·replace c0:=yq c0
  refine ⟨?_,trivial⟩
  ·first | (rw [bE (by omega)];done) | (rw [aG (by omega)];done) | (rw [aG (by omega)];omega)
 ·replace c0:=nq c0
  refine ⟨⟨0,m - ((x.length:Nat):Int),rfl,rfl,Nat.zero_le _,by simp [eX],by omega⟩,fun k z ⟨hk,hz,hz0⟩=>?_⟩
  refine ⟨List.length_map _,fun c1=>?_,fun c1=>?_⟩
  ·replace c1:=yq c1
   obtain ⟨y,hy⟩:=cJ (l:=x) (k:=k) (by omega)
   have hfy:=hf y (List.mem_of_getElem? hy)
   refine ⟨by omega,rfl,by omega,fun e20 h20=>?_⟩
   obtain rfl:=bA hy h20
   refine ⟨aF6 e20 _ (by first | assumption | exact hf) (by omega) (by omega),fun c2=>?_,fun c2=>?_⟩
   ·replace c2:=yq c2
    have y3:=hZ c2
    have y4:=fO bN ‹x[k]? =some _›
    have y5:=sG bN x (k+1)
    refine ⟨?_,trivial⟩
    ·first | (rw [bE (by omega)];done) | (rw [aG (by omega)];done) | (rw [aG (by omega)];omega)
   ·replace c2:=nq c2
    have y2:=aG (fQ c2)
    have y3:=fQ c2
    have y4:=fO bN ‹x[k]? =some _›
    refine ⟨⟨by omega,by omega⟩,?_⟩
    exact ⟨k+1,aI (bN e20) z,rfl,rfl,⟨by omega,by rw [y2,y4,hz];omega,by rw [y2];omega⟩,by omega⟩
  ·replace c1:=nq c1
   have y6:k=x.length:=by omega
   rw [y6,List.take_length] at hz
   refine ⟨?_,trivial⟩
   ·first | (rw [bE (by omega)];done) | (rw [aG (by omega)];done) | (rw [aG (by omega)];omega)
abbrev uF (x:aF) (m:Int):Prop:=cO Tryz.prog 203 [.agg [.str x.name,.int .i64 x.arity,.int .i64 x.rowCount,.sl 218 3 (x.groups.map aA)],.one (.int .i64 m)] (vI (aI (aZ x) m)) []
theorem aF7 (x:aF) (m:Int) (hf:vH x) (h0:0≤m) (h1:m≤1048576):uF x m:=by
 refine aT bF aQ Tryz.func203 (by kernel_rfl) (.br (.fin []) (.call (vI (aI (dB x.groups) (m - ((x.name.size:Nat):Int)))) []<| .br (.fin []) (.fin []))) (p:=(x.groups.map aA).length≤9223372036854775807→cL (m - ((x.name.size:Nat):Int))∧(((decide ((m - ((x.name.size:Nat):Int))<(0:Int)))=true→(-1:Int)=(aI (aZ x) m)∧True)∧((decide ((m - ((x.name.size:Nat):Int))<(0:Int)))=false→sB x.groups (m - ((x.name.size:Nat):Int))∧(((decide ((aI (dB x.groups) (m - ((x.name.size:Nat):Int)))<(0:Int)))=true→(-1:Int)=(aI (aZ x) m)∧True)∧((decide ((aI (dB x.groups) (m - ((x.name.size:Nat):Int)))<(0:Int)))=false→(aI (dB x.groups) (m - ((x.name.size:Nat):Int)))=(aI (aZ x) m)∧True))))) (by kernel_rfl) ?_
 intro n0
 simp only [List.length_map] at n0
 obtain ⟨f_name,f_arity,f_rowCount,f_groups⟩:=hf
 have hmx:maxLen=9223372036854775807:=rfl
 have g_name:x.name.size≤maxLen:=f_name
 refine ⟨⟨by omega,by omega⟩,fun c0=>?_,fun c0=>?_⟩
 ·replace c0:=yq c0
  refine ⟨?_,trivial⟩
  ·unfold aZ;first | (rw [bE (by omega)];done) | (rw [aG (by omega)];done) | (rw [aG (by omega)];omega)
 ·replace c0:=nq c0
  refine ⟨aEy x.groups _ (by first | assumption | exact hf) (by omega) (by omega),fun c1=>?_,fun c1=>?_⟩
  ·replace c1:=yq c1
   have y1:=hZ c1
   refine ⟨?_,trivial⟩
   ·unfold aZ;first | (rw [bE (by omega)];done) | (rw [aG (by omega)];done) | (rw [aG (by omega)];omega)
  ·replace c1:=nq c1
   have y1:=fQ c1
   rw [aG y1] at*
   refine ⟨?_,trivial⟩
   ·unfold aZ;first | (rw [bE (by omega)];done) | (rw [aG (by omega)];done) | (rw [aG (by omega)];omega)
abbrev sC (x:List aF) (m:Int):Prop:=cO Tryz.prog 126 [.one (.sl 121 4 (x.map aB)),.one (.int .i64 m)] (vI (aI (dQ x) m)) []
theorem aEz (x:List aF) (m:Int) (hf:nX x) (h0:0≤m) (h1:m≤1048576):sC x m:=by
 refine aT bF aQ Tryz.func126 (by kernel_rfl) (.len x.length<| .br (.fin []) (.loop (Nat × Int) (Q2 Nat Int) [1,5,12,13,14,15,16,17,18,19,20,21,22,23,24,25] [] (fun yy0=>[(5,vI (yy0.1:Int)),(1,vI yy0.2)]) (fun yy0=>[]) (fun yy0=>yy0.1≤x.length∧yy0.2=m - x.length - (eX aZ (x.take yy0.1):Nat)∧0≤yy0.2) (fun yy0=>x.length - yy0.1) (fun yy0=> .len x.length<| .br (.elem _ aB x (fun e20=> .call (vI (aI (aZ e20) yy0.2)) []<| .br (.fin []) (.back []))) (.fin [])))) (p:=(x.map aB).length≤9223372036854775807→Lm aB x∧(cL (m - ((x.length:Nat):Int))∧(((decide ((m - ((x.length:Nat):Int))<(0:Int)))=true→(-1:Int)=(aI (dQ x) m)∧True)∧((decide ((m - ((x.length:Nat):Int))<(0:Int)))=false→(∃(k:Nat) (z:Int),(0:Int)=(k:Int)∧(m - ((x.length:Nat):Int))=z∧k≤x.length∧z=m - x.length - (eX aZ (x.take k):Nat)∧0≤z)∧ ∀(k:Nat) (z:Int),(k≤x.length∧z=m - x.length - (eX aZ (x.take k):Nat)∧0≤z)→Lm aB x∧(((decide ((k:Int)<((x.length:Nat):Int)))=true→0≤(k:Int)∧Em aB x k fun e20=>uF e20 z∧(((decide ((aI (aZ e20) z)<(0:Int)))=true→(-1:Int)=(aI (dQ x) m)∧True)∧((decide ((aI (aZ e20) z)<(0:Int)))=false→cL ((k:Int)+(1:Int))∧ ∃(k' :Nat) (z' :Int),((k:Int)+(1:Int))=(k' :Int)∧(aI (aZ e20) z)=z' ∧(k' ≤x.length∧z' =m - x.length - (eX aZ (x.take k'):Nat)∧0≤z')∧x.length - k' <x.length - k)))∧((decide ((k:Int)<((x.length:Nat):Int)))=false→z=(aI (dQ x) m)∧True)))))) (by kernel_rfl) ?_
 intro n0
 simp only [List.length_map] at n0
 have hS:dQ x=x.length+eX aZ x:=rfl
 refine ⟨List.length_map _,⟨by omega,by omega⟩,fun c0=>?_,fun c0=>?_⟩
 ·replace c0:=yq c0
  refine ⟨?_,trivial⟩
  ·first | (rw [bE (by omega)];done) | (rw [aG (by omega)];done) | (rw [aG (by omega)];omega)
 ·replace c0:=nq c0
  refine ⟨⟨0,m - ((x.length:Nat):Int),rfl,rfl,Nat.zero_le _,by simp [eX],by omega⟩,fun k z ⟨hk,hz,hz0⟩=>?_⟩
  refine ⟨List.length_map _,fun c1=>?_,fun c1=>?_⟩
  ·replace c1:=yq c1
   obtain ⟨y,hy⟩:=cJ (l:=x) (k:=k) (by omega)
   have hfy:=hf y (List.mem_of_getElem? hy)
   refine ⟨by omega,rfl,by omega,fun e20 h20=>?_⟩
   obtain rfl:=bA hy h20
   refine ⟨aF7 e20 _ (by first | assumption | exact hf) (by omega) (by omega),fun c2=>?_,fun c2=>?_⟩
   ·replace c2:=yq c2
    have y3:=hZ c2
    have y4:=fO aZ ‹x[k]? =some _›
    have y5:=sG aZ x (k+1)
    refine ⟨?_,trivial⟩
    ·first | (rw [bE (by omega)];done) | (rw [aG (by omega)];done) | (rw [aG (by omega)];omega)
   ·replace c2:=nq c2
    have y2:=aG (fQ c2)
    have y3:=fQ c2
    have y4:=fO aZ ‹x[k]? =some _›
    refine ⟨⟨by omega,by omega⟩,?_⟩
    exact ⟨k+1,aI (aZ e20) z,rfl,rfl,⟨by omega,by rw [y2,y4,hz];omega,by rw [y2];omega⟩,by omega⟩
  ·replace c1:=nq c1
   have y6:k=x.length:=by omega
   rw [y6,List.take_length] at hz
   refine ⟨?_,trivial⟩
   ·first | (rw [bE (by omega)];done) | (rw [aG (by omega)];done) | (rw [aG (by omega)];omega)
abbrev wX (x:cA) (m:Int):Prop:=cO Tryz.prog 58 [.agg [.int .i64 x.version,.sl 121 4 (x.tables.map aB)],.one (.int .i64 m)] (vI (aI (bL x) m)) []
theorem aHT (x:cA) (m:Int) (hf:zD x) (h0:0≤m) (h1:m≤1048576):wX x m:=by
 refine aT bF aQ Tryz.func58 (by kernel_rfl) (.call (vI (aI (dQ x.tables) m)) []<| .br (.fin []) (.fin [])) (p:=(x.tables.map aB).length≤9223372036854775807→sC x.tables m∧(((decide ((aI (dQ x.tables) m)<(0:Int)))=true→(-1:Int)=(aI (bL x) m)∧True)∧((decide ((aI (dQ x.tables) m)<(0:Int)))=false→(aI (dQ x.tables) m)=(aI (bL x) m)∧True))) (by kernel_rfl) ?_
 intro n0
 simp only [List.length_map] at n0
 obtain ⟨f_version,f_tables⟩:=hf
 have hmx:maxLen=9223372036854775807:=rfl
 refine ⟨aEz x.tables _ (by first | assumption | exact hf) (by omega) (by omega),fun c0=>?_,fun c0=>?_⟩
 ·replace c0:=yq c0
  have y0:=hZ c0
  refine ⟨?_,trivial⟩
  ·unfold bL;first | (rw [bE (by omega)];done) | (rw [aG (by omega)];done) | (rw [aG (by omega)];omega)
 ·replace c0:=nq c0
  have y0:=fQ c0
  rw [aG y0] at*
  refine ⟨?_,trivial⟩
  ·unfold bL;first | (rw [bE (by omega)];done) | (rw [aG (by omega)];done) | (rw [aG (by omega)];omega)
abbrev uG (x:aW) (m:Int):Prop:=cO Tryz.prog 127 [.agg [.str x.name,.sl 3 1 (x.src.map intD),.int .i64 x.dst],.one (.int .i64 m)] (vI (aI (cN x) m)) []
theorem aF8 (x:aW) (m:Int) (hf:vJ x) (h0:0≤m) (h1:m≤1048576):uG x m:=by
 refine aT bF aQ Tryz.func127 (by kernel_rfl) (.br (.fin []) (.call (vI (aI (cG x.src) (m - ((x.name.size:Nat):Int)))) []<| .br (.fin []) (.fin []))) (p:=(x.src.map intD).length≤9223372036854775807→cL (m - ((x.name.size:Nat):Int))∧(((decide ((m - ((x.name.size:Nat):Int))<(0:Int)))=true→(-1:Int)=(aI (cN x) m)∧True)∧((decide ((m - ((x.name.size:Nat):Int))<(0:Int)))=false→oL x.src (m - ((x.name.size:Nat):Int))∧(((decide ((aI (cG x.src) (m - ((x.name.size:Nat):Int)))<(0:Int)))=true→(-1:Int)=(aI (cN x) m)∧True)∧((decide ((aI (cG x.src) (m - ((x.name.size:Nat):Int)))<(0:Int)))=false→(aI (cG x.src) (m - ((x.name.size:Nat):Int)))=(aI (cN x) m)∧True))))) (by kernel_rfl) ?_
 intro n0
 simp only [List.length_map] at n0
 obtain ⟨f_name,f_src,f_dst⟩:=hf
 have hmx:maxLen=9223372036854775807:=rfl
 have g_name:x.name.size≤maxLen:=f_name
 refine ⟨⟨by omega,by omega⟩,fun c0=>?_,fun c0=>?_⟩
 ·replace c0:=yq c0
  refine ⟨?_,trivial⟩
  ·unfold cN;first | (rw [bE (by omega)];done) | (rw [aG (by omega)];done) | (rw [aG (by omega)];omega)
 ·replace c0:=nq c0
  refine ⟨aBH x.src _ (by first | assumption | exact hf) (by omega) (by omega),fun c1=>?_,fun c1=>?_⟩
  ·replace c1:=yq c1
   have y1:=hZ c1
   refine ⟨?_,trivial⟩
   ·unfold cN;first | (rw [bE (by omega)];done) | (rw [aG (by omega)];done) | (rw [aG (by omega)];omega)
  ·replace c1:=nq c1
   have y1:=fQ c1
   rw [aG y1] at*
   refine ⟨?_,trivial⟩
   ·unfold cN;first | (rw [bE (by omega)];done) | (rw [aG (by omega)];done) | (rw [aG (by omega)];omega)
abbrev sD (x:List aW) (m:Int):Prop:=cO Tryz.prog 59 [.one (.sl 168 3 (x.map aH)),.one (.int .i64 m)] (vI (aI (bV x) m)) []
theorem aFA (x:List aW) (m:Int) (hf:nY x) (h0:0≤m) (h1:m≤1048576):sD x m:=by
 refine aT bF aQ Tryz.func59 (by kernel_rfl) (.len x.length<| .br (.fin []) (.loop (Nat × Int) (Q2 Nat Int) [1,5,12,13,14,15,16,17,18,19,20,21,22,23,24,25] [] (fun yy0=>[(5,vI (yy0.1:Int)),(1,vI yy0.2)]) (fun yy0=>[]) (fun yy0=>yy0.1≤x.length∧yy0.2=m - x.length - (eX cN (x.take yy0.1):Nat)∧0≤yy0.2) (fun yy0=>x.length - yy0.1) (fun yy0=> .len x.length<| .br (.elem _ aH x (fun e20=> .call (vI (aI (cN e20) yy0.2)) []<| .br (.fin []) (.back []))) (.fin [])))) (p:=(x.map aH).length≤9223372036854775807→Lm aH x∧(cL (m - ((x.length:Nat):Int))∧(((decide ((m - ((x.length:Nat):Int))<(0:Int)))=true→(-1:Int)=(aI (bV x) m)∧True)∧((decide ((m - ((x.length:Nat):Int))<(0:Int)))=false→(∃(k:Nat) (z:Int),(0:Int)=(k:Int)∧(m - ((x.length:Nat):Int))=z∧k≤x.length∧z=m - x.length - (eX cN (x.take k):Nat)∧0≤z)∧ ∀(k:Nat) (z:Int),(k≤x.length∧z=m - x.length - (eX cN (x.take k):Nat)∧0≤z)→Lm aH x∧(((decide ((k:Int)<((x.length:Nat):Int)))=true→0≤(k:Int)∧Em aH x k fun e20=>uG e20 z∧(((decide ((aI (cN e20) z)<(0:Int)))=true→(-1:Int)=(aI (bV x) m)∧True)∧((decide ((aI (cN e20) z)<(0:Int)))=false→cL ((k:Int)+(1:Int))∧ ∃(k' :Nat) (z' :Int),((k:Int)+(1:Int))=(k' :Int)∧(aI (cN e20) z)=z' ∧(k' ≤x.length∧z' =m - x.length - (eX cN (x.take k'):Nat)∧0≤z')∧x.length - k' <x.length - k)))∧((decide ((k:Int)<((x.length:Nat):Int)))=false→z=(aI (bV x) m)∧True)))))) (by kernel_rfl) ?_
 intro n0
 simp only [List.length_map] at n0
 have hS:bV x=x.length+eX cN x:=rfl
 refine ⟨List.length_map _,⟨by omega,by omega⟩,fun c0=>?_,fun c0=>?_⟩
 ·replace c0:=yq c0
  refine ⟨?_,trivial⟩
  ·first | (rw [bE (by omega)];done) | (rw [aG (by omega)];done) | (rw [aG (by omega)];omega)
 ·replace c0:=nq c0
  refine ⟨⟨0,m - ((x.length:Nat):Int),rfl,rfl,Nat.zero_le _,by simp [eX],by omega⟩,fun k z ⟨hk,hz,hz0⟩=>?_⟩
  refine ⟨List.length_map _,fun c1=>?_,fun c1=>?_⟩
  ·replace c1:=yq c1
   obtain ⟨y,hy⟩:=cJ (l:=x) (k:=k) (by omega)
   have hfy:=hf y (List.mem_of_getElem? hy)
   refine ⟨by omega,rfl,by omega,fun e20 h20=>?_⟩
   obtain rfl:=bA hy h20
   refine ⟨aF8 e20 _ (by first | assumption | exact hf) (by omega) (by omega),fun c2=>?_,fun c2=>?_⟩
   ·replace c2:=yq c2
    have y3:=hZ c2
    have y4:=fO cN ‹x[k]? =some _›
    have y5:=sG cN x (k+1)
    refine ⟨?_,trivial⟩
    ·first | (rw [bE (by omega)];done) | (rw [aG (by omega)];done) | (rw [aG (by omega)];omega)
   ·replace c2:=nq c2
    have y2:=aG (fQ c2)
    have y3:=fQ c2
    have y4:=fO cN ‹x[k]? =some _›
    refine ⟨⟨by omega,by omega⟩,?_⟩
    exact ⟨k+1,aI (cN e20) z,rfl,rfl,⟨by omega,by rw [y2,y4,hz];omega,by rw [y2];omega⟩,by omega⟩
  ·replace c1:=nq c1
   have y6:k=x.length:=by omega
   rw [y6,List.take_length] at hz
   refine ⟨?_,trivial⟩
   ·first | (rw [bE (by omega)];done) | (rw [aG (by omega)];done) | (rw [aG (by omega)];omega)
abbrev wY (x:aU) (m:Int):Prop:=cO Tryz.prog 128 [.agg [.str x.name,.int .i64 x.column,.str x.into,.int .i64 x.intoColumn],.one (.int .i64 m)] (vI (aI (dC x) m)) []
theorem aHU (x:aU) (m:Int) (hf:zE x) (h0:0≤m) (h1:m≤1048576):wY x m:=by
 refine aT bF aQ Tryz.func128 (by kernel_rfl) (.br (.fin []) (.br (.fin []) (.fin []))) (p:=cL (m - ((x.name.size:Nat):Int))∧(((decide ((m - ((x.name.size:Nat):Int))<(0:Int)))=true→(-1:Int)=(aI (dC x) m)∧True)∧((decide ((m - ((x.name.size:Nat):Int))<(0:Int)))=false→cL ((m - ((x.name.size:Nat):Int)) - ((x.into.size:Nat):Int))∧(((decide (((m - ((x.name.size:Nat):Int)) - ((x.into.size:Nat):Int))<(0:Int)))=true→(-1:Int)=(aI (dC x) m)∧True)∧((decide (((m - ((x.name.size:Nat):Int)) - ((x.into.size:Nat):Int))<(0:Int)))=false→((m - ((x.name.size:Nat):Int)) - ((x.into.size:Nat):Int))=(aI (dC x) m)∧True))))) (by kernel_rfl) ?_
 obtain ⟨f_name,f_column,f_into,f_intoColumn⟩:=hf
 have hmx:maxLen=9223372036854775807:=rfl
 have g_name:x.name.size≤maxLen:=f_name
 have g_into:x.into.size≤maxLen:=f_into
 refine ⟨⟨by omega,by omega⟩,fun c0=>?_,fun c0=>?_⟩
 ·replace c0:=yq c0
  refine ⟨?_,trivial⟩
  ·unfold dC;first | (rw [bE (by omega)];done) | (rw [aG (by omega)];done) | (rw [aG (by omega)];omega)
 ·replace c0:=nq c0
  refine ⟨⟨by omega,by omega⟩,fun c1=>?_,fun c1=>?_⟩
  ·replace c1:=yq c1
   refine ⟨?_,trivial⟩
   ·unfold dC;first | (rw [bE (by omega)];done) | (rw [aG (by omega)];done) | (rw [aG (by omega)];omega)
  ·replace c1:=nq c1
   refine ⟨?_,trivial⟩
   ·unfold dC;first | (rw [bE (by omega)];done) | (rw [aG (by omega)];done) | (rw [aG (by omega)];omega)
abbrev uH (x:List aU) (m:Int):Prop:=cO Tryz.prog 60 [.one (.sl 170 4 (x.map aJ)),.one (.int .i64 m)] (vI (aI (cR x) m)) []
theorem aF9 (x:List aU) (m:Int) (hf:qB x) (h0:0≤m) (h1:m≤1048576):uH x m:=by
 refine aT bF aQ Tryz.func60 (by kernel_rfl) (.len x.length<| .br (.fin []) (.loop (Nat × Int) (Q2 Nat Int) [1,5,12,13,14,15,16,17,18,19,20,21,22,23,24,25] [] (fun yy0=>[(5,vI (yy0.1:Int)),(1,vI yy0.2)]) (fun yy0=>[]) (fun yy0=>yy0.1≤x.length∧yy0.2=m - x.length - (eX dC (x.take yy0.1):Nat)∧0≤yy0.2) (fun yy0=>x.length - yy0.1) (fun yy0=> .len x.length<| .br (.elem _ aJ x (fun e20=> .call (vI (aI (dC e20) yy0.2)) []<| .br (.fin []) (.back []))) (.fin [])))) (p:=(x.map aJ).length≤9223372036854775807→Lm aJ x∧(cL (m - ((x.length:Nat):Int))∧(((decide ((m - ((x.length:Nat):Int))<(0:Int)))=true→(-1:Int)=(aI (cR x) m)∧True)∧((decide ((m - ((x.length:Nat):Int))<(0:Int)))=false→(∃(k:Nat) (z:Int),(0:Int)=(k:Int)∧(m - ((x.length:Nat):Int))=z∧k≤x.length∧z=m - x.length - (eX dC (x.take k):Nat)∧0≤z)∧ ∀(k:Nat) (z:Int),(k≤x.length∧z=m - x.length - (eX dC (x.take k):Nat)∧0≤z)→Lm aJ x∧(((decide ((k:Int)<((x.length:Nat):Int)))=true→0≤(k:Int)∧Em aJ x k fun e20=>wY e20 z∧(((decide ((aI (dC e20) z)<(0:Int)))=true→(-1:Int)=(aI (cR x) m)∧True)∧((decide ((aI (dC e20) z)<(0:Int)))=false→cL ((k:Int)+(1:Int))∧ ∃(k' :Nat) (z' :Int),((k:Int)+(1:Int))=(k' :Int)∧(aI (dC e20) z)=z' ∧(k' ≤x.length∧z' =m - x.length - (eX dC (x.take k'):Nat)∧0≤z')∧x.length - k' <x.length - k)))∧((decide ((k:Int)<((x.length:Nat):Int)))=false→z=(aI (cR x) m)∧True)))))) (by kernel_rfl) ?_
 intro n0
 simp only [List.length_map] at n0
 have hS:cR x=x.length+eX dC x:=rfl
 refine ⟨List.length_map _,⟨by omega,by omega⟩,fun c0=>?_,fun c0=>?_⟩
 ·replace c0:=yq c0
  refine ⟨?_,trivial⟩
  ·first | (rw [bE (by omega)];done) | (rw [aG (by omega)];done) | (rw [aG (by omega)];omega)
 ·replace c0:=nq c0
  refine ⟨⟨0,m - ((x.length:Nat):Int),rfl,rfl,Nat.zero_le _,by simp [eX],by omega⟩,fun k z ⟨hk,hz,hz0⟩=>?_⟩
  refine ⟨List.length_map _,fun c1=>?_,fun c1=>?_⟩
  ·replace c1:=yq c1
   obtain ⟨y,hy⟩:=cJ (l:=x) (k:=k) (by omega)
   have hfy:=hf y (List.mem_of_getElem? hy)
   refine ⟨by omega,rfl,by omega,fun e20 h20=>?_⟩
   obtain rfl:=bA hy h20
   refine ⟨aHU e20 _ (by first | assumption | exact hf) (by omega) (by omega),fun c2=>?_,fun c2=>?_⟩
   ·replace c2:=yq c2
    have y3:=hZ c2
    have y4:=fO dC ‹x[k]? =some _›
    have y5:=sG dC x (k+1)
    refine ⟨?_,trivial⟩
    ·first | (rw [bE (by omega)];done) | (rw [aG (by omega)];done) | (rw [aG (by omega)];omega)
   ·replace c2:=nq c2
    have y2:=aG (fQ c2)
    have y3:=fQ c2
    have y4:=fO dC ‹x[k]? =some _›
    refine ⟨⟨by omega,by omega⟩,?_⟩
    exact ⟨k+1,aI (dC e20) z,rfl,rfl,⟨by omega,by rw [y2,y4,hz];omega,by rw [y2];omega⟩,by omega⟩
  ·replace c1:=nq c1
   have y6:k=x.length:=by omega
   rw [y6,List.take_length] at hz
   refine ⟨?_,trivial⟩
   ·first | (rw [bE (by omega)];done) | (rw [aG (by omega)];done) | (rw [aG (by omega)];omega)
abbrev tO (x:StoreD) (m:Int):Prop:=cO Tryz.prog 13 [.agg [.sl 162 3 (x.database.tables.map aO),.int .i64 x.catalogue.version,.sl 121 4 (x.catalogue.tables.map aB),.sl 168 3 (x.dependencies.map aH),.sl 170 4 (x.inclusions.map aJ)],.one (.int .i64 m)] (vI (aI (cC x) m)) []
theorem aFB (x:StoreD) (m:Int) (hf:aDo x) (h0:0≤m) (h1:m≤1048576):tO x m:=by
 refine aT bF aQ Tryz.func13 (by kernel_rfl) (.call (vI (aI (bD x.database) m)) []<| .br (.fin []) (.call (vI (aI (bL x.catalogue) (aI (bD x.database) m))) []<| .br (.fin []) (.call (vI (aI (bV x.dependencies) (aI (bL x.catalogue) (aI (bD x.database) m)))) []<| .br (.fin []) (.call (vI (aI (cR x.inclusions) (aI (bV x.dependencies) (aI (bL x.catalogue) (aI (bD x.database) m))))) []<| .br (.fin []) (.fin []))))) (p:=(x.database.tables.map aO).length≤9223372036854775807→(x.catalogue.tables.map aB).length≤9223372036854775807→(x.dependencies.map aH).length≤9223372036854775807→(x.inclusions.map aJ).length≤9223372036854775807→yQ x.database m∧(((decide ((aI (bD x.database) m)<(0:Int)))=true→(-1:Int)=(aI (cC x) m)∧True)∧((decide ((aI (bD x.database) m)<(0:Int)))=false→wX x.catalogue (aI (bD x.database) m)∧(((decide ((aI (bL x.catalogue) (aI (bD x.database) m))<(0:Int)))=true→(-1:Int)=(aI (cC x) m)∧True)∧((decide ((aI (bL x.catalogue) (aI (bD x.database) m))<(0:Int)))=false→sD x.dependencies (aI (bL x.catalogue) (aI (bD x.database) m))∧(((decide ((aI (bV x.dependencies) (aI (bL x.catalogue) (aI (bD x.database) m)))<(0:Int)))=true→(-1:Int)=(aI (cC x) m)∧True)∧((decide ((aI (bV x.dependencies) (aI (bL x.catalogue) (aI (bD x.database) m)))<(0:Int)))=false→uH x.inclusions (aI (bV x.dependencies) (aI (bL x.catalogue) (aI (bD x.database) m)))∧(((decide ((aI (cR x.inclusions) (aI (bV x.dependencies) (aI (bL x.catalogue) (aI (bD x.database) m))))<(0:Int)))=true→(-1:Int)=(aI (cC x) m)∧True)∧((decide ((aI (cR x.inclusions) (aI (bV x.dependencies) (aI (bL x.catalogue) (aI (bD x.database) m))))<(0:Int)))=false→(aI (cR x.inclusions) (aI (bV x.dependencies) (aI (bL x.catalogue) (aI (bD x.database) m))))=(aI (cC x) m)∧True))))))))) (by kernel_rfl) ?_
 intro n0 n1 n2 n3
 simp only [List.length_map] at n0 n1 n2 n3
 obtain ⟨f_database,f_catalogue,f_dependencies,f_inclusions⟩:=hf
 have hmx:maxLen=9223372036854775807:=rfl
 refine ⟨aIz x.database _ (by first | assumption | exact hf) (by omega) (by omega),fun c0=>?_,fun c0=>?_⟩
 ·replace c0:=yq c0
  have y0:=hZ c0
  refine ⟨?_,trivial⟩
  ·unfold cC;first | (rw [bE (by omega)];done) | (rw [aG (by omega)];done) | (rw [aG (by omega)];omega)
 ·replace c0:=nq c0
  have y0:=fQ c0
  rw [aG y0] at*
  refine ⟨aHT x.catalogue _ (by first | assumption | exact hf) (by omega) (by omega),fun c1=>?_,fun c1=>?_⟩
  ·replace c1:=yq c1
   have y1:=hZ c1
   refine ⟨?_,trivial⟩
   ·unfold cC;first | (rw [bE (by omega)];done) | (rw [aG (by omega)];done) | (rw [aG (by omega)];omega)
  ·replace c1:=nq c1
   have y1:=fQ c1
   rw [aG y1] at*
   refine ⟨aFA x.dependencies _ (by first | assumption | exact hf) (by omega) (by omega),fun c2=>?_,fun c2=>?_⟩
   ·replace c2:=yq c2
    have y2:=hZ c2
    refine ⟨?_,trivial⟩
    ·unfold cC;first | (rw [bE (by omega)];done) | (rw [aG (by omega)];done) | (rw [aG (by omega)];omega)
   ·replace c2:=nq c2
    have y2:=fQ c2
    rw [aG y2] at*
    refine ⟨aF9 x.inclusions _ (by first | assumption | exact hf) (by omega) (by omega),fun c3=>?_,fun c3=>?_⟩
    ·replace c3:=yq c3
     have y3:=hZ c3
     refine ⟨?_,trivial⟩
     ·unfold cC;first | (rw [bE (by omega)];done) | (rw [aG (by omega)];done) | (rw [aG (by omega)];omega)
    ·replace c3:=nq c3
     have y3:=fQ c3
     rw [aG y3] at*
     refine ⟨?_,trivial⟩
     ·unfold cC;first | (rw [bE (by omega)];done) | (rw [aG (by omega)];done) | (rw [aG (by omega)];omega)
abbrev aGb (x:dF) (m:Int):Prop:=cO Tryz.prog 164 [.agg [.str x.name,.sl 3 1 (x.vars.map intD)],.one (.int .i64 m)] (vI (aI (jC x) m)) []
theorem aPb (x:dF) (m:Int) (hf:aN4 x) (h0:0≤m) (h1:m≤1048576):aGb x m:=by
 refine aT bF aQ Tryz.func164 (by kernel_rfl) (.br (.fin []) (.call (vI (aI (cG x.vars) (m - ((x.name.size:Nat):Int)))) []<| .br (.fin []) (.fin []))) (p:=(x.vars.map intD).length≤9223372036854775807→cL (m - ((x.name.size:Nat):Int))∧(((decide ((m - ((x.name.size:Nat):Int))<(0:Int)))=true→(-1:Int)=(aI (jC x) m)∧True)∧((decide ((m - ((x.name.size:Nat):Int))<(0:Int)))=false→oL x.vars (m - ((x.name.size:Nat):Int))∧(((decide ((aI (cG x.vars) (m - ((x.name.size:Nat):Int)))<(0:Int)))=true→(-1:Int)=(aI (jC x) m)∧True)∧((decide ((aI (cG x.vars) (m - ((x.name.size:Nat):Int)))<(0:Int)))=false→(aI (cG x.vars) (m - ((x.name.size:Nat):Int)))=(aI (jC x) m)∧True))))) (by kernel_rfl) ?_
 intro n0
 simp only [List.length_map] at n0
 obtain ⟨f_name,f_vars⟩:=hf
 have hmx:maxLen=9223372036854775807:=rfl
 have g_name:x.name.size≤maxLen:=f_name
 refine ⟨⟨by omega,by omega⟩,fun c0=>?_,fun c0=>?_⟩
 ·replace c0:=yq c0
  refine ⟨?_,trivial⟩
  ·unfold jC;first | (rw [bE (by omega)];done) | (rw [aG (by omega)];done) | (rw [aG (by omega)];omega)
 ·replace c0:=nq c0
  refine ⟨aBH x.vars _ (by first | assumption | exact hf) (by omega) (by omega),fun c1=>?_,fun c1=>?_⟩
  ·replace c1:=yq c1
   have y1:=hZ c1
   refine ⟨?_,trivial⟩
   ·unfold jC;first | (rw [bE (by omega)];done) | (rw [aG (by omega)];done) | (rw [aG (by omega)];omega)
  ·replace c1:=nq c1
   have y1:=fQ c1
   rw [aG y1] at*
   refine ⟨?_,trivial⟩
   ·unfold jC;first | (rw [bE (by omega)];done) | (rw [aG (by omega)];done) | (rw [aG (by omega)];omega)
abbrev aFC (x:List dF) (m:Int):Prop:=cO Tryz.prog 90 [.one (.sl 131 2 (x.map aV)),.one (.int .i64 m)] (vI (aI (mC x) m)) []
theorem aOX (x:List dF) (m:Int) (hf:aGx x) (h0:0≤m) (h1:m≤1048576):aFC x m:=by
 refine aT bF aQ Tryz.func90 (by kernel_rfl) (.len x.length<| .br (.fin []) (.loop (Nat × Int) (Q2 Nat Int) [1,5,12,13,14,15,16,17,18,19,20,21,22,23,24,25] [] (fun yy0=>[(5,vI (yy0.1:Int)),(1,vI yy0.2)]) (fun yy0=>[]) (fun yy0=>yy0.1≤x.length∧yy0.2=m - x.length - (eX jC (x.take yy0.1):Nat)∧0≤yy0.2) (fun yy0=>x.length - yy0.1) (fun yy0=> .len x.length<| .br (.elem _ aV x (fun e20=> .call (vI (aI (jC e20) yy0.2)) []<| .br (.fin []) (.back []))) (.fin [])))) (p:=(x.map aV).length≤9223372036854775807→Lm aV x∧(cL (m - ((x.length:Nat):Int))∧(((decide ((m - ((x.length:Nat):Int))<(0:Int)))=true→(-1:Int)=(aI (mC x) m)∧True)∧((decide ((m - ((x.length:Nat):Int))<(0:Int)))=false→(∃(k:Nat) (z:Int),(0:Int)=(k:Int)∧(m - ((x.length:Nat):Int))=z∧k≤x.length∧z=m - x.length - (eX jC (x.take k):Nat)∧0≤z)∧ ∀(k:Nat) (z:Int),(k≤x.length∧z=m - x.length - (eX jC (x.take k):Nat)∧0≤z)→Lm aV x∧(((decide ((k:Int)<((x.length:Nat):Int)))=true→0≤(k:Int)∧Em aV x k fun e20=>aGb e20 z∧(((decide ((aI (jC e20) z)<(0:Int)))=true→(-1:Int)=(aI (mC x) m)∧True)∧((decide ((aI (jC e20) z)<(0:Int)))=false→cL ((k:Int)+(1:Int))∧ ∃(k' :Nat) (z' :Int),((k:Int)+(1:Int))=(k' :Int)∧(aI (jC e20) z)=z' ∧(k' ≤x.length∧z' =m - x.length - (eX jC (x.take k'):Nat)∧0≤z')∧x.length - k' <x.length - k)))∧((decide ((k:Int)<((x.length:Nat):Int)))=false→z=(aI (mC x) m)∧True)))))) (by kernel_rfl) ?_
 intro n0
 simp only [List.length_map] at n0
 have hS:mC x=x.length+eX jC x:=rfl
 refine ⟨List.length_map _,⟨by omega,by omega⟩,fun c0=>?_,fun c0=>?_⟩
 ·replace c0:=yq c0
  refine ⟨?_,trivial⟩
  ·first | (rw [bE (by omega)];done) | (rw [aG (by omega)];done) | (rw [aG (by omega)];omega)
 ·replace c0:=nq c0
  refine ⟨⟨0,m - ((x.length:Nat):Int),rfl,rfl,Nat.zero_le _,by simp [eX],by omega⟩,fun k z ⟨hk,hz,hz0⟩=>?_⟩
  refine ⟨List.length_map _,fun c1=>?_,fun c1=>?_⟩
  ·replace c1:=yq c1
   obtain ⟨y,hy⟩:=cJ (l:=x) (k:=k) (by omega)
   have hfy:=hf y (List.mem_of_getElem? hy)
   refine ⟨by omega,rfl,by omega,fun e20 h20=>?_⟩
   obtain rfl:=bA hy h20
   refine ⟨aPb e20 _ (by first | assumption | exact hf) (by omega) (by omega),fun c2=>?_,fun c2=>?_⟩
   ·replace c2:=yq c2
    have y3:=hZ c2
    have y4:=fO jC ‹x[k]? =some _›
    have y5:=sG jC x (k+1)
    refine ⟨?_,trivial⟩
    ·first | (rw [bE (by omega)];done) | (rw [aG (by omega)];done) | (rw [aG (by omega)];omega)
   ·replace c2:=nq c2
    have y2:=aG (fQ c2)
    have y3:=fQ c2
    have y4:=fO jC ‹x[k]? =some _›
    refine ⟨⟨by omega,by omega⟩,?_⟩
    exact ⟨k+1,aI (jC e20) z,rfl,rfl,⟨by omega,by rw [y2,y4,hz];omega,by rw [y2];omega⟩,by omega⟩
  ·replace c1:=nq c1
   have y6:k=x.length:=by omega
   rw [y6,List.take_length] at hz
   refine ⟨?_,trivial⟩
   ·first | (rw [bE (by omega)];done) | (rw [aG (by omega)];done) | (rw [aG (by omega)];omega)
abbrev tP (x:QueryD) (m:Int):Prop:=cO Tryz.prog 30 [.agg [.int .i64 x.variableCount,.sl 131 2 (x.atoms.map aV)],.one (.int .i64 m)] (vI (aI (jY x) m)) []
theorem aFD (x:QueryD) (m:Int) (hf:aDl x) (h0:0≤m) (h1:m≤1048576):tP x m:=by
 refine aT bF aQ Tryz.func30 (by kernel_rfl) (.call (vI (aI (mC x.atoms) m)) []<| .br (.fin []) (.fin [])) (p:=(x.atoms.map aV).length≤9223372036854775807→aFC x.atoms m∧(((decide ((aI (mC x.atoms) m)<(0:Int)))=true→(-1:Int)=(aI (jY x) m)∧True)∧((decide ((aI (mC x.atoms) m)<(0:Int)))=false→(aI (mC x.atoms) m)=(aI (jY x) m)∧True))) (by kernel_rfl) ?_
 intro n0
 simp only [List.length_map] at n0
 obtain ⟨f_variableCount,f_atoms⟩:=hf
 have hmx:maxLen=9223372036854775807:=rfl
 refine ⟨aOX x.atoms _ (by first | assumption | exact hf) (by omega) (by omega),fun c0=>?_,fun c0=>?_⟩
 ·replace c0:=yq c0
  have y0:=hZ c0
  refine ⟨?_,trivial⟩
  ·unfold jY;first | (rw [bE (by omega)];done) | (rw [aG (by omega)];done) | (rw [aG (by omega)];omega)
 ·replace c0:=nq c0
  have y0:=fQ c0
  rw [aG y0] at*
  refine ⟨?_,trivial⟩
  ·unfold jY;first | (rw [bE (by omega)];done) | (rw [aG (by omega)];done) | (rw [aG (by omega)];omega)
theorem lawProductBound (a0:StoreD) (a1:QueryD) (a2:Int) (h0:aDo a0) (h1:aDl a1) (h2:Fits a2):cO Tryz.prog 5 [.agg [.sl 162 3 (a0.database.tables.map aO),.int .i64 a0.catalogue.version,.sl 121 4 (a0.catalogue.tables.map aB),.sl 168 3 (a0.dependencies.map aH),.sl 170 4 (a0.inclusions.map aJ)],.agg [.int .i64 a1.variableCount,.sl 131 2 (a1.atoms.map aV)],.one (.int .i64 a2)] (vB true) []:=by
 refine aT bF aQ Tryz.func5 (by kernel_rfl) (.call (vI (aI (cC a0) (1048576:Int))) []<| .br (.fin []) (.call (vI (aI (jY a1) (aI (cC a0) (1048576:Int)))) []<| .br (.fin []) (bH (gN a0)<| bH (gO a1)<| .call (vI (qO a0 a1 a2)) []<| bH (gN a0)<| bH (gO a1)<| .call (vI (qO a0 a1 a2)) []<| .no<| bH (gN a0)<| .call (vB true) []<| bH (gO a1)<| .call (vB true) []<| .fin []))) (p:=(a0.database.tables.map aO).length≤9223372036854775807→(a0.catalogue.tables.map aB).length≤9223372036854775807→(a0.dependencies.map aH).length≤9223372036854775807→(a0.inclusions.map aJ).length≤9223372036854775807→(a1.atoms.map aV).length≤9223372036854775807→tO a0 (1048576:Int)∧(((decide ((aI (cC a0) (1048576:Int))<(0:Int)))=true→(true)=true∧True)∧((decide ((aI (cC a0) (1048576:Int))<(0:Int)))=false→tP a1 (aI (cC a0) (1048576:Int))∧(((decide ((aI (jY a1) (aI (cC a0) (1048576:Int)))<(0:Int)))=true→(true)=true∧True)∧((decide ((aI (jY a1) (aI (cC a0) (1048576:Int)))<(0:Int)))=false→iA a0∧iB a1∧aBC a0 a1 a2∧iA a0∧iB a1∧aBB a0 a1 a2∧(!(decide ((qO a0 a1 a2)=(qO a0 a1 a2))))=false∧iA a0∧tM a0∧iB a1∧tN a1∧(true)=true∧True))))) (by kernel_rfl) ?_
 intro n0 n1 n2 n3 n4
 simp only [List.length_map] at n0 n1 n2 n3 n4
 refine ⟨aFB a0 _ (by first | assumption | exact hf) (by omega) (by omega),fun c0=>?_,fun c0=>?_⟩
 ·replace c0:=yq c0
  refine ⟨?_,trivial⟩
  ·rfl
 ·replace c0:=nq c0
  try (have y0:=fQ c0;try rw [aG y0] at*)
  refine ⟨aFD a1 _ (by first | assumption | exact hf) (by omega) (by omega),fun c1=>?_,fun c1=>?_⟩
  ·replace c1:=yq c1
   refine ⟨?_,trivial⟩
   ·rfl
  ·replace c1:=nq c1
   try (have y1:=fQ c1;try rw [aG y1] at*)
   refine ⟨lO a0 (by first | omega | (have:=cStoreS_el ‹x[k]? =some _›;omega)),lP a1 (by first | omega | (have:=cQueryS_el ‹x[k]? =some _›;omega)),aJu a0 a1 a2 (by omega),lO a0 (by first | omega | (have:=cStoreS_el ‹x[k]? =some _›;omega)),lP a1 (by first | omega | (have:=cQueryS_el ‹x[k]? =some _›;omega)),aJt a0 a1 a2 (by omega),by first | (simp;done) | (simp;omega) | (simp [*];done),lO a0 (by first | omega | (have:=cStoreS_el ‹x[k]? =some _›;omega)),by first | exact rZ a0 | exact rZ _,lP a1 (by first | omega | (have:=cQueryS_el ‹x[k]? =some _›;omega)),by first | exact sA a1 | exact sA _,?_,trivial⟩
   ·rfl
end Go.Proofs.YtokkjaflmcjlhaaGreat
